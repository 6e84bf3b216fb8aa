import PyProof.Rows.All
import Wide.FinOn
import Wide.All
import PyProof.Rows.ListMul
import PyProof.IsInstance
import PyProof.ExcClass3
import PyProof.ExcBaseAll.ValueError
import PyProof.ExcAttrAll.ValueError
import PyProof.ExcArgsOwn
import PyProof.EqAt
import OpenK.AllK
import Open.Head
import KE.KRevIter
import KE.KEqDict
import PySem.Challenge.RW_uf010035_12
set_option Elab.async false
set_option maxRecDepth 100000
set_option linter.all false
set_option backward.match.sparseCases false
set_option bootstrap.genMatcherCode false
set_option genInjectivity false
set_option tactic.hygienic false
set_option genSizeOfSpec false
set_option genSizeOf false
open Nat renaming le_trans → aa, le_of_eq → ak, le_add_right → ax, succ_le_succ → aA, add_le_add_left → aH, add_le_add_right → aK, le_refl → aM, le_of_ble_eq_true → aQ, zero_le → aU, le_succ → bh, lt_of_lt_of_le → bl, add_le_add → bD, le_add_left → bG, mul_le_mul_left → bH, add_right_comm → bJ, add_assoc → bL, lt_of_le_of_lt → ce, lt_irrefl → cZ, lt_succ_self → dc, ne_of_lt → dk, sub_le → dy, add_comm → dC, le_of_not_lt → dR, le_of_lt_succ → dZ, pos_of_ne_zero → eC, not_succ_le_zero → eP, add_sub_cancel_left → e9, ne_of_gt → fq, zero_add → fw, min_le_right → fE, le_antisymm → fT, le_of_lt → fW, add_sub_cancel' → gu, sub_add_cancel → gL, not_lt → hV, max_le → ii, le_succ_of_le → ja, le_of_succ_le_succ → jf, lt_trans → kO, lt_of_lt_of_eq → kY, eq_or_lt_of_le → lg, sub_zero → n8, sub_self → oj, le_of_sub_eq_zero → oH, succ → pf, add_left_cancel → qW, lt_of_le_of_ne → rG, min_self → tN, succ_pos → tO, le_of_succ_le → tP, min_le_left → xt, lt_add_of_pos_right → DQ, lt_of_succ_lt_succ → Gw, sub_eq_zero_of_le → HL, mul_le_mul_right → KB, sub_le_of_le_add → KD, sub_lt_sub_left → KR, add_lt_add_left → KW, sub_pos_of_lt → Og, not_le_of_gt → Q2
open Bool renaming false_ne_true → ae, noConfusion → ca, and_eq_true_iff → cn, eq_false_iff → cr, eq_iff_iff → cD, not_eq_true' → cH, not_eq_false' → dz, and_eq_true → dP, true_and → gR, or_eq_true_iff → iA, and_true → iF, and_false → jc, or_eq_false_iff → jW, or_eq_true → ku, or_true → kP, false_eq_true → rH, false_or → DG, or_false → DH
open List renaming length_append → af, length_map → aj, append_assoc → au, getElem?_eq_getElem → az, mem_append_right → aC, mem_of_getElem? → aI, append_nil → aJ, map_append → aN, mem_append_left → aR, getElem?_map → aV, range → aX, length_set → aY, length_range → aZ, not_mem_nil → ba, contains_iff_mem → bn, lookup_cons → bo, getElem?_set_ne → bt, nodup_append → bv, all_eq_true → bw, mem_map_of_mem → bx, flatMap_append → bz, getElem?_append_left → bB, getElem?_set_self → bM, foldl_append → bN, map_map → bO, replicate → bW, mem_flatMap → b0, getElem?_append_right → cB, length_reverse → cC, flatMap_cons → cI, count_le_count_cons → cK, mem_map → cQ, map_congr_left → cR, getElem?_range → cT, getD_eq_getElem?_getD → cV, getElem?_of_mem → c6, getElem?_eq_some_iff → c7, length_drop → dg, length_take → dh, filter_cons_of_pos → dt, nodup_nil → dA, length_filter_le → dH, map_cons → dI, not_mem_cons_of_ne_of_not_mem → dL, length_cons → dN, length → dQ, flatMap_def → dS, getElem?_concat_length → dU, mem_range → dY, filter_cons_of_neg → eZ, nodup_cons → fc, mem_reverse → fF, zip_cons_cons → fG, filter_append → fH, getElem?_eq_none → fK, findIdx?_eq_some_iff_getElem → fN, ext_getElem? → fX, getElem?_set → fY, length_pos_iff → gw, take_length → gy, mem_singleton → gJ, take_of_length_le → gM, mem_zipIdx_iff_getElem? → gP, getElem?_inj → gX, mem_of_mem_drop → ig, map_reverse → iq, flatMap_map → ir, filterMap_cons → iB, contains_cons → iV, length_eq_zero_iff → iY, size_toArray → i9, length_eq_one_iff → jg, set_append_right → jr, getElem_mem → jw, flatMap_nil → jx, cons_ne_nil → jy, count_eq_zero_of_not_mem → jV, mem_of_mem_take → jX, mem_filter → kt, filter_map → kz, sublist_flatten_of_mem → kQ, drop_eq_getElem_cons → lV, reverse_perm → ml, Pairwise → mz, map_fst_zip → m6, any_eq_true → m8, map → m9, append_cancel_left → na, getElem_map → nb, drop_eq_nil_of_le → n6, filter_eq_nil_iff → og, map_id' → oh, mem_append → ol, dropLast_eq_take → oJ, pairwise_flatMap → oK, take_append_drop → oL, count_cons_self → pd, replicate_succ → qT, map_eq_nil_iff → qV, mem_cons → qZ, map_drop → q7, mem_filterMap → rF, filterMap_map → rI, getElem_range → rK, count_append → tQ, filter_congr → tR, flatten → tS, isEmpty_iff → vC, map_flatMap → vF, take_append_of_le_length → vK, length_zip → xu, of_mem_zip → xw, drop_zero → z9, getElem?_zip_eq_some → Al, getElem?_eq_none_iff → An, map_nil → Gx, map_set → Gy, length_singleton → HI, length_replicate → HJ, getElem?_reverse → HK, range' → Kw, range_eq_range' → Kx, filter → Ky, findIdx_getElem → KA, forall_mem_map → KU, reverse_append → KV, getElem?_drop → N0, find?_eq_none → N1, filter_filter → N2, reverse_cons → Oe, flatten_cons → Oh, ext_getElem → QY, perm_middle → QZ, nodup_range → Q0
open Option.some renaming inj → ai, injEq → je
open PySem.Heap renaming get?_push_size → bf, get?_push_of_some → bq, get?_update_other → cG, get?_update_self → cN, lt_size → eJ, SameBut → gK, ExtBut → Kz, ownExc_of_ok → Oj
open Int renaming natCast_nonneg → bp, le_trans → bA, toNat_of_nonneg → bP, ofNat_le → b7, ofNat_lt → b9, not_lt → cU, le_of_lt → fp, toNat_lt → ft, not_le → ib, lt_of_le_of_lt → iW, le_of_eq → kN, emod_lt_of_pos → lf, max_eq_right → m7, ne_of_gt → n5, min_eq_left → om, emod_nonneg → on, add_nonneg → ph, toNat_le → tM, toNat → vD, mul_one → vJ, le_add_of_nonneg_right → Aa, ofNat_sub → DF, lt_trans → Gr, ediv_one → Gu, add_zero → Gv, sub_nonneg_of_le → Kv, add_le_add_left → KM, sub_add_cancel → NY, lt_of_lt_of_le → NZ, min_eq_right → QX
open Array renaming length_toList → bU, getElem?_toList → cb, getElem?_eq_getElem → d9, toList_append → iz, getElem?_eq_some_iff → kZ, size_setIfInBounds → DE, toList_push → Of, size_append → Oi
open Option renaming map → bX, isSome → c5, isSome_iff_exists → dJ, isNone_iff_eq_none → fP, mem_toList → jb, map_some → ky, none → mj, map_eq_some_iff → nZ, bind_some → vE, or_eq_some_iff → HH
open Nat.succ renaming inj → b8
open Int.ofNat renaming inj → dX
open PySem.Builtin.Slice renaming slicePlaces → fO, sliceAdjust → iu, sliceApplied → z8
open List.cons renaming inj → iG
open List.Pairwise renaming imp_of_mem → iH
open Prod renaming snd → lc, fst → pg
open PySem.Builtin.List renaming listTooLong → my, listExtendWith → ze
open PySem.Heap.SameBut renaming update → qU
open PySem.Heap.IsSliceOf renaming new → rJ
open PySem.Builtin.Range renaming rangeFitsLong → zd, rangeSize → DP, small → KQ
open Prod.mk renaming inj → Ku
open PySem.Builtin.Int renaming intBits → KO
open Option renaming some → Z, none → Z6
open Bool renaming true → Z5, false → J
open PySem renaming Addr → ZZ, Program → ZY, Value → ZX, sysModules → ZW, Shared → ZV, Around → ZU, sizeLine → ZT, wpAny → ZS, PyData → ZR, cLine → ZQ, compareOp → ZP, builtinsNs → ZO, wpAny_storeName_local → ZN, wpAny_bind → ZM, wpAny_pure → ZL, wpAny_newObj_type → ZK, wpAny_setField → ZJ, wpAny_field → ZI, wpAny_throw → ZH, typeLookup → ZG, wpAny_isSubtype_exc → ZF, wpAny_loadPart_at → ZE, codeAny → ZD, codeAny_call_builtin → ZC, wpAny_pyIter_list → ZB, wpAny_truthy_bool → ZA, typeIs_str → Zy, wpAny_list_append_plain → Zx, call_meets → Zw, wpAny_holding → Zv, wpAny_sequenceKey → Zu, wpAny_call_entry → Zt, wpAny_typeOf → Zs, wpAny_mono → Zr, wpAny_standAt → Zp, markedBehindIn_of_false → Zo, wpAny_release → Zn, wpAny_Call_Name_kw → Zj, wpAny_attempt → Zf, wpAny_rule → Ze, wpAny_of_eq → Zd, wpAny_isInstance → Zc, wpAny_specialOf → Zb, wpAny_assign_Name → Za, wpAny_pyIter_listiter → Y9, wpAny_comprehension_free → Y8, pairTrees_nil_walk → Y7, pairTrees_cons_walk → Y6, pick_run → Y5, wpAny_getItem_list_slice → Y3, wpAny_execs_nil → Y2, wpAny_execs_cons → Y1, wpAny_Return_some → Y0, interactive → YZ, DefRec → YX, bootBuiltins → YV, ClsRec → YS
open PyProof.Rows renaming tail_any → Zz, Subscript_ → Zg, slot_tuple_getitem → Y4, assignInOrder_cons → YY, OwnSpec → YW, recsOf → YU, IntsAre → YT, ownsOf → YR
open PySem.Calls renaming Constant_str → Zq, spliced_nil → Zm, spliced_cons → Zl, evalArgs_plain → Zk, callWith_function → Zi, callWith_builtin → Zh
open LawfulBEq renaming eq_of_beq → YQ
open Eq renaming substr → YP, symm → YO
noncomputable section
namespace Mine
open PySem
theorem Z4{α:Sort _}{β:Sort _}{a₁ a₂:α}(f:α->β)(h:a₁=a₂):f a₁=f a₂:=congrArg f h
theorem Z3{c:Prop}{h:Decidable c}(hc:c){α:Sort _}{t e:α}:ite c t e=t:=if_pos hc
theorem Z2{c:Prop}{h:Decidable c}(hc:¬c){α:Sort _}{t e:α}:ite c t e=e:=if_neg hc
theorem Z1{a b:Prop}(h₁:a)(h₂:¬a):b:=absurd h₁ h₂
theorem U{α:Sort _}{a:α}:a=a:=rfl
theorem Z0:True:=trivial
theorem d7{A0 A1 A2:Prop}{G:Prop}(h:A0/\A1/\A2)(k:A0->A1->A2->G):G:=k h.1 h.2.1 h.2.2
theorem yf{A0 A1 A2 A3:Prop}{G:Prop}(h:A0/\A1/\A2/\A3)(k:A0->A1->A2->A3->G):G:=k h.1 h.2.1 h.2.2.1 h.2.2.2
theorem G4{A0 A1 A2 A3 A4:Prop}{G:Prop}(h:A0/\A1/\A2/\A3/\A4)(k:A0->A1->A2->A3->A4->G):G:=k h.1 h.2.1 h.2.2.1 h.2.2.2.1 h.2.2.2.2
theorem ao{α0:Type}{A0 A1:α0->Prop}{G:Prop}(h:∃a0,A0 a0/\A1 a0)(k:∀a0,A0 a0->A1 a0->G):G:=h.elim λa0 h=>k a0 h.1 h.2
theorem cu{α0:Type}{A0 A1 A2:α0->Prop}{G:Prop}(h:∃a0,A0 a0/\A1 a0/\A2 a0)(k:∀a0,A0 a0->A1 a0->A2 a0->G):G:=h.elim λa0 h=>k a0 h.1 h.2.1 h.2.2
theorem dM{α0:Type}{A0 A1 A2 A3:α0->Prop}{G:Prop}(h:∃a0,A0 a0/\A1 a0/\A2 a0/\A3 a0)(k:∀a0,A0 a0->A1 a0->A2 a0->A3 a0->G):G:=h.elim λa0 h=>k a0 h.1 h.2.1 h.2.2.1 h.2.2.2
theorem Dl{α0:Type}{A0 A1 A2 A3 A4:α0->Prop}{G:Prop}(h:∃a0,A0 a0/\A1 a0/\A2 a0/\A3 a0/\A4 a0)(k:∀a0,A0 a0->A1 a0->A2 a0->A3 a0->A4 a0->G):G:=h.elim λa0 h=>k a0 h.1 h.2.1 h.2.2.1 h.2.2.2.1 h.2.2.2.2
theorem j4{α0 α1:Type}{A0:α0->α1->Prop}{G:Prop}(h:∃a0 a1,A0 a0 a1)(k:∀a0 a1,A0 a0 a1->G):G:=h.elim λa0 h=>h.elim λa1 h=>k a0 a1 h
theorem di{α0 α1:Type}{A0 A1:α0->α1->Prop}{G:Prop}(h:∃a0 a1,A0 a0 a1/\A1 a0 a1)(k:∀a0 a1,A0 a0 a1->A1 a0 a1->G):G:=h.elim λa0 h=>h.elim λa1 h=>k a0 a1 h.1 h.2
theorem dG{α0 α1:Type}{A0 A1 A2:α0->α1->Prop}{G:Prop}(h:∃a0 a1,A0 a0 a1/\A1 a0 a1/\A2 a0 a1)(k:∀a0 a1,A0 a0 a1->A1 a0 a1->A2 a0 a1->G):G:=h.elim λa0 h=>h.elim λa1 h=>k a0 a1 h.1 h.2.1 h.2.2
theorem kR{α0 α1:Type}{A0 A1 A2 A3:α0->α1->Prop}{G:Prop}(h:∃a0 a1,A0 a0 a1/\A1 a0 a1/\A2 a0 a1/\A3 a0 a1)(k:∀a0 a1,A0 a0 a1->A1 a0 a1->A2 a0 a1->A3 a0 a1->G):G:=h.elim λa0 h=>h.elim λa1 h=>k a0 a1 h.1 h.2.1 h.2.2.1 h.2.2.2
theorem mC{α0 α1:Type}{A0 A1 A2 A3 A4 A5 A6:α0->α1->Prop}{G:Prop}(h:∃a0 a1,A0 a0 a1/\A1 a0 a1/\A2 a0 a1/\A3 a0 a1/\A4 a0 a1/\A5 a0 a1/\A6 a0 a1)(k:∀a0 a1,A0 a0 a1->A1 a0 a1->A2 a0 a1->A3 a0 a1->A4 a0 a1->A5 a0 a1->A6 a0 a1->G):G:=h.elim λa0 h=>h.elim λa1 h=>k a0 a1 h.1 h.2.1 h.2.2.1 h.2.2.2.1 h.2.2.2.2.1 h.2.2.2.2.2.1 h.2.2.2.2.2.2
theorem lR{α0 α1 α2:Type}{A0 A1:α0->α1->α2->Prop}{G:Prop}(h:∃a0 a1 a2,A0 a0 a1 a2/\A1 a0 a1 a2)(k:∀a0 a1 a2,A0 a0 a1 a2->A1 a0 a1 a2->G):G:=h.elim λa0 h=>h.elim λa1 h=>h.elim λa2 h=>k a0 a1 a2 h.1 h.2
theorem jF{α0 α1 α2:Type}{A0 A1 A2:α0->α1->α2->Prop}{G:Prop}(h:∃a0 a1 a2,A0 a0 a1 a2/\A1 a0 a1 a2/\A2 a0 a1 a2)(k:∀a0 a1 a2,A0 a0 a1 a2->A1 a0 a1 a2->A2 a0 a1 a2->G):G:=h.elim λa0 h=>h.elim λa1 h=>h.elim λa2 h=>k a0 a1 a2 h.1 h.2.1 h.2.2
theorem yd{α0 α1 α2:Type}{A0 A1 A2 A3:α0->α1->α2->Prop}{G:Prop}(h:∃a0 a1 a2,A0 a0 a1 a2/\A1 a0 a1 a2/\A2 a0 a1 a2/\A3 a0 a1 a2)(k:∀a0 a1 a2,A0 a0 a1 a2->A1 a0 a1 a2->A2 a0 a1 a2->A3 a0 a1 a2->G):G:=h.elim λa0 h=>h.elim λa1 h=>h.elim λa2 h=>k a0 a1 a2 h.1 h.2.1 h.2.2.1 h.2.2.2
theorem qj{α0 α1 α2:Type}{A0 A1 A2 A3 A4:α0->α1->α2->Prop}{G:Prop}(h:∃a0 a1 a2,A0 a0 a1 a2/\A1 a0 a1 a2/\A2 a0 a1 a2/\A3 a0 a1 a2/\A4 a0 a1 a2)(k:∀a0 a1 a2,A0 a0 a1 a2->A1 a0 a1 a2->A2 a0 a1 a2->A3 a0 a1 a2->A4 a0 a1 a2->G):G:=h.elim λa0 h=>h.elim λa1 h=>h.elim λa2 h=>k a0 a1 a2 h.1 h.2.1 h.2.2.1 h.2.2.2.1 h.2.2.2.2
theorem hU{α0 α1 α2:Type}{A0 A1 A2 A3 A4 A5:α0->α1->α2->Prop}{G:Prop}(h:∃a0 a1 a2,A0 a0 a1 a2/\A1 a0 a1 a2/\A2 a0 a1 a2/\A3 a0 a1 a2/\A4 a0 a1 a2/\A5 a0 a1 a2)(k:∀a0 a1 a2,A0 a0 a1 a2->A1 a0 a1 a2->A2 a0 a1 a2->A3 a0 a1 a2->A4 a0 a1 a2->A5 a0 a1 a2->G):G:=h.elim λa0 h=>h.elim λa1 h=>h.elim λa2 h=>k a0 a1 a2 h.1 h.2.1 h.2.2.1 h.2.2.2.1 h.2.2.2.2.1 h.2.2.2.2.2
theorem M7{α0 α1 α2 α3:Type}{A0 A1 A2 A3:α0->α1->α2->α3->Prop}{G:Prop}(h:∃a0 a1 a2 a3,A0 a0 a1 a2 a3/\A1 a0 a1 a2 a3/\A2 a0 a1 a2 a3/\A3 a0 a1 a2 a3)(k:∀a0 a1 a2 a3,A0 a0 a1 a2 a3->A1 a0 a1 a2 a3->A2 a0 a1 a2 a3->A3 a0 a1 a2 a3->G):G:=h.elim λa0 h=>h.elim λa1 h=>h.elim λa2 h=>h.elim λa3 h=>k a0 a1 a2 a3 h.1 h.2.1 h.2.2.1 h.2.2.2
theorem oM{α0 α1 α2 α3:Type}{A0 A1 A2 A3 A4 A5:α0->α1->α2->α3->Prop}{G:Prop}(h:∃a0 a1 a2 a3,A0 a0 a1 a2 a3/\A1 a0 a1 a2 a3/\A2 a0 a1 a2 a3/\A3 a0 a1 a2 a3/\A4 a0 a1 a2 a3/\A5 a0 a1 a2 a3)(k:∀a0 a1 a2 a3,A0 a0 a1 a2 a3->A1 a0 a1 a2 a3->A2 a0 a1 a2 a3->A3 a0 a1 a2 a3->A4 a0 a1 a2 a3->A5 a0 a1 a2 a3->G):G:=h.elim λa0 h=>h.elim λa1 h=>h.elim λa2 h=>h.elim λa3 h=>k a0 a1 a2 a3 h.1 h.2.1 h.2.2.1 h.2.2.2.1 h.2.2.2.2.1 h.2.2.2.2.2
theorem GQ{α0 α1 α2 α3 α4:Type}{A0 A1 A2 A3:α0->α1->α2->α3->α4->Prop}{G:Prop}(h:∃a0 a1 a2 a3 a4,A0 a0 a1 a2 a3 a4/\A1 a0 a1 a2 a3 a4/\A2 a0 a1 a2 a3 a4/\A3 a0 a1 a2 a3 a4)(k:∀a0 a1 a2 a3 a4,A0 a0 a1 a2 a3 a4->A1 a0 a1 a2 a3 a4->A2 a0 a1 a2 a3 a4->A3 a0 a1 a2 a3 a4->G):G:=h.elim λa0 h=>h.elim λa1 h=>h.elim λa2 h=>h.elim λa3 h=>h.elim λa4 h=>k a0 a1 a2 a3 a4 h.1 h.2.1 h.2.2.1 h.2.2.2
theorem NA{α0 α1 α2 α3 α4:Type}{A0 A1 A2 A3 A4:α0->α1->α2->α3->α4->Prop}{G:Prop}(h:∃a0 a1 a2 a3 a4,A0 a0 a1 a2 a3 a4/\A1 a0 a1 a2 a3 a4/\A2 a0 a1 a2 a3 a4/\A3 a0 a1 a2 a3 a4/\A4 a0 a1 a2 a3 a4)(k:∀a0 a1 a2 a3 a4,A0 a0 a1 a2 a3 a4->A1 a0 a1 a2 a3 a4->A2 a0 a1 a2 a3 a4->A3 a0 a1 a2 a3 a4->A4 a0 a1 a2 a3 a4->G):G:=h.elim λa0 h=>h.elim λa1 h=>h.elim λa2 h=>h.elim λa3 h=>h.elim λa4 h=>k a0 a1 a2 a3 a4 h.1 h.2.1 h.2.2.1 h.2.2.2.1 h.2.2.2.2
theorem DB{α0 α1 α2 α3 α4:Type}{A0 A1 A2 A3 A4 A5:α0->α1->α2->α3->α4->Prop}{G:Prop}(h:∃a0 a1 a2 a3 a4,A0 a0 a1 a2 a3 a4/\A1 a0 a1 a2 a3 a4/\A2 a0 a1 a2 a3 a4/\A3 a0 a1 a2 a3 a4/\A4 a0 a1 a2 a3 a4/\A5 a0 a1 a2 a3 a4)(k:∀a0 a1 a2 a3 a4,A0 a0 a1 a2 a3 a4->A1 a0 a1 a2 a3 a4->A2 a0 a1 a2 a3 a4->A3 a0 a1 a2 a3 a4->A4 a0 a1 a2 a3 a4->A5 a0 a1 a2 a3 a4->G):G:=h.elim λa0 h=>h.elim λa1 h=>h.elim λa2 h=>h.elim λa3 h=>h.elim λa4 h=>k a0 a1 a2 a3 a4 h.1 h.2.1 h.2.2.1 h.2.2.2.1 h.2.2.2.2.1 h.2.2.2.2.2
theorem Mi{α0 α1 α2 α3 α4 α5:Type}{A0 A1:α0->α1->α2->α3->α4->α5->Prop}{G:Prop}(h:∃a0 a1 a2 a3 a4 a5,A0 a0 a1 a2 a3 a4 a5/\A1 a0 a1 a2 a3 a4 a5)(k:∀a0 a1 a2 a3 a4 a5,A0 a0 a1 a2 a3 a4 a5->A1 a0 a1 a2 a3 a4 a5->G):G:=h.elim λa0 h=>h.elim λa1 h=>h.elim λa2 h=>h.elim λa3 h=>h.elim λa4 h=>h.elim λa5 h=>k a0 a1 a2 a3 a4 a5 h.1 h.2
def Is{α:Type}(o:Option α)(R:α->Prop):Prop:=match o with
 |none=>True
 |some x=>R x
theorem Is.of{x:α}(h:Is o R)(e:o=Z x):R x:=by subst e;exact h
theorem Is.bind{f:α->Option β}(h:Is o R)(k:∀x,R x->Is (f x) S):Is (o.bind f) S:=by
 cases o with
 |none=>exact Z0
 |some x=>exact k x h
theorem Is.map{f:α->β}(h:Is o R)(k:∀x,R x->S (f x)):Is (o.map f) S:=by
 cases o with
 |none=>exact Z0
 |some x=>exact k x h
theorem Is.to(k:∀x,o=Z x->R x):Is o R:=by
 cases o with
 |none=>exact Z0
 |some x=>exact k x U
theorem Is.self:Is o λx=>o=Z x:=Is.to λ_ h=>h
theorem Is.imp{R':α->Prop}(h:Is o R)(k:∀x,R x->R' x):Is o R':=by
 cases o with
 |none=>exact Z0
 |some x=>exact k x h
theorem Is.ite2{p:Prop}[Decidable p]{a:Option α}(k:p->Is a R)(l:¬p->Is o R):Is (if p then a else o) R:=by
 by_cases h:p
 ·exact YP (Z3 h) (k h)
 ·exact YP (Z2 h) (l h)
theorem Is.ite{p:Prop}[Decidable p](k:p->Is o R):Is (if p then o else Z6) R:=Is.ite2 k λ_=>Z0
theorem Is.nite(k:b=J->Is o R):Is (if b=Z5 then Z6 else o) R:=by
 cases b with
 |false=>exact k U
 |true=>exact Z0
theorem dq{A0 A1:Prop}{G:Prop}(h:A0/\A1)(k:A0->A1->G):G:=k h.1 h.2
theorem bu{P0 P1 P2:Prop}(h0:P0)(h1:P1)(h2:P2):P0/\P1/\P2:=⟨h0,h1,h2⟩
theorem aG{α:Type}{P0 P1:α->Prop}(a:α)(h0:P0 a)(h1:P1 a):∃a,P0 a/\P1 a:=⟨a,h0,h1⟩
theorem bQ{α:Type}{P0 P1 P2:α->Prop}(a:α)(h0:P0 a)(h1:P1 a)(h2:P2 a):∃a,P0 a/\P1 a/\P2 a:=⟨a,h0,h1,h2⟩
theorem BV{α:Type}{P0 P1 P2 P3 P4:α->Prop}(a:α)(h0:P0 a)(h1:P1 a)(h2:P2 a)(h3:P3 a)(h4:P4 a):∃a,P0 a/\P1 a/\P2 a/\P3 a/\P4 a:=⟨a,h0,h1,h2,h3,h4⟩
theorem CP{α:Type}{P0 P1 P2 P3 P4 P5:α->Prop}(a:α)(h0:P0 a)(h1:P1 a)(h2:P2 a)(h3:P3 a)(h4:P4 a)(h5:P5 a):∃a,P0 a/\P1 a/\P2 a/\P3 a/\P4 a/\P5 a:=⟨a,h0,h1,h2,h3,h4,h5⟩
theorem gp{α:Type}{β:Type}{P0 P1:α->β->Prop}(a:α)(b:β)(h0:P0 a b)(h1:P1 a b):∃a b,P0 a b/\P1 a b:=⟨a,b,h0,h1⟩
theorem eK{α:Type}{β:Type}{P0 P1 P2:α->β->Prop}(a:α)(b:β)(h0:P0 a b)(h1:P1 a b)(h2:P2 a b):∃a b,P0 a b/\P1 a b/\P2 a b:=⟨a,b,h0,h1,h2⟩
theorem iZ{α:Type}{β:Type}{P0 P1 P2 P3:α->β->Prop}(a:α)(b:β)(h0:P0 a b)(h1:P1 a b)(h2:P2 a b)(h3:P3 a b):∃a b,P0 a b/\P1 a b/\P2 a b/\P3 a b:=⟨a,b,h0,h1,h2,h3⟩
theorem ly{α:Type}{β:Type}{γ:Type}{P0 P1:α->β->γ->Prop}(a:α)(b:β)(c:γ)(h0:P0 a b c)(h1:P1 a b c):∃a b c,P0 a b c/\P1 a b c:=⟨a,b,c,h0,h1⟩
theorem oU{α:Type}{β:Type}{γ:Type}{P0 P1 P2:α->β->γ->Prop}(a:α)(b:β)(c:γ)(h0:P0 a b c)(h1:P1 a b c)(h2:P2 a b c):∃a b c,P0 a b c/\P1 a b c/\P2 a b c:=⟨a,b,c,h0,h1,h2⟩
theorem yz{α:Type}{β:Type}{γ:Type}{P0 P1 P2 P3:α->β->γ->Prop}(a:α)(b:β)(c:γ)(h0:P0 a b c)(h1:P1 a b c)(h2:P2 a b c)(h3:P3 a b c):∃a b c,P0 a b c/\P1 a b c/\P2 a b c/\P3 a b c:=⟨a,b,c,h0,h1,h2,h3⟩
theorem fM{α:Type}{β:Type}{γ:Type}{P0 P1 P2 P3 P4 P5:α->β->γ->Prop}(a:α)(b:β)(c:γ)(h0:P0 a b c)(h1:P1 a b c)(h2:P2 a b c)(h3:P3 a b c)(h4:P4 a b c)(h5:P5 a b c):∃a b c,P0 a b c/\P1 a b c/\P2 a b c/\P3 a b c/\P4 a b c/\P5 a b c:=⟨a,b,c,h0,h1,h2,h3,h4,h5⟩
theorem Hg{α:Type}{β:Type}{γ:Type}{P0 P1 P2 P3 P4 P5 P6:α->β->γ->Prop}(a:α)(b:β)(c:γ)(h0:P0 a b c)(h1:P1 a b c)(h2:P2 a b c)(h3:P3 a b c)(h4:P4 a b c)(h5:P5 a b c)(h6:P6 a b c):∃a b c,P0 a b c/\P1 a b c/\P2 a b c/\P3 a b c/\P4 a b c/\P5 a b c/\P6 a b c:=⟨a,b,c,h0,h1,h2,h3,h4,h5,h6⟩
theorem uE{α:Type}{β:Type}{γ:Type}{δ:Type}{P0 P1 P2 P3 P4 P5 P6:α->β->γ->δ->Prop}(a:α)(b:β)(c:γ)(d:δ)(h0:P0 a b c d)(h1:P1 a b c d)(h2:P2 a b c d)(h3:P3 a b c d)(h4:P4 a b c d)(h5:P5 a b c d)(h6:P6 a b c d):∃a b c d,P0 a b c d/\P1 a b c d/\P2 a b c d/\P3 a b c d/\P4 a b c d/\P5 a b c d/\P6 a b c d:=⟨a,b,c,d,h0,h1,h2,h3,h4,h5,h6⟩
theorem BS{α:Type}{β:Type}{γ:Type}{δ:Type}{ε:Type}{P0 P1 P2 P3 P4 P5 P6 P7:α->β->γ->δ->ε->Prop}(a:α)(b:β)(c:γ)(d:δ)(e:ε)(h0:P0 a b c d e)(h1:P1 a b c d e)(h2:P2 a b c d e)(h3:P3 a b c d e)(h4:P4 a b c d e)(h5:P5 a b c d e)(h6:P6 a b c d e)(h7:P7 a b c d e):∃a b c d e,P0 a b c d e/\P1 a b c d e/\P2 a b c d e/\P3 a b c d e/\P4 a b c d e/\P5 a b c d e/\P6 a b c d e/\P7 a b c d e:=⟨a,b,c,d,e,h0,h1,h2,h3,h4,h5,h6,h7⟩
theorem qF{P0 P1 P2 P3:Prop}(h0:P0)(h1:P1)(h2:P2)(h3:P3):P0/\P1/\P2/\P3:=⟨h0,h1,h2,h3⟩
theorem jJ{α:Type}{P0 P1 P2 P3:α->Prop}(a:α)(h0:P0 a)(h1:P1 a)(h2:P2 a)(h3:P3 a):∃a,P0 a/\P1 a/\P2 a/\P3 a:=⟨a,h0,h1,h2,h3⟩
theorem mE{α:Type}{β:Type}{P0 P1 P2 P3 P4 P5 P6:α->β->Prop}(a:α)(b:β)(h0:P0 a b)(h1:P1 a b)(h2:P2 a b)(h3:P3 a b)(h4:P4 a b)(h5:P5 a b)(h6:P6 a b):∃a b,P0 a b/\P1 a b/\P2 a b/\P3 a b/\P4 a b/\P5 a b/\P6 a b:=⟨a,b,h0,h1,h2,h3,h4,h5,h6⟩
theorem oS{α:Type}{β:Type}{γ:Type}{P0 P1 P2 P3 P4:α->β->γ->Prop}(a:α)(b:β)(c:γ)(h0:P0 a b c)(h1:P1 a b c)(h2:P2 a b c)(h3:P3 a b c)(h4:P4 a b c):∃a b c,P0 a b c/\P1 a b c/\P2 a b c/\P3 a b c/\P4 a b c:=⟨a,b,c,h0,h1,h2,h3,h4⟩
theorem d5{α0:Type}{A0:α0->Prop}{G:Prop}(h:∃a0,A0 a0)(k:∀a0,A0 a0->G):G:=h.elim k
theorem eG{α:Type}{o:Option α}{G:Prop}(n:o=Z6->G)(s:∀a,o=Z a->G):G:=by
 cases o with
 |none=>exact n U
 |some a=>exact s a U
theorem Le{α:Type}{o:Option α}{G:Prop}(s:∀a,o=Z a->G)(n:o=Z6->G):G:=eG n s
theorem nf{G:Prop}(t:o=Z5->G)(f:o=J->G):G:=by
 cases o with
 |false=>exact f U
 |true=>exact t U
theorem G7{G:Prop}(f:o=J->G)(t:o=Z5->G):G:=nf t f
section
variable {p:α->Prop}
theorem in1(h:a∈[b]):a=b:=gJ.mp h
theorem vB(h:a≠b):a∉[b]:=λq=>h (in1 q)
theorem DO(h:a∉[b]):a≠b:=λq=>h (q▸.head _)
theorem qY:∀b∈([]:List α),p b:=nofun
theorem eD(h:p a)(k:∀b∈l,p b):∀b∈a::l,p b:=λ_ q=>(qZ.mp q).elim (λe=>e▸h) λq=>k _ q
theorem eV{G:Prop}(h:b∈a::l)(k:b=a->G)(k':b∈l->G):G:=(qZ.mp h).elim k k'
theorem bR{l':List α}(h:∀b∈l,p b)(k:∀b∈l',p b):∀b∈l++l',p b:=λb hb=>(ol.mp hb).elim (h b) (k b)
theorem Ke(h:a∉l)(k:a≠b):a∉l++[b]:=λq=>(ol.mp q).elim h λq=>k (in1 q)
theorem c8(h:p a):∀b∈[a],p b:=eD h qY
end
theorem cq{α:Type}{l:List α}{i:Nat}{a:α}(h:l[i]? =Z a):i<l.length:=(c7.mp h).1
theorem cP{a b:Bool}(h:(a&&b)=Z5):a=Z5/\b=Z5:=cn.mp h
theorem cL{α β:Type}{f:α->β}{l:List α}{b:β}(h:b∈l.map f):∃a,a∈l/\f a=b:=cQ.mp h
theorem jZ{α:Type}{a:α}{s t:List α}(h:a∈s++t):a∈s\/a∈t:=ol.mp h
theorem iU{α:Type}{a b:α}{l:List α}(h:a∈b::l):a=b\/a∈l:=qZ.mp h
theorem kC{α:Type}{a:α}{l:List α}(h:(a::l).Nodup):a∉l/\l.Nodup:=fc.mp h
theorem jK{m n:Nat}(h:m∈aX n):m<n:=dY.mp h
theorem oX{α:Type}{p:α->Bool}{l:List α}{a:α}(h:a∈l.filter p):a∈l/\p a=Z5:=kt.mp h
theorem kT{α β:Type}{f:α->List β}{b:β}{l:List α}(h:b∈l.flatMap f):∃a,a∈l/\b∈f a:=b0.mp h
theorem jB{α β:Type}{x:Option α}{f:α->β}{b:β}(h:x.map f=Z b):∃a,x=Z a/\f a=b:=nZ.mp h
theorem kS{α β:Type}{x:Option α}{f:α->Option β}{b:β}(h:x.bind f=Z b):∃a,x=Z a/\f a=Z b:=Option.bind_eq_some_iff.mp h
theorem dT{α:Type}{l m:List α}{k:Nat}{x:α}(r:l[k]? =Z x):(l++m)[k]? =Z x:=(bB (c7.mp r).1).trans r
theorem iR{α:Type}{l:List α}{a x:α}(h:(l++[a])[k]? =Z x):l[k]? =Z x\/k=l.length/\x=a:=by
 by_cases hlt:k<l.length
 ·exact .inl ((bB hlt).symm.trans h)
 ·have h':=(cB (hV.mp hlt)).symm.trans h;cases hk:k-l.length with
  |zero=>rw [hk]at h';exact .inr ⟨fT (oH hk) (hV.mp hlt),(ai h').symm⟩
  |succ m=>rw [hk]at h';exact nomatch h'
theorem gQ{A B L R:Nat}(h:A<=B)(v:L+B<=R+A):L<=R:=Nat.le_of_add_le_add_right (aa v (aH h R))
theorem j5{A B L R:Int}(h:A<=B)(v:L+B<=R+A):L<=R:=Int.le_of_add_le_add_right (bA v (KM h R))
theorem zN{m:Nat}(h:m<=1000):-10 ^ 12<=(m:Int)/\(m:Int)<=10 ^ 12:=⟨bA (by decide) (bp m),bA (b7.mpr h) (by decide)⟩
theorem smt{a b:Nat}(h:a<=1000):((a:Int)-b).toNat<=1000000:=tM.mpr (bA (Int.sub_le_self _ (bp b)) (bA (b7.mpr h) (by decide)))
theorem bc{G:Prop}(h:(G->False)->False):G:=Classical.byContradiction h
theorem eU{α:Type}{x:α}{p:Prop}(h:Z6=Z x):p:=nomatch h
theorem qI{α β:Type}{a c:α}{b d:β}(h:Z (a,b)=Z (c,d)):a=c/\b=d:=Ku (ai h)
set_option genCtorIdx false in
inductive V where
 |none
 |bool (b:Bool)
 |int (i:Int)
 |str (s:List Char)
 |tup (vs:List V)
 |lst (vs:List V)
 |dct (ks:List (List Char)) (vs:List V)
 |rng (a b:Int)
 |ref (i:Nat)
 |exc (k:Nat)
noncomputable def V.ctorIdx(v:V):Nat:=V.casesOn (motive_1:=λ_=>Nat) v 0 (λ_=>1) (λ_=>2) (λ_=>3) (λ_=>4) (λ_=>5) (λ_ _=>6) (λ_ _=>7) (λ_=>8) λ_=>9
set_option genCtorIdx false in
inductive O where
 |list (vs:List V)
 |dict (ks:List (List Char)) (vs:List V)
 |inst (c:Nat) (d:Nat)
 |ns (ks:List (List Char)) (vs:List V)
noncomputable def O.ctorIdx(v:O):Nat:=O.casesOn (motive:=λ_=>Nat) v (λ_=>0) (λ_ _=>1) (λ_ _=>2) λ_ _=>3
abbrev AH:=List O
abbrev Fm:=List (Option V)
mutual
noncomputable def V.data:V->Bool
 |.none|.bool _|.int _|.str _=>Z5
 |.tup vs|.lst vs=>V.datas vs
 |.dct _ _|.rng _ _|.ref _|.exc _=>J
noncomputable def V.datas:List V->Bool
 |[]=>Z5
 |v::vs=>V.data v&&V.datas vs
end
mutual
noncomputable def V.depth:V->Nat
 |.tup vs|.lst vs=>V.depths vs+1
 |.none|.bool _|.int _|.str _|.dct _ _|.rng _ _|.ref _|.exc _=>0
noncomputable def V.depths:List V->Nat
 |[]=>0
 |v::vs=>max (V.depth v) (V.depths vs)
end
mutual
noncomputable def fZ:V->V->Bool
 |.none,.none=>Z5
 |.bool a,.bool b=>a==b
 |.bool a,.int j=>(if a then 1 else 0)==j
 |.int i,.bool b=>i==(if b then 1 else 0)
 |.int i,.int j=>i==j
 |.str x,.str y=>x==y
 |.lst xs,.lst ys=>p2 xs ys
 |.tup xs,.tup ys=>p2 xs ys
 |_,_=>J
noncomputable def p2:List V->List V->Bool
 |[],[]=>Z5
 |x::xs,y::ys=>fZ x y&&p2 xs ys
 |_,_=>J
end
inductive Ty where
 |int|bool|str|list|tuple
deriving DecidableEq
set_option genCtorIdx false in
inductive Bop where
 |add|sub|mul (n:Nat)|f|mod|pow
noncomputable def Cd:Bop->Bool
 |.mul _=>Z5
 |_=>J
set_option genCtorIdx false in
inductive Cop where
 |eq|ne|lt|le|gt|ge|is (n:Nat)|isnot|in_|notin
set_option genCtorIdx false in
inductive Prim where
 |bop (o:Bop)
 |cop (o:Cop)
 |not|neg
 |len|s (t:Ty)|isX (j:Option Nat)|range1|range2|list|str|int|min|all
 |i|slice|rev
 |l|t|d (ks:List (List Char))|mkdict1
 |append|pop|pop0|extend|index|dpop|lindex|rep|upper
 |a (n:List Char)
set_option genCtorIdx false in
inductive Mt where
 |list|dict|str|tup (n:Nat)
noncomputable def Prim.fresh:Prim->Bool
 |.list|.slice|.l|.d _|.mkdict1|.rep|.bop .add=>Z5
 |_=>J
set_option genCtorIdx false in
inductive Ex where
 |c (v:V)
 |v (i:Nat)
 |p (mu:Bool) (p:Prim) (args:List Ex)
 |and (a b:Ex)
 |or (a b:Ex)
 |cmp2 (a:Ex) (o₁:Cop) (b:Ex) (o₂:Cop) (c:Ex)
 |call (f:Nat) (args:List Ex)
 |m (k f:Nat) (name:List Char) (o:Ex) (args:List Ex)
 |n (t:Mt) (mu:Bool) (p:Prim) (o:Ex) (args:List Ex)
 |new (c:Nat) (f:Nat) (args:List Ex)
 |comp (mu:Bool) (elt it:Ex) (cond:Option Ex)
set_option genCtorIdx false in
inductive St where
 |a (i:Nat) (e:Ex)
 |asgTup (is:List Nat) (e:Ex)
 |s (o i e:Ex)
 |setAttr (o:Ex) (n:List Char) (e:Ex)
 |e (e:Ex)
 |ite (c:Ex) (a b:List St)
 |f (rev:Bool) (tgt:Nat ⊕ List Nat) (e:Ex) (body:List St)
 |while_ (c:Ex) (body:List St)
 |ret (e:Ex)
 |raise (c:Nat)
 |try_ (body:List St) (cls:Nat) (e:Bool)
 |tryE (e:Ex) (cls i:Nat) (h:Ex)
 |pass
structure Fn where
 arity:Nat
 extra:Nat
 body:List St
noncomputable def O.lst:O->Option (List V)
 |.list vs=>Z vs
 |_=>Z6
noncomputable def O.dct:O->Option (List (List Char)×List V)
 |.dict ks vs=>Z (ks,vs)
 |_=>Z6
noncomputable def view(H:AH):V->Option (List V)
 |.lst vs=>Z vs
 |.ref i=>H[i]?.bind O.lst
 |_=>Z6
noncomputable def kr(H:AH):V->Option (List (List Char)×List V)
 |.dct ks vs=>Z (ks,vs)
 |.ref i=>H[i]?.bind O.dct
 |_=>Z6
noncomputable def re(vs:List V):Bool:=V.datas vs&&decide (V.depths vs<=50)
noncomputable def Fu(v:V):Option V:=if(V.data v&&decide (V.depth v<=50))=Z5 then Z v else Z6
noncomputable def rd(H:AH)(v:V):Option V:=
 match v with
 |.ref i=>(view H (.ref i)).bind λvs=>if re vs=Z5 then Z (.lst vs)else Z6
 |v=>Fu v
noncomputable def aB:Nat:=1000000
noncomputable def vZ(n:Nat)(i:Int):Option Nat:=
 if 0<=i then(if i<n then Z i.toNat else Z6)else(if 0<=i+n then Z (i+n).toNat else Z6)
noncomputable def gx(k:List Char):List (List Char)->List V->Option V
 |k'::ks,v::vs=>if k=k' then Z v else gx k ks vs
 |_,_=>Z6
noncomputable def eQ(k:List Char)(x:V):List (List Char)->List V->List (List Char)×List V
 |k'::ks,v::vs=>if k=k' then(k'::ks,x::vs)else let r:=eQ k x ks vs;(k'::r.1,v::r.2)
 |_,_=>([k],[x])
noncomputable def mw(k:List Char):List (List Char)->List V->List (List Char)×List V
 |k'::ks,v::vs=>if k=k' then(ks,vs)else let r:=mw k ks vs;(k'::r.1,v::r.2)
 |_,_=>([],[])
noncomputable def g9(n:Nat)(i:Int):Nat:=
 if i<0 then(if i+n<0 then 0 else(i+n).toNat)else(if i<n then i.toNat else n)
noncomputable def bE{α:Type}(xs:List α)(a b:Nat):List α:=(xs.take b).drop a
noncomputable def gA:V->Option (Option Int)
 |.none=>Z Z6
 |.int i=>Z (Z i)
 |_=>Z6
noncomputable def nB(n:Nat):Option Int->Nat
 |none=>0
 |some i=>g9 n i
noncomputable def oZ(n:Nat):Option Int->Nat
 |none=>n
 |some i=>g9 n i
noncomputable def gF:V->Option Bool
 |.bool b=>Z b
 |_=>Z6
noncomputable def PG(H:AH)(i:Nat):Bool:=match H[i]? with
 |some (.list _)|some (.dict _ _)|some (.inst _ _)=>Z5
 |_=>J
noncomputable def El(H:AH):V->Option Bool
 |.none=>Z Z5
 |.ref i=>if PG H i then Z J else Z6
 |.rng _ _=>Z6
 |.exc _=>Z6
 |_=>Z J
noncomputable def Qk(H:AH)(a b:V):Option Bool:=match b with
 |.none=>El H a
 |_=>Z6
noncomputable def bY(i:Int):Bool:=decide (-10 ^ 12<=i/\i<=10 ^ 12)
noncomputable def rz(f:Int->Int->Option Int):V->V->Option V
 |.int a,.int b=>(f a b).map V.int
 |_,_=>Z6
noncomputable def La(a b:Int):Option Int:=if bY a&&bY b then Z (a*b)else Z6
noncomputable def Op(a b:Int):Option Int:=if 0<b/\b<=10 ^ 12 then Z (a/b)else Z6
noncomputable def Po(a b:Int):Option Int:=if 0<b then Z (a%b)else Z6
noncomputable def OV(a b:Int):Option Int:=if a=10/\0<=b/\b<=30 then Z (10 ^ b.toNat)else Z6
noncomputable def MU(H:AH)(a b:V):Option V:=(view H a).bind λxs=>(view H b).bind λys=>if xs.length+ys.length<=aB then Z (.lst (xs++ys))else Z6
noncomputable def Ka(H:AH)(a b:V):Option V:=match a with
 |.int _=>rz (λa b=>Z (a+b)) a b
 |.str x=>(match b with|.str y=>if x.length+y.length<=aB then Z (.str (x++y))else Z6|_=>Z6)
 |.tup x=>(match b with|.tup y=>if x.length+y.length<=aB then Z (.tup (x++y))else Z6|_=>Z6)
 |_=>MU H a b
noncomputable def O2(_:AH)(a b:V):Option V:=rz La a b
noncomputable def CM(o:Bop)(a b:V)(H:AH):Option V:=match o with
 |.add=>Ka H a b
 |.sub=>rz (λa b=>Z (a-b)) a b
 |.mul _=>O2 H a b
 |.f=>rz Op a b
 |.mod=>rz Po a b
 |.pow=>rz OV a b
noncomputable def inC(s:List Char):List Char->Option Bool
 |[]=>Z6
 |c::t=>if t.isEmpty=Z5 then Z (s.contains c)else Z6
noncomputable def V.txt:V->Option (List Char)
 |.str s=>Z s
 |_=>mj
noncomputable def Mu(H:AH)(x:V)(vs:List V):Option Bool:=(rd H x).bind λx'=>if re vs=Z5 then Z (vs.any λy=>fZ y x')else Z6
noncomputable def inD(H:AH)(x c:V):Option Bool:=(kr H c).bind λd=>x.txt.map λk=>d.1.contains k
noncomputable def N6(H:AH)(x c:V)(o:Option (List V)):Option Bool:=match o with
 |some vs=>Mu H x vs
 |none=>inD H x c
noncomputable def N4(H:AH)(x c:V):Option Bool:=
 match c with
 |.str s=>x.txt.bind (inC s)
 |.tup vs=>Mu H x vs
 |c=>N6 H x c (view H c)
noncomputable def Qj:V->Bool
 |.dct ks _=>ks.isEmpty
 |_=>J
noncomputable def okP(p:V×V):Bool:=(Qj p.1&&Qj p.2)||((Fu p.1).isSome&&((Fu p.2).isSome&&fZ p.1 p.2))
noncomputable def N5(H:AH)(a b:V):Option Bool:=(view H a).bind λxs=>(view H b).bind λys=>if xs.length=ys.length/\(xs.zip ys).all okP=Z5 then Z Z5 else Z6
noncomputable def KF(H:AH)(a b:V):Option Bool:=((rd H a).bind λx=>(rd H b).map λy=>fZ x y).or (N5 H a b)
noncomputable def zI(f:Int->Int->Bool):V->V->Option Bool
 |.int a,.int b=>Z (f a b)
 |_,_=>Z6
noncomputable def ny(o:Cop)(a b:V)(H:AH):Option Bool:=match o with
 |.eq=>KF H a b
 |.ne=>(KF H a b).map (!·)
 |.lt=>zI (λa b=>decide (a<b)) a b
 |.le=>zI (λa b=>decide (a<=b)) a b
 |.gt=>zI (λa b=>decide (b<a)) a b
 |.ge=>zI (λa b=>decide (b<=a)) a b
 |.is _=>Qk H a b
 |.isnot=>(Qk H a b).map (!·)
 |.in_=>N4 H a b
 |.notin=>(N4 H a b).map (!·)
noncomputable def V.isRng:V->Bool
 |.rng _ _=>Z5
 |_=>J
noncomputable def jP(a b:Int):List V:=(aX (b-a).toNat).map λ(i:Nat)=>V.int (a+i)
noncomputable def rE(H:AH):V->Option (List V)
 |.tup vs=>Z vs
 |.str s=>Z (s.map λc=>V.str [c])
 |.rng a b=>Z (jP a b)
 |v=>view H v
noncomputable def Nr:V->Option (List V)
 |.tup vs=>Z vs.reverse
 |.lst vs=>Z vs.reverse
 |_=>Z6
noncomputable def j2(rev:Bool)(H:AH)(v:V):Option (List V):=match rev with
 |false=>rE H v
 |true=>Nr v
structure Prog where
 fns:Nat->Option Fn
 sub:Nat->Nat->Bool
noncomputable def DA(cs:List (List Nat))(k j:Nat):Bool:=(cs[k]?).any (·.contains j)
noncomputable def yX(fns:List Fn)(cs:List (List Nat)):Prog:={fns:=λi=>fns[i]?,sub:=DA cs}
noncomputable def O.isTy(t:Ty):O->Option Bool
 |.list _=>Z (t==.list)
 |.dict _ _=>Z J
 |_=>Z6
noncomputable def isinst(H:AH):V->Ty->Option Bool
 |.int _,t=>Z (t==.int)
 |.bool _,t=>Z (t==.int||t==.bool)
 |.str _,t=>Z (t==.str)
 |.tup _,t=>Z (t==.tuple)
 |.lst _,t=>Z (t==.list)
 |.none,_=>Z J
 |.dct _ _,_=>Z J
 |.ref i,t=>H[i]?.bind (O.isTy t)
 |_,_=>Z6
noncomputable def p1:List V->Option (List Bool)
 |[]=>Z []
 |.bool b::r=>(p1 r).map (b::·)
 |_::_=>Z6
noncomputable def t7(i:Int):List Char:=(toString i).toList
noncomputable def mQ(c:Char):Char:=if 97<=c.toNat/\c.toNat<=122 then Char.ofNat (c.toNat-32)else c
noncomputable def V.num:V->Option Int
 |.int a=>Z a
 |_=>mj
noncomputable def Ov(o:Bop):List V->AH->Option (V×AH)
 |[a,b],H=>(CM o a b H).map (·,H)
 |_,_=>Z6
noncomputable def Pq(o:Cop):List V->AH->Option (V×AH)
 |[a,b],H=>(ny o a b H).map (V.bool ·,H)
 |_,_=>Z6
noncomputable def Qy:List V->AH->Option (V×AH)
 |[a],H=>(gF a).map (V.bool !·,H)
 |_,_=>Z6
noncomputable def PF:List V->AH->Option (V×AH)
 |[v],H=>v.num.map λa=>(V.int (-a),H)
 |_,_=>Z6
noncomputable def ET(d:Option Nat):Option (List V)->Option Nat
 |some vs=>Z vs.length
 |none=>d
noncomputable def LS(H:AH):V->Option Nat
 |.str s=>Z s.length
 |.tup s=>Z s.length
 |v=>ET ((kr H v).map λd=>d.1.length) (view H v)
noncomputable def ML:List V->AH->Option (V×AH)
 |[v],H=>(LS H v).map λ(n:Nat)=>(V.int n,H)
 |_,_=>Z6
noncomputable def xF(t:Ty):List V->AH->Option (V×AH)
 |[a],H=>(isinst H a t).map (V.bool ·,H)
 |_,_=>Z6
noncomputable def V.kind:V->Option Nat
 |.exc k=>Z k
 |_=>mj
noncomputable def QL(P:Prog)(j:Option Nat):List V->AH->Option (V×AH)
 |[v],H=>v.kind.bind λk=>if P.sub k k=Z5 then Z (.bool (j.elim Z5 (P.sub k)),H)else Z6
 |_,_=>Z6
noncomputable def xx:List V->AH->Option (V×AH)
 |[v],H=>v.num.bind λb=>if bY b=Z5 then Z (.rng 0 b,H)else Z6
 |_,_=>Z6
noncomputable def yq:List V->AH->Option (V×AH)
 |[v,w],H=>v.num.bind λa=>w.num.bind λb=>if(bY a&&bY b)=Z5 then Z (.rng a b,H)else Z6
 |_,_=>Z6
noncomputable def HA(H:AH):V->Option V
 |.rng a b=>if(b-a).toNat<=aB then Z (.lst (jP a b))else Z6
 |.tup vs=>if vs.length<=aB then Z (.lst vs)else Z6
 |v=>(view H v).bind λvs=>if vs.length<=aB then Z (.lst vs)else Z6
noncomputable def AR:List V->AH->Option (V×AH)
 |[v],H=>(HA H v).map (·,H)
 |_,_=>Z6
noncomputable def O4:V->Option V
 |.int i=>if bY i=Z5 then Z (.str (t7 i))else Z6
 |.str s=>Z (.str s)
 |_=>Z6
noncomputable def Ld:List V->AH->Option (V×AH)
 |[v],H=>(O4 v).map (·,H)
 |_,_=>Z6
noncomputable def BU:List V->AH->Option (V×AH)
 |[v],H=>v.txt.bind λs=>if(s.all λc=>decide (c.toNat<128))=Z5/\s.length<=aB then Z (.str (s.map mQ),H)else Z6
 |_,_=>Z6
noncomputable def Jz:List V->AH->Option (V×AH)
 |[.bool b],H=>Z (.int (if b then 1 else 0),H)
 |_,_=>Z6
noncomputable def Nb:List V->AH->Option (V×AH)
 |[v,w],H=>v.num.bind λa=>w.num.map λb=>(V.int (min a b),H)
 |_,_=>Z6
noncomputable def NG:List V->AH->Option (V×AH)
 |[v],H=>((view H v).bind p1).map λbs=>(.bool (bs.all id),H)
 |_,_=>Z6
noncomputable def BP(H:AH)(v:V)(i:Int):Option V:=match v with
 |.str s=>(vZ s.length i).bind λj=>s[j]?.map λc=>.str [c]
 |.tup vs=>(vZ vs.length i).bind λj=>vs[j]?
 |v=>(view H v).bind λvs=>(vZ vs.length i).bind λj=>vs[j]?
noncomputable def LC(H:AH)(v i:V):Option V:=match i with
 |.int i=>BP H v i
 |.str k=>(kr H v).bind λd=>gx k d.1 d.2
 |_=>Z6
noncomputable def GR:List V->AH->Option (V×AH)
 |[v,i],H=>(LC H v i).map (·,H)
 |_,_=>Z6
noncomputable def sL(H:AH)(v:V)(lo hi:Option Int):Option V:=match v with
 |.str s=>if s.length<=aB then Z (.str (bE s (nB s.length lo) (oZ s.length hi)))else Z6
 |.tup s=>if s.length<=aB then Z (.tup (bE s (nB s.length lo) (oZ s.length hi)))else Z6
 |v=>(view H v).bind λs=>if s.length<=aB then Z (.lst (bE s (nB s.length lo) (oZ s.length hi)))else Z6
noncomputable def vT:List V->AH->Option (V×AH)
 |[v,a,b],H=>(gA a).bind λlo=>(gA b).bind λhi=>(sL H v lo hi).map (·,H)
 |_,_=>Z6
noncomputable def Ol:List V->AH->Option (V×AH)
 |[v,w],H=>w.num.bind λi=>if i=-1 then(view H v).bind λs=>if s.length<=aB then Z (.lst s.reverse,H)else Z6 else Z6
 |_,_=>Z6
noncomputable def xP(vs:List V)(H:AH):Option (V×AH):=if vs.length<=aB then Z (.lst vs,H)else Z6
noncomputable def Bl(vs:List V)(H:AH):Option (V×AH):=if vs.length<=aB then Z (.tup vs,H)else Z6
noncomputable def tF(ks:List (List Char))(vs:List V)(H:AH):Option (V×AH):=if ks.length=vs.length/\ks.length<=15/\ks.Nodup then Z (.dct ks vs,H)else Z6
noncomputable def BR:List V->AH->Option (V×AH)
 |[k,v],H=>k.txt.map λk=>(.dct [k] [v],H)
 |_,_=>Z6
noncomputable def V.at:V->Option Nat
 |.ref i=>Z i
 |_=>mj
noncomputable def sA(H:AH)(v:V):Option (Nat×List V):=v.at.bind λi=>(H[i]?.bind O.lst).bind λvs=>Z (i,vs)
noncomputable def yr:List V->AH->Option (V×AH)
 |[v,x],H=>(sA H v).bind λp=>if p.2.length<=aB then Z (.none,H.set p.1 (.list (p.2++[x])))else Z6
 |_,_=>Z6
noncomputable def Lf:List V->AH->Option (V×AH)
 |[v],H=>(sA H v).bind λp=>if p.2.length<=aB then p.2.getLast?.map λx=>(x,H.set p.1 (.list p.2.dropLast))else Z6
 |_,_=>Z6
noncomputable def Hm:List V->AH->Option (V×AH)
 |[v,w],H=>(sA H v).bind λp=>w.num.bind λn=>if n=0/\p.2.length<=aB then p.2.head?.map λx=>(x,H.set p.1 (.list p.2.tail))else Z6
 |_,_=>Z6
noncomputable def xQ:List V->AH->Option (V×AH)
 |[v,w],H=>(sA H v).bind λp=>(view H w).bind λys=>if p.2.length+ys.length<=aB then Z (.none,H.set p.1 (.list (p.2++ys)))else Z6
 |_,_=>Z6
noncomputable def V.tpl:V->Option (List V)
 |.tup vs=>Z vs
 |_=>mj
noncomputable def DD:List V->AH->Option (V×AH)
 |[v,x],H=>v.tpl.bind λvs=>(rd H x).bind λx'=>if re vs=Z5 then(vs.findIdx? λy=>fZ y x').map λ(k:Nat)=>(V.int k,H)else Z6
 |_,_=>Z6
noncomputable def yN:List V->AH->Option (V×AH)
 |[v,x],H=>(view H v).bind λvs=>(rd H x).bind λx'=>if re vs=Z5 then(vs.findIdx? λy=>fZ y x').map λ(k:Nat)=>(V.int k,H)else Z6
 |_,_=>Z6
noncomputable def Qu:List V->AH->Option (V×AH)
 |[.lst [x],.int n],H=>if 0<=n/\n<=1000 then Z (.lst (bW n.toNat x),H)else Z6
 |_,_=>Z6
noncomputable def Bk(H:AH)(v:V):Option (Nat×(List (List Char)×List V)):=v.at.bind λi=>(H[i]?.bind O.dct).bind λd=>Z (i,d)
noncomputable def GZ:List V->AH->Option (V×AH)
 |[v,w],H=>(Bk H v).bind λp=>w.txt.bind λk=>if p.2.1.length<=aB then(gx k p.2.1 p.2.2).map λx=>(x,H.set p.1 (.dict (mw k p.2.1 p.2.2).1 (mw k p.2.1 p.2.2).2))else Z6
 |_,_=>Z6
noncomputable def O.ins:O->Option Nat
 |.inst c d=>if c=0 then Z d else Z6
 |_=>Z6
noncomputable def O.nms:O->Option (List (List Char)×List V)
 |.ns ks vs=>Z (ks,vs)
 |_=>Z6
noncomputable def gU(H:AH)(v:V):Option (Nat×(List (List Char)×List V)):=v.at.bind λi=>(H[i]?.bind O.ins).bind λd=>(H[d]?.bind O.nms).map λq=>(d,q)
noncomputable def Hp(n:List Char):List V->AH->Option (V×AH)
 |[v],H=>(gU H v).bind λq=>(gx n q.2.1 q.2.2).map (·,H)
 |_,_=>Z6
noncomputable def prim(P:Prog):Prim->List V->AH->Option (V×AH)
 |.bop o=>Ov o
 |.cop o=>Pq o
 |.not=>Qy
 |.neg=>PF
 |.len=>ML
 |.s t=>xF t
 |.isX j=>QL P j
 |.range1=>xx
 |.range2=>yq
 |.list=>AR
 |.str=>Ld
 |.int=>Jz
 |.min=>Nb
 |.all=>NG
 |.i=>GR
 |.slice=>vT
 |.rev=>Ol
 |.l=>xP
 |.t=>Bl
 |.d ks=>tF ks
 |.mkdict1=>BR
 |.append=>yr
 |.pop=>Lf
 |.pop0=>Hm
 |.extend=>xQ
 |.index=>DD
 |.dpop=>GZ
 |.lindex=>yN
 |.rep=>Qu
 |.upper=>BU
 |.a n=>Hp n
noncomputable def kF:V->AH->Option (V×AH)
 |.lst vs,H=>Z (.ref H.length,H++[.list vs])
 |.dct ks vs,H=>Z (.ref H.length,H++[.dict ks vs])
 |_,_=>Z6
noncomputable def lF(H:AH)(v:V)(t:Mt):Bool:=match t with
 |.str=>v.txt.isSome
 |.list=>(view H v).isSome
 |.dict=>(kr H v).isSome
 |.tup _=>v.tpl.isSome
noncomputable def iI(H:AH)(_k:Nat)(name:List Char)(v:V):Bool:=(gU H v).any λq=>!q.2.1.contains name
noncomputable def bj(P:Prog)(mu:Bool)(p:Prim)(vs:List V)(H:AH):Option (V×AH):=
 if mu then(if p.fresh then(prim P p vs H).bind λr=>kF r.1 r.2 else Z6)else prim P p vs H
abbrev QE:=V->AH->Prop
abbrev XE:=Nat->AH->Prop
abbrev Calls:=Nat->List V->AH->QE->XE->Prop
def iT(r:Option (V×AH))(Q:QE):Prop:=match r with|some (v,H)=>Q v H|none=>False
def o9(r:Option Bool)(K:Bool->Prop):Prop:=match r with|some b=>K b|none=>False
def lE(F:V->AH->(Option V->AH->Prop)->Prop)(ok:AH->Prop):List V->List V->AH->(List V->AH->Prop)->Prop
 |[],acc,H,Q=>ok H/\Q acc H
 |v::vs,acc,H,Q=>ok H/\F v H λr H'=>lE F ok vs (match r with|some x=>acc++[x]|none=>acc) H' Q
mutual
def cW(P:Prog)(C:Calls):Ex->Fm->AH->QE->XE->Prop
 |.c v,_,H,Q,_=>Q v H
 |.v i,ρ,H,Q,_=>match ρ[i]? with|some (Z v)=>Q v H|_=>False
 |.p mu p args,ρ,H,Q,X=>iE P C args ρ H (λvs H'=>iT (bj P mu p vs H') Q) X
 |.and a b,ρ,H,Q,X=>cW P C a ρ H (λv H'=>o9 (gF v) λt=>if t then cW P C b ρ H' Q X else Q (.bool t) H') X
 |.or a b,ρ,H,Q,X=>cW P C a ρ H (λv H'=>o9 (gF v) λt=>if !t then cW P C b ρ H' Q X else Q (.bool t) H') X
 |.cmp2 a o₁ b o₂ c,ρ,H,Q,X=>cW P C a ρ H (λx H₁=>cW P C b ρ H₁ (λy H₂=>o9 (ny o₁ x y H₂) λt=>if t then cW P C c ρ H₂ (λz H₃=>o9 (ny o₂ y z H₃) λt'=>Q (.bool t') H₃) X else Q (.bool J) H₂) X) X
 |.call f args,ρ,H,Q,X=>iE P C args ρ H (λvs H'=>C f vs H' Q X) X
 |.m k f name o args,ρ,H,Q,X=>cW P C o ρ H (λv H₁=>iI H₁ k name v=Z5/\iE P C args ρ H₁ (λvs H'=>C f (v::vs) H' Q X) X) X
 |.n t mu p o args,ρ,H,Q,X=>cW P C o ρ H (λv H₁=>lF H₁ v t=Z5/\iE P C args ρ H₁ (λvs H'=>iT (bj P mu p (v::vs) H') Q) X) X
 |.new c f args,ρ,H,Q,X=>iE P C args ρ H (λvs H'=>C f (.ref (H'.length+1)::vs) (H'++[.ns [] [],.inst c H'.length]) (λv H''=>v=.none/\Q (.ref (H'.length+1)) H'') X) X
 |.comp mu elt it cond,ρ,H,Q,X=>cW P C it ρ H (λv H₁=>∃items,rE H₁ v=Z items/\items.length<=aB/\
   lE (λx H' K=>match cond with
     |none=>cW P C elt (ρ++[Z x]) H' (λy H''=>K (Z y) H'') X
     |some c=>cW P C c (ρ++[Z x]) H' (λb H₂=>o9 (gF b) λt=>if t then cW P C elt (ρ++[Z x]) H₂ (λy H''=>K (Z y) H'') X else K Z6 H₂) X)
    (λH'=>rE H' v=Z items) items [] H₁ (λys H₂=>iT (if mu then kF (.lst ys) H₂ else Z (.lst ys,H₂)) Q)) X
def iE(P:Prog)(C:Calls):List Ex->Fm->AH->(List V->AH->Prop)->XE->Prop
 |[],_,H,Q,_=>Q [] H
 |e::es,ρ,H,Q,X=>cW P C e ρ H (λv H'=>iE P C es ρ H' (λvs H''=>Q (v::vs) H'') X) X
end
noncomputable def gz(ρ:Fm):Nat ⊕ List Nat->V->Option Fm
 |.inl i,v=>Z (ρ.set i (Z v))
 |.inr is,.tup vs=>if is.length=vs.length then Z ((is.zip vs).foldl (λρ p=>ρ.set p.1 (Z p.2)) ρ)else Z6
 |_,_=>Z6
abbrev KS:=Fm->AH->Prop
def ri(F:V->Fm->AH->KS->Prop)(ok:AH->Prop):List V->Fm->AH->KS->Prop
 |[],ρ,H,K=>ok H/\K ρ H
 |v::vs,ρ,H,K=>ok H/\F v ρ H λρ' H'=>ri F ok vs ρ' H' K
def mU(F:Fm->AH->KS->KS->Prop):Nat->Fm->AH->KS->Prop
 |0,_,_,_=>False
 |k+1,ρ,H,K=>F ρ H (λρ' H'=>mU F k ρ' H' K) K
noncomputable def CQ(r:Nat)(k:List Char)(x:V)(H:AH)(o:Option O):Option AH:=match o with
 |some (.dict ks vs)=>if ks.length<=aB then Z (H.set r (.dict (eQ k x ks vs).1 (eQ k x ks vs).2))else Z6
 |_=>Z6
noncomputable def IB(r:Nat)(i:Int)(x:V)(H:AH)(o:Option O):Option AH:=match o with
 |some (.list vs)=>if 0<=i/\i<vs.length then Z (H.set r (.list (vs.set i.toNat x)))else Z6
 |_=>Z6
noncomputable def eX(o i x:V)(H:AH):Option AH:=match o with
 |.ref r=>(match i with
  |.str k=>CQ r k x H H[r]?
  |.int k=>IB r k x H H[r]?
  |_=>Z6)
 |_=>Z6
noncomputable def iQ(o:V)(n:List Char)(x:V)(H:AH):Option AH:=
 (gU H o).bind λq=>if q.2.1.length<=1000 then Z (H.set q.1 (.ns (eQ n x q.2.1 q.2.2).1 (eQ n x q.2.1 q.2.2).2))else Z6
noncomputable def hdV:Bool->V
 |true=>.lst []
 |false=>.none
mutual
def vq(P:Prog)(C:Calls):St->Fm->AH->KS->QE->XE->Prop
 |.a i e,ρ,H,K,_,X=>cW P C e ρ H (λv H'=>i<ρ.length/\K (ρ.set i (Z v)) H') X
 |.asgTup is e,ρ,H,K,_,X=>cW P C e ρ H (λv H'=>match gz ρ (.inr is) v with|some ρ'=>K ρ' H'|none=>False) X
 |.s o i e,ρ,H,K,_,X=>cW P C e ρ H (λx H₁=>cW P C o ρ H₁ (λov H₂=>cW P C i ρ H₂ (λiv H₃=>match eX ov iv x H₃ with|some H'=>K ρ H'|none=>False) X) X) X
 |.setAttr o n e,ρ,H,K,_,X=>cW P C e ρ H (λx H₁=>cW P C o ρ H₁ (λov H₂=>match iQ ov n x H₂ with|some H'=>K ρ H'|none=>False) X) X
 |.e e,ρ,H,K,_,X=>cW P C e ρ H (λ_ H'=>K ρ H') X
 |.ite c a b,ρ,H,K,R,X=>cW P C c ρ H (λv H'=>o9 (gF v) λt=>if t then bk P C a ρ H' K R X else bk P C b ρ H' K R X) X
 |.f rev tgt e body,ρ,H,K,R,X=>cW P C e ρ H (λv H₁=>∃items,j2 rev H₁ v=Z items/\items.length<=aB/\
   ri (λx ρ' H' K'=>match gz ρ' tgt x with|some ρ''=>bk P C body ρ'' H' K' R (λ_ _=>False)|none=>False)
    (λH'=>j2 rev H' v=Z items) items ρ H₁ K) X
 |.while_ c body,ρ,H,K,R,X=>∃k,mU (λρ' H' K₁ K₂=>cW P C c ρ' H' (λv H''=>o9 (gF v) λt=>if t then bk P C body ρ' H'' K₁ R (λ_ _=>False)else K₂ ρ' H'') (λ_ _=>False)) k ρ H K
 |.ret e,ρ,H,_,R,X=>cW P C e ρ H R X
 |.raise c,_,H,_,_,X=>X c H
 |.try_ body cls e,ρ,H,K,R,X=>bk P C body ρ H K R (λc H'=>(P.sub c c&&P.sub c cls)=Z5/\R (hdV e) H')
 |.tryE e cls i h,ρ,H,K,R,X=>cW P C e ρ H (λ_ H'=>K ρ H') (λc H'=>(P.sub c c&&P.sub c cls)=Z5/\cW P C h (ρ.set i (Z (.exc c))) H' R (λ_ _=>False))
 |.pass,ρ,H,K,_,_=>K ρ H
def bk(P:Prog)(C:Calls):List St->Fm->AH->KS->QE->XE->Prop
 |[],ρ,H,K,_,_=>K ρ H
 |s::ss,ρ,H,K,R,X=>vq P C s ρ H (λρ' H'=>bk P C ss ρ' H' K R X) R X
end
abbrev Oa(_:AH)(Q:QE)(v:V)(H':AH):Prop:=Q v H'
abbrev Mf(_:AH)(X:XE)(c:Nat)(H':AH):Prop:=X c H'
noncomputable def aO(P:Prog):Nat->Calls
 |0,_,_,_,_,_=>False
 |n+1,f,args,H,Q,X=>match P.fns f with
  |some fn=>args.length=fn.arity/\
    bk P (aO P n) fn.body (args.map Z++bW fn.extra Z6) H (λ_ H'=>Oa H Q .none H') (λv H'=>Oa H Q v H') (Mf H X)
  |none=>False
theorem FF:cW P C (.c v) ρ H Q X=Q v H:=rfl
theorem yh:cW P C (.v i) ρ H Q X=match ρ[i]? with|some (Z v)=>Q v H|_=>False:=rfl
theorem iL:cW P C (.p mu p args) ρ H Q X=iE P C args ρ H (λvs H'=>iT (bj P mu p vs H') Q) X:=rfl
theorem C5:cW P C (.m k f name o args) ρ H Q X=cW P C o ρ H (λv H₁=>iI H₁ k name v=Z5/\iE P C args ρ H₁ (λvs H'=>C f (v::vs) H' Q X) X) X:=rfl
theorem zq:cW P C (.n t mu p o args) ρ H Q X=cW P C o ρ H (λv H₁=>lF H₁ v t=Z5/\iE P C args ρ H₁ (λvs H'=>iT (bj P mu p (v::vs) H') Q) X) X:=rfl
theorem FN:cW P C (.new c f args) ρ H Q X=iE P C args ρ H (λvs H'=>C f (.ref (H'.length+1)::vs) (H'++[.ns [] [],.inst c H'.length]) (λv H''=>v=.none/\Q (.ref (H'.length+1)) H'') X) X:=rfl
theorem Bn:cW P C (.comp mu elt it Z6) ρ H Q X=cW P C it ρ H (λv H₁=>∃items,rE H₁ v=Z items/\items.length<=aB/\
   lE (λx H' K=>cW P C elt (ρ++[Z x]) H' (λy H''=>K (Z y) H'') X)
    (λH'=>rE H' v=Z items) items [] H₁ (λys H₂=>iT (if mu then kF (.lst ys) H₂ else Z (.lst ys,H₂)) Q)) X:=rfl
theorem wE:cW P C (.comp mu elt it (Z c)) ρ H Q X=cW P C it ρ H (λv H₁=>∃items,rE H₁ v=Z items/\items.length<=aB/\
   lE (λx H' K=>cW P C c (ρ++[Z x]) H' (λb H₂=>o9 (gF b) λt=>if t then cW P C elt (ρ++[Z x]) H₂ (λy H''=>K (Z y) H'') X else K Z6 H₂) X)
    (λH'=>rE H' v=Z items) items [] H₁ (λys H₂=>iT (if mu then kF (.lst ys) H₂ else Z (.lst ys,H₂)) Q)) X:=rfl
theorem jk{Q:List V->AH->Prop}:iE P C [] ρ H Q X=Q [] H:=rfl
theorem gj{Q:List V->AH->Prop}:iE P C (e::es) ρ H Q X=cW P C e ρ H (λv H'=>iE P C es ρ H' (λvs H''=>Q (v::vs) H'') X) X:=rfl
theorem Eu:vq P C (.a i e) ρ H K R X=cW P C e ρ H (λv H'=>i<ρ.length/\K (ρ.set i (Z v)) H') X:=rfl
theorem wj:vq P C (.asgTup is e) ρ H K R X=cW P C e ρ H (λv H'=>match gz ρ (.inr is) v with|some ρ'=>K ρ' H'|none=>False) X:=rfl
theorem uP:vq P C (.s o i e) ρ H K R X=cW P C e ρ H (λx H₁=>cW P C o ρ H₁ (λov H₂=>cW P C i ρ H₂ (λiv H₃=>match eX ov iv x H₃ with|some H'=>K ρ H'|none=>False) X) X) X:=rfl
theorem vA:vq P C (.setAttr o n e) ρ H K R X=cW P C e ρ H (λx H₁=>cW P C o ρ H₁ (λov H₂=>match iQ ov n x H₂ with|some H'=>K ρ H'|none=>False) X) X:=rfl
theorem CV:vq P C (.e e) ρ H K R X=cW P C e ρ H (λ_ H'=>K ρ H') X:=rfl
theorem FA:vq P C (.ite c a b) ρ H K R X=cW P C c ρ H (λv H'=>o9 (gF v) λt=>if t then bk P C a ρ H' K R X else bk P C b ρ H' K R X) X:=rfl
theorem zS:vq P C (.f rev tgt e body) ρ H K R X=cW P C e ρ H (λv H₁=>∃items,j2 rev H₁ v=Z items/\items.length<=aB/\
   ri (λx ρ' H' K'=>match gz ρ' tgt x with|some ρ''=>bk P C body ρ'' H' K' R (λ_ _=>False)|none=>False)
    (λH'=>j2 rev H' v=Z items) items ρ H₁ K) X:=rfl
theorem zT:vq P C (.while_ c body) ρ H K R X=∃k,mU (λρ' H' K₁ K₂=>cW P C c ρ' H' (λv H''=>o9 (gF v) λt=>if t then bk P C body ρ' H'' K₁ R (λ_ _=>False)else K₂ ρ' H'') (λ_ _=>False)) k ρ H K:=rfl
theorem yZ:vq P C (.ret e) ρ H K R X=cW P C e ρ H R X:=rfl
theorem zU:vq P C (.raise c) ρ H K R X=X c H:=rfl
theorem sf:bk P C (s::ss) ρ H K R X=vq P C s ρ H (λρ' H'=>bk P C ss ρ' H' K R X) R X:=rfl
theorem mZ:aO P (n+1) f args H Q X=match P.fns f with
  |some fn=>args.length=fn.arity/\
    bk P (aO P n) fn.body (args.map Z++bW fn.extra Z6) H (λ_ H'=>Oa H Q .none H') (λv H'=>Oa H Q v H') (Mf H X)
  |none=>False:=rfl
end Mine
end
noncomputable section
namespace Mine
end Mine
end
noncomputable section
namespace Mine
open PySem PySem.Calls PyProof.Rows
abbrev d6:=List ZZ
abbrev HP:=PySem.Heap
structure Cx where
 prog:ZY
 w:World
 base:HP
 mg:Str->Option ZX
 mb:Str->Option ZX
 P:Prog
 os:OsState
 fad:Nat->ZZ
 fdat:Nat->FuncData
 xcls:Nat->ZZ
 ccls:Nat->ZZ
 qf:Nat->Bool
noncomputable def li:Nat:=2 ^ 40
noncomputable abbrev Cx.M(c:Cx):Model:=model c.prog c.w
noncomputable abbrev Cx.kd(c:Cx):KeyKind c.prog c.w Str:=strKind c.prog c.w
noncomputable def toS(s:List Char):Str:=⟨(s.map Char.toNat).toArray⟩
theorem jH(h:toS a=toS b):a=b:=by
 haveI h1:(a.map Char.toNat)=b.map Char.toNat:=by
  haveI:=Z4 (λx:Str=>x.cps.toList) h
  simpa [toS] using this
 exact(List.map_inj_right (λx y e=>Char.toNat_inj.mp e)).mp h1
theorem eS{α:Type}{p:Prop}[Decidable p]{a:Option α}{x:α}(h:(if p then a else Z6)=Z x):p/\a=Z x:=by
 by_cases hp:p
 ·rw [Z3 hp]at h;exact⟨hp,h⟩
 ·rw [Z2 hp]at h;exact eU h
theorem c9{α:Type}{p:Prop}[Decidable p]{a x:α}(h:(if p then Z a else Z6)=Z x):p/\a=x:=by haveI h:=eS h;exact⟨h.1,ai h.2⟩
theorem cm{α β:Type}{o:Option α}{f:α->Option β}{x:β}(h:o.bind f=Z x):∃a,o=Z a/\f a=Z x:=by
 induction o with
 |none=>exact eU h
 |some a=>exact(aG a U h)
theorem ez{α β:Type}{o:Option α}{f:α->β}{x:β}(h:o.map f=Z x):∃a,o=Z a/\f a=x:=by
 induction o with
 |none=>cases h
 |some a=>exact(aG a U (ai h))
theorem O.lst_i(o:O):Is (o.lst) λvs=>o=.list vs:=by induction o<;>first|exact U|exact Z0
theorem O.dct_i(o:O):Is (o.dct) λd=>o=.dict d.1 d.2:=by induction o<;>first|exact U|exact Z0
theorem V.txt_i(v:V):Is (v.txt) λs=>v=.str s:=by cases v<;>first|exact U|exact Z0
theorem V.txt_is{v:V}{s:List Char}(h:v.txt=Z s):v=.str s:=(V.txt_i _).of h
theorem V.num_i(v:V):Is (v.num) λi=>v=.int i:=by cases v<;>first|exact U|exact Z0
theorem V.num_is{v:V}{i:Int}(h:v.num=Z i):v=.int i:=(V.num_i _).of h
theorem V.at_i(v:V):Is (v.at) λi=>v=.ref i:=by cases v<;>first|exact U|exact Z0
theorem D7(H:AH)(v:V):Is (sA H v) λp=>v=.ref p.1/\H[p.1]? =Z (.list p.2):=
 (V.at_i v).bind λi h1=>(Is.self.bind λo h3=>(O.lst_i o).imp (R':=λvs=>H[i]? =Z (.list vs)) λ_ h4=>h4▸h3).bind λ_ h5=>⟨h1,h5⟩
theorem ng(h:sA H v=Z p):v=.ref p.1/\H[p.1]? =Z (.list p.2):=(D7 H v).of h
inductive VwR(H:AH)(vs:List V):V->Prop
 |lst:VwR H vs (.lst vs)
 |ref {i:Nat}:H[i]? =Z (.list vs)->VwR H vs (.ref i)
theorem ID(H:AH)(v:V):Is (view H v) λvs=>VwR H vs v:=by
 cases v with
 |lst ws=>exact .lst
 |ref i=>exact Is.self.bind λo h1=>(O.lst_i o).imp λ_ h2=>.ref (h2▸h1)
 |_=>exact Z0
theorem EU(h:view H v=Z vs):VwR H vs v:=(ID H v).of h
inductive DwR(H:AH)(d:List (List Char)×List V):V->Prop
 |dct:DwR H d (.dct d.1 d.2)
 |ref {i:Nat}:H[i]? =Z (.dict d.1 d.2)->DwR H d (.ref i)
theorem Em(H:AH)(v:V):Is (kr H v) λd=>DwR H d v:=by
 cases v with
 |dct ks ws=>exact .dct
 |ref i=>exact Is.self.bind λo h1=>(O.dct_i o).imp λ_ h2=>.ref (h2▸h1)
 |_=>exact Z0
theorem Bf(h:kr H v=Z d):DwR H d v:=(Em H v).of h
inductive A2{α β:Type}(R:α->β->Prop):List α->List β->Prop
 |nil:A2 R [] []
 |cons {a:α} {l:List α} {b:β} {m:List β}:R a b->A2 R l m->A2 R (a::l) (b::m)
inductive VR(c:Cx)(as:d6)(X:List ZZ)(h:HP):V->ZX->Prop
 |none:VR c as X h .none .none
 |bool b:VR c as X h (.bool b) (.bool b)
 |int i t:VR c as X h (.int i) (.int i t)
 |str s t:s.length<=li->VR c as X h (.str s) (.str (toS s) t)
 |tup {a:ZZ} {items:Array ZX} {n:Nat} {vs:List V}:a∉as->a∉X->h.get? a=Z {cls:=.type "tuple",data:=.seq items n}->A2 (VR c as X h) vs items.toList->vs.length<=li->VR c as X h (.tup vs) (.ref a)
 |lst {a:ZZ} {items:Array ZX} {vs:List V}:a∉as->a∉X->h.PlainList a items->A2 (VR c as X h) vs items.toList->vs.length<=li->VR c as X h (.lst vs) (.ref a)
 |dct {a:ZZ} {ks:List (List Char)} {vs:List V} {cs:List ZX}:a∉as->a∉X->(a==ZW)=J->h.DictOf c.kd a ((ks.map toS).zip cs)->ks.length=cs.length->A2 (VR c as X h) vs cs->vs.length<=li->VR c as X h (.dct ks vs) (.ref a)
 |rng {r:ZZ} {a b:Int} {t₀ t₁ t₂:Tok}:r∉as->r∉X->IsRange h r a b 1 t₀ t₁ t₂->bY a=Z5->bY b=Z5->VR c as X h (.rng a b) (.ref r)
 |ref {i:Nat} {a:ZZ}:as[i]? =Z a->VR c as X h (.ref i) (.ref a)
 |exc {a:ZZ} {k:Nat} {o:Obj} {vs:Array ZX}:a∉as->a∉X->h.get? a=Z o->o.cls=.ref (c.xcls k)->o.data=.fields vs->vs[2]? =Z .none->VR c as X h (.exc k) (.ref a)
abbrev VRs(c:Cx)(as:d6)(X:List ZZ)(h:HP):List V->List ZX->Prop:=A2 (VR c as X h)
inductive StrR(s:List Char):ZX->Prop
 |str (t:Tok):s.length<=li->StrR s (.str (toS s) t)
inductive IntR(i:Int):ZX->Prop
 |int (t:Tok):IntR i (.int i t)
inductive TupR(c:Cx)(as:d6)(X:List ZZ)(h:HP)(vs:List V):ZX->Prop
 |tup {a:ZZ} {items:Array ZX} {n:Nat}:a∉as->a∉X->h.get? a=Z {cls:=.type "tuple",data:=.seq items n}->VRs c as X h vs items.toList->vs.length<=li->TupR c as X h vs (.ref a)
inductive LstR(c:Cx)(as:d6)(X:List ZZ)(h:HP)(vs:List V):ZX->Prop
 |lst {a:ZZ} {items:Array ZX}:a∉as->a∉X->h.PlainList a items->VRs c as X h vs items.toList->vs.length<=li->LstR c as X h vs (.ref a)
inductive DctR(c:Cx)(as:d6)(X:List ZZ)(h:HP)(ks:List (List Char))(vs:List V):ZX->Prop
 |dct {a:ZZ} {cs:List ZX}:a∉as->a∉X->(a==ZW)=J->h.DictOf c.kd a ((ks.map toS).zip cs)->ks.length=cs.length->VRs c as X h vs cs->vs.length<=li->DctR c as X h ks vs (.ref a)
inductive RngR(as:d6)(X:List ZZ)(h:HP)(a b:Int):ZX->Prop
 |rng {r:ZZ} {t₀ t₁ t₂:Tok}:r∉as->r∉X->IsRange h r a b 1 t₀ t₁ t₂->bY a=Z5->bY b=Z5->RngR as X h a b (.ref r)
inductive RefR(as:d6)(i:Nat):ZX->Prop
 |ref {a:ZZ}:as[i]? =Z a->RefR as i (.ref a)
inductive ExcR(c:Cx)(as:d6)(X:List ZZ)(h:HP)(k:Nat):ZX->Prop
 |exc {a:ZZ} {o:Obj} {vs:Array ZX}:a∉as->a∉X->h.get? a=Z o->o.cls=.ref (c.xcls k)->o.data=.fields vs->vs[2]? =Z .none->ExcR c as X h k (.ref a)
def VI(c:Cx)(as:d6)(X:List ZZ)(h:HP)(v:V)(cv:ZX):Prop:=match v with
 |.none=>cv=.none
 |.bool b=>cv=.bool b
 |.int i=>IntR i cv
 |.str s=>StrR s cv
 |.tup vs=>TupR c as X h vs cv
 |.lst vs=>LstR c as X h vs cv
 |.dct ks vs=>DctR c as X h ks vs cv
 |.rng a b=>RngR as X h a b cv
 |.ref i=>RefR as i cv
 |.exc k=>ExcR c as X h k cv
theorem VR.inv(r:VR c as X h v cv):VI c as X h v cv:=by
 cases r with
 |none=>exact U
 |bool b=>exact U
 |int i t=>exact .int t
 |str s t hb=>exact .str t hb
 |tup h1 h2 h3 h4 h5=>exact .tup h1 h2 h3 h4 h5
 |lst h1 h2 h3 h4 h5=>exact .lst h1 h2 h3 h4 h5
 |dct h1 h2 h3 h4 h5 h6 h7=>exact .dct h1 h2 h3 h4 h5 h6 h7
 |rng h1 h2 h3 h4 h5=>exact .rng h1 h2 h3 h4 h5
 |ref h1=>exact .ref h1
 |exc h1 h2 h3 h4 h5 h6=>exact .exc h1 h2 h3 h4 h5 h6
theorem VRs.all(r:VRs c as X h vs cs)(R:List V->List ZX->Prop)(hn:R [] [])(hc:∀v x vs cs,VR c as X h v x->R vs cs->R (v::vs) (x::cs)):R vs cs:=
 A2.rec (motive:=λvs cs _=>R vs cs) hn (λa _ ih=>hc _ _ _ _ a ih) r
theorem VRs.length{vs:List V}{cs:List ZX}(r:VRs c as X h vs cs):vs.length=cs.length:=r.all (λvs cs=>vs.length=cs.length) U λ_ _ _ _ _ ih=>Z4 (·+1) ih
theorem VRs.get{vs:List V}{cs:List ZX}{j:Nat}{v:V}(r:VRs c as X h vs cs):vs[j]? =Z v->∃x,cs[j]? =Z x/\VR c as X h v x:=
 r.all (λvs cs=>∀j:Nat,vs[j]? =Z v->∃x,cs[j]? =Z x/\VR c as X h v x) (λ_ e=>eU e) (λ_ _ _ _ a ih j=>j.rec (λe=>(aG _ U (ai e▸a))) λj _ e=>ih j e) j
theorem VRs.get'{vs:List V}{cs:List ZX}{j:Nat}{x:ZX}(r:VRs c as X h vs cs):cs[j]? =Z x->∃v,vs[j]? =Z v/\VR c as X h v x:=
 r.all (λvs cs=>∀j:Nat,cs[j]? =Z x->∃v,vs[j]? =Z v/\VR c as X h v x) (λ_ e=>eU e) (λ_ _ _ _ a ih j=>j.rec (λe=>(aG _ U (ai e▸a))) λj _ e=>ih j e) j
theorem VRs.append{vs ws:List V}{cs ds:List ZX}(r:VRs c as X h vs cs)(k:VRs c as X h ws ds):VRs c as X h (vs++ws) (cs++ds):=r.all (λvs cs=>VRs c as X h (vs++ws) (cs++ds)) k λ_ _ _ _ a ih=>.cons a ih
theorem VRs.take{vs:List V}{cs:List ZX}(n:Nat)(r:VRs c as X h vs cs):VRs c as X h (vs.take n) (cs.take n):=
 r.all (λvs cs=>∀n,VRs c as X h (vs.take n) (cs.take n)) (λn=>n.rec .nil λ_ _=>.nil) (λ_ _ _ _ a ih n=>n.rec .nil λn _=>.cons a (ih n)) n
theorem VRs.drop{vs:List V}{cs:List ZX}(n:Nat)(r:VRs c as X h vs cs):VRs c as X h (vs.drop n) (cs.drop n):=
 (r.all (λvs cs=>VRs c as X h vs cs/\∀n,VRs c as X h (vs.drop n) (cs.drop n)) ⟨.nil,λn=>n.rec .nil λ_ _=>.nil⟩ λ_ _ _ _ a ih=>⟨.cons a ih.1,λn=>n.rec (.cons a ih.1) λn _=>ih.2 n⟩).2 n
theorem VRs.reverse{vs:List V}{cs:List ZX}(r:VRs c as X h vs cs):VRs c as X h vs.reverse cs.reverse:=
 r.all (λvs cs=>VRs c as X h vs.reverse cs.reverse) .nil λ_ _ _ _ a ih=>by exact YP Oe (YP Oe (ih.append (.cons a .nil)))
theorem VRs.set{vs:List V}{cs:List ZX}{v:V}{x:ZX}(n:Nat)(r:VRs c as X h vs cs)(k:VR c as X h v x):VRs c as X h (vs.set n v) (cs.set n x):=
 (r.all (λvs cs=>VRs c as X h vs cs/\∀n,VRs c as X h (vs.set n v) (cs.set n x)) ⟨.nil,λn=>n.rec .nil λ_ _=>.nil⟩ λ_ _ _ _ a ih=>⟨.cons a ih.1,λn=>n.rec (.cons k ih.1) λn _=>.cons a (ih.2 n)⟩).2 n
theorem VRs.replicate(k:VR c as X h v x):∀n:Nat,VRs c as X h (bW n v) (bW n x)
 |0=>.nil
 |n+1=>by simp only [qT];exact .cons k (VRs.replicate k n)
/- a frame stands twice in X -/
def SameO(X:List ZZ)(b:ZZ)(o o':Obj):Prop:=o'=o\/(2<=X.count b/\(∃es n,o.data=.dict es n)/\∃sl,o'={o with slots:=sl})
theorem SameO.trans(x:SameO X b o₁ o₂)(y:SameO X b o₂ o₃):SameO X b o₁ o₃:=by
 rcases x with rfl|⟨h1,h2,sl,rfl⟩
 ·exact y
 ·rcases y with rfl|⟨_,_,sl',rfl⟩
  ·exact .inr (bu h1 h2 ⟨sl,rfl⟩)
  ·exact .inr (bu h1 h2 ⟨sl',rfl⟩)
theorem SameO.eq(x:SameO X b o o')(h:∀es n,o.data≠.dict es n):o'=o:=by
 refine Or.elim x (λe=>?_) (λq_=>?_)
 ·exact e
 ·obtain ⟨_,⟨es,n,h1⟩,_⟩:=q_;exact Z1 h1 (h es n)
theorem SameO.out(x:SameO X b o o')(h:b∉X):o'=o:=by
 refine Or.elim x (λe=>?_) (λq_=>?_)
 ·exact e
 ·(haveI h1:=q_.1;haveI _:=q_.2);replace h1:=(jV h)▸h1;cases h1
theorem SameO.mono(x:SameO X b o o')(h:2<=X.count b->2<=Y.count b):SameO Y b o o':=x.imp id λq=>⟨h q.1,q.2⟩
def Kept(as:d6)(X:List ZZ)(h h':HP):Prop:=∀b o,h.get? b=Z o->b∉as->∃o',h'.get? b=Z o'/\SameO X b o o'
theorem Kept.refl(as:d6)(X:List ZZ)(h:HP):Kept as X h h:=λ_ o e _=>(aG o e (.inl U))
def KeptX(as:d6)(X Y:List ZZ)(h h':HP):Prop:=∀b o,h.get? b=Z o->b∉as->b∉Y->∃o',h'.get? b=Z o'/\SameO X b o o'
def VK(as:d6)(X:List ZZ)(h h':HP):Prop:=∀b o,h.get? b=Z o->b∉as->b∉X->h'.get? b=Z o
theorem Kept.y(k:Kept as X h h')(Y:List ZZ):KeptX as X Y h h':=λb o e hb _=>k b o e hb
theorem Kept.x(k:Kept as X h h'):VK as X h h':=λb o e hb hx=>by refine ao (k b o e hb) ?_;intro o' e' s;simp only [e',s.out hx]
theorem KeptX.v(k:KeptX as X Y h h')(hY:∀b∈Y,b∈X):VK as X h h':=λb o e hb hx=>by refine ao (k b o e hb λq=>hx (hY b q)) ?_;intro o' e' s;simp only [e',s.out hx]
structure Ext(as:d6)(h:HP)(as':d6):Prop where
 old:∀(i:Nat) (x:ZZ),as[i]? =Z x->as'[i]? =Z x
 new:∀a,a∈as'->a∈as\/h.get? a=Z6
theorem Ext.refl(as:d6)(h:HP):Ext as h as:=⟨λ_ _ e=>e,λ_ e=>.inl e⟩
theorem Ext.trans(x:Ext as h as₁)(k:Kept as X h h₁)(y:Ext as₁ h₁ as₂):Ext as h as₂:=
 ⟨λi a e=>y.old i a (x.old i a e),λa ha=>(y.new a ha).elim (x.new a) λe1=>(Classical.em (a∈as)).imp id λhm=>eG (o:=h.get? a) id λo hq=>ao (k a o hq hm) λ_ e _=>eU (e1.symm.trans e)⟩
theorem Ext.out(x:Ext as h as')(e:h.get? b=Z o)(hb:b∉as):b∉as':=λq=>(x.new b q).elim hb λq=>eU (q.symm.trans e)
theorem Kept.trans(k:Kept as X h h₁)(x:Ext as h as₁)(k':Kept as₁ X h₁ h₂):Kept as X h h₂:=λb o e hb=>ao (k b o e hb) λo₁ e₁ s₁=>(k' b o₁ e₁ (x.out e hb)).imp λo₂ q=>⟨q.1,s₁.trans q.2⟩
theorem KeptX.get(k:KeptX as X Y h h')(e:h.get? b=Z o)(hb:b∉as)(hx:b∉Y)(hc:∀es n,o.data≠.dict es n):h'.get? b=Z o:=by refine ao (k b o e hb hx) ?_;intro o' e' s;simp only [e',s.eq hc]
theorem Kept.get(k:Kept as X h h')(e:h.get? b=Z o)(hb:b∉as)(hc:∀es n,o.data≠.dict es n):h'.get? b=Z o:=by refine ao (k b o e hb) ?_;intro o' e' s;simp only [e',s.eq hc]
theorem DictOf.same{c:Cx}{h h':HP}{a:ZZ}{kvs:List (Str×ZX)}(x:h.DictOf c.kd a kvs)(k:∀o,h.get? a=Z o->h'.get? a=Z o):h'.DictOf c.kd a kvs:=by refine jF x ?_;intro o es ep ho hx r;exact(oU o es ep (k o ho) hx r)
theorem VR.gen(hk:∀a o,a∉as->a∉X->h.get? a=Z o->a∉as'/\a∉X'/\h'.get? a=Z o)
  (hr:∀(i:Nat) x,as[i]? =Z x->as'[i]? =Z x)(r:VR c as X h v y):VR c as' X' h' v y:=
 VR.rec (motive_1:=λv y _=>VR c as' X' h' v y) (motive_2:=λvs cs _=>VRs c as' X' h' vs cs) .none .bool .int .str
  (λha hx ho _ hb ih=>let q:=hk _ _ ha hx ho;.tup q.1 q.2.1 q.2.2 ih hb) (λha hx hp _ hb ih=>hp.elim λm ho=>let q:=hk _ _ ha hx ho;.lst q.1 q.2.1 ⟨m,q.2.2⟩ ih hb)
  (λha hx hsm hd hl _ hb ih=>jF hd λo es ep ho hx' r=>let q:=hk _ _ ha hx ho;.dct q.1 q.2.1 hsm (oU o es ep q.2.2 hx' r) hl ih hb) (λhr hx hi h1 h2=>let q:=hk _ _ hr hx hi;.rng q.1 q.2.1 q.2.2 h1 h2) (λe=>.ref (hr _ _ e)) (λha hx ho h1 h2 h3=>let q:=hk _ _ ha hx ho;.exc q.1 q.2.1 q.2.2 h1 h2 h3) .nil (λ_ _ i1 i2=>.cons i1 i2) r
theorem VRs.gen(hk:∀a o,a∉as->a∉X->h.get? a=Z o->a∉as'/\a∉X'/\h'.get? a=Z o)
  (hr:∀(i:Nat) x,as[i]? =Z x->as'[i]? =Z x)(r:VRs c as X h vs cs):VRs c as' X' h' vs cs:=
 VRs.all r (λvs cs=>VRs c as' X' h' vs cs) .nil (λ_ _ _ _ a ih=>.cons (VR.gen hk hr a) ih)
theorem VR.keepX(k:VK as X h h')(x:Ext as h as')(r:VR c as X h v y):VR c as' X h' v y:=
 VR.gen (λ_ _ ha hx ho=>(bu (x.out ho ha) hx (k _ _ ho ha hx))) x.old r
theorem VRs.keepX(k:VK as X h h')(x:Ext as h as')(r:VRs c as X h v y):VRs c as' X h' v y:=
 VRs.gen (λ_ _ ha hx ho=>(bu (x.out ho ha) hx (k _ _ ho ha hx))) x.old r
theorem VR.keep(k:Kept as X h h')(x:Ext as h as')(z:VR c as X h v y):VR c as' X h' v y:=z.keepX k.x x
theorem VRs.keep(k:Kept as X h h')(x:Ext as h as')(z:VRs c as X h v y):VRs c as' X h' v y:=z.keepX k.x x
theorem VR.frames(hy:∀b o,h.get? b=Z o->b∉X->b∉Y)(r:VR c as X h v y):VR c as Y h v y:=
 VR.gen (λ_ _ ha hx ho=>(bu ha (hy _ _ ho hx) ho)) (λ_ _ e=>e) r
theorem VRs.frames(hy:∀b o,h.get? b=Z o->b∉X->b∉Y)(r:VRs c as X h v y):VRs c as Y h v y:=
 VRs.gen (λ_ _ ha hx ho=>(bu ha (hy _ _ ho hx) ho)) (λ_ _ e=>e) r
inductive InstAt(c:Cx)(as:d6)(h:HP)(a:ZZ)(k d:Nat):Prop
 |mk (dx:ZZ) (ob:Obj):as[d]? =Z dx->h.get? a=Z ob->ob.cls=.ref (c.ccls k)->ob.dict=Z dx->(∀cd,ob.data≠.cls cd)->InstAt c as h a k d
def OR(c:Cx)(as:d6)(X:List ZZ)(h:HP)(a:ZZ):O->Prop
 |.list vs=>vs.length<=li/\∃items,h.PlainList a items/\VRs c as X h vs items.toList
 |.dict ks vs=>vs.length<=li/\(a==ZW)=J/\∃cs,h.DictOf c.kd a ((ks.map toS).zip cs)/\ks.length=cs.length/\VRs c as X h vs cs
 |.inst k d=>InstAt c as h a k d
 |.ns ks vs=>vs.length<=li/\∃cs mA,h.Ns1 a mA/\ks.length=cs.length/\VRs c as X h vs cs/\∀n,mA n=((ks.map toS).zip cs).lookup n
structure SR(c:Cx)(as:d6)(X:List ZZ)(H:AH)(s:ZV):Prop where
 len:as.length=H.length
 stays:c.base.StaysIn s.heap
 gens:s.gens= #[]
 os:s.os=c.os
 objs:∀(i:Nat) (a:ZZ),as[i]? =Z a->c.base.get? a=Z6/\a∉X/\∃o,H[i]? =Z o/\OR c as X s.heap a o
 inj:∀(i j:Nat) (a:ZZ),as[i]? =Z a->as[j]? =Z a->i=j
 xs:∀b∈X,∃o,s.heap.get? b=Z o
theorem OR.keepX{c:Cx}{as:d6}{X:List ZZ}{h h':HP}{a:ZZ}{o:O}(k:VK as X h h')(ha:∀ob,h.get? a=Z ob->h'.get? a=Z ob):OR c as X h a o->OR c as X h' a o:=by
 intro x
 induction o with
 |list vs=>obtain⟨hb,items,⟨n,e⟩,r⟩:=x;exact⟨hb,(aG items ⟨n,ha _ e⟩ (r.keepX k (.refl ..)))⟩
 |dict ks vs=>refine d7 x ?_;intro hb hsm r_3;refine cu r_3 λcs hd hl r=>?_;exact(bu hb hsm (bQ cs (DictOf.same hd ha) hl (r.keepX k (.refl ..))))
 |inst k d=>obtain⟨dx,ob,e1,e2,r1,r2,r3⟩:=x;exact⟨dx,ob,e1,ha _ e2,r1,r2,r3⟩
 |ns ks vs=>obtain⟨hb,cs,mA,hn,hl,r,hm⟩:=x;exact⟨hb,(iZ cs mA (hn.at ha) hl (r.keepX k (.refl ..)) hm)⟩
theorem OR.here(x:OR c as X h a o):∃ob,h.get? a=Z ob:=by
 induction o with
 |list vs=>obtain⟨_,_,⟨n,e⟩,_⟩:=x;exact⟨_,e⟩
 |dict ks vs=>obtain⟨_,_,_,⟨o,_,_,e,hx,_⟩,_⟩:=x;exact⟨_,e⟩
 |inst k d=>obtain⟨_,_,_,e⟩:=x;exact⟨_,e⟩
 |ns ks vs=>obtain⟨_,_,_,⟨o,_,_,e,_⟩,_⟩:=x;exact⟨o,e⟩
theorem OR.frames(hy:∀b o,h.get? b=Z o->b∉X->b∉Y):OR c as X h a o->OR c as Y h a o:=by
 intro x
 induction o with
 |list vs=>refine dq x λhb q_=>d5 q_ λitems q_=>dq q_ λhp r=>?_;exact⟨hb,(aG items hp (r.frames hy))⟩
 |dict ks vs=>obtain⟨hb,hsm,cs,hd,hl,r⟩:=x;exact(bu hb hsm (bQ cs hd hl (r.frames hy)))
 |inst k d=>exact x
 |ns ks vs=>obtain⟨hb,cs,mA,hn,hl,r,hm⟩:=x;exact⟨hb,(iZ cs mA hn hl (r.frames hy) hm)⟩
noncomputable def only(h:HP)(p:ZZ->Bool):HP:={h with objs:=h.objs.mapIdx λi o=>if p i=Z5 then o else {cls:=.none,dict:=Z6,data:=.freed,slots:=#[]}}
theorem AP(a:ZZ):(only h p).get? a=if p a=Z5 then h.get? a else Z6:=by
 unfold only Heap.get?;refine YP (Array.getElem?_mapIdx) (eG (o:=h.objs[a]?) (λhe=>?_) (λo he=>?_))
 ·refine YP he ?_;simp
 ·refine YP he ?_;by_cases hp:p a=Z5
  ·simp [hp]
  ·simp [hp]
def Grown(h h':HP):Prop:=∀b o,h.get? b=Z o->h'.get? b=Z o
theorem Grown.refl(h:HP):Grown h h:=λ_ _ e=>e
theorem Grown.push(h:HP)(o:Obj):Grown h (h.push o):=λ_ _ e=>bq _ e
theorem Grown.trans(a:Grown h h')(b:Grown h' h''):Grown h h'':=λx o e=>b x o (a x o e)
theorem Grown.kept(g:Grown h h')(as:d6)(X:List ZZ):Kept as X h h':=λb o e _=>(aG o (g b o e) (.inl U))
theorem SR.keepX(x:SR c as X H s)(k:VK [] X s.heap s'.heap)(hst:c.base.StaysIn s'.heap)(hx:∀b∈X,∃o,s'.heap.get? b=Z o)(hg:s'.gens=s.gens)(ho:s'.os=s.os):SR c as X H s' where
 len:=x.len
 stays:=hst
 gens:=hg.trans x.gens
 os:=ho.trans x.os
 objs:=λi a e=>by refine d7 (x.objs i a e) ?_;intro h1 h2 r_3;refine ao r_3 λo h3 h4=>?_;exact(bu h1 h2 (aG o h3 (h4.keepX (λb o e _ hb=>k b o e (λq=>nomatch q) hb) λob e=>k _ _ e (λq=>nomatch q) h2)))
 inj:=x.inj
 xs:=hx
theorem SR.grow(x:SR c as X H s)(g:Grown s.heap s'.heap)(hg:s'.gens=s.gens)(ho:s'.os=s.os):SR c as X H s':=
 x.keepX (g.kept [] X).x (λb o e=>g b o (x.stays b o e)) (λb hb=>(x.xs b hb).imp λo e=>g b o e) hg ho
theorem SR.frames(x:SR c as X H s)(hy:∀b o,s.heap.get? b=Z o->b∉X->b∉Y)(hx:∀b∈Y,∃o,s.heap.get? b=Z o):SR c as Y H s where
 len:=x.len
 stays:=x.stays
 gens:=x.gens
 os:=x.os
 objs:=λi a e=>by refine d7 (x.objs i a e) ?_;intro h1 h2 r_3;refine ao r_3 λo h3 h4=>?_;obtain⟨ob,e'⟩:=h4.here;exact(bu h1 (hy _ _ e' h2) (aG o h3 (OR.frames hy h4)))
 inj:=x.inj
 xs:=hx
inductive Res(c:Cx)(as:d6)(X:List ZZ)(h:HP)(Q:QE)(x:ZX)(s':ZV):Prop
 |mk (v:V) (H':AH) (as':d6):Ext as h as'->SR c as' X H' s'->Kept as X h s'.heap->VR c as' X s'.heap v x->Q v H'->Res c as X h Q x s'
theorem Res.grow(S:SR c as X H s)(g:Grown s.heap s'.heap)(hg:s'.gens=s.gens)(ho:s'.os=s.os)(hv:VR c as X s'.heap v x)(q:Q v H):Res c as X s.heap Q x s':=
 ⟨v,H,as,.refl ..,S.grow g hg ho,g.kept as X,hv,q⟩
theorem Res.now(S:SR c as X H s)(hv:VR c as X s.heap v x)(q:Q v H):Res c as X s.heap Q x {s with toks:=tk}:=
 Res.grow (s':={s with toks:=tk}) S (.refl _) U U hv q
theorem VR.grow(g:Grown h h')(k:VR c as X h v x):VR c as X h' v x:=k.keep (g.kept as X) (.refl ..)
theorem VRs.grow(g:Grown h h')(k:VRs c as X h v x):VRs c as X h' v x:=k.keep (g.kept as X) (.refl ..)
def Fr(as:d6)(h:HP)(a:ZZ):Prop:=a∈as\/h.get? a=Z6
theorem Kept.less(k:Kept as Y h h')(hY:∀b,2<=Y.count b->2<=X.count b\/Fr as h b):Kept as X h h':=λb o e hb=>by refine ao (k b o e hb) ?_;intro o' e' s;exact(aG o' e' (s.mono λq=>(hY b q).elim id λr=>r.elim (λr=>Z1 r hb) λr=>by replace e:=r.symm.trans e;cases e))
theorem Kept.more(k:Kept as X h h')(hY:∀b,X.count b<=Y.count b):Kept as Y h h':=λb o e hb=>by refine ao (k b o e hb) ?_;intro o' e' s;exact(aG o' e' (s.mono λq=>aa q (hY b)))
theorem Kept.one(k:Kept as (a::X) h h')(hx:a∉X)(e:h.get? a=Z o)(ha:a∉as):h'.get? a=Z o:=by
 refine ao (k a o e ha) ?_;intro o' e' s;rcases s with rfl|⟨q,_⟩
 ·exact e'
 ·rw [pd,jV hx]at q;exact Z1 q (by decide)
theorem zZ{a b:ZZ}(h:2<=(a::X).count b):b=a\/2<=X.count b:=by
 by_cases e:b=a
 ·exact .inl e
 ·rw [List.count_cons_of_ne (Ne.symm e)]at h;exact .inr h
theorem N9{P:ZZ->Prop}{a:ZZ}(h:P a)(k:∀b,2<=X.count b->P b):∀b,2<=(a::X).count b->P b:=λb hb=>(zZ hb).elim (λe=>e▸h) (k b)
theorem Grown.none(g:Grown h h')(e:h'.get? q=Z6):h.get? q=Z6:=by
 cases hq:h.get? q with
 |none=>rfl
 |some o=>exact eU (e.symm.trans (g _ _ hq))
theorem Cf{h:HP}{a b:ZZ}{o:Obj}(ea:h.get? a=Z o)(eb:h.get? b=Z6):a≠b:=λq=>eU (eb.symm.trans (q▸ea))
theorem Kept.fr(k:Kept as X h h')(ha:h'.get? a=Z6):Fr as h a:=by
 by_cases hm:a∈as
 ·exact .inl hm
 ·refine eG (o:=h.get? a) (λhq=>?_) (λo hq=>?_)
  ·exact .inr hq
  ·refine d5 (k a o hq hm) λo' q_=>dq q_ λe _=>?_;exact nomatch e.symm.trans ha
theorem Fr.lift(e:Ext as h as₁)(k:Kept as X h h₁)(x:Fr as₁ h₁ a):Fr as h a:=x.elim (e.new a) k.fr
section
variable {c:Cx}{A:ZU}{s:ZV}
theorem cO:aB<=ZT:=by decide
theorem fQ:aB+5<=li:=by decide
theorem JQ:(li:Int)<2 ^ 62:=by decide
theorem nP(h:bY i=Z5):i.natAbs<2 ^ 41:=by haveI h:=of_decide_eq_true h;exact ce ((Int.natAbs_eq i).elim (λe=>b7.mp (bA (kN e.symm) h.2)) λe=>b7.mp (Int.le_of_neg_le_neg (bA h.1 (kN e)))) (by decide)
theorem qE{i:Int}(h:i.natAbs<2 ^ 41):i.natAbs.log2<41:=by
 by_cases h0:i.natAbs=0
 ·refine YP h0 ?_;decide
 ·exact (Nat.log2_lt h0).mpr h
theorem Cg{i:Int}(h:0<i/\i<=10 ^ 12):i.natAbs.log2<9000:=by exact kO (qE (nP (decide_eq_true ⟨bA (by decide) (fp h.1),h.2⟩))) (by decide)
theorem wY{i:Int}(h:bY i=Z5):KO i<=64:=by haveI:=qE (nP h);unfold KO;split<;>first|exact gQ this (by simp+arith only)|decide
theorem hO(S:SR c as X H s):s.heap.objs.size∉as:=λq=>by obtain⟨i,hi⟩:=c6 q;refine d7 (S.objs i _ hi) λ_ _ r_3=>?_;refine ao r_3 ?_;intro o _ ho;obtain⟨ob,e⟩:=OR.here ho;exact Z1 (eJ e) (cZ _)
theorem jC(S:SR c as X H s):s.heap.objs.size∉X:=λq=>by exact d5 (S.xs _ q) λo e=>(Z1 (eJ e) (cZ _))
theorem sh(S:SR c as X H s)(hv:VRs c as X s.heap vs items.toList)(hb:vs.length<=li)(q:Q (.tup vs) H) :
  Res c as X s.heap Q (.ref s.heap.objs.size) {s with heap:=s.heap.push {cls:=.type "tuple",data:=.seq items n}}:=
 Res.grow S (.push _ _) U U (.tup (hO S) (jC S) (bf _ U) (hv.grow (.push _ _)) hb) q
theorem DC(S:SR c as X H s)(hv:VRs c as X s.heap vs items.toList)(hb:vs.length<=li)(q:Q (.lst vs) H) :
  Res c as X s.heap Q (.ref s.heap.objs.size) {s with heap:=s.heap.push {cls:=.type "list",data:=.seq items n}}:=
 Res.grow S (.push _ _) U U (.lst (hO S) (jC S) ⟨n,bf _ U⟩ (hv.grow (.push _ _)) hb) q
inductive ViewAt(c:Cx)(as:d6)(X:List ZZ)(h:HP)(vs:List V)(x:ZX):Prop
 |mk (a:ZZ) (items:Array ZX):x=.ref a->h.PlainList a items->VRs c as X h vs items.toList->vs.length<=li->a∉X->ViewAt c as X h vs x
theorem eY(S:SR c as X H s)(hv:VR c as X s.heap v x)(e:view H v=Z vs):ViewAt c as X s.heap vs x:=by
 induction EU e with
 |lst=>induction hv.inv with|lst ha hx hp r hb=>exact⟨_,_,rfl,hp,r,hb,hx⟩
 |ref ho'=>
  induction hv.inv with
  |ref hi=>
   refine d7 (S.objs _ _ hi) λ_ hx r_3=>?_;refine ao r_3 λo ho hr=>?_;replace ho:=ho.symm.trans ho'
   (replace ho:=ai ho;subst ho)
   exact⟨_,hr.2.choose,rfl,hr.2.choose_spec.1,hr.2.choose_spec.2,hr.1,hx⟩
inductive DictAt(c:Cx)(as:d6)(X:List ZZ)(h:HP)(d:List (List Char)×List V)(x:ZX):Prop
 |mk (a:ZZ) (cs:List ZX):x=.ref a->(a==ZW)=J->h.DictOf c.kd a ((d.1.map toS).zip cs)->d.1.length=cs.length->VRs c as X h d.2 cs->d.2.length<=li->DictAt c as X h d x
theorem nL(S:SR c as X H s)(hv:VR c as X s.heap v x)(e:kr H v=Z d):DictAt c as X s.heap d x:=by
 induction Bf e with
 |dct=>induction hv.inv with|dct ha _ hsm hp hl r hb=>exact⟨_,_,rfl,hsm,hp,hl,r,hb⟩
 |ref ho'=>
  induction hv.inv with
  |ref hi=>
   refine d7 (S.objs _ _ hi) ?_;intro _ _ r_3;refine ao r_3 ?_;intro o ho hr;replace ho:=ho.symm.trans ho'
   (replace ho:=ai ho;subst ho)
   refine d7 hr λhb hsm r_3=>?_;refine cu r_3 λcs hp hl r=>?_;exact⟨_,cs,rfl,hsm,hp,hl,r,hb⟩
theorem wX(a b:List Char):toS a++toS b=toS (a++b):=by refine(?_:Str.append _ _=_);simp [toS,Str.append]
theorem eW(a:List Char):(toS a).length=a.length:=by simp [toS,Str.length]
theorem vU(S:SR c as X H s)(hx:VR c as X s.heap x cx)(hy:VR c as X s.heap y cy)(ex:view H x=Z xs)(ey:view H y=Z ys)
  (hz:xs.length+ys.length<=aB)(q:Q (.lst (xs++ys)) H):ZS c.M A (binaryOp .Add cx cy) (Res c as X s.heap Q) E s:=by
 replace hx:=eY S hx ex;obtain⟨a,its,rfl,⟨n,ha⟩,ra,_⟩:=hx;replace hy:=eY S hy ey;obtain⟨b,its',rfl,⟨n',hb⟩,rb,_⟩:=hy;haveI l1:=ra.length;haveI l2:=rb.length;refine P.add_list ha hb (DC S ?_ (by refine YP af ?_;haveI:=fQ;exact gQ hz (gQ this (by simp+arith only))) q) ?_
 ·simp only [iz];exact ra.append rb
 ·simp only [<-bU,<-bU,<-l1,<-l2];exact aa hz cO
noncomputable def CU:Bop->Operator
 |.add=>.Add|.sub=>.Sub|.mul _=>.Mult|.f=>.FloorDiv|.mod=>.Mod|.pow=>.Pow
inductive Int2R(f:Int->Int->Option Int):V->V->V->Prop
 |mk {a b z:Int}:f a b=Z z->Int2R f (.int a) (.int b) (.int z)
theorem Bm(f:Int->Int->Option Int)(x y:V):Is (rz f x y) (Int2R f x y):=by
 cases x with
 |int a=>
  cases y with
  |int b=>exact Is.self.map λ_ h1=>.mk h1
  |_=>exact Z0
 |_=>exact Z0
theorem zP(e:rz f x y=Z r):Int2R f x y r:=(Bm f x y).of e
theorem zL(S:SR c as X H s)(hx:VR c as X s.heap (.tup xs) cx)(hy:VR c as X s.heap (.tup ys) cy)
  (hz:xs.length+ys.length<=aB)(q:Q (.tup (xs++ys)) H):ZS c.M A (binaryOp .Add cx cy) (Res c as X s.heap Q) E s:=by
 induction hx.inv with
 |@tup a its n ha1 hax ha ra hab=>
  induction hy.inv with
  |@tup b its' n' hb1 hbx hb rb hbb=>
   haveI l1:=ra.length;haveI l2:=rb.length;by_cases e1:its.isEmpty=Z5
   ·have:its= #[]:=by simpa using e1
    (replace this:=YO this;induction this)
    cases ra;refine concat_meets (aG _ ha U) (aG _ hb U) noFill_tuple_add seq_tuple_add F.slot_tuple_add F.entry_tuple_add (F.args_tuple_add_2 _ _) (AutoSeq1.tuple___add___tuple_tuple_0 _ _ _ _ _ _ e1) (bu ha hb ?_);exact Res.now (tk:=s.toks) S (.tup hb1 hbx hb rb hbb) q
   ·by_cases e2:its'.isEmpty=Z5
    ·haveI:its'= #[]:=by simpa using e2
     subst this;cases rb;refine concat_meets (aG _ ha U) (aG _ hb U) noFill_tuple_add seq_tuple_add F.slot_tuple_add F.entry_tuple_add (F.args_tuple_add_2 _ _) (AutoSeq1.tuple___add___tuple_tuple_1 _ _ _ _ _ _ e1 e2) (bu ha hb ?_);exact Res.now (tk:=s.toks) S (.tup ha1 hax ha (by simpa using ra) (by simpa using hab)) (by simpa using q)
    ·refine P.add_tuple ha hb e1 e2 (sh S ?_ (by refine YP af ?_;haveI:=fQ;exact gQ hz (gQ this (by simp+arith only))) q) ?_
     ·exact iz.symm▸ra.append rb
     ·simp only [<-bU,<-bU,<-l1,<-l2];exact aa hz cO
inductive AddR(H:AH):V->V->V->Prop
 |int (a b:Int):AddR H (.int a) (.int b) (.int (a+b))
 |str {a b:List Char}:a.length+b.length<=aB->AddR H (.str a) (.str b) (.str (a++b))
 |tup {a b:List V}:a.length+b.length<=aB->AddR H (.tup a) (.tup b) (.tup (a++b))
 |lst {x y:V} {xs ys:List V}:view H x=Z xs->view H y=Z ys->xs.length+ys.length<=aB->AddR H x y (.lst (xs++ys))
theorem Ko(x y:V):Is (MU H x y) (AddR H x y):=Is.self.bind λ_ h1=>Is.self.bind λ_ h2=>Is.ite λh3=>.lst h1 h2 h3
theorem sx(e:Ka H x y=Z r):AddR H x y r:=by
 refine Is.of ?_ e;clear e;cases x with
 |int i=>exact(Bm _ _ _).imp λ_ h=>by cases h with|mk h=>exact ai h▸.int _ _
 |str a=>
  cases y with
  |str b=>exact Is.ite .str
  |_=>exact Z0
 |tup a=>
  cases y with
  |tup b=>exact Is.ite .tup
  |_=>exact Z0
 |_=>exact Ko _ _
theorem Eh{o:Bop}{op:Operator}{cx cy:ZX}(S:SR c as X H s)(hx:VR c as X s.heap x cx)(hy:VR c as X s.heap y cy)
  (ho:op=CU o)
  (e:CM o x y H=Z r)(q:Q r H):ZS c.M A (binaryOp op cx cy) (Res c as X s.heap Q) E s:=by
 subst ho;have hI:∀{f:Int->Int->Option Int},rz f x y=Z r->(∀{a b z:Int} {t t':Tok},f a b=Z z->Q (.int z) H->ZS c.M A (binaryOp (CU o) (.int a t) (.int b t')) (Res c as X s.heap Q) E s)->ZS c.M A (binaryOp (CU o) cx cy) (Res c as X s.heap Q) E s:=λe k=>by
  induction zP e with
  |mk h=>
   induction hx.inv
   induction hy.inv
   exact k h q
 induction o with
 |add=>
  clear hI
  induction sx e with
  |int a b=>
   induction hx.inv
   induction hy.inv
   exact add_int (Res.now S (.int _ _) q)
  |str h=>
   induction hx.inv
   induction hy.inv
   refine add_str (λt' tk=>?_) ?_
   ·rw [wX];exact Res.now S (.str _ _ (by rw [af];exact aa h (aa (ax _ 5) fQ))) q
   ·rw [eW,eW];exact aa h cO
  |tup h=>exact zL S hx hy h q
  |lst h1 h2 h=>exact vU S hx hy h1 h2 h q
 |sub=>exact hI e λh q=>by(replace h:=ai h;subst h);exact sub_int (Res.now S (.int _ _) q)
 |mul=>
  exact hI e λh q=>by
   (refine dq (c9 h) λh5 e_1=>?_;clear h;subst e_1)
   exact PyProof.Rows.mul_int (Res.now S (.int _ _) q) (.of_left (wY (cP h5).1))
 |f=>
  exact hI e λh q=>by
   (refine dq (c9 h) λh5 e_1=>?_;subst e_1)
   refine PyProof.Rows.floordiv_int (n5 h5.1) ?_ (.inl (PyProof.noPylong_of_log2 (Cg h5)));exact YP (Int.fdiv_eq_ediv_of_nonneg _ (fp h5.1)) (Res.now S (.int _ _) q)
 |mod=>
  exact hI e λh q=>by
   (refine dq (c9 h) λh5 e_1=>?_;subst e_1)
   exact PyProof.Rows.mod_int (n5 h5) (YP (Int.fmod_eq_emod_of_nonneg _ (fp h5)) (Res.now S (.int _ _) q))
 |pow=>exact hI e λh q=>by obtain⟨⟨rfl,h1,h2⟩,rfl⟩:=c9 h;exact pow_int_small h1 (j5 h2 (by simp+arith only)) (by decide) (Res.now S (.int _ _) q)
mutual
noncomputable def tC:V->ZR
 |.none=>.none
 |.bool b=>.bool b
 |.int i=>.int i
 |.str x=>.str (toS x)
 |.tup vs=>.tuple (jO vs)
 |.lst vs=>.list (jO vs)
 |.dct _ _|.rng _ _|.ref _|.exc _=>.none
noncomputable def jO:List V->List ZR
 |[]=>[]
 |v::vs=>tC v::jO vs
end
theorem z6(s:List Char):PyData.strOk (toS s)=Z5:=by
 simp only [PyData.strOk,toS,Array.all_eq_true];intro i hi;simp only [i9,aj]at hi;haveI h:((s.map Char.toNat).toArray)[i]=(s[i]).toNat:=by simp
 haveI hv:=(s[i]).valid;simp only [decide_eq_true_eq];have:((s.map Char.toNat).toArray)[i]<0x110000:=by exact YP h (Or.elim hv (λh=>kO h (by decide)) λh=>h.2)
 exact this
theorem iD(v:V):v.data=Z5->(tC v).canLay0=Z5/\(tC v).depth=v.depth:=
 V.rec (motive_2:=λvs=>V.datas vs=Z5->PyData.canLayAll0 (jO vs)=Z5/\PyData.depthAll (jO vs)=V.depths vs) (λ_=>⟨rfl,rfl⟩) (λ_ _=>⟨rfl,rfl⟩) (λ_ _=>⟨rfl,rfl⟩) (λs _=>⟨z6 s,rfl⟩) (λ_ ih h=>⟨(ih h).1,Z4 (·+1) (ih h).2⟩) (λ_ ih h=>⟨(ih h).1,Z4 (·+1) (ih h).2⟩) (λ_ _ _ h=>Z1 h ae) (λ_ _ h=>Z1 h ae) (λ_ h=>Z1 h ae) (λ_ h=>Z1 h ae) (λ_=>⟨rfl,rfl⟩) (λ_ _ i1 i2 h=>haveI h':=cP h;⟨cn.mpr ⟨(i1 h'.1).1,(i2 h'.2).1⟩,congr (Z4 max (i1 h'.1).2) (i2 h'.2).2⟩) v
theorem po(vs:List V):V.datas vs=Z5->PyData.canLayAll0 (jO vs)=Z5/\PyData.depthAll (jO vs)=V.depths vs:=by
 induction vs with
 |nil=>exact λ_=>⟨rfl,rfl⟩
 |cons v vs ih=>exact λh=>haveI h':=cP h;⟨cn.mpr ⟨(iD v h'.1).1,(ih h'.2).1⟩,congr (Z4 max (iD v h'.1).2) (ih h'.2).2⟩
theorem lC(r:VR c as X h v x):v.data=Z5->∃l,Reads h x (tC v) l:=
 VR.rec (motive_2:=λvs xs _=>V.datas vs=Z5->∃l,ReadsAll h xs (jO vs) l)
  (λ_=>⟨_,.none⟩) (λb _=>⟨_,.bool b⟩) (λi t _=>⟨_,.int i t⟩) (λs t _ _=>⟨_,.str _ t⟩)
  (λ_ _ ho _ _ ih hd=>(ih hd).elim λl q=>⟨l,.tuple ho U U q⟩) (λ_ _ hp _ _ ih hd=>hp.elim λ_ ho=>(ih hd).elim λ_ q=>⟨_,.list ho U U q⟩)
  (λ_ _ _ _ _ _ _ _ hd=>Z1 hd ae) (λ_ _ _ _ _ hd=>Z1 hd ae) (λ_ hd=>Z1 hd ae) (λ_ _ _ _ _ _ hd=>Z1 hd ae)
  (λ_=>⟨_,.nil⟩) (λ_ _ i1 i2 hd=>(i1 (cP hd).1).elim λ_ q=>(i2 (cP hd).2).elim λ_ q'=>⟨_,.cons q q'⟩) r
theorem mf(r:VRs c as X h vs xs):V.datas vs=Z5->∃l,ReadsAll h xs (jO vs) l:=
 VRs.all r (λvs xs=>V.datas vs=Z5->∃l,ReadsAll h xs (jO vs) l) (λ_=>⟨_,.nil⟩) λ_ _ _ _ a ih hd=>(lC a (cP hd).1).elim λ_ q=>(ih (cP hd).2).elim λ_ q'=>⟨_,.cons q q'⟩
theorem EH(a b:List Char):(toS a==toS b)=(a==b):=by
 by_cases h:a=b
 ·subst h;simp
 ·haveI:toS a≠toS b:=λe=>h (jH e);simp only [beq_eq_false_iff_ne.mpr h,beq_eq_false_iff_ne.mpr this]
theorem mc(v:V):∀w:V,v.data=Z5->w.data=Z5->PyData.eqv (tC v) (tC w)=fZ v w:=by
 refine V.rec (motive_2:=λvs=>∀ws:List V,V.datas vs=Z5->V.datas ws=Z5->PyData.eqvAll (jO vs) (jO ws)=p2 vs ws) ?_ ?_ ?_ ?_ ?_ ?_ (λ_ _ _ _ h=>Z1 h ae) (λ_ _ _ h=>Z1 h ae) (λ_ _ h=>Z1 h ae) (λ_ _ h=>Z1 h ae) ?_ ?_ v
 ·exact λw _ hw=>by cases w<;>first|rfl|exact Z1 hw ae
 ·exact λ_ w _ hw=>by cases w<;>first|rfl|exact Z1 hw ae
 ·exact λ_ w _ hw=>by cases w<;>first|rfl|exact Z1 hw ae
 ·exact λ_ w _ hw=>by cases w<;>first|rfl|exact Z1 hw ae|exact EH _ _
 ·intro vs ih w hv hw;cases w with
  |tup ws=>exact ih ws hv hw
  |_=>first|rfl|exact Z1 hw ae
 ·intro vs ih w hv hw;cases w with
  |lst ws=>exact ih ws hv hw
  |_=>first|rfl|exact Z1 hw ae
 ·exact λws _ _=>by induction ws<;>rfl
 ·intro v vs i1 i2 ws hv hw
  induction ws with
  |nil=>rfl
  |cons w ws=>exact haveI h1:=cP hv;haveI h2:=cP hw;congr (Z4 and (i1 w h1.1 h2.1)) (i2 ws h1.2 h2.2)
theorem pB(w:V)(hw:w.data=Z5)(vs:List V):V.datas vs=Z5->((jO vs).any λy=>PyData.eqv y (tC w))=vs.any λy=>fZ y w:=by
 induction vs with
 |nil=>exact λ_=>rfl
 |cons v vs ih=>exact λh=>haveI h1:=cP h;congr (Z4 or (mc v w h1.1 hw)) (ih h1.2)
theorem Di(e:Fu v=Z v'):(V.data v&&decide (V.depth v<=50))=Z5/\v'=v:=⟨(c9 e).1,(c9 e).2.symm⟩
theorem Mo(e:rd H v=Z v'):(∃vs,view H v=Z vs/\re vs=Z5/\v'=.lst vs)\/(V.data v&&decide (V.depth v<=50))=Z5/\v'=v:=by
 cases v with
 |ref i=>refine d5 (cm e) λvs q_=>dq q_ λh1 e=>?_;exact .inl (bQ vs h1 ((c9 e).1) ((c9 e).2.symm))
 |_=>exact .inr (Di e)
theorem mP(h:re vs=Z5):V.datas vs=Z5/\V.depths vs<=50:=⟨(cP h).1,of_decide_eq_true (cP h).2⟩
inductive RdAt(h:HP)(v':V)(x:ZX):Prop
 |mk:v'.data=Z5->v'.depth<=51->(l:List ZZ)->Reads h x (tC v') l->RdAt h v' x
theorem oR(S:SR c as X H s)(hv:VR c as X s.heap v x)(e:rd H v=Z v'):RdAt s.heap v' x:=by
 refine Or.elim (Mo e) (λq_=>?_) (λq_=>?_)
 ·obtain ⟨vs,hvs,hd,rfl⟩:=q_;haveI hd:=mP hd;replace S:=eY S hv hvs;obtain⟨a,items,rfl,⟨n,ho⟩,r,_⟩:=S;obtain⟨l,q⟩:=mf r hd.1;exact⟨hd.1,aA hd.2,_,.list ho U U q⟩
 ·obtain ⟨hd,rfl⟩:=q_;haveI hd:=cP hd;obtain⟨l,q⟩:=lC hv hd.1;exact⟨hd.1,ja (of_decide_eq_true hd.2),l,q⟩
theorem QW(S:SR c as X H s)(hx:VR c as X s.heap x cx)(hy:VR c as X s.heap y cy)(ex:rd H x=Z x')(ey:rd H y=Z y')(hu:A.units+64<ZQ)
  (q:Q (.bool (fZ x' y')) H):ZS c.M A (ZP .Eq cx cy) (Res c as X s.heap Q) E s:=by
 obtain⟨d1,d2,l1,r1⟩:=oR S hx ex;obtain⟨d3,d4,l2,r2⟩:=oR S hy ey;haveI o1:=iD _ d1;haveI o2:=iD _ d3;refine eq_dataH r1 r2 ?_ ?_ hu ?_
 ·unfold SeqAt.shaped;rw [o1.1,gR,o1.2];exact decide_eq_true (gQ d2 (by simp+arith only))
 ·unfold SeqAt.shaped;rw [o2.1,gR,o2.2];exact decide_eq_true (gQ d4 (by simp+arith only))
 ·exact YP (mc _ _ d1 d3) (Res.now S (.bool _) q)
theorem OM(S:SR c as X H s)(hx:VR c as X s.heap x cx)(hy:VR c as X s.heap y cy)(ex:rd H x=Z x')(ey:rd H y=Z y')(hu:A.units+64<ZQ)
  (q:Q (.bool (!fZ x' y')) H):ZS c.M A (ZP .NotEq cx cy) (Res c as X s.heap Q) E s:=by
 obtain⟨d1,d2,l1,r1⟩:=oR S hx ex;obtain⟨d3,d4,l2,r2⟩:=oR S hy ey;haveI o1:=iD _ d1;haveI o2:=iD _ d3;refine ne_dataH r1 r2 ?_ ?_ hu ?_
 ·unfold SeqAt.shaped;rw [o1.1,gR,o1.2];exact decide_eq_true (gQ d2 (by simp+arith only))
 ·unfold SeqAt.shaped;rw [o2.1,gR,o2.2];exact decide_eq_true (gQ d4 (by simp+arith only))
 ·exact YP (mc _ _ d1 d3) (Res.now S (.bool _) q)
theorem BW{v:V}(h:Qj v=Z5):∃vs,v=.dct [] vs:=by
 cases v with
 |dct ks vs=>exact⟨vs,Z4 (V.dct · vs) (vC.mp h)⟩
 |_=>exact Z1 h ae
theorem AV{a:ZZ}{prog:ZY}{w:World}(d:s.heap.DictOf c.kd a []):s.heap.DictOf (strKind prog w) a []:=by obtain⟨o,es,ep,ho,hx,hd,_,hp,_⟩:=d;have e:es.toList=[]:=List.eq_nil_of_length_eq_zero hp.length;exact(fM o es ep ho hx hd (λx hx=>Z1 (Array.mem_toList_iff.mpr hx) (by refine YP e ?_;exact ba)) (by refine YP e ?_;exact .nil) .nil)
theorem GY{v:V}(h:(Fu v).isSome=Z5):v.data=Z5/\v.depth<=50:=by
 refine eG (o:=Fu v) (λe=>?_) λv' e=>?_
 ·rw [e]at h;exact Z1 h ae
 ·haveI z:=cP (Di e).1;exact⟨z.1,of_decide_eq_true z.2⟩
theorem nR(h:a<=50)(hu:k+64<ZQ):k+1+min a b<ZQ:=
 ce (aH (aa (xt a b) h) (k+1)) (ce (show k+1+50<=k+64 from by rw [bL];exact aH (by decide) _) hu)
theorem Je{x y:V}{cx cy:ZX}(hx:VR c as X s.heap x cx)(hy:VR c as X s.heap y cy)(e:okP (x,y)=Z5)(hu:A.units+64<ZQ):SeqAt.EqAt A.in1 s cx cy Z5:=by
 refine(iA.mp e).elim (λh=>?_) λh=>?_
 ·haveI h:=cP h;obtain⟨vs,rfl⟩:=BW h.1;obtain⟨ws,rfl⟩:=BW h.2
  induction hx.inv with
  |@dct a _ _ _ ha da _ _ _=>
   induction hy.inv with
   |@dct b _ _ _ hb db _ _ _=>
    by_cases hab:a=b
    ·refine YP hab ?_;exact SeqAt.EqAt.same _
    ·exact SeqAt.EqAt.of_refs hab λprog w E Q q=>PySem.W.keq_eq ha hb (AV da) (AV db) (ce (aH (by decide) A.units) hu) (λ_=>.nil) q
 ·haveI h:=cP h;haveI h2:=cP h.2;haveI d1:=GY h.1;haveI d2:=GY h2.1;obtain⟨l1,r1⟩:=lC hx d1.1;obtain⟨l2,r2⟩:=lC hy d2.1;haveI z:=SeqAt.eqAt_reads (tC x) (tC y) A.in1 s cx cy l1 l2 r1 r2 (iD _ d1.1).1 (iD _ d2.1).1 (YP ((iD _ d1.1).2) (nR d1.2 hu));rw [mc _ _ d1.1 d2.1,h2.2]at z;exact z
theorem Ht{x y:V}{cx cy:ZX}{b:Bool}(S:SR c as X H s)(hx:VR c as X s.heap x cx)(hy:VR c as X s.heap y cy)(e:N5 H x y=Z b)(hu:A.units+64<ZQ) :
  (Q (.bool b) H->ZS c.M A (ZP .Eq cx cy) (Res c as X s.heap Q) E s)/\(Q (.bool !b) H->ZS c.M A (ZP .NotEq cx cy) (Res c as X s.heap Q) E s):=by
 obtain⟨xs,ex,e⟩:=cm e;obtain⟨ys,ey,e⟩:=cm e;obtain⟨⟨hl,ok⟩,rfl⟩:=c9 e;obtain⟨a,ix,rfl,⟨n,ho⟩,r,_,_⟩:=eY S hx ex;obtain⟨a',iy,rfl,⟨n',ho'⟩,r',_,_⟩:=eY S hy ey;have hsz:=r.length.symm.trans (hl.trans r'.length);have he:∀j h1 (h2:j<iy.size),SeqAt.EqAt A.in1 s ix[j] iy[j] Z5:=λj h1 h2=>by obtain⟨v,e1,v1⟩:=r.get' (j:=j) (by refine YP cb ?_;exact d9 h1);obtain⟨w,e2,v2⟩:=r'.get' (j:=j) (by refine YP cb ?_;exact d9 h2);exact Je v1 v2 (bw.mp ok _ (aI (Al.mpr ⟨e1,e2⟩))) hu
 have t:(aX ix.size).all (λ_=>Z5)=Z5:=bw.mpr λ_ _=>rfl;haveI hu':=ce (ax A.units 64) hu;exact⟨λq=>SeqAt.RcAt.lists (bQ _ ho U ⟨n,rfl⟩) (bQ _ ho' U ⟨n',rfl⟩) hsz hu' he c.prog c.w E _ (t.symm▸Res.now S (.bool _) q),λq=>SeqAt.RcNeAt.lists (bQ _ ho U ⟨n,rfl⟩) (bQ _ ho' U ⟨n',rfl⟩) hsz hu' he c.prog c.w E _ (t.symm▸Res.now S (.bool _) q)⟩
theorem CJ(S:SR c as X H s)(hx:VR c as X s.heap x cx)(hy:VR c as X s.heap y cy)(e:Qk H x y=Z b):plainIs cx cy=Z5/\(cx==cy)=b:=by
 refine Is.of (R:=λb=>plainIs cx cy=Z5/\(cx==cy)=b) ?_ e;clear e;cases y with
 |none=>
  cases hy.inv;cases hx with
  |ref _=>exact Is.ite λ_=>⟨rfl,rfl⟩
  |rng=>exact Z0
  |exc=>exact Z0
  |_=>exact⟨rfl,rfl⟩
 |_=>exact Z0
theorem pX(s:List Char)(ch:Char):(!(Builtin.Str.occurrences (toS s) (toS [ch]) 0 (toS s).length 1).isEmpty)=s.contains ch:=by
 haveI e:toS [ch]=⟨#[ch.toNat]⟩:=rfl;rw [e,StrLaws.found_one];rw [cD];rw [decide_eq_true_eq,bn,toS,cQ];constructor
 ·rintro ⟨a,ha,e⟩
  simp only [<-Char.toNat_inj.mp e];exact ha
 ·intro h;exact(aG ch h U)
theorem qc(k:List Char)(t:Tok):c.kd.is (toS k) (.str (toS k) t)=Z5:=strKind_is c.prog c.w (toS k) t
theorem lr(k:List Char):∀{vs:List V} {cs:List ZX},ks.length=cs.length->VRs c as X h vs cs->
  (match gx k ks vs with|some v=>∃x,valueAt ((ks.map toS).zip cs) (toS k)=Z x/\VR c as X h v x|none=>k∉ks/\valueAt ((ks.map toS).zip cs) (toS k)=Z6):=by
 induction ks with
 |nil=>exact λ_ _=>⟨nofun,rfl⟩
 |cons k' ks ih=>
  intro vs cs hl r
  induction r with
  |nil=>exact nomatch hl
  |@cons v vs x cs hx r=>
   haveI ih:=ih (b8 hl) r;by_cases e:k=k'
   ·clear hl;subst e;simp only [show gx k (k::ks) (v::vs)=Z v from Z3 U];exact(aG x (by simp [valueAt]) hx)
   ·refine YP (show valueAt (((k'::ks).map toS).zip (x::cs)) (toS k)=valueAt ((ks.map toS).zip cs) (toS k) by simp [valueAt,show toS k'≠toS k from λq=>e (jH q).symm]) (YP (show gx k (k'::ks) (v::vs)=gx k ks vs from Z2 e) (Le (o:=gx k ks vs) (λv' hd=>?_) (λhd=>?_)))
    ·refine YP hd ?_;rw [hd]at ih;exact ih
    ·refine YP hd ?_;rw [hd]at ih;exact⟨dL e ih.1,ih.2⟩
theorem rC:∀{vs:List V} {v:V},gx k ks vs=Z v->k∈ks:=by
 induction ks with
 |nil=>exact λe=>eU e
 |cons k' ks ih=>
  intro vs v e
  induction vs with
  |nil=>exact eU e
  |cons v' vs=>exact(Decidable.em (k=k')).elim (λh=>h▸.head _) λh=>.tail _ (ih ((Z2 h).symm.trans e))
theorem xE{k:List Char}{ks:List (List Char)}{cs:List ZX}(hl:ks.length=cs.length)(r:VRs c as X s.heap vs cs):(valueAt ((ks.map toS).zip cs) (toS k)).isSome=ks.contains k:=by
 haveI h:=lr k hl r;refine Le (o:=gx k ks vs) (λv hd=>?_) (λhd=>?_)
 ·rw [hd]at h;refine ao h λx e _=>?_;exact YP e ((bn.mpr (rC hd)).symm)
 ·simp only [hd]at h;refine YP (h.2) ?_;haveI:¬ks.contains k=Z5:=λq=>h.1 (bn.mp q)
  simpa using this
theorem Iu(e:N4 H x y=Z b):(∃t ch,x=.str [ch]/\y=.str t/\b=t.contains ch)\/(∃vs,y=.tup vs/\Mu H x vs=Z b)\/(∃vs,view H y=Z vs/\Mu H x vs=Z b)\/∃d k,x=.str k/\kr H y=Z d/\b=d.1.contains k:=by
 have h:N6 H x y (view H y)=Z b->(∃vs,view H y=Z vs/\Mu H x vs=Z b)\/∃d k,x=.str k/\kr H y=Z d/\b=d.1.contains k:=λe=>by
  cases hv:view H y with
  |some vs=>rw [hv]at e;exact .inl (aG vs U e)
  |none=>rw [hv]at e;replace e:=cm e;refine ao e λd h1 e=>?_;replace e:=ez e;refine ao e λk h2 q_3=>?_;exact YP (YO q_3) (.inr (eK d k (V.txt_is h2) h1 U))
 cases y with
 |str t=>
  replace e:=cm e;refine ao e λs' h1 e=>?_;cases s' with
  |nil=>exact eU e
  |cons ch r=>
   induction r with
   |nil=>exact .inl (eK t ch (V.txt_is h1) U ((ai e).symm))
   |cons=>exact eU e
 |tup vs=>exact .inr (.inl (aG vs U e))
 |_=>exact .inr (.inr (h e))
theorem Lb(S:SR c as X H s)(hx:VR c as X s.heap x cx)(hy:VR c as X s.heap y cy)(e:N4 H x y=Z b)(hu:A.units+64<ZQ) :
  (Q (.bool b) H->ZS c.M A (ZP .In cx cy) (Res c as X s.heap Q) E s)/\(Q (.bool !b) H->ZS c.M A (ZP .NotIn cx cy) (Res c as X s.heap Q) E s):=by
 rcases Iu e with ⟨t,ch,rfl,rfl,rfl⟩|⟨vs,rfl,e⟩|⟨vs,ev,e⟩|⟨d,k,rfl,hdv,rfl⟩
 ·replace hx:=hx.inv;induction hy.inv
  induction hx
  refine⟨λq=>in_str ?_,λq=>notIn_str ?_⟩
  ·rw [pX];exact Res.now S (.bool _) q
  ·rw [pX];exact Res.now S (.bool _) q
 ·replace e:=cm e;refine ao e λx' ex e=>?_;replace e:=c9 e;obtain⟨hd,rfl⟩:=e;have hd:=(mP hd).1;haveI hdd:=(mP ‹_›).2;obtain⟨d1,d2,l1,r1⟩:=oR S hx ex;refine d5 (lC hy hd) λl2 r2=>?_;haveI o1:=iD _ d1;haveI o2:=po _ hd;haveI hm:A.units+1+min (PyData.depthAll (jO vs)) (tC x').depth<ZQ:=(o2.2)▸nR hdd hu;refine⟨λq=>SeqAt.in_tuple_reads r2 r1 o2.1 o1.1 hm ?_,λq=>SeqAt.notIn_tuple_reads r2 r1 o2.1 o1.1 hm ?_⟩
  ·exact YP (pB _ d1 _ hd) (Res.now S (.bool _) q)
  ·exact YP (pB _ d1 _ hd) (Res.now S (.bool _) q)
 ·replace e:=cm e;refine ao e λx' ex e=>?_;replace e:=c9 e
  (refine dq e λhd e_1=>?_;refine YP (YO e_1) ?_)
  have hd:=(mP hd).1;haveI hdd:=(mP ‹_›).2;obtain⟨d1,d2,l1,r1⟩:=oR S hx ex;replace hy:=eY S hy ev;obtain⟨a,items,rfl,⟨n,ho⟩,r,_⟩:=hy;obtain⟨l2,r2⟩:=mf r hd;haveI r3:Reads s.heap (.ref a) (.list (jO vs)) (a::l2):=.list ho U U r2;haveI o1:=iD _ d1;haveI o2:=po _ hd;haveI hm:A.units+1+min (PyData.depthAll (jO vs)) (tC x').depth<ZQ:=(o2.2)▸nR hdd hu;refine⟨λq=>SeqAt.in_list_reads r3 r1 o2.1 o1.1 hm ?_,λq=>SeqAt.notIn_list_reads r3 r1 o2.1 o1.1 hm ?_⟩
  ·exact YP (pB _ d1 _ hd) (Res.now S (.bool _) q)
  ·exact YP (pB _ d1 _ hd) (Res.now S (.bool _) q)
 ·induction hx.inv
  replace hy:=nL S hy hdv;obtain⟨a,cs,rfl,hsm,hd,hl,r,_⟩:=hy;refine⟨λq=>wpAny_in_of (qc _ _) hsm hd.mapOf ?_,λq=>wpAny_notIn_of (qc _ _) hsm hd.mapOf ?_⟩
  ·exact YP (xE hl r) (Res.now S (.bool _) q)
  ·exact YP (xE hl r) (Res.now S (.bool _) q)
noncomputable def Hj:Cop->CmpOp
 |.eq=>.Eq|.ne=>.NotEq|.lt=>.Lt|.le=>.LtE|.gt=>.Gt|.ge=>.GtE|.is _=>.Is|.isnot=>.IsNot|.in_=>.In|.notin=>.NotIn
theorem It(f:Int->Int->Bool)(x y:V):Is (zI f x y) λb=>∃i j,x=.int i/\y=.int j/\b=f i j:=by
 cases x with
 |int i=>cases y<;>first|exact(eK _ _ U U U)|exact Z0
 |_=>exact Z0
theorem l8(e:zI f x y=Z b):∃i j,x=.int i/\y=.int j/\b=f i j:=(It f x y).of e
theorem K7(S:SR c as X H s)(hx:VR c as X s.heap x cx)(hy:VR c as X s.heap y cy)(hu:A.units+64<ZQ)
  (e:ny o x y H=Z b)(q:Q (.bool b) H):ZS c.M A (ZP (Hj o) cx cy) (Res c as X s.heap Q) E s:=by
 induction o with
 |eq=>refine(HH.mp e).elim (λe=>?_) λe=>(Ht S hx hy e.2 hu).1 q;refine ao (kS e) λx' h1 e=>ao (jB e) λy' h2 q_3=>?_;clear e;subst q_3;exact QW S hx hy h1 h2 hu q
 |ne=>refine ao (jB e) λz e1 q_3=>?_;subst q_3;refine(HH.mp e1).elim (λe=>?_) λe=>(Ht S hx hy e.2 hu).2 q;refine ao (kS e) λx' h1 e=>ao (jB e) λy' h2 q_3=>?_;clear e1 e;subst q_3;exact OM S hx hy h1 h2 hu q
 |lt=>obtain⟨a,b,rfl,rfl,rfl⟩:=l8 e;cases hx.inv;cases hy.inv;exact lt_int (Res.now S (.bool _) q)
 |le=>obtain⟨a,b,rfl,rfl,rfl⟩:=l8 e;cases hx.inv;cases hy.inv;exact le_int (Res.now S (.bool _) q)
 |gt=>obtain⟨a,b,rfl,rfl,rfl⟩:=l8 e;cases hx.inv;cases hy.inv;exact gt_int (Res.now S (.bool _) q)
 |ge=>obtain⟨a,b,rfl,rfl,rfl⟩:=l8 e;cases hx.inv;cases hy.inv;exact ge_int (Res.now S (.bool _) q)
 |is=>obtain⟨h1,h2⟩:=CJ S hx hy e;exact wpAny_is_plain h1 (by exact(h2)▸Res.now S (.bool _) q)
 |isnot=>replace e:=jB e;refine ao e λb' h0 q_3=>?_;clear e;subst q_3;obtain⟨h1,h2⟩:=CJ S hx hy h0;exact wpAny_isNot_plain h1 (by refine YP h2 ?_;exact Res.now S (.bool _) q)
 |in_=>exact(Lb S hx hy e hu).1 q
 |notin=>replace e:=jB e;refine ao e λb' h0 q_3=>?_;clear e;subst q_3;exact(Lb S hx hy h0 hu).2 q
end
def OVR(c:Cx)(as:d6)(X:List ZZ)(h:HP)(o:Option V)(y:Option ZX):Prop:=∀v,o=Z v->∃x,y=Z x/\VR c as X h v x
structure FR(c:Cx)(as:d6)(X:List ZZ)(h:HP)(env:Env)(tab:List (Str×Nat))(ρ:Fm):Prop where
 kind:env.scope.kind=.function
 glob:env.globals=mainGlobals
 bi:env.builtins=ZO
 lx:env.locals∈X
 lout:env.locals∉as
 lb:c.base.get? env.locals=Z6
 ns:∃m,h.Ns env.locals m/\∀x i,tab.lookup x=Z i->env.kindOf x=Z .local->OVR c as X h ((ρ[i]?).join) (m x)
 cells:∀x i,tab.lookup x=Z i->(env.kindOf x=Z .cell\/env.kindOf x=Z .free)->
  ∃a y,env.cells.lookup x=Z a/\a∈X/\a∉as/\c.base.get? a=Z6/\a≠env.locals/\h.IsCell a y/\OVR c as X h ((ρ[i]?).join) y
 apart:∀x y a,env.cells.lookup x=Z a->env.cells.lookup y=Z a->x=y
 inj:∀x y i,tab.lookup x=Z i->tab.lookup y=Z i->x=y
theorem OVR.keepX(k:VK as X h h')(x:Ext as h as')(z:OVR c as X h o y):OVR c as' X h' o y:=
 λv e=>(z v e).imp λ_ q=>⟨q.1,q.2.keepX k x⟩
theorem Ns.same{X:List ZZ}{h h':HP}{L:ZZ}{m:Str->Option ZX}(n:h.Ns L m)(k:∀o,h.get? L=Z o->∃o',h'.get? L=Z o'/\SameO X L o o'):h'.Ns L m:=by refine lR n ?_;intro o es ep e r;refine ao (k o e) ?_;intro o' e' s;refine(ly o' es ep e' ?_);rcases s with rfl|⟨_,_,sl,rfl⟩<;>exact r
theorem IsCell.same{X:List ZZ}{h h':HP}{a:ZZ}{y:Option ZX}(n:h.IsCell a y)(k:∀o,h.get? a=Z o->∃o',h'.get? a=Z o'/\SameO X a o o'):h'.IsCell a y:=by refine ao n ?_;intro o e r;refine ao (k o e) ?_;intro o' e' s;refine(aG o' e' ?_);rcases s with rfl|⟨_,_,sl,rfl⟩<;>exact r
theorem FR.keep(F:FR c as X h env tab ρ)(k:Kept as X h h')(x:Ext as h as'):FR c as' X h' env tab ρ where
 kind:=F.kind
 glob:=F.glob
 bi:=F.bi
 lx:=F.lx
 lout:=by refine ao F.ns ?_;intro m p_2 _;obtain⟨o,_,_,e,_⟩:=p_2;exact x.out e F.lout
 lb:=F.lb
 ns:=by refine ao F.ns ?_;intro m n r;exact(aG m (Ns.same n λo e=>k _ o e F.lout) (λy i h1 h2=>(r y i h1 h2).keepX k.x x))
 cells:=λy i h1 h2=>by refine mC (F.cells y i h1 h2) ?_;intro a z e1 e2 e3 e4 e5 e6 e7;refine ao e6 ?_;intro o eo _;exact(mE a z e1 e2 (x.out eo e3) e4 e5 (IsCell.same e6 λo e=>k _ o e e3) (e7.keepX k.x x))
 apart:=F.apart
 inj:=F.inj
theorem JL(S:SR c as X H s)(F:FR c as X s.heap env tab ρ)(ht:tab.lookup x=Z i)(hk:env.kindOf x=Z .local\/env.kindOf x=Z .cell\/env.kindOf x=Z .free)
  (hv:ρ[i]? =Z (Z v))(hn:(x==("__classdict__":Str))=J)(q:Q v H):ZS M A (loadName env x) (Res c as X s.heap Q) E s:=by
 rcases hk with hk|hk
 ·refine ao F.ns ?_;intro m n r;refine ao (r x i ht hk v (by exact YP hv U)) ?_;intro y e1 e2;exact wpAny_loadName_local F.kind hk n e1 (Res.now (tk:=s.toks) S e2 q)
 ·refine mC (F.cells x i ht hk) ?_;intro a z e1 e2 e3 e4 e5 e6 e7;replace e7:=e7 v (by exact YP hv U);refine ao e7 ?_;intro y q_2 e8;clear e7;subst q_2;rcases hk with hk|hk
  ·exact wpAny_loadName_cell F.kind hk e1 e6 (Res.now (tk:=s.toks) S e8 q)
  ·exact wpAny_loadName_free F.kind hk e1 e6 (Res.now (tk:=s.toks) S e8 q) hn
inductive StepF(c:Cx)(as:d6)(X:List ZZ)(H:AH)(env:Env)(tab:List (Str×Nat))(h:HP)(ρ':Fm)(s':ZV):Prop
 |mk:SR c as X H s'->KeptX as X (env.locals::env.cells.map (·.2)) h s'.heap->FR c as X s'.heap env tab ρ'->StepF c as X H env tab h ρ' s'
theorem lP(ρ:Fm)(i j:Nat)(v:Option V)(hi:i<ρ.length):(((ρ.set i v)[j]?).join)=if i=j then v else(ρ[j]?).join:=by
 by_cases h:i=j
 ·subst h;simp [hi]
 ·simp [h]
theorem LX{m:Str->Option ZX}(S:SR c as X H s)(F:FR c as X s.heap env tab ρ)(ht:tab.lookup x=Z i)(hk:env.kindOf x=Z .local)(hi:i<ρ.length)(rr:∀x i,tab.lookup x=Z i->env.kindOf x=Z .local->OVR c as X s.heap ((ρ[i]?).join) (m x))
  (n':h'.Ns env.locals (λw=>if w=x then y else m w))(sb:gK env.locals s.heap h')(hv:OVR c as X s.heap o y):StepF c as X H env tab s.heap (ρ.set i o) {s with heap:=h',toks:=tk}:=by
 have K0:∀b o,s.heap.get? b=Z o->b≠env.locals->h'.get? b=Z o:=λb o e hb=>(sb.2 b hb).trans e;have KX:VK as X s.heap h':=λb o e _ hb=>K0 b o e (λq=>hb (q▸F.lx));have hL':∃o,h'.get? env.locals=Z o:=n'.elim λo q=>q.elim λ_ q=>q.elim λ_ q=>⟨o,q.1⟩;refine⟨S.keepX (s':={s with heap:=h',toks:=tk}) (λb o e _ hb=>K0 b o e (λq=>hb (q▸F.lx))) (λb o e=>K0 b o (S.stays b o e) λq=>?_) (λb hb=>?_) U U,λb o e _ hb=>(aG o (K0 b o e (λq=>hb (q▸.head _))) (.inl U)),?_⟩
 ·(replace q:=YO q;subst q);replace e:=(F.lb).symm.trans e;exact eU e
 ·by_cases q:b=env.locals
  ·exact q▸hL'
  ·exact d5 (S.xs b hb) λo e=>⟨o,K0 b o e q⟩
 ·refine ⟨F.kind,F.glob,F.bi,F.lx,F.lout,F.lb,(aG _ n' (λy j h1 h2=>?_)),λy j h1 h2=>?_,F.apart,F.inj⟩
  ·refine YP (lP _ _ _ _ hi) ?_;by_cases hxy:y=x
   ·clear h2;(replace hxy:=YO hxy;subst hxy);replace h1:=ht.symm.trans h1;(replace h1:=ai h1;subst h1);exact YP (Z3 U) (YP (Z3 U) (hv.keepX KX (.refl ..)))
   ·haveI:i≠j:=λq=>hxy (F.inj _ _ j h1 (q▸ht));exact YP (Z2 this) (YP (Z2 hxy) ((rr y j h1 h2).keepX KX (.refl ..)))
  ·refine mC (F.cells y j h1 h2) ?_;intro a z e1 e2 e3 e4 e5 e6 e7;have hne:y≠x:=λq=>by clear n';subst q;replace h2:=hk▸h2;rcases h2 with h2|h2<;>cases h2
   have:i≠j:=λq=>hne (F.inj _ _ j h1 (q▸ht));refine(mE a z e1 e2 e3 e4 e5 (IsCell.same (X:=X) e6 λo e=>(aG o (K0 _ o e e5) (.inl U))) ?_);exact YP (lP _ _ _ _ hi) (YP (Z2 this) (e7.keepX KX (.refl ..)))
theorem l7{x:Str}{i:Nat}{v:V}{cv:ZX}{M:Model}{R:Unit->ZV->Prop}(S:SR c as X H s)(F:FR c as X s.heap env tab ρ)(ht:tab.lookup x=Z i)(hk:env.kindOf x=Z .local\/env.kindOf x=Z .cell)
  (hi:i<ρ.length)(hv:VR c as X s.heap v cv)(r:∀s',StepF c as X H env tab s.heap (ρ.set i (Z v)) s'->R () s'):ZS M A (storeName env x cv) R E s:=by
 rcases hk with hk|hk
 ·refine ao F.ns ?_;intro m n rr;exact ZN hk n (λh' n' sb=>r _ (LX S F ht hk hi rr n' sb λv' e'=>(aG cv U (ai e'▸hv)))) (by exact YP (F.kind) U)
 ·refine mC (F.cells x i ht (.inl hk)) ?_;intro a z e1 e2 e3 e4 e5 e6 e7;refine wpAny_storeName_cell F.kind hk e1 e6 λh' c' sb=>r _ ?_;have K0:∀b o,s.heap.get? b=Z o->b≠a->h'.get? b=Z o:=λb o e hb=>(sb.2 b hb).trans e;have KX:VK as X s.heap h':=λb o e _ hb=>K0 b o e (λq=>hb (q▸e2));have hL':∃o,h'.get? a=Z o:=c'.elim λo q=>⟨o,q.1⟩;refine⟨S.keepX (s':={s with heap:=h'}) (λb o e _ hb=>K0 b o e (λq=>hb (q▸e2))) (λb o e=>K0 b o (S.stays b o e) λq=>?_) (λb hb=>?_) U U,λb o e _ hb=>(aG o (K0 b o e (λq=>hb (q▸.tail _ ?_))) (.inl U)),?_⟩
  ·(replace q:=YO q;subst q);replace e:=e4.symm.trans e;exact eU e
  ·by_cases q:b=a
   ·exact q▸hL'
   ·refine d5 (S.xs b hb) λo e=>?_;exact⟨o,K0 b o e q⟩
  ·exact cQ.mpr (aG (x,a) (mem_of_lookup e1) U)
  ·refine ao F.ns ?_;intro m n rr;refine⟨F.kind,F.glob,F.bi,F.lx,F.lout,F.lb,(aG _ (Ns.same (X:=X) n λo e=>(aG o (K0 _ o e (Ne.symm e5)) (.inl U))) (λy j h1 h2=>?_)),λy j h1 h2=>?_,F.apart,F.inj⟩
   ·have hne:y≠x:=λq=>by clear e1;subst q;replace h2:=hk.symm.trans h2;cases h2
    have:i≠j:=λq=>hne (F.inj _ _ j h1 (q▸ht));exact YP (lP _ _ _ _ hi) (YP (Z2 this) ((rr y j h1 h2).keepX KX (.refl ..)))
   ·refine mC (F.cells y j h1 h2) ?_;intro a' z' f1 f2 f3 f4 f5 f6 f7;by_cases hxy:y=x
    ·clear hk;subst hxy;replace h1:=ht.symm.trans h1;(replace h1:=ai h1;clear f7;subst h1);refine(mE a _ e1 e2 e3 e4 e5 c' ?_);simp only [lP _ _ _ _ hi,Z3 U];intro v' e';(replace e':=ai e';subst e');exact(aG cv U (hv.keepX KX (.refl ..)))
    ·have:i≠j:=λq=>hxy (F.inj _ _ j h1 (q▸ht));refine(mE a' z' f1 f2 f3 f4 f5 (IsCell.same (X:=X) f6 λo e=>(aG o (K0 _ o e (λq=>hxy (F.apart y x a (q▸f1) e1):a'≠a)) (.inl U))) ?_);exact YP (lP _ _ _ _ hi) (YP (Z2 this) (f7.keepX KX (.refl ..)))
inductive ExcS(h:HP)(e:ZZ)(cls:ZX):Option ZZ->Prop
 |fresh {oe:Obj} {vs:Array ZX}:h.get? e=Z oe->oe.cls=cls->oe.data=.fields vs->vs.size=6->vs[1]? =Z .none->vs[2]? =Z .none->ExcS h e cls Z6
 |traced {oe oT:Obj} {vs ts:Array ZX} {T:ZZ}:h.get? e=Z oe->oe.cls=cls->oe.data=.fields vs->vs.size=6->vs[1]? =Z (.ref T)->vs[2]? =Z .none->
   T≠e->h.get? T=Z oT->oT.data=.fields ts->3<ts.size->ExcS h e cls (Z T)
def Touch(S F:List ZZ)(h h':HP):Prop:=∀b o,h.get? b=Z o->∃o',h'.get? b=Z o'/\(b∈S\/o'=o\/b∈F/\∃sl,o'={o with slots:=sl})
theorem Touch.refl(S F:List ZZ)(h:HP):Touch S F h h:=λ_ o e=>(aG o e (.inr (.inl U)))
theorem Touch.trans(x:Touch S F h h₁)(y:Touch S F h₁ h₂):Touch S F h h₂:=λb o e=>by
 refine ao (x b o e) λo₁ e₁ q₁=>?_;refine ao (y b o₁ e₁) λo₂ e₂ q₂=>?_;refine(aG o₂ e₂ ?_);rcases q₁ with q₁|rfl|⟨hF,sl,rfl⟩
 ·exact .inl q₁
 ·exact q₂
 ·rcases q₂ with q₂|rfl|⟨_,sl',rfl⟩
  ·exact .inl q₂
  ·exact .inr (.inr ⟨hF,⟨sl,rfl⟩⟩)
  ·exact .inr (.inr ⟨hF,⟨sl',rfl⟩⟩)
theorem Touch.mono(x:Touch S F h h')(hS:∀b∈S,b∈S'):Touch S' F h h':=λb o e=>(x b o e).imp λ_ q=>⟨q.1,q.2.imp (hS b) id⟩
theorem Touch.out(x:Touch S F h h')(e:h.get? b=Z o)(hb:b∉S):∃o',h'.get? b=Z o'/\(o'=o\/b∈F/\∃sl,o'={o with slots:=sl}):=
 (x b o e).imp λ_ q=>⟨q.1,q.2.resolve_left hb⟩
theorem Touch.frames(x:Touch S (l.filterMap (·.frame)) h h')(hS:∀b∈S,∀o,h.get? b=Z o->∃vs,o.data=.fields vs)(hl:h.FunFrames base l):h'.FunFrames base l:=
 hl.of_keeps λb o e hn=>by
  obtain⟨o',e',q⟩:=x.out e λhb=>by obtain⟨vs,hd⟩:=hS b hb o e;exact hn vs hd
  rcases q with rfl|⟨_,sl,rfl⟩
  ·exact (aG _ e' U)
  ·exact (aG _ e' U)
theorem wt{Q:ZX->ZV->Prop}(hfr:A.frames=Z (env₀::outer))(hl:s.heap.FunFrames base (env₀::outer))(hf₀:env₀.frame=Z L)(hf:env.frame=Z L)
  (h:∀h',Heap.SlotsOnly ((env₀::outer).filterMap (·.frame)) s.heap h'->Q (.ref L) {s with heap:=h'}):ZS M A (PySem.frameOf env) Q E s:=by
 refine ZM (wpAny_frameEnvs hfr ?_);haveI hdw:((env₀::outer).dropWhile λx=>x.frame !=env.frame)=env₀::outer:=by rw [List.dropWhile_cons_of_neg];simp only [hf₀,hf];simp
 refine YP hdw (ZM (ZM (wpAny_readyFrames_fun hl λh₁ hs₁=>ZL ?_)));exact YP hf₀ (ZL (h h₁ hs₁))
theorem rW{Q:Unit->ZV->Prop}
  (hfr:A.frames=Z (env₀::outer))(hl:s.heap.FunFrames base (env₀::outer))(hf₀:env₀.frame=Z L)(hf:env.frame=Z L)
  (he:s.heap.get? e=Z oe)(hc:oe.cls=cls)(hd:oe.data=.fields vs)(hsz:vs.size=6)(h2:vs[2]? =Z .none)
  (h:∀h' T,ExcS h' e cls (Z T)->s.heap.get? T=Z6->Touch [e] ((env₀::outer).filterMap (·.frame)) s.heap h'->Q () {s with heap:=h'}) :
  ZS M A (do let a <-PySem.frameOf env;let pl <-entryPlaceOf L hadNext;let b <-EntryCells.newEntry head a .none (rawInt L) .none pl;setField (.ref e) 1 b) Q E s:=by
 haveI hene:e∉(env₀::outer).filterMap (·.frame):=λhm=>by refine dq (hl.mem hm) λ_ q_1=>ao q_1 λo ho hnf=>?_;replace ho:=he.symm.trans ho;(replace ho:=ai ho;subst ho);exact hnf vs hd
 refine ZM (wt hfr hl hf₀ hf λh₁ hs₁=>?_);refine ZM (wpAny_entryPlaceOf λpl hpl=>?_);refine ZM (ZK ?_ (hpl.sizeOk5 _ _ _ _ _));haveI he₁:=(hs₁.2.1 e hene).trans he;haveI he₂:=bq {cls:=.type "traceback",dict:=Z6,data:=.fields ([head,.ref L,.none,rawInt L,.none]++(if pl.isEmpty then bW 6 Value.none else pl)).toArray} he₁;refine ZJ he₂ hd (kY (by decide) hsz.symm) (h _ h₁.objs.size ?_ (Heap.get?_none_of_le ((hs₁.1)▸aM _)) λb o hb=>?_)
 ·haveI hTe:=fq (eJ he₁);haveI hd₃:=Obj.data_mapFields hd (·.setIfInBounds 1 (Value.ref h₁.objs.size));refine .traced (cN _ he₂ (Obj.isFreed_of_fields hd₃)) ((Obj.cls_mapFields _ _).trans hc) hd₃ (DE.trans hsz) (by simp [hsz]) ((Array.getElem?_setIfInBounds_ne (by decide)).trans h2) hTe
   ((cG _ _ (Ne.symm hTe)).trans (bf h₁ U)) U (by simp only [i9,af,dN,List.length_nil];exact by simp+arith only)
 ·by_cases hbe':b=e
  ·(replace hbe':=YO hbe';subst hbe')
   exact(aG _ (cN _ he₂ (Obj.isFreed_of_fields (Obj.data_mapFields hd (·.setIfInBounds 1 (Value.ref h₁.objs.size))))) (.inl (.head _)))
  by_cases hF:b∈(env₀::outer).filterMap (·.frame)
  ·exact d5 (hs₁.2.2 b o hb) λsl hs=>((aG _ ((cG _ _ (Ne.symm hbe')).trans (bq _ hs)) (.inr (.inr ⟨hF,⟨sl,rfl⟩⟩))))
  ·exact (aG o ((cG _ _ (Ne.symm hbe')).trans (bq _ ((hs₁.2.1 b hF).trans hb))) (.inr (.inl U)))
theorem ur{Q:Unit->ZV->Prop}(hfr:A.frames=Z (env₀::outer))(hl:s.heap.FunFrames base (env₀::outer))(hf₀:env₀.frame=Z L)(hf:env.frame=Z L)(x:ExcS s.heap e cls t)
  (h:∀h' T,ExcS h' e cls (Z T)->(t=Z T\/s.heap.get? T=Z6)->Touch (e::t.toList) ((env₀::outer).filterMap (·.frame)) s.heap h'->Q () {s with heap:=h'}):ZS M A (noteFrame (.ref e) env) Q E s:=by
 dsimp only [noteFrame];refine YP hf ?_
 induction x with
 |fresh he hc hd hsz h1 h2=>refine ZM (ZI he hd h1 ?_);exact rW hfr hl hf₀ hf he hc hd hsz h2 λh' T x q k=>h h' T x (.inr q) k
 |@traced oe oT vs ts T he hc hd hsz h1 h2 hTe hT hdT hts=>
  refine ZM (ZI he hd h1 ?_);obtain⟨fl,h3⟩:∃fl,ts[3]? =Z fl:=⟨ts[3],by simp [hts]⟩;refine ZM (ZI hT hdT h3 ?_);by_cases hfl:(fl==rawInt L)=Z5
  ·exact YP (Z3 hfl) (ZL (h _ T (.traced he hc hd hsz h1 h2 hTe hT hdT hts) (.inl U) (Touch.refl _ _ _)))
  ·refine YP (Z2 hfl) (ZM (ZJ hT hdT hts ?_));have other:∀b,b≠T->(s.heap.update T (Obj.mapFields (·.setIfInBounds 3 Value.none))).get? b=s.heap.get? b:=λb hb=>cG _ _ (Ne.symm hb);have k0:Touch [e,T] ((env₀::outer).filterMap (·.frame)) s.heap (s.heap.update T (Obj.mapFields (·.setIfInBounds 3 Value.none))):=λb o hb=>by
    by_cases q:b=T
    ·(replace q:=YO q;subst q)
     exact(aG _ (cN _ hT (Obj.isFreed_of_fields (Obj.data_mapFields hdT _))) (.inl (.tail _ (.head _))))
    ·exact (aG o ((other b q).trans hb) (.inr (.inl U)))
   refine rW hfr (k0.frames (λb hb o ho=>?_) hl) hf₀ hf ((other e (Ne.symm hTe)).trans he) hc hd hsz h2 λh' T' x q k=>h h' T' x (.inr ?_) (k0.trans (k.mono λb q=>?_))
   ·rcases iU hb with rfl|hb
    ·replace ho:=he.symm.trans ho;(replace ho:=ai ho;subst ho);exact⟨vs,hd⟩
    ·refine Or.elim (iU hb) (λq_=>?_) (λhb=>?_)
     ·(replace q_:=YO q_;subst q_);replace ho:=hT.symm.trans ho;(replace ho:=ai ho;subst ho);exact⟨ts,hdT⟩
     ·cases hb
   ·by_cases hq:T'=T
    ·(replace hq:=YO hq;subst hq)
     haveI:=cN (Obj.mapFields (·.setIfInBounds 3 Value.none)) hT (Obj.isFreed_of_fields (Obj.data_mapFields hdT _));replace this:=q.symm.trans this;exact eU this
    ·exact YP (YO (other T' hq)) q
   ·refine Or.elim (iU q) (λq_=>?_) (λq=>?_)
    ·(replace q_:=YO q_;subst q_);exact .head _
    ·cases q
theorem kA{Q:Unit->ZV->Prop}(x:ExcS s.heap e cls (Z T))
  (h:∀h',ExcS h' e cls (Z T)->(∀b,b≠T->h'.get? b=s.heap.get? b)->Q () {s with heap:=h'}):ZS M A (setFlight (.ref e) fr) Q E s:=by
 cases x with
 |@traced oe oT vs ts _ he hc hd hsz h1 h2 hTe hT hdT hts=>refine ZM (ZI he hd h1 ?_);haveI other:∀b,b≠T->(s.heap.update T (Obj.mapFields (·.setIfInBounds 3 (fr.elim .none λf=>rawInt f)))).get? b=s.heap.get? b:=λb hb=>cG _ _ (Ne.symm hb);refine ZJ hT hdT hts (h _ (.traced ((other e (Ne.symm hTe)).trans he) hc hd hsz h1 h2 hTe (cN _ hT (Obj.isFreed_of_fields (Obj.data_mapFields hdT _))) (Obj.data_mapFields hdT _) (DE.symm▸hts)) other)
def y8(c:Cx)(as₀:d6)(h₀:HP)(as:d6)(X:List ZZ)(a:ZZ):Prop:=Fr as₀ h₀ a/\a∉as/\a∉X/\c.base.get? a=Z6
inductive ERes(c:Cx)(as:d6)(X:List ZZ)(h:HP)(XX:XE)(x:ZX)(s':ZV):Prop
 |mk (k:Nat) (H':AH) (as':d6) (e:ZZ) (t:Option ZZ) (ts:List ZZ):x=.ref e->Ext as h as'->SR c as' (e::(ts++X)) H' s'->Kept as X h s'.heap->ExcS s'.heap e (.ref (c.xcls k)) t->(∀T,t=Z T->T∈ts)->(∀a∈e::ts,y8 c as h as' X a)->XX k H'->ERes c as X h XX x s'
theorem ERes.lift(e:Ext as h as₁)(k:Kept as X h h₁)(r:ERes c as₁ X h₁ XX x s'):ERes c as X h XX x s':=by obtain⟨n,H',as',a,t,ts,hx,e',S,k',ex,ht,ap,q⟩:=r;exact⟨n,H',as',a,t,ts,hx,e.trans k e',S,k.trans e k',ex,ht,λb hb=>⟨(ap b hb).1.lift e k,(ap b hb).2⟩,q⟩
structure FrE(c:Cx)(X:List ZZ)(as:d6)(h:HP)(env:Env):Prop where
 kind:env.scope.kind≠.module
 there:∃L o es n,env.frame=Z L/\c.base.get? L=Z6/\2<=X.count L/\L∉as/\h.get? L=Z o/\o.data=.dict es n
def FrOk(c:Cx)(A:ZU)(X:List ZZ)(as:d6)(h:HP)(l:List Env):Prop:=A.frames=Z l/\∀env∈l,FrE c X as h env
theorem FrE.keep(f:FrE c X as h env)(e:Ext as h as')(k:Kept as X h h'):FrE c X as' h' env:=by
 refine oM f.there λL o es n h1 h2 h3 h4 h5 h6=>?_;refine ao (k L o h5 h4) λo' e' s=>?_;refine⟨f.kind,L,o',es,n,h1,h2,h3,e.out h5 h4,e',?_⟩;rcases s with rfl|⟨_,_,sl,rfl⟩
 ·exact h6
 ·exact h6
theorem FrOk.keep(f:FrOk c A X as h l)(e:Ext as h as')(k:Kept as X h h'):FrOk c A X as' h' l:=⟨f.1,λenv he=>(f.2 env he).keep e k⟩
theorem FrOk.fun:(∀env∈l,FrE c X as h env)->h.FunFrames c.base l:=by
 induction l with
 |nil=>exact λ_=>Z0
 |cons env l ih=>exact λf=>oM (f env (.head _)).there λL o es n h1 h2 h3 h4 h5 h6=>(bu ((f env (.head _)).kind) (iZ L o h1 h2 h5 (λvs q=>nomatch h6.symm.trans q)) (ih λe he=>f e (.tail _ he)))
theorem FrOk.touch{l:List Env}(f:∀env∈l,FrE c X as' h env)(k:Kept as X h₀ h)(x:Touch S (l.filterMap (·.frame)) h h')(hS:∀a∈S,Fr as h₀ a):Kept as X h₀ h':=λb o e hb=>by
 refine ao (k b o e hb) λo₁ e₁ s₁=>?_;haveI hn:=λq=>(hS b q).elim (λr=>hb r) λr=>eU (r.symm.trans e);refine ao (x.out e₁ hn) λo₂ e₂ s₂=>?_;refine(aG o₂ e₂ (s₁.trans ?_));rcases s₂ with rfl|⟨hF,sl,rfl⟩
 ·exact .inl U
 ·refine ao (rF.mp hF) λenv he hf=>?_;refine oM ((f env he).there) λL o es n h1 h2 h3 h4 h5 h6=>?_;cases h1.symm.trans hf;cases h5.symm.trans e₁;exact .inr (bu h3 ⟨es,n,h6⟩ ⟨sl,rfl⟩)
inductive EnvFr(c:Cx)(A:ZU)(X:List ZZ)(as:d6)(h:HP)(env:Env):Prop
 |mk (env₀:Env) (outer:List Env) (L:ZZ):A.frames=Z (env₀::outer)->(∀e∈env₀::outer,FrE c X as h e)->env₀.frame=Z L->env.frame=Z L->EnvFr c A X as h env
theorem EnvFr.keep(f:EnvFr c A X as h env)(e:Ext as h as')(k:Kept as X h h'):EnvFr c A X as' h' env:=by obtain⟨env₀,outer,L,h1,h2,h3,h4⟩:=f;exact⟨env₀,outer,L,h1,λa ha=>(h2 a ha).keep e k,h3,h4⟩
theorem FrE.grow(f:FrE c X as h env)(g:Grown h h')(hX:∀b,X.count b<=X'.count b):FrE c X' as h' env:=by refine oM f.there λL o es n h1 h2 h3 h4 h5 h6=>?_;exact⟨f.kind,L,o,es,n,h1,h2,aa h3 (hX L),h4,g _ _ h5,h6⟩
theorem EnvFr.grow(f:EnvFr c A X as h env)(g:Grown h h')(hX:∀b,X.count b<=X'.count b):EnvFr c A X' as h' env:=by obtain⟨env₀,outer,L,h1,h2,h3,h4⟩:=f;exact⟨env₀,outer,L,h1,λa ha=>(h2 a ha).grow g hX,h3,h4⟩
theorem EnvFr.env{c:Cx}{A:ZU}{X:List ZZ}{as:d6}{h:HP}{env env':Env}(f:EnvFr c A X as h env)(e:env'.frame=env.frame):EnvFr c A X as h env':=by obtain⟨env₀,outer,L,h1,h2,h3,h4⟩:=f;exact⟨env₀,outer,L,h1,h2,h3,e.trans h4⟩
theorem EnvFr.all{c:Cx}{A:ZU}{X:List ZZ}{as:d6}{h:HP}{env:Env}(f:EnvFr c A X as h env):∃l,FrOk c A X as h l:=by obtain⟨env₀,outer,L,h1,h2,h3,h4⟩:=f;exact(aG _ h1 h2)
theorem SR.note(x:SR c as X H s)(k:Touch S F s.heap h')(hS:∀b∈S,b∈X/\c.base.get? b=Z6)(hF:∀b∈F,b∈X/\c.base.get? b=Z6)(hXY:∀b∈X,b∈Y)(hY:∀b∈Y,b∈X\/s.heap.get? b=Z6)(hy:∀b∈Y,∃o,h'.get? b=Z o):SR c as Y H {s with heap:=h'} where
 len:=x.len
 stays:=λb o e=>by
  obtain⟨o',e',q⟩:=k.out (x.stays b o e) λq=>by replace e:=((hS b q).2).symm.trans e;exact eU e
  rcases q with rfl|⟨q,_⟩
  ·exact e'
  ·replace e:=((hF b q).2).symm.trans e;exact eU e
 gens:=x.gens
 os:=x.os
 objs:=λi a e=>by
  refine d7 (x.objs i a e) ?_;intro h1 h2 r_3;refine ao r_3 λo h3 h4=>?_;haveI fy:∀b o,s.heap.get? b=Z o->b∉X->b∉Y:=λb o e hb q=>(hY b q).elim hb λr=>by replace e:=r.symm.trans e;exact eU e
  have ex:∀b o,s.heap.get? b=Z o->b∉X->h'.get? b=Z o:=λb o e hb=>by
   refine ao (k.out e λq=>hb (hS b q).1) λo' e' q=>?_;rcases q with rfl|⟨q,_⟩
   ·exact e'
   ·exact Z1 (hF b q).1 hb
  obtain⟨ob,hob⟩:=h4.here;exact(bu h1 (fy _ _ hob h2) (aG o h3 ((OR.frames fy h4).keepX (λb o e _ hb=>ex b o e λq=>hb (hXY b q)) λob e=>ex _ _ e h2)))
 inj:=x.inj
 xs:=hy
theorem FrE.mem{l:List Env}(f:∀env∈l,FrE c X as h env){b:ZZ}(hb:b∈l.filterMap (·.frame)):b∈X/\c.base.get? b=Z6:=by
 refine ao (rF.mp hb) λenv he hf=>?_;refine oM ((f env he).there) λL o es n h1 h2 h3 h4 h5 h6=>?_;replace h1:=h1.symm.trans hf
 (replace h1:=ai h1;subst h1)
 exact⟨List.count_pos_iff.mp (bl (by decide) h3),h2⟩
def DI(x:ZX)(h:HP):Prop:=∃e T cls,x=.ref e/\ExcS h e cls (Z T)
def Dat(h h':HP):Prop:=∀b o,h.get? b=Z o->(∀vs,o.data≠.fields vs)->∃o',h'.get? b=Z o'/\o'.data=o.data
theorem Dat.ns(d:Dat h h')(n:h.Ns L m):h'.Ns L m:=by
 refine jF n λo es ep e hd r=>?_;obtain⟨o',e',hd'⟩:=d L o e λvs q=>by replace q:=hd.symm.trans q;cases q
 exact(oU o' es ep e' (hd'.trans hd) r)
theorem ExcS.fields(x:ExcS h e cls t):∀b∈e::t.toList,∀o,h.get? b=Z o->∃vs,o.data=.fields vs:=λb hb o ho=>by
 induction x with
 |fresh he hc hd=>
  rcases iU hb with rfl|hb
  ·cases he.symm.trans ho;exact⟨_,hd⟩
  ·cases hb
 |traced he hc hd hsz v1 v2 hTe hT hdT=>
  rcases iU hb with rfl|hb
  ·cases he.symm.trans ho;exact⟨_,hd⟩
  ·induction gJ.mp hb
   cases hT.symm.trans ho;exact⟨_,hdT⟩
theorem Touch.dat(x:Touch S F h h')(hS:∀b∈S,∀o,h.get? b=Z o->∃vs,o.data=.fields vs):Dat h h':=λb o e hn=>by
 obtain⟨o',e',q⟩:=x.out e λq=>by obtain⟨vs,hd⟩:=hS b q o e;exact hn vs hd
 rcases q with rfl|⟨_,sl,rfl⟩
 ·exact (aG _ e' U)
 ·exact (aG _ e' U)
theorem ERes.note{XX:XE}{x:ZX}{E:ZX->ZV->Prop}{Q:Unit->ZV->Prop}(r:ERes c as X h XX x s')(hf:∀as' H' Z7,Ext as h as'->Kept as X h s'.heap->SR c as' Z7 H' s'->(∀b∈X,b∈Z7)->EnvFr c A X as' s'.heap env)
  (q:∀s'',ERes c as X h XX x s''->DI x s''.heap->Dat s'.heap s''.heap->Q () s''):ZS c.M A (noteFrame x env) Q E s':=by
 obtain⟨k,H',as',e,t,ts,rfl,e',S,k',ex,ht,ap,w⟩:=r;obtain⟨env₀,outer,L,h1,h2,h3,h4⟩:=hf as' H' _ e' k' S λb hb=>.tail _ (aC _ hb);refine ur h1 (FrOk.fun h2) h3 h4 ex λh'' T ex' hT tc=>q _ ?_ (ly e T _ U ex') (tc.dat ex.fields);have hSm:∀a∈e::t.toList,a∈e::ts:=λa ha=>by
  refine Or.elim (iU ha) (λq_=>?_) (λha=>?_)
  ·(replace q_:=YO q_;subst q_);exact .head _
  ·exact .tail _ (ht a (jb.mp ha))
 have K':=FrOk.touch h2 k' tc λa ha=>(ap a (hSm a ha)).1;have hS:∀b∈e::t.toList,b∈e::(ts++X)/\c.base.get? b=Z6:=λb hb=>⟨by
  rcases iU (hSm b hb)with rfl|hb
  ·exact .head _
  ·exact .tail _ (aR _ hb),(ap b (hSm b hb)).2.2.2⟩
 have hF:∀b∈(env₀::outer).filterMap (·.frame),b∈e::(ts++X)/\c.base.get? b=Z6:=λb hb=>⟨.tail _ (aC _ (FrE.mem h2 hb).1),(FrE.mem h2 hb).2⟩;have hex:∀b∈e::(ts++X),∃o,h''.get? b=Z o:=λb hb=>by refine d5 (S.xs b hb) λo eo=>?_;refine ao (tc b o eo) λo' eo' _=>?_;exact⟨o',eo'⟩
 rcases hT with rfl|hT
 ·exact ⟨k,H',as',e,Z T,ts,rfl,e',S.note tc hS hF (λ_ q=>q) (λ_ q=>.inl q) hex,K',ex',ht,ap,w⟩
 ·refine ⟨k,H',as',e,Z T,T::ts,rfl,e',S.note tc hS hF (λb hb=>?_) (λb hb=>?_) (λb hb=>?_),K',ex',λT' q=>by(replace q:=ai q;subst q);exact .head _,λa ha=>?_,w⟩
  ·refine Or.elim (iU hb) (λq_=>?_) (λhb=>?_)
   ·(replace q_:=YO q_;subst q_);exact .head _
   ·exact .tail _ (.tail _ hb)
  ·rcases iU hb with rfl|hb
   ·exact .inl (.head _)
   ·refine Or.elim (iU hb) (λq_=>?_) (λhb=>?_)
    ·subst q_;exact .inr hT
    ·exact .inl (.tail _ hb)
  ·rcases iU hb with rfl|hb
   ·exact hex _ (.head _)
   ·refine Or.elim (iU hb) (λq_=>?_) (λhb=>?_)
    ·subst q_;cases ex' with|traced he hc hd hsz v1 v2 hTe hTT=>exact⟨_,hTT⟩
    ·exact hex _ (.tail _ hb)
  ·rcases iU ha with rfl|ha
   ·exact ap _ (.head _)
   ·refine Or.elim (iU ha) (λq_=>?_) (λha=>?_)
    ·subst q_;refine(qF (k'.fr hT) (λq=>?_) (λq=>?_) ?_)
     ·refine d5 (c6 q) λi hi=>?_;refine d7 (S.objs i _ hi) λ_ _ r_3=>?_;refine ao r_3 λo _ ho=>?_;obtain⟨ob,e⟩:=ho.here;replace e:=hT.symm.trans e;exact eU e
     ·obtain ⟨o,e⟩:=S.xs _ (.tail _ (aC _ q));replace e:=hT.symm.trans e;exact eU e
     ·cases hb:c.base.get? a with
      |none=>rfl
      |some o=>replace hT:=(S.stays a o hb).symm.trans hT;cases hT
    ·exact ap _ (.tail _ ha)
theorem ExcS.uniq(x:ExcS h e cls t)(y:ExcS h e cls' t'):t=t':=by
 induction x with
 |fresh a1 a2 a3 a4 a5 a6=>
  induction y with
  |fresh=>rfl
  |traced b1 b2 b3 b4 b5=>cases a1.symm.trans b1;cases a3.symm.trans b3;cases a5.symm.trans b5
 |traced a1 a2 a3 a4 a5=>
  induction y with
  |fresh b1 b2 b3 b4 b5=>cases a1.symm.trans b1;cases a3.symm.trans b3;cases a5.symm.trans b5
  |traced b1 b2 b3 b4 b5=>cases a1.symm.trans b1;cases a3.symm.trans b3;cases a5.symm.trans b5;rfl
theorem ERes.fly{E:ZX->ZV->Prop}{Q:Unit->ZV->Prop}(r:ERes c as X h XX x s')(tr:DI x s'.heap)(q:∀s'',ERes c as X h XX x s''->DI x s''.heap->Q () s''):ZS c.M A (setFlight x fr) Q E s':=by
 obtain⟨k,H',as',e,t,ts,rfl,e',S,k',ex,ht,ap,w⟩:=r;refine lR tr λe₁ T cls he ex₁=>?_;cases he;replace ex₁:=ex.uniq ex₁;obtain rfl:=ex₁;refine kA ex λh'' ex' hk=>q _ ?_ (ly e T _ U ex');have tc:Touch [T] [] s'.heap h'':=λb o eb=>by
  by_cases hb:b=T
  ·(replace hb:=YO hb;subst hb)
   cases ex' with|traced he hc hd hsz v1 v2 hTe hTT=>exact(aG _ hTT (.inl (.head _)))
  ·exact (aG o ((hk b hb).trans eb) (.inr (.inl U)))
 have hT:=ht T U;refine⟨k,H',as',e,Z T,ts,rfl,e',S.note tc (λb hb=>?_) (λb hb=>nomatch hb) (λ_ q=>q) (λ_ q=>.inl q) (λb hb=>?_),λb o eb hb=>?_,ex',ht,ap,w⟩
 ·cases gJ.mp hb;exact⟨.tail _ (aR _ hT),(ap T (.tail _ hT)).2.2.2⟩
 ·refine d5 (S.xs b hb) λo eo=>?_;refine ao (tc b o eo) λo' eo' _=>?_;exact⟨o',eo'⟩
 ·refine ao (k' b o eb hb) λo₁ e₁ s₁=>?_;have hbT:b≠T:=λq=>by
   subst q;rcases(ap b (.tail _ hT)).1 with q|q
   ·exact hb q
   ·replace eb:=q.symm.trans eb;exact eU eb
  exact(aG o₁ ((hk b hbT).trans e₁) s₁)
theorem ERes.less(r:ERes c as Y h XX x s')(hXY:∀b∈X,b∈Y)(hY:∀b,2<=Y.count b->2<=X.count b\/Fr as h b):ERes c as X h XX x s':=by obtain⟨k,H',as',e,t,ts,rfl,e',S,k',ex,ht,ap,w⟩:=r;have sub:∀b∈e::(ts++X),b∈e::(ts++Y):=eD (.head _) (bR (λb hb=>.tail _ (aR _ hb)) λb hb=>.tail _ (aC _ (hXY b hb)));exact⟨k,H',as',e,t,ts,rfl,e',⟨S.len,S.stays,S.gens,S.os,λi a q=>haveI z:=S.objs i a q;(bu z.1 (λq=>z.2.1 (sub a q)) (z.2.2.imp λ_ y=>⟨y.1,OR.frames (λb _ _ hb q=>hb (sub b q)) y.2⟩)),S.inj,λb hb=>S.xs b (sub b hb)⟩,k'.less hY,ex,ht,λa ha=>(qF ((ap a ha).1) ((ap a ha).2.1) (λq=>(ap a ha).2.2.1 (hXY a q)) ((ap a ha).2.2.2)),w⟩
theorem ExcS.keep(x:ExcS h e cls t)(k:∀b∈e::t.toList,∀o,h.get? b=Z o->h'.get? b=Z o):ExcS h' e cls t:=by
 induction x with
 |fresh he hc hd hsz h1 h2=>exact .fresh (k _ (.head _) _ he) hc hd hsz h1 h2
 |traced he hc hd hsz h1 h2 hTe hT hdT hts=>exact .traced (k _ (.head _) _ he) hc hd hsz h1 h2 hTe (k _ (.tail _ (.head _)) _ hT) hdT hts
theorem ERes.pass{α:Type}{Q:α->ZV->Prop}{E:ZX->ZV->Prop}(r:ERes c as X h XX x s')(tr:DI x s'.heap)(q:∀s'',ERes c as X h XX x s''->DI x s''.heap->E x s''):ZS c.M A (PySem.passOn what x env:Sem α) Q E s':=by
 refine lR (id tr) λe T cls q_4 ex=>?_;subst q_4;cases ex with
 |traced he hc hd hsz v1 v2 hTe hTT=>refine ZM (ZI he hd v1 ?_);exact ZM (r.fly tr λs'' er tr'=>ZH (q s'' er tr'))
noncomputable abbrev B5:List ZX:=[.type "ValueError",.type "Exception",.type "BaseException",.type "object"]
noncomputable def kI:List Str:=["__init__","__getattribute__","__getattr__","__class__"]
inductive XTail(h:HP):List ZX->Prop
 |base:XTail h B5
 |own {A:ZZ} {c0:ZX} {dd:Option ZZ} {cd:ClassData} {sl:Array (Option ZX)} {mA:Str->Option ZX} {tl:List ZX}:
   h.get? A=Z {cls:=c0,dict:=dd,data:=.cls cd,slots:=sl}->h.Ns cd.ns mA->(∀n∈kI,mA n=Z6)->XTail h tl->XTail h (.ref A::tl)
theorem XTail.tail(T:XTail h tl):OwnTail h B5 tl:=by
 induction T with
 |base=>exact .base
 |own hA hN hq _ ih=>exact .own hA hN (hq _ (.head _)) ih
theorem XTail.keeps(T:XTail h tl)(hk:h.StaysIn h'):XTail h' tl:=by
 induction T with
 |base=>exact .base
 |own hA hN hq _ ih=>exact .own (hk _ _ hA) (hN.keeps hk) hq ih
inductive XC(h:HP)(C:ZZ)(bm:List ZX):Prop
 |mk {nm q:Str} {N:ZZ} {bs:List ZX} {hdct:Bool} {sn:List Str} {sub:List ZX} {ab:Bool} {col:Option Bool} {dd:Option ZZ} {k0 k1 k2 k3 k5:Option ZX} {mN:Str->Option ZX}:
   h.get? C=Z (excClassObj nm q C N bs bm hdct sn sub ab col dd k0 k1 k2 k3 k5 "ValueError.__new__")->h.Ns N mN->(∀n∈kI,mN n=Z6)->XTail h bm->XC h C bm
theorem XC.keeps(x:XC h C bm)(hk:h.StaysIn h'):XC h' C bm:=by obtain⟨hC,hN,hq,T⟩:=x;exact⟨hk _ _ hC,hN.keeps hk,hq,T.keeps hk⟩
theorem XTail.has(T:XTail h tl)(hv:B5.contains v=Z5):tl.contains v=Z5:=by
 induction T with
 |base=>exact hv
 |own _ _ _ _ ih=>simp only [iV,ih,kP]
section
variable {os:OsState}
theorem ul{Q:Option ZX->ZV->Prop}(hn:n∈kI)(T:XTail h tl)(hrest:lookupAlong B5 n=pure y)(hq:Q y ⟨h,g,d,t,os⟩) :
  ZS M A (lookupAlong tl n) Q E ⟨h,g,d,t,os⟩:=by
 induction T with
 |base=>exact(hrest)▸ZL hq
 |own hA hN hni _ ih=>rw [lookupAlong_cons];refine ZM (wpAny_classOwn_cls hA hN ?_);exact YP (hni n hn) ih
theorem wc{Q:Option ZX->ZV->Prop}(hn:n∈kI)(x:XC h C bm)(hB:ZG (.type "ValueError") n=pure y)(hq:Q y ⟨h,g,d,t,os⟩) :
  ZS M A (ZG (.ref C) n) Q E ⟨h,g,d,t,os⟩:=by
 obtain⟨hC,hN,hmN,T⟩:=x;haveI hrest:lookupAlong B5 n=pure y:=by exact hB
 simp only [typeLookup_eq];refine ZM (wpAny_mroOf_exc hC ?_);rw [lookupAlong_cons];refine ZM (wpAny_classOwn_exc hC hN ?_);exact YP (hmN n hn) (ul hn T hrest hq)
theorem t8{Q:Bool->ZV->Prop}(x:XC h C bm)(hq:Q ((Value.ref C::bm).contains b) ⟨h,g,d,t,os⟩):ZS M A (isSubtype (.ref C) b) Q E ⟨h,g,d,t,os⟩:=by obtain⟨hC,hN,hmN,T⟩:=x;exact ZF hC hq
theorem XC.base(x:XC h C bm)(hv:B5.contains v=Z5):(Value.ref C::bm).contains v=Z5:=by obtain⟨hC,hN,hmN,T⟩:=x;simp only [iV,T.has hv,kP]
theorem XC.obj(x:XC h C bm):∃o,h.get? C=Z o/\o.cls=.type "type"/\∃cd,o.data=.cls cd:=by obtain⟨hC,hN,hmN,T⟩:=x;exact(bQ _ hC U ⟨_,rfl⟩)
theorem FE{Q:Bool->ZV->Prop}(x:XC h C bm)(y:XC h D bm')(he:h.get? e=Z oe)(hcls:oe.cls=.ref C)(hs:(Value.ref C::bm).contains (.ref D)=Z5)(hq:Q Z5 ⟨h,g,d,t,os⟩) :
  ZS M A (excMatches (.ref e) (.ref D)) Q E ⟨h,g,d,t,os⟩:=by
 haveI hcB:=y.base (v:=.type "BaseException") (by decide);obtain⟨hC,hN,hmN,T⟩:=x;obtain⟨hD,hN',hmN',T'⟩:=y;haveI f:=tc_notTuple;unfold excMatches
 repeat (first|(with_reducible refine ZE he ?_;rw [hcls])|with_reducible refine ZE hD ?_|(with_reducible refine ZF hD ?_;rw [hcB])|(with_reducible refine ZF hC ?_;rw [hs])|wp_step)
 exact hq
end
section
variable {os:OsState}
theorem uF{R:Result->ZV->Prop}(x:XC h C bm)(hx:h.get? a=Z o)(hc:o.cls=.ref C)(hq:R (.ok (.ret (.ref C))) ⟨h,g,d,t,os⟩) :
  ZD (model prog w) A (.call (.builtin "getset_descriptor.__get__") ⟨[.builtin "object.__class__",.ref a,.ref C],[]⟩) R ⟨h,g,d,t,os⟩:=by
 haveI hT5:(⟨h,g,d,t,os⟩:ZV).TypeIs (.builtin "object.__class__") "getset_descriptor":=F.typeOf_object_class;haveI hcB:(Value.ref C::bm).contains (.type (".".intercalate ("object.__class__".cutAt '.').dropLast))=Z5:=by exact x.base (by decide)
 refine ZC F.slot_gs_get.plain F.entry_gs_get (F.slot_gs_get.check _ _ _ _ _ _ _ _ hT5 (F.args_gs_get _ _ _) ?_)
 repeat (any_goals (first|assumption|(with_reducible refine ZE hx ?_;simp only [hc])|(with_reducible refine t8 x ?_;simp only [hcB])|wp_step))
 refine⟨Code.quiet_builtin _ (by decide+kernel),codeAny_builtin F.entry_object_class ?_⟩
 repeat (any_goals (first|assumption|(with_reducible refine ZE hx ?_;rw [hc])|wp_step))
theorem wS{Q:Unit->ZV->Prop}(x:XC h C bm)(hx:h.get? a=Z o)(hc:o.cls=.ref C)(hq:Q () ⟨h,g,d,t,os⟩):ZS M A (checkBuiltinCall "BaseException.__getattribute__" ⟨[.ref a,nameV],[]⟩) Q E ⟨h,g,d,t,os⟩:=by
 haveI hk:builtinKind "BaseException.__getattribute__"=Z .slot:=by decide+kernel
 haveI hsplit:splitId "BaseException.__getattribute__"=Z ("BaseException","__getattribute__"):=by decide+kernel
 haveI hcB:=x.base (v:=.type "BaseException") (by decide);haveI ha:=F.args_bexc_ga (.ref a) nameV;rw [checkBuiltinCall,hk,hsplit];refine ZM ?_
 ·unfold isInstance
  repeat (first|(with_reducible refine ZE hx ?_;rw [hc])|(with_reducible refine t8 x ?_;rw [hcB])|wp_step)
  exact hq
theorem wI:ZG (.type "ValueError") "__class__"=pure (Z (.builtin "object.__class__")):=by kernel_rfl
theorem rA{Q:Fin->ZV->Prop}(x:XC h C bm)(hx:h.get? a=Z o)(hc:o.cls=.ref C)(hq:Q (.done (.ret (.ref C))) ⟨h,g,d,t,os⟩) :
  ZS (model prog w) A (Builtin.«object.__getattribute__» ⟨[.ref a,.str "__class__" tk],[]⟩) Q E ⟨h,g,d,t,os⟩:=by
 have hT5:=F.typeOf_object_class;have f5:=F.typeOf_object_class;haveI f6:=F.slot_gs_get.lookup;haveI f7:=F.slot_gs_set.lookup;haveI hm:("__class__":Str)∈kI:=.tail _ (.tail _ (.tail _ (.head _)))
 repeat (any_goals (first|assumption|(with_reducible refine ZE hx ?_;rw [hc])|with_reducible refine wc hm x wI ?_|wp_step))
 refine uF x hx hc ?_
 repeat (any_goals (first|assumption|wp_step))
theorem wz{Q:ZX->ZV->Prop}(x:XC h C bm)(hx:h.get? a=Z o)(hc:o.cls=.ref C)(hq:Q (.ref C) ⟨h,g,d,t,os⟩) :
  ZS (model prog w) A (getAttrBy (.ref a) (.str "__class__" tk) J) Q E ⟨h,g,d,t,os⟩:=by
 haveI FB:=F.attrBase_ValueError;haveI f3:=FB.ga.bind (.ref a);haveI hx2:(Value.builtin "BaseException.__getattribute__"==Value.builtin "object.__getattribute__")=J:=by decide+kernel
 haveI hx1:(onTheHeap (Value.ref C)&&Value.builtin "BaseException.__getattribute__"==Value.builtin "object.__getattribute__")=J:=by rfl
 haveI hm1:("__getattribute__":Str)∈kI:=.tail _ (.head _);haveI hm2:("__getattr__":Str)∈kI:=.tail _ (.tail _ (.head _))
 repeat (any_goals (first|assumption|(with_reducible refine ZE hx ?_;simp only [hc])|with_reducible refine wc hm1 x FB.ga.lookup ?_|with_reducible refine wc hm2 x FB.noGetattr ?_|wp_step))
 refine ZC FB.ga.plain F.entry_bexc_ga (wS x hx hc (rA x hx hc ?_))
 repeat (any_goals (first|assumption|wp_step))
theorem tq{Q:Option ZX->ZV->Prop}(x:XC h C bm)(hx:h.get? a=Z o)(hc:o.cls=.ref C)(hq:Q (Z (.ref C)) ⟨h,g,d,t+1,os⟩):ZS (model prog w) A (getAttr? (.ref a) "__class__") Q E ⟨h,g,d,t,os⟩:=by
 unfold getAttr? getAttrBy?
 repeat (any_goals (first|assumption|with_reducible apply wz x hx hc|wp_step))
theorem s5{Q:Fin->ZV->Prop}(x:XC h C bm)(y:XC h D bm')(hx:h.get? a=Z o)(hc:o.cls=.ref C)(hq:∀t',Q (.done (.ret (.bool ((Value.ref C::bm).contains (.ref D))))) ⟨h,g,d,t',os⟩) :
  ZS (model prog w) A (Builtin.«isinstance.nested» ⟨[.ref a,.ref D,.int dep tk],[]⟩) Q E ⟨h,g,d,t,os⟩:=by
 obtain⟨oD,hoD,hcD,cdD,hdD⟩:=y.obj;obtain⟨oC,hoC,hcC,cdC,hdC⟩:=x.obj;by_cases hCD:C=D
 ·clear hoD;subst hCD;have e:(Value.ref C::bm).contains (.ref C)=Z5:=by simp
  rw [e]at hq;have hq0:=hq t;have hb:(Value.ref C==Value.ref C)=Z5:=by simp
  repeat (any_goals (first|assumption|(with_reducible refine ZE hx ?_;skip)|wp_step))
 ·have hne:(Value.ref C==Value.ref D)=J:=by simpa using hCD
  have f1:=tc_notTuple;cases hb:(Value.ref C::bm).contains (.ref D)with
  |true=>
   rw [hb]at hq;have hq0:=hq t
   repeat (any_goals (first|assumption|(with_reducible refine ZE hx ?_;rw [hc])|(with_reducible refine ZE hoD ?_;try rw [hcD])|(with_reducible refine t8 x ?_;rw [hb])|wp_step))
  |false=>
   rw [hb]at hq;have hq0:=hq (t+1)
   repeat (any_goals (first|assumption|(with_reducible refine ZE hx ?_;rw [hc])|(with_reducible refine ZE hoD ?_;try rw [hcD])|(with_reducible refine t8 x ?_;rw [hb])|(with_reducible refine tq x hx hc ?_)|wp_step))
theorem tH{Q:Fin->ZV->Prop}(x:XC h C bm)(hx:h.get? a=Z o)(hc:o.cls=.ref C)(hq:Q (.done (.ret (.bool Z5))) ⟨h,g,d,t,os⟩) :
  ZS (model prog w) A (Builtin.«isinstance.nested» ⟨[.ref a,.type "ValueError",.int dep tk],[]⟩) Q E ⟨h,g,d,t,os⟩:=by
 haveI hne:(Value.ref C==Value.type "ValueError")=J:=rfl;haveI hty:typeOf (.type "ValueError")=pure (.type "type"):=by kernel_rfl
 repeat (any_goals (first|assumption|(with_reducible refine ZE hx ?_;rw [hc])|(with_reducible refine t8 x ?_;rw [(x.base (v:=.type "ValueError") (by decide))])|wp_step))
end
theorem zH(x:XC s.heap C bm)(y:XC s.heap D bm')(hx:s.heap.get? a=Z o)(hc:o.cls=.ref C)(hq:∀tk,Q (.bool ((Value.ref C::bm).contains (.ref D))) {s with toks:=tk}) :
  ZS (model prog w) A (call (.builtin "isinstance") [.ref a,.ref D]) Q E s:=
 call_isinstance (S:=λ_ R s=>(XC s.heap C bm/\XC s.heap D bm'/\s.heap.get? a=Z o)/\∀tk,R (.ok (.ret (.bool ((Value.ref C::bm).contains (.ref D))))) {s with toks:=tk})
  (λ_ _ _ _ _ hs=>isinstance_outer (s5 hs.1.1 hs.1.2.1 hs.1.2.2 hc hs.2) nofun) ⟨(bu x y hx),hq⟩
theorem zB(x:XC s.heap C bm)(hx:s.heap.get? a=Z o)(hc:o.cls=.ref C)(hq:∀tk,Q (.bool Z5) {s with toks:=tk}) :
  ZS (model prog w) A (call (.builtin "isinstance") [.ref a,.type "ValueError"]) Q E s:=
 call_isinstance (S:=λ_ R s=>(XC s.heap C bm/\s.heap.get? a=Z o)/\R (.ok (.ret (.bool Z5))) s)
  (λ_ _ _ _ _ hs=>isinstance_outer (tH hs.1.1 hs.1.2 hc hs.2) nofun) ⟨⟨x,hx⟩,hq s.toks⟩
section
variable {c:Cx}
theorem VRs.len_arr{items:Array ZX}(r:VRs c as X h vs items.toList):items.size=vs.length:=by haveI:=r.length;exact this.symm
inductive FreshL(c:Cx)(as:d6)(X:List ZZ)(s:ZV)(vs:List V)(x:ZX)(s':ZV):Prop
 |mk (a:ZZ) (items:Array ZX):x=.ref a->s.heap.get? a=Z6->c.base.get? a=Z6->Grown s.heap s'.heap->s'.gens=s.gens->s'.os=s.os->s'.heap.PlainList a items->VRs c as X s.heap vs items.toList->vs.length<=li->FreshL c as X s vs x s'
theorem SR.not_as(S:SR c as X H s)(hn:s.heap.get? a=Z6):a∉as:=λq=>by obtain⟨i,hi⟩:=c6 q;refine d7 (S.objs i _ hi) ?_;intro _ _ r_3;refine ao r_3 λo _ ho=>?_;obtain⟨ob,e⟩:=OR.here ho;replace e:=hn.symm.trans e;exact eU e
theorem SR.not_x(S:SR c as X H s)(hn:s.heap.get? a=Z6):a∉X:=λq=>by refine d5 (S.xs _ q) λo e=>?_;replace e:=hn.symm.trans e;exact eU e
theorem SR.base_none(S:SR c as X H s)(hn:s.heap.get? a=Z6):c.base.get? a=Z6:=by
 cases h:c.base.get? a with
 |none=>rfl
 |some o=>replace hn:=(S.stays a o h).symm.trans hn;cases hn
theorem dK(h:HP):h.get? h.objs.size=Z6:=by
 cases e:h.get? h.objs.size with
 |none=>rfl
 |some o=>exact Z1 (eJ e) (cZ _)
theorem FreshL.frozen(S:SR c as X H s)(f:FreshL c as X s vs x s')(q:Q (.lst vs) H):Res c as X s.heap Q x s':=by obtain⟨a,items,rfl,hn,hb,g,hg,hos,⟨n,hp⟩,r,hl⟩:=f;exact Res.grow S g hg hos (.lst (S.not_as hn) (S.not_x hn) ⟨n,hp⟩ (r.grow g) hl) q
theorem nz(as:d6)(h:HP)(a:ZZ)(hn:h.get? a=Z6):Ext as h (as++[a]):=
 ⟨λ_ _ e=>dT e,bR (λ_ q=>.inl q) (c8 (.inr hn))⟩
theorem OR.keepE(k:VK as X h h')(x:Ext as h as')(hnd:∀(i:Nat) (b:ZZ),as[i]? =Z b->as'[i]? =Z b)
  (ha:∀ob,h.get? a=Z ob->h'.get? a=Z ob):OR c as X h a o->OR c as' X h' a o:=by
 intro z
 induction o with
 |list vs=>obtain⟨hb,items,⟨n,e⟩,r⟩:=z;exact⟨hb,(aG items ⟨n,ha _ e⟩ (r.keepX k x))⟩
 |dict ks vs=>obtain⟨hb,hsm,cs,hd,hl,r⟩:=z;exact(bu hb hsm (bQ cs (DictOf.same hd ha) hl (r.keepX k x)))
 |inst k d=>obtain⟨dx,ob,e1,e2,r1,r2,r3⟩:=z;exact⟨dx,ob,hnd _ _ e1,ha _ e2,r1,r2,r3⟩
 |ns ks vs=>obtain⟨hb,cs,mA,hn,hl,r,hm⟩:=z;exact⟨hb,(iZ cs mA (hn.at ha) hl (r.keepX k x) hm)⟩
theorem SR.alloc(S:SR c as X H s)(hn:s.heap.get? a=Z6)(g:Grown s.heap s'.heap)(hg:s'.gens=s.gens)(hos:s'.os=s.os)(ho:OR c (as++[a]) X s'.heap a o) :
  SR c (as++[a]) X (H++[o]) s' where
 len:=by simp only [af,af,S.len];rfl
 stays:=λb o e=>g b o (S.stays b o e)
 gens:=hg.trans S.gens
 os:=hos.trans S.os
 objs:=λi b hi=>(iR hi).elim (λhi=>d7 (S.objs i b hi) λh1 h2 r=>ao r λo' h3 h4=>(bu h1 h2 (aG o' (dT h3) (h4.keepE (g.kept as X).x (nz as _ a hn) (λ_ _ e=>dT e) λob e=>g b ob e)))) λq=>by obtain⟨rfl,rfl⟩:=q;exact(bu (S.base_none hn) (S.not_x hn) (aG o (by refine YP (S.len) ?_;exact dU) ho))
 inj:=λi j b hi hj=>(iR hi).elim (λh1=>(iR hj).elim (S.inj i j b h1) λh2=>Z1 (h2.2▸aI h1) (S.not_as hn)) λh1=>(iR hj).elim (λh2=>Z1 (h1.2▸aI h2) (S.not_as hn)) λh2=>h1.1.trans h2.1.symm
 xs:=λb hb=>(S.xs b hb).imp λo e=>g b o e
theorem FreshL.thawed(S:SR c as X H s)(f:FreshL c as X s vs x s')(q:Q (.ref H.length) (H++[.list vs])):Res c as X s.heap Q x s':=by obtain⟨a,items,rfl,hn,hb,g,hg,hos,hp,r,hl⟩:=f;haveI E:=nz as s.heap a hn;refine⟨.ref H.length,_,as++[a],E,S.alloc (o:=.list vs) hn g hg hos ⟨hl,(aG items hp (r.keep (g.kept as X) E))⟩,g.kept as X,.ref ?_,q⟩;refine YP (YO (S.len)) ?_;simp
theorem nI(S:SR c as X H s)(hp:prim c.P p us H=Z (.lst ws,H))(hw:∀R:ZX->ZV->Prop,(∀x s',FreshL c as X s ws x s'->R x s')->ZS c.M A t R E s)
  (q:iT (bj c.P mu p us H) Q):ZS c.M A t (Res c as X s.heap Q) E s:=by
 induction mu with
 |false=>replace q:iT (prim c.P p us H) Q:=q;rw [hp]at q;exact hw _ λx s' f=>f.frozen S q
 |true=>
  replace q:iT (if p.fresh=Z5 then(prim c.P p us H).bind λr=>kF r.1 r.2 else Z6) Q:=q;cases hf:p.fresh with
  |true=>rw [hf,hp]at q;exact hw _ λx s' f=>f.thawed S q
  |false=>rw [hf]at q;exact q.elim
theorem Gk(e:LS H v=Z n):(∃s,v=.str s/\n=s.length)\/(∃vs,v=.tup vs/\n=vs.length)\/(∃vs,view H v=Z vs/\n=vs.length)\/∃d,kr H v=Z d/\n=d.1.length:=by
 refine Is.of (R:=λn=>(∃s,v=.str s/\n=s.length)\/(∃vs,v=.tup vs/\n=vs.length)\/(∃vs,view H v=Z vs/\n=vs.length)\/∃d,kr H v=Z d/\n=d.1.length) ?_ e;have h:∀{o:Option (List V)},o=view H v->Is (ET ((kr H v).map λd=>d.1.length) o) λn=>(∃s,v=.str s/\n=s.length)\/(∃vs,v=.tup vs/\n=vs.length)\/(∃vs,view H v=Z vs/\n=vs.length)\/∃d,kr H v=Z d/\n=d.1.length:=λ{o} e=>by
  induction o with
  |some vs=>exact .inr (.inr (.inl (aG vs e.symm U)))
  |none=>exact Is.self.map λd h1=>.inr (.inr (.inr (aG d h1 U)))
 clear e;cases v with
 |str s=>exact .inl (aG s U U)
 |tup vs=>exact .inr (.inl (aG vs U U))
 |_=>exact h U
theorem mX(h:n<=li):(n:Int)<2 ^ 63:=Gr (iW (b7.mpr h) JQ) (by decide)
theorem qb(h:n<=aB):n<=li:=aa h (aa (ax _ 5) fQ)
theorem MG(S:SR c as X H s)(hv:VR c as X s.heap v cv)(e:ML [v] H=Z (r,H'))(q:Q r H'):ZS c.M A (call (.builtin "len") [cv]) (Res c as X s.heap Q) E s:=by
 refine ao (ez e) λn e1 e2=>?_;cases e2;haveI F:=λt tk=>Res.now (tk:=tk) S (VR.int n t) q;rcases Gk e1 with ⟨s,rfl,rfl⟩|⟨vs,rfl,rfl⟩|⟨vs,hvs,rfl⟩|⟨d,hd,rfl⟩
 ·induction hv.inv with
  |str _ hs=>
   refine len_str ?_ ?_
   ·rw [eW];exact ib.mpr (mX hs)
   ·rw [eW];exact F _ _
 ·induction hv.inv with
  |tup h1 h2 h3 r hs=>
   have hl:=r.len_arr;refine P.len_tuple h3 ?_ ?_
   ·exact hl▸ib.mpr (mX hs)
   ·exact hl▸F _ _
 ·replace S:=eY S hv hvs;obtain⟨a,items,rfl,hp,r,hs⟩:=S;have hl:=r.len_arr;refine call_len_list hp.isList ?_ ?_
  ·exact hl▸mX hs
  ·exact hl▸F _ _
 ·replace S:=nL S hv hd;obtain⟨a,cs,rfl,hsm,hp,hl,r,hs⟩:=S;haveI hlz:((d.1.map toS).zip cs).length=d.1.length:=by simp only [xu,aj,<-hl,tN]
  refine call_len_dict hsm hp ?_ ?_
  ·simp only [hlz,hl,<-r.length];exact mX hs
  ·exact YP hlz (F _ _)
noncomputable def jl:Ty->String
 |.int=>"int"|.bool=>"bool"|.str=>"str"|.list=>"list"|.tuple=>"tuple"
theorem Fp{R:ZX->ZV->Prop}(F:∀tk,R (.bool (t==.int)) {s with toks:=tk}):ZS c.M A (call (.builtin "isinstance") [.int i u,.type (jl t)]) R E s:=by induction t<;>first|exact IsiPair.int_int (F _)|exact IsiPair.int_bool (F _)|exact IsiPair.int_str (F _)|exact IsiPair.int_list (F _)|exact IsiPair.int_tuple (F _)
theorem BF{R:ZX->ZV->Prop}(F:∀tk,R (.bool (t==.int||t==.bool)) {s with toks:=tk}):ZS c.M A (call (.builtin "isinstance") [.bool b,.type (jl t)]) R E s:=by induction t<;>first|exact IsiPair.bool_int (F _)|exact IsiPair.bool_bool (F _)|exact IsiPair.bool_str (F _)|exact IsiPair.bool_list (F _)|exact IsiPair.bool_tuple (F _)
theorem Gc{R:ZX->ZV->Prop}(F:∀tk,R (.bool (t==.str)) {s with toks:=tk}):ZS c.M A (call (.builtin "isinstance") [.str x u,.type (jl t)]) R E s:=by induction t<;>first|exact IsiPair.str_int (F _)|exact IsiPair.str_bool (F _)|exact IsiPair.str_str (F _)|exact IsiPair.str_list (F _)|exact IsiPair.str_tuple (F _)
theorem zy{R:ZX->ZV->Prop}(ho:s.heap.get? a=Z {cls:=.type "tuple",data:=.seq its n})(F:∀tk,R (.bool (t==.tuple)) {s with toks:=tk}):ZS c.M A (call (.builtin "isinstance") [.ref a,.type (jl t)]) R E s:=by induction t<;>first|exact IsiPair.tuple_int ho U (F _)|exact IsiPair.tuple_bool ho U (F _)|exact IsiPair.tuple_str ho U (F _)|exact IsiPair.tuple_list ho U (F _)|exact IsiPair.tuple_tuple ho U (F _)
theorem uC{R:ZX->ZV->Prop}(ho:s.heap.get? a=Z {cls:=.type "list",data:=.seq its n})(F:∀tk,R (.bool (t==.list)) {s with toks:=tk}):ZS c.M A (call (.builtin "isinstance") [.ref a,.type (jl t)]) R E s:=by induction t<;>first|exact IsiPair.list_int ho U (F _)|exact IsiPair.list_bool ho U (F _)|exact IsiPair.list_str ho U (F _)|exact IsiPair.list_list ho U (F _)|exact IsiPair.list_tuple ho U (F _)
theorem sP{R:ZX->ZV->Prop}(F:∀tk,R (.bool J) {s with toks:=tk}):ZS c.M A (call (.builtin "isinstance") [.none,.type (jl t)]) R E s:=by induction t<;>first|exact IsiPair.NoneType_int (F _)|exact IsiPair.NoneType_bool (F _)|exact IsiPair.NoneType_str (F _)|exact IsiPair.NoneType_list (F _)|exact IsiPair.NoneType_tuple (F _)
theorem tZ{R:ZX->ZV->Prop}(ho:s.heap.get? a=Z o)(hx:o.cls=.type "dict")(F:∀tk,R (.bool J) {s with toks:=tk}):ZS c.M A (call (.builtin "isinstance") [.ref a,.type (jl t)]) R E s:=by induction t<;>first|exact IsiPair.dict_int ho hx (F _)|exact IsiPair.dict_bool ho hx (F _)|exact IsiPair.dict_str ho hx (F _)|exact IsiPair.dict_list ho hx (F _)|exact IsiPair.dict_tuple ho hx (F _)
inductive RefAt(c:Cx)(as:d6)(X:List ZZ)(h:HP)(i:Nat)(o:O):ZX->Prop
 |mk (a:ZZ):as[i]? =Z a->OR c as X h a o->RefAt c as X h i o (.ref a)
theorem jR(S:SR c as X H s)(hv:VR c as X s.heap (.ref i) x)(ho:H[i]? =Z o):RefAt c as X s.heap i o x:=by
 induction hv.inv with
 |ref hi=>exact ao (S.objs _ _ hi).2.2 λo' h3 h4=>.mk _ hi (ai (h3.symm.trans ho)▸h4)
theorem BY{R:ZX->ZV->Prop}(S:SR c as X H s)(hv:VR c as X s.heap v cv):Is (isinst H v t) λb=>(∀tk,R (.bool b) {s with toks:=tk})->ZS c.M A (call (.builtin "isinstance") [cv,.type (jl t)]) R E s:=by
 cases v with
 |int i=>induction hv.inv;exact Fp
 |bool i=>cases hv.inv;exact BF
 |str i=>induction hv.inv;exact Gc
 |none=>cases hv.inv;exact sP
 |tup vs=>induction hv.inv with|tup _ _ ho _ _=>exact zy ho
 |lst vs=>induction hv.inv with|lst _ _ hp _ _=>exact λF=>hp.elim λn ho=>uC ho F
 |dct ks vs=>induction hv.inv with|dct _ _ _ hp _ _ _=>exact λF=>jF hp λo es ep ho hx _=>tZ ho hx.1 F
 |ref i=>
  refine Is.self.bind λo ho=>?_
  induction jR S hv ho with
  |mk a hi hr=>
   induction o with
   |list vs=>exact λF=>hr.2.elim λitems q=>q.1.elim λn hg=>uC hg F
   |dict ks vs=>exact λF=>hr.2.2.elim λcs q=>jF q.1 λo es ep ho hx _=>tZ ho hx.1 F
   |_=>exact Z0
 |rng=>exact Z0
 |exc=>exact Z0
theorem Cv(S:SR c as X H s)(hv:VR c as X s.heap v cv)(e:xF t [v] H=Z (r,H'))(q:Q r H') :
  ZS c.M A (call (.builtin "isinstance") [cv,.type (jl t)]) (Res c as X s.heap Q) E s:=
 ao (ez e) λb e1 e2=>(BY S hv).of e1 λtk=>by refine bc λk_=>?_;obtain⟨rfl,rfl⟩:=Ku e2;refine k_ ?_;exact Res.now S (VR.bool b) q
theorem CO(S:SR c as X H s)(hv:VR c as X s.heap v cv)(e:xx [v] H=Z (r,H'))(q:Q r H'):ZS c.M A (call (.type "range") [cv]) (Res c as X s.heap Q) E s:=by
 replace e:=cm e;refine bc λk_=>(ao e ?_)
 try clear e
 intro b h1 e;replace h1:=V.num_is h1;subst h1;replace e:=c9 e;obtain⟨hsm,e⟩:=e;cases e;refine k_ ?_
 induction hv.inv
 refine call_range_1 ?_;exact Res.grow S (.push _ _) U U (.rng (hO S) (jC S) (IsRange.new ..) (by decide) hsm) q
theorem Ds(S:SR c as X H s)(hv:VR c as X s.heap v cv)(hw:VR c as X s.heap w cw)(e:yq [v,w] H=Z (r,H'))(q:Q r H'):ZS c.M A (call (.type "range") [cv,cw]) (Res c as X s.heap Q) E s:=by
 replace e:=cm e;refine bc λk_=>?_;refine ao e ?_
 try clear e
 intro a h1 e;replace e:=cm e;refine ao e ?_
 try clear e
 intro b h2 e
 try try clear a
 replace h1:=V.num_is h1;subst h1
 try clear h1
 replace h2:=V.num_is h2;subst h2;replace e:=c9 e;obtain⟨hsm,e⟩:=e;haveI hsm:=cP hsm
 try clear h2
 cases e
 try clear e
 refine k_ ?_
 induction hv.inv
 try clear hv
 induction hw.inv
 refine call_range_2 ?_;exact Res.grow S (.push _ _) U U (.rng (hO S) (jC S) (IsRange.new ..) hsm.1 hsm.2) q
theorem kK(a b:Int):DP a b 1=((b-a).toNat:Nat):=by
 unfold DP;refine YP (Z3 (by decide)) ?_;by_cases h:a<b
 ·rw [Z3 h,Gu,NY,bP (Kv (fp h))]
 ·exact YP (Z2 h) (YP (Int.toNat_of_nonpos (Int.sub_nonpos_of_le (cU.mp h))) U)
theorem zo(hi:ItemsOf (λi v=>∃t,v=Value.int (a+i*1) t) acc n):VRs c as X h ((aX n).map λ(i:Nat)=>V.int (a+i)) acc.toList:=by
 refine dq hi λh1 h2=>?_;clear hi;subst h1;haveI key:∀(l:List ZX) k,(∀j v,l[j]? =Z v->∃t,v=Value.int (a+((k+j:Nat):Int)) t)->VRs c as X h ((Kw k l.length).map λ(i:Nat)=>V.int (a+i)) l:=by
  intro l
  induction l with
  |nil=>intro k _;exact .nil
  |cons x l ih=>intro k hx;obtain⟨t,e⟩:=hx 0 x U;refine YP e (.cons (by exact VR.int _ _) (ih (k+1) λj v hv=>?_));obtain⟨t,e⟩:=hx (j+1) v (by exact hv);exact⟨t,by refine YP e ?_;congr 2;exact by simp+arith only⟩
 haveI:=key acc.toList 0 λj v hv=>by obtain⟨t,e⟩:=h2 j v (by simpa using hv);exact⟨t,by refine YP e ?_;simp⟩
 refine YP Kx ?_
 simpa using this
theorem oY(ha:bY a=Z5)(hb:bY b=Z5):KQ a b 1=Z5:=by
 simp only [bY,decide_eq_true_eq]at ha hb;haveI f:∀i:Int,-10 ^ 14<=i->i<=10 ^ 14->zd i=Z5:=λi h1 h2=>by simp only [zd,dP,decide_eq_true_eq];exact⟨bA (by decide) h1,iW h2 (by decide)⟩
 haveI hs:=kK a b;unfold KQ;have b1:=bA (by decide:(-10 ^ 14)<=_) hb.1;have b2:=bA hb.2 (by decide:(_:Int)<=10 ^ 14);refine YP (f a (bA (by decide) ha.1) (bA ha.2 (by decide))) (YP (f b b1 b2) (YP (f 1 (by decide) (by decide)) (YP (f _ (hs▸bA (by decide) (bp _)) (hs▸bA (b7.mpr (tM.mpr (bA (Int.sub_le_sub hb.2 ha.1) (by decide:_<=((10 ^ 14):Int))))) (by decide))) ?_)));simp only [show(1:Int)>0 from by decide,if_true,f (b+(1-1)) ((Gv b).symm▸b1) ((Gv b).symm▸b2),kP,iF]
theorem oO(a b:Int):(jP a b).length=(b-a).toNat:=by simp [jP]
theorem j6(S:SR c as X H s)(g:Grown s.heap h')(ho:h'.get? s.heap.objs.size=Z {cls:=.type "list",data:=.seq items n})(hv:VRs c as X s.heap vs items.toList)(hb:vs.length<=li) :
  FreshL c as X s vs (.ref s.heap.objs.size) {s with heap:=h',toks:=tk}:=
 ⟨_,items,rfl,dK _,S.base_none (dK _),g,rfl,rfl,⟨n,ho⟩,hv,hb⟩
theorem BO(e:HA H v=Z (.lst ws)):(∃a b,v=.rng a b/\(b-a).toNat<=aB/\ws=jP a b)\/(v=.tup ws/\ws.length<=aB)\/view H v=Z ws/\ws.length<=aB:=by
 have h:((view H v).bind λvs=>if vs.length<=aB then Z (V.lst vs)else Z6)=Z (.lst ws)->view H v=Z ws/\ws.length<=aB:=λe=>by replace e:=cm e;refine ao e λvs h1 e=>?_;cases(c9 e).2;exact⟨h1,(c9 e).1⟩
 cases v with
 |rng a b=>cases(c9 e).2;exact .inl (eK a b U ((c9 e).1) U)
 |tup vs=>cases(c9 e).2;exact .inr (.inl ⟨rfl,(c9 e).1⟩)
 |_=>exact .inr (.inr (h e))
theorem JJ{R:ZX->ZV->Prop}(hh:A.handled=Z6)(S:SR c as X H s)(hv:VR c as X s.heap v cv)(e:AR [v] H=Z (.lst ws,H'))(hR:∀x s',FreshL c as X s ws x s'->R x s') :
  ZS c.M A (call (.type "list") [cv]) R E s:=by
 have hz2:=cO;refine ao (ez e) λr e1 e2=>?_;cases e2;rcases BO e1 with ⟨a,b,rfl,hb,rfl⟩|⟨rfl,hb⟩|⟨hvs,hb⟩
 ·induction hv.inv with
  |rng h1 h2 h3 h4 h5=>
   refine call_list_range hh h3 ?_ (kK a b) ?_ λh' tk acc c' g ho hi=>?_
   ·exact oY h4 h5
   ·exact aa hb (by decide)
   ·exact hR _ _ (j6 S g ho (zo hi) (by rw [oO];exact qb hb))
 ·induction hv.inv with
  |tup h1 h2 h3 r hs=>refine call_list_seq _ (.inr U) h3 U U (λh' c' g ho=>?_) (YP ((r.len_arr)) (aa hb hz2));exact hR _ _ (j6 S g ho r hs)
 ·replace hv:=eY S hv hvs;obtain⟨a,items,rfl,⟨n,hp⟩,r,hs⟩:=hv;refine call_list_seq _ (.inl U) hp U U (λh' c' g ho=>?_) (YP ((r.len_arr)) (aa hb hz2));exact hR _ _ (j6 S g ho r hs)
theorem Jt(S:SR c as X H s)(hv:VR c as X s.heap (.bool b) cv)(e:Jz [.bool b] H=Z (r,H'))(q:Q r H'):ZS c.M A (call (.type "int") [cv]) (Res c as X s.heap Q) E s:=by
 ((refine dq (qI e) λe_0 e_1=>?_;subst e_0;subst e_1);clear e)
 cases hv.inv;exact call_int_bool (Res.now S (.int _ _) q)
theorem wO{vs:List V}:∀{bs:List Bool},p1 vs=Z bs->vs=bs.map V.bool:=by
 induction vs with
 |nil=>exact λh=>ai h▸rfl
 |cons v vs ih=>
  cases v with
  |bool b=>exact λh=>ao (jB h) λr h1 q=>q▸Z4 (V.bool b::·) (ih h1)
  |_=>exact λh=>eU h
theorem Ma(hh:A.handled=Z6)(S:SR c as X H s)(hv:VR c as X s.heap v cv)(e:NG [v] H=Z (r,H'))(q:Q r H'):ZS c.M A (call (.builtin "all") [cv]) (Res c as X s.heap Q) E s:=by
 refine bc λk_=>?_;refine ao (jB e) λbs h1 h2=>?_;cases h2;refine ao (kS h1) λvs h3 h4=>?_;replace hv:=eY S hv h3;obtain⟨a,items,rfl,hp,r,hs⟩:=hv;haveI hvs:=wO h4;clear hs h4 h3;subst hvs;refine k_ ?_;haveI hl:=r.len_arr;simp only [aj]at hl;haveI hin:Z a≠Z s.heap.objs.size:=λq=>by
  obtain⟨n,e⟩:=hp
  (replace q:=ai q;clear k_;subst q)
  exact Z1 (eJ e) (cZ _)
 refine call_all_walk (ZB hp.isList ?_);refine⟨_,_,_,_,_,_,λi=>(bs[i]?).getD Z5,rfl,Walks.list (A:=A.in1) hh s.heap.objs.size a (λq=>hin (Z4 Z q)) items,⟨(bQ _ (bf _ U) U U),hp.isList.imp λ_ q=>⟨bq _ q.1,q.2⟩⟩,?_,λh' tk hk=>?_⟩
 ·intro i v s' Q' E' hi hq;rw [<-cb]at hi;refine ao (r.get' hi) λw hw hvw=>?_;rw [aV,nZ]at hw;refine ao hw λb hb q_3=>?_;clear hw;subst q_3;cases hvw.inv;dsimp only at hq;replace hq:=hb▸hq;exact ZA hq
 ·haveI g:=λb o e=>hk b o (λq=>by replace q:=in1 q;subst q;exact Z1 (eJ e) (cZ _)) (bq _ e);have hr:(aX items.size).all (λi=>(bs[i]?).getD Z5)=bs.all id:=by
   rw [hl,cD,bw,bw];constructor
   ·intro z b hb;refine d5 (c6 hb) λi hi=>?_;haveI:=z i (dY.mpr (cq hi));rw [hi]at this;exact this
   ·intro z i _;refine eG (o:=bs[i]?) (λhi=>?_) (λb hi=>?_)
    ·exact YP hi U
    ·exact hi▸z b (aI hi)
  exact YP hr (Res.grow S g U U (.bool _) q)
theorem IV:VR c as X h (.int (min a b)) (if b<a then .int b u else .int a t):=by
 by_cases h:b<a
 ·exact YP (Z3 h) (YP (QX (fp h)) (.int _ _))
 ·exact YP (Z2 h) (YP (om (cU.mp h)) (.int _ _))
theorem Ng(hh:A.handled=Z6)(S:SR c as X H s)(hv:VR c as X s.heap v cv)(hw:VR c as X s.heap w cw)(e:Nb [v,w] H=Z (r,H'))(q:Q r H'):ZS c.M A (call (.builtin "min") [cv,cw]) (Res c as X s.heap Q) E s:=by
 replace e:=cm e;refine bc λk_=>(ao e ?_)
 try clear e
 intro a h1 e;replace e:=ez e;refine ao e ?_
 try clear e
 intro b h2 e
 try try clear a
 replace h1:=V.num_is h1;subst h1
 try clear h1
 replace h2:=V.num_is h2;subst h2
 try clear h2
 induction hv.inv;induction hw.inv
 cases e;refine k_ (min_two_ints hh λh' tk g=>?_);refine Res.grow S g U U ?_ q;exact IV
theorem s8(h:vZ n i=Z j):seqIndex? i n=Z j/\j<n/\(0<=i->(i:Int)=j)/\(i<0->i+n=j):=by
 by_cases h0:0<=i
 ·have e:(if 0<=i then(if i<n then Z i.toNat else Z6)else(if 0<=i+n then Z (i+n).toNat else Z6))=Z j:=h;rw [Z3 h0]at e;replace e:=c9 e;obtain⟨h1,rfl⟩:=e;exact(qF (PySem.seqIndex_of h0 h1) ((ft h0).mpr h1) (λ_=>(bP h0).symm) (λq=>Z1 h0 (ib.mpr q)))
 ·have e:(if 0<=i then(if i<n then Z i.toNat else Z6)else(if 0<=i+n then Z (i+n).toNat else Z6))=Z j:=h;rw [Z2 h0]at e;replace e:=c9 e;obtain⟨h1,rfl⟩:=e;exact(qF (PySem.seqIndex_neg ((ib.mp h0)) (j5 h1 (by simp+arith only))) ((ft h1).mpr (j5 (ib.mp h0) (by simp+arith only))) (λq=>Z1 q h0) (λ_=>(bP h1).symm))
theorem KJ{i:Int}{n j:Nat}(hb:n<=li)(g2:j<n)(g3:0<=i->i=j)(g4:i<0->i+n=j):-2 ^ 63<=i/\i<2 ^ 63:=by
 have hn:=b7.mpr hb;refine(Decidable.em (0<=i)).elim (λh=>?_) λh=>?_
 ·exact ⟨bA (by decide) h,(g3 h).symm▸NZ (b9.mpr g2) (bA hn (by decide))⟩
 ·have h:=ib.mp h;exact⟨bA (by decide:(-2 ^ 63)<=-2 ^ 40) (bA (Int.neg_le_neg hn) (j5 ((g4 h).symm▸bp j:0<=i+n) (by simp+arith only))),Gr h (by decide)⟩
theorem lZ(h:∀a b p,slice≠.Slice a b Z6 p)(o i:ZX):subscripted slice J o i=operate [o,i] (getItem o i):=by
 cases slice with
 |Slice a b st p=>
  induction st with
  |none=>exact Z1 U (h a b p)
  |some e=>rfl
 |_=>rfl
theorem Kd{t:List Char}{i:Int}{cv:ZX}{u:Tok}{value slice:Expr}(hsl:∀a b p,slice≠.Slice a b Z6 p)(S:SR c as X H s)(hv:VR c as X s.heap (.str t) cv)(e:BP H (.str t) i=Z r)(q:Q r H) :
  ZS c.M A (subscriptTail value slice cv (.int i u)) (Res c as X s.heap Q) E s:=by
 refine ao (kS e) λj h1 h2=>?_;replace h2:=jB h2;refine ao h2 λch h3 q_3=>?_;clear h2 e;subst q_3
 induction hv.inv with
 |str t hs=>
  refine yf (s8 h1) λg1 g2 g3 g4=>?_;refine Zz (Zy _ _ _) slot_str_getitem.lookup (getItem_str ?_ (c:=ch.toNat) ?_ ?_) (lZ hsl _ _)
  ·exact jW.mpr ⟨decide_eq_false (cU.mpr (KJ hs g2 g3 g4).1),decide_eq_false (ib.mpr (KJ hs g2 g3 g4).2)⟩
  ·simp only [eW,g1];simp [toS,h3]
  ·exact Res.now S (.str [ch] _ (by simp [li])) q
theorem Jr{i:Int}{cv:ZX}{u:Tok}{value slice:Expr}(hsl:∀a b p,slice≠.Slice a b Z6 p)(S:SR c as X H s)(hv:VR c as X s.heap (.tup vs) cv)(e:BP H (.tup vs) i=Z r)(q:Q r H) :
  ZS c.M A (subscriptTail value slice cv (.int i u)) (Res c as X s.heap Q) E s:=by
 refine ao (kS e) λj h1 h3=>?_
 induction hv.inv with
 |tup k1 k2 k3 rr hs=>refine bc λk_=>?_;refine yf (s8 h1) λg1 g2 g3 g4=>?_;refine ao (rr.get h3) λy e1 e2=>?_;refine k_ ?_;refine Zz (aG _ k3 U) slot_tuple_getitem.lookup (P.getItem_tuple k3 (KJ hs g2 g3 g4).1 (KJ hs g2 g3 g4).2 ((Z4 _ ((rr.len_arr))).trans g1) (by simpa using e1) ?_) (lZ hsl _ _);exact Res.now S e2 q
theorem FK(hsl:∀a b p,slice≠.Slice a b Z6 p)(S:SR c as X H s)(hv:VR c as X s.heap v cv)(e:((view H v).bind λvs=>(vZ vs.length i).bind λj=>vs[j]?)=Z r)(q:Q r H) :
  ZS c.M A (subscriptTail value slice cv (.int i u)) (Res c as X s.heap Q) E s:=by
 replace e:=kS e;refine bc λk_=>?_;refine ao e λvs hvs e=>?_;refine ao (kS e) λj h1 h3=>?_;replace hv:=eY S hv hvs;obtain⟨a,items,rfl,hp,rr,hs⟩:=hv;refine yf (s8 h1) λg1 g2 g3 g4=>?_;refine ao (rr.get h3) λy e1 e2=>?_;refine k_ ?_;have hl:=rr.len_arr;haveI fin:=Res.now (tk:=s.toks) S e2 q;refine Zz hp.isList.typeIs slot_list_getitem.lookup ?_ (lZ hsl _ _);by_cases h0:0<=i
 ·refine wpAny_getItem_list hp.isList h0 (KJ hs g2 g3 g4).2 ?_ fin;refine YP (show i.toNat=j from Z4 vD (g3 h0)) ?_;simpa using e1
 ·have g:=g4 (ib.mp h0);refine wpAny_getItem_list_neg hp.isList (ib.mp h0) (hl.symm▸j5 (g.symm▸bp j:0<=i+vs.length) (by simp+arith only)) (KJ hs g2 g3 g4).1 ?_ fin;refine YP hl (YP (show(i+vs.length).toNat=j from Z4 vD g) ?_);simpa using e1
theorem Ib(hsl:∀a b p,slice≠.Slice a b Z6 p)(S:SR c as X H s)(hv:VR c as X s.heap v cv)(hw:VR c as X s.heap w cw)(e:GR [v,w] H=Z (r,H'))(q:Q r H') :
  ZS c.M A (subscriptTail value slice cv cw) (Res c as X s.heap Q) E s:=by
 refine ao (jB e) λz e1 h=>?_;cases h;clear e;haveI e:=e1;cases w with
 |int i=>
  induction hw.inv
  clear e1;cases v with
  |str t=>exact Kd hsl S hv e q
  |tup vs=>exact Jr hsl S hv e q
  |_=>exact FK hsl S hv e q
 |str k=>
  refine ao (kS e) λd hd h3=>?_
  induction hw.inv
  replace hv:=nL S hv hd;obtain⟨a,cs,rfl,hsm,hp,hl,rr,hs⟩:=hv;have hz:∃y,valueAt ((d.1.map toS).zip cs) (toS k)=Z y/\VR c as X s.heap r y:=by haveI hz:=lr k hl rr;rw [h3]at hz;exact hz
  refine ao hz λy e1 e2=>?_;haveI hm:=hp.mapOf;exact Zz hm.typeIs slot_dict_getitem.lookup (wpAny_getItem_of (qc _ _) hm e1 (Res.now S e2 q)) (lZ hsl _ _)
 |_=>exact eU e
theorem uX{R:ZX->ZV->Prop}(S:SR c as X H s)(hv:VRs c as X s.heap vs cs)(e:xP vs H=Z (.lst ws,H'))(hR:∀x s',FreshL c as X s ws x s'->R x s'):ZS c.M A (newList cs) R E s:=by replace e:=c9 e;refine bc λk_=>?_;obtain⟨hb,e⟩:=e;cases e;refine k_ (ZK ?_ (by show cs.toArray.size<=ZT;exact YP i9 (YP (YO (hv.length)) (aa hb cO))));exact hR _ _ (j6 S (.push _ _) (bf _ U) hv (qb hb))
theorem Es(S:SR c as X H s)(hv:VRs c as X s.heap vs cs)(e:Bl vs H=Z (r,H'))(q:Q r H'):ZS c.M A (newTuple cs) (Res c as X s.heap Q) E s:=by replace e:=c9 e;refine bc λk_=>?_;obtain⟨hb,e⟩:=e;cases e;refine k_ (ZK ?_ (by show cs.toArray.size<=ZT;exact YP i9 (YP (YO (hv.length)) (aa hb cO))));exact sh S hv (qb hb) q
theorem SR.kept1{i:Nat}{a:ZZ}(hi:as[i]? =Z a)(hk:∀b o,h.get? b=Z o->b≠a->h'.get? b=Z o):Kept as X h h':=
 λb o e hb=>(aG o (hk b o e λq=>hb (q▸aI hi)) (.inl U))
theorem SR.upd{i:Nat}{a:ZZ}{o':O}(S:SR c as X H s)(hi:as[i]? =Z a)(hk:∀b o,s.heap.get? b=Z o->b≠a->s'.heap.get? b=Z o)
  (hg:s'.gens=s.gens)(hos:s'.os=s.os)(ho:OR c as X s'.heap a o'):SR c as X (H.set i o') s' where
 len:=by simp only [aY];exact S.len
 stays:=λb o e=>hk b o (S.stays b o e) λq=>by have:=(S.objs i a hi).1;simp only [q,this]at e;exact eU e
 gens:=hg.trans S.gens
 os:=hos.trans S.os
 objs:=λj b hj=>by
  refine d7 (S.objs j b hj) λh1 h2 r_3=>?_;refine ao r_3 λo h3 h4=>?_;refine(bu h1 h2 ?_);by_cases hij:i=j
  ·clear r_3 h3;subst hij;replace hj:=hi.symm.trans hj;(replace hj:=ai hj;refine YP (YO hj) ?_);have hl:i<H.length:=YP (YO (S.len)) ((cq hi));exact(aG o' (by simp [hl]) ho)
  ·haveI hba:b≠a:=λq=>hij (S.inj i j a hi (q▸hj));refine(aG o (by refine YP (bt hij) ?_;exact h3) (h4.keepX (SR.kept1 hi hk).x λob e=>hk b ob e hba))
 inj:=S.inj
 xs:=λb hb=>by obtain⟨o,e⟩:=S.xs b hb;exact⟨o,hk b o e λq=>(S.objs i a hi).2.1 (q▸hb)⟩
theorem nK{i:Nat}{a:ZZ}{o':O}{x:ZX}(S:SR c as X H s)(hi:as[i]? =Z a)(hk:∀b o,s.heap.get? b=Z o->b≠a->s'.heap.get? b=Z o)
  (hg:s'.gens=s.gens)(hos:s'.os=s.os)(ho:OR c as X s'.heap a o')(hv:VR c as X s'.heap v x)(q:Q v (H.set i o')):Res c as X s.heap Q x s':=
 ⟨v,_,as,.refl ..,S.upd hi hk hg hos ho,SR.kept1 hi hk,hv,q⟩
theorem C1{cv cx:ZX}(S:SR c as X H s)(hv:VR c as X s.heap v cv)(hx:VR c as X s.heap x cx)(e:yr [v,x] H=Z (r,H'))(q:Q r H') :
  ZS c.M A (call (.builtin "list.append") [cv,cx]) (Res c as X s.heap Q) E s:=by
 refine ao (cm e) λp_1 h0 e0=>?_
 (haveI i:=p_1.1;haveI vs:=p_1.2)
 refine bc λk_=>(dq (c9 e0) λhz e1=>?_);replace h0:=ng h0;obtain⟨rfl,hvs⟩:=h0;cases e1;replace hv:=jR S hv hvs;obtain⟨a,hi,hb,items,hp,rr⟩:=hv;refine k_ (Zx hp (λh' hp' sb=>?_) (by simp only [rr.len_arr];haveI:=cO;exact gQ hz (gQ this (by simp+arith only))));have hk:∀b o,s.heap.get? b=Z o->b≠a->h'.get? b=Z o:=λb o e hb=>(sb.2 b hb).trans e;haveI K:=SR.kept1 (X:=X) hi hk;refine nK (o':=.list _) S hi hk U U ⟨?_,(aG _ hp' ?_)⟩ .none q
 ·simp only [af,HI];haveI:=fQ;exact gQ hz (gQ this (by simp+arith only))
 ·exact YP Of ((rr.keep K (.refl ..)).append (.cons (hx.keep K (.refl ..)) .nil))
theorem zV{items:Array ZX}:(items.eraseIdxIfInBounds (items.size-1)).toList=items.toList.dropLast:=by
 obtain⟨l⟩:=items
 induction l with
 |nil=>rfl
 |cons x l=>
  haveI:(x::l).length-1<(x::l).length:=by simp
  simp [oJ,List.eraseIdx_eq_take_drop_succ]
theorem ND(S:SR c as X H s)(hv:VR c as X s.heap v cv)(e:Lf [v] H=Z (r,H'))(q:Q r H') :
  ZS c.M A (call (.builtin "list.pop") [cv]) (Res c as X s.heap Q) E s:=by
 refine ao (cm e) λp_1 h0 e0=>?_
 (haveI i:=p_1.1;haveI vs:=p_1.2)
 refine bc λk_=>?_;obtain⟨hz,e1⟩:=eS e0;refine ao (ez e1) λx h1 h2=>?_;replace h0:=ng h0;obtain⟨rfl,hvs⟩:=h0;cases h2;replace hv:=jR S hv hvs;obtain⟨a,hi,hb,items,⟨n,hp⟩,rr⟩:=hv;haveI hl:=rr.len_arr;obtain⟨y,e1,e2⟩:=rr.get (List.getLast?_eq_getElem?.symm.trans h1);refine k_ ?_;haveI hy:items[items.size-1]? =Z y:=by refine YP hl (YP (YO cb) ?_);exact e1
 refine Zw PySem.F.slot_list_pop (aG _ hp U) PySem.F.entry_list_pop (PySem.F.args_list_pop_1 _) (PySem.MeetsSeq.list_pop_last a _ n y hy (by refine YP hl ?_;haveI:=cO;exact gQ hz (gQ this (by simp+arith only)))) ⟨hp,?_⟩;have hk:∀b o,s.heap.get? b=Z o->b≠a->(s.heap.update a (Obj.mapSeq λxs=>xs.eraseIdxIfInBounds (items.size-1))).get? b=Z o:=λb o e hb=>(cG _ _ (Ne.symm hb)).trans e;haveI K:=SR.kept1 (X:=X) hi hk;refine nK (o':=.list _) S hi hk U U ⟨?_,(aG _ ⟨_,PySem.IsL.update hp λxs=>xs.eraseIdxIfInBounds (items.size-1)⟩ ?_)⟩ (e2.keep K (.refl ..)) q
 ·exact YP (List.length_dropLast) (aa (dy _ _) hb)
 ·simp only [zV,oJ,oJ,<-rr.length];exact(rr.keep K (.refl ..)).take _
end
theorem HX(S:SR c as X H s)(hv:VR c as X s.heap v cv)(hw:VR c as X s.heap w cw)(e:Hm [v,w] H=Z (r,H'))(q:Q r H') :
  ZS c.M A (call (.builtin "list.pop") [cv,cw]) (Res c as X s.heap Q) E s:=by
 refine ao (cm e) ?_;intro p_1 h0 e0;obtain⟨i,vs⟩:=p_1;refine ao (cm e0) ?_;intro n hn e1;obtain⟨⟨rfl,hz⟩,e2⟩:=eS e1;refine ao (ez e2) ?_;intro x h1 h2;replace h0:=ng h0;obtain⟨rfl,hvs⟩:=h0;replace hn:=V.num_is hn;clear e0;subst hn;cases h2;replace hv:=jR S hv hvs;obtain⟨a,hi,hb,items,⟨k,hp⟩,rr⟩:=hv
 induction hw.inv with
 |int u=>
  clear hvs;cases vs with
  |nil=>exact eU h1
  |cons x' vs=>
   (replace h1:=ai h1;subst h1)
   have hl:=rr.len_arr;refine ao (rr.get (j:=0) U) ?_;intro y e1 e2;have hy:items[0]? =Z y:=by refine YP (YO cb) ?_;exact e1
   have hpos:0<items.size:=by simp only [hl];exact tO _
   haveI hk0:seqIndex? (0:Int) items.size=Z 0:=by unfold seqIndex?;simp [hpos]
   refine Zw PySem.F.slot_list_pop (aG _ hp U) PySem.F.entry_list_pop (PySem.F.args_list_pop_2 _ _) (PySem.MeetsSeq.list_pop_at a _ k 0 u 0 y (by decide) hk0 hy (by haveI:=cO;exact gQ hz (gQ (ak hl) (gQ this (by simp+arith only))))) ⟨hp,?_⟩;haveI hk:∀b o,s.heap.get? b=Z o->b≠a->(s.heap.update a (Obj.mapSeq λxs=>xs.eraseIdxIfInBounds 0)).get? b=Z o:=λb o e hb=>(cG _ _ (Ne.symm hb)).trans e;haveI K:=SR.kept1 (X:=X) hi hk;refine nK (s':={s with heap:=s.heap.update a (Obj.mapSeq λxs=>xs.eraseIdxIfInBounds 0)}) (o':=.list _) S hi hk U U ⟨?_,(aG _ ⟨_,PySem.IsL.update hp λxs=>xs.eraseIdxIfInBounds 0⟩ ?_)⟩ (e2.keep K (.refl ..)) q
   ·exact tP hb
   ·haveI ht:(items.eraseIdxIfInBounds 0).toList=items.toList.drop 1:=by simp only [Array.eraseIdxIfInBounds,dif_pos hpos,Array.toList_eraseIdx,List.eraseIdx_zero,List.drop_one]
    simp only [ht];exact(rr.keep K (.refl ..)).drop 1
theorem B8(h:Bk H v=Z p):v=.ref p.1/\H[p.1]? =Z (.dict p.2.1 p.2.2):=
 Is.of (o:=Bk H v) (R:=λp=>v=.ref p.1/\H[p.1]? =Z (.dict p.2.1 p.2.2)) ((V.at_i v).bind λi h1=>(Is.self.bind λo h3=>(O.dct_i o).imp (R':=λd=>H[i]? =Z (.dict d.1 d.2)) λ_ h4=>h4▸h3).bind λ_ h5=>⟨h1,h5⟩) h
theorem sW:∀{ks:List (List Char)} {vs:List V} {cs:List ZX},ks.length=cs.length->(ks.map toS).Nodup->VRs c as X h vs cs->
  ∃cs',without ((ks.map toS).zip cs) (toS k)=((mw k ks vs).1.map toS).zip cs'/\(mw k ks vs).1.length=cs'.length/\VRs c as X h (mw k ks vs).2 cs'/\cs'.length<=cs.length:=by
 intro ks
 induction ks with
 |nil=>intro vs cs hl _ r;exact(jJ [] U U .nil (aU _))
 |cons k' ks ih=>
  intro vs cs hl hn r
  induction r with
  |nil=>cases hl
  |@cons v vs x cs hx r=>
   haveI hn':=kC hn;haveI hl':=b8 hl;refine dM (ih hl' hn'.2 r) ?_;intro cs' e1 e2 e3 e4;by_cases hk:k=k'
   ·clear ih hn hl e3 e2 e1;subst hk;haveI ed:mw k (k::ks) (v::vs)=(ks,vs):=Z3 U;refine YP ed ((jJ cs ?_ hl' r (bh _)));show Ky _ ((toS k,x)::(ks.map toS).zip cs)=_;refine YP (eZ (by simp)) (List.filter_eq_self.mpr λp hp=>decide_eq_true λq=>hn'.1 ?_);simp only [<-q];exact(xw hp).1
   ·haveI ed:mw k (k'::ks) (v::vs)=(k'::(mw k ks vs).1,v::(mw k ks vs).2):=Z2 hk;refine YP ed ((jJ (x::cs') ?_ (Z4 pf e2) (.cons hx e3) (aA e4)));show Ky _ ((toS k',x)::(ks.map toS).zip cs)=(toS k',x)::((mw k ks vs).1.map toS).zip cs';exact(dt (p:=λkv:Str×ZX=>decide (kv.1≠toS k)) (a:=(toS k',x)) (decide_eq_true λq=>hk (jH q).symm)).trans (Z4 _ e1)
theorem II(S:SR c as X H s)(hv:VR c as X s.heap v cv)(hw:VR c as X s.heap w cw)(e:GZ [v,w] H=Z (r,H'))(q:Q r H') :
  ZS c.M A (call (.builtin "dict.pop") [cv,cw]) (Res c as X s.heap Q) E s:=by
 refine ao (cm e) ?_;intro p_1 h0 e0;obtain⟨i,ks,vs⟩:=p_1;refine ao (cm e0) ?_;intro k hn e1;obtain⟨hsz,e2⟩:=eS e1;refine ao (ez e2) ?_;intro x h1 h2;replace h0:=B8 h0;obtain⟨rfl,hob⟩:=h0;cases V.txt_is hn;cases h2;replace hv:=jR S hv hob;obtain⟨a,ha,hb,hsm,cs,hd,hl,rr⟩:=hv
 induction hw.inv with
 |str _ hs=>
  have hn:(ks.map toS).Nodup:=by refine hU hd ?_;intro _ _ _ _ _ _ _ _ hn;rw [m6 (by simp [hl])]at hn;exact hn
  haveI hz:=lr k hl rr;rw [h1]at hz;refine ao hz ?_;intro y hy hvy;haveI h2:=rr.length;refine call_meetsIn PySem.F.slot_dict_pop hd.typeIs PySem.F.entry_dict_pop (PySem.F.args_dict_pop_2 _ _) (meets_dict_pop_there c.kd a (qc _ _) [] (.inl U) U) (iZ _ y hd ?_ hy (λh' hd' sb=>?_))
  ·simp only [xu,aj,<-hl,tN];exact aa hsz cO
  ·have hk:∀b o,s.heap.get? b=Z o->b≠a->h'.get? b=Z o:=λb o e hb=>(sb.2 b hb).trans e;haveI K:=SR.kept1 (X:=X) ha hk;refine dM (sW (k:=k) hl hn (rr.keep K (.refl ..))) ?_;intro cs' e1 e2 e3 e4;rw [e1]at hd';haveI e5:=e3.length;exact nK (s':={s with heap:=h',toks:=_}) (o':=.dict _ _) S ha hk U U (bu (aa (ak e5) (aa e4 (aa (ak h2.symm) hb))) hsm (bQ cs' hd' e2 e3)) (hvy.keep K (.refl ..)) q
theorem vf(h:m<vs.length):(jO vs)[m]? =Z (tC vs[m]):=by
 induction vs generalizing m with
 |nil=>cases h
 |cons v vs ih=>induction m with
  |zero=>rfl
  |succ m=>exact ih (Gw h)
theorem rX(h:V.datas vs=Z5)(hm:m<vs.length):vs[m].data=Z5:=by
 induction vs generalizing m with
 |nil=>cases hm
 |cons v vs ih=>
  have h':=cP h;cases m with
  |zero=>exact h'.1
  |succ m=>exact ih h'.2 (Gw hm)
theorem V.tpl_is{v:V}{vs:List V}(h:v.tpl=Z vs):v=.tup vs:=Is.of (R:=λvs=>v=.tup vs) (by cases v<;>first|exact U|exact Z0) h
theorem o7{M:Model}{β:Type}{r:Std.Legacy.Range}(f:Nat->β->Sem (ForInStep β))(I:List Nat->β->ZV->Prop)(Q:β->ZV->Prop)
  (turn:∀x rest b s,I (x::rest) b s->ZS M A (f x b) (λr s'=>match r with|.yield b'=>I rest b' s'|.done b'=>Q b' s') E s)
  (fin:∀b s,I [] b s->Q b s)(b:β)(h:I (Kw r.start r.size r.step) b s):ZS M A (forIn r b f) Q E s:=by
 rw [Std.Legacy.Range.forIn_eq_forIn_range'];exact wpAny_forIn_list f I Q turn fin _ b h
open PySem.SeqAt PySem.MeetsSeq2 in
theorem rh(l:ZZ)(items:Array ZX)(n:Nat)(x:ZX)(e:ZX->Bool)(j:Nat)(hj:j<items.size)(hit:e items[j]=Z5)(hno:∀m (hm:m<items.size),m<j->e items[m]=J) :
  Meets (Builtin.«tuple.index» ⟨[.ref l,x],[]⟩)
   (λA R s=>s.heap.get? l=Z {cls:=.type "tuple",data:=.seq items n}/\(∀y,y∈items->EqAt A.in1 s y x (e y))/\R (.ok (.ret (.int j s.toks))) {s with toks:=s.toks+1}):=
 .of_wp λprog w A R s h=>by
  obtain⟨hp,g,d,tk,os⟩:=s;refine dq h λhl q_=>dq q_ λhe h=>?_
  wp_walk using PySem.AutoSeq1.wpAny_loadPart' hl,o7 _ (λrest b s'=>b.1=Z6/\s'=⟨hp,g,d,tk,os⟩/\∃i,i<=j/\rest=Kw i (items.size-i)) _
  case turn=>
   rintro m rest b s' ⟨_,rfl,i,hij,hr⟩
   obtain⟨k,hk⟩:∃k,items.size-i=k+1:=⟨items.size-i-1,(gL (Og (ce hij hj))).symm⟩;simp only [hk,List.range'_succ]at hr;cases hr;haveI hlt:m<items.size:=by exact gQ hj (gQ hij (by simp+arith only))
   refine YP (d9 hlt) ?_;refine ZM (he _ (Array.getElem_mem hlt) prog w _ _ ?_);by_cases hi:m=j
   ·(replace hi:=YO hi;subst hi)
    wp_walk
    exact(aG _ U h)
   ·refine YP (hno m hlt (rG hij hi)) ?_
    wp_walk
    exact(bu U U (aG (m+1) (rG hij hi) (by exact YP (show items.size-(m+1)=k from Z4 Nat.pred hk) U)))
  case fin=>
   rintro b s' ⟨_,_,i,hij,hr⟩
   haveI:=Z4 dQ hr;simp only [List.length_range',List.length_nil]at this;exact Z1 this (dk (Og (ce hij hj)))
  case h=>exact(bu U U (aG 0 (aU _) (by simp [Std.Legacy.Range.size])))
open PySem.SeqAt in
theorem E9{v w r:V}{cv cw:ZX}(S:SR c as X H s)(hv:VR c as X s.heap v cv)(hw:VR c as X s.heap w cw)(e:DD [v,w] H=Z (r,H'))(q:Q r H')(hu:A.units+64<ZQ) :
  ZS c.M A (call (.builtin "tuple.index") [cv,cw]) (Res c as X s.heap Q) E s:=by
 refine ao (cm e) ?_;intro vs h1 e1;refine ao (cm e1) ?_;intro x' ex e2;obtain⟨hok,e3⟩:=eS e2;refine ao (ez e3) ?_;intro k hk e4;cases e4;replace h1:=V.tpl_is h1;clear e;subst h1;obtain⟨hd,hdd⟩:=mP hok;obtain⟨d1,d2,l1,r1⟩:=oR S hw ex
 induction hv.inv with
 |@tup a items n t1 t2 t3 rr t5=>
  obtain⟨l2,r2⟩:=mf rr hd;haveI o1:=iD _ d1;haveI o2:=po _ hd;haveI hm:A.units+1+min (PyData.depthAll (jO vs)) (tC x').depth<ZQ:=by exact(o2.2)▸nR hdd hu
  have hl:=rr.len_arr;obtain⟨hlt,hit,hno⟩:=fN.mp hk;have he:∀m (hm:m<items.size) (hm':m<vs.length),PyData.eqv (readOf s.heap items[m]) (tC x')=fZ vs[m] x':=λm hm hm'=>by
   haveI h3:(items.toList.map (readOf s.heap))[m]? =(jO vs)[m]?:=by exact YP ((readsAll_map _ _ _ o2.1 r2)) U
   simp only [vf hm',aV,cb,d9 hm]at h3;exact YP (ai h3) (mc _ _ (rX hd hm') d1)
  refine Zw PySem.F.slot_tuple_index (aG _ t3 U) PySem.F.entry_tuple_index (PySem.F.args_tuple_index_2 _ _) (rh a items n cw (λy=>PyData.eqv (readOf s.heap y) (tC x')) k (by exact(hl)▸hlt) ?_ ?_) (bu t3 (items_eqAt r2 r1 o2.1 o1.1 hm) ?_)
  ·exact (he k _ hlt).trans hit
  ·intro m hm hmk;exact(he m hm (hl▸hm)).trans (by simpa using hno m hmk)
  ·exact Res.now (tk:=s.toks+1) S (.int _ _) q
theorem rc{l:ZZ}{items:Array ZX}{k:Int}{t:Tok}{v:ZX}{Q:Unit->ZV->Prop}(hl:s.heap.PlainList l items)(h0:0<=k)(hfit:k<2 ^ 63)(hn:k<items.size)
  (hQ:∀h',h'.PlainList l (items.setIfInBounds k.toNat v)->gK l s.heap h'->Q () {s with heap:=h'}):ZS (model prog w) A (setItem (.ref l) (.int k t) v) Q E s:=by
 refine d5 hl λn ho=>?_;haveI hT:s.TypeIs (.ref l) "list":=(aG _ ho U);unfold setItem
 try with_reducible refine Zv ?_
 first|refine ZM (ZL ?_)|skip
 refine ZM (Zu hT (by decide) ?_);refine ZM (wpAny_callSpecial?_slot (name:=Str.ofString "__setitem__") hT F.slot_list_setitem (Zt F.slot_list_setitem hT F.entry_list_setitem ?_ (F.args_list_setitem_3 _ _ _)));refine(?_:ZS _ _ (Builtin.List.listSubscript? (.int k t)>>= _) _ _ s);refine ZM (wpAny_listSubscript_int (fitsIndex_of h0 hfit) ?_);clear hfit;obtain⟨j,rfl⟩:=Int.eq_ofNat_of_zero_le h0;haveI hj:items[j]? =Z (items[j]'(b9.mp hn)):=d9 _;refine(?_:ZS _ _ ((seqItemAt l j>>= λr=>pure (r.map (j,·)))>>= _) _ _ s);refine ZM (ZM (wpAny_seqItemAt ho U (ZL ?_)));rw [hj];show ZS _ _ (setSeqItemAt l j v>>= _) _ _ s;refine ZM (wpAny_setSeqItemAt ho U ?_);haveI z:=hQ _ ⟨n,?_⟩ (qU (a:=l) (f:=Obj.mapSeq (·.setIfInBounds j v)) ..)
 first
  |exact ZM (ZL (ZL (aG .none U (ZL z))))
  |exact ZL ⟨.none,rfl,ZL z⟩
 haveI e:Obj.mapSeq (·.setIfInBounds j v) {cls:=.type "list",data:=.seq items n}={cls:=.type "list",data:=.seq (items.setIfInBounds j v) n}:=by simp [Obj.mapSeq]
 rw [cN _ ho (by rw [e];rfl),e];rfl
open PySem.SeqAt in
theorem Cz(S:SR c as X H s)(hv:VR c as X s.heap v cv)(hw:VR c as X s.heap w cw)(e:yN [v,w] H=Z (r,H'))(q:Q r H')(hu:A.units+64<ZQ) :
  ZS c.M A (call (.builtin "list.index") [cv,cw]) (Res c as X s.heap Q) E s:=by
 refine ao (cm e) λvs hvs e1=>?_;refine ao (cm e1) λx' ex e2=>?_;obtain⟨hok,e3⟩:=eS e2;refine ao (ez e3) λk hk e4=>?_;cases e4;obtain⟨hd,hdd⟩:=mP hok;obtain⟨d1,d2,l1,r1⟩:=oR S hw ex;clear e e1 e2 e3 hok hw ex d2;obtain⟨a,items,rfl,⟨n,t3⟩,rr,t5,_⟩:=eY S hv hvs;obtain⟨l2,r2⟩:=mf rr hd;haveI o1:=iD _ d1;haveI o2:=po _ hd;haveI hm:A.units+1+min (PyData.depthAll (jO vs)) (tC x').depth<ZQ:=o2.2▸nR hdd hu;have hl:=rr.len_arr;obtain⟨hlt,hit,hno⟩:=fN.mp hk;have he:∀m (hm:m<items.size) (hm':m<vs.length),PyData.eqv (readOf s.heap items[m]) (tC x')=fZ vs[m] x':=λm hm hm'=>by
  haveI h3:(items.toList.map (readOf s.heap))[m]? =(jO vs)[m]?:=by exact YP ((readsAll_map _ _ _ o2.1 r2)) U
  simp only [vf hm',aV,cb,d9 hm]at h3;exact YP (ai h3) (mc _ _ (rX hd hm') d1)
 refine Zw PySem.F.slot_list_index (aG _ t3 U) PySem.F.entry_list_index (PySem.F.args_list_index_2 _ _) (list_indexAt a items n Z6 #[] cw (λy=>PyData.eqv (readOf s.heap y) (tC x')) k (hl▸hlt) ?_ ?_ ?_) (bu t3 (items_eqAt r2 r1 o2.1 o1.1 hm) ?_)
 ·exact NZ (b9.mpr hlt) (bA (b7.mpr t5) (by decide))
 ·exact (he k _ hlt).trans hit
 ·intro m hm hmk;exact(he m hm (hl▸hm)).trans (by simpa using hno m hmk)
 ·exact Res.now (tk:=s.toks+1) S (.int _ _) q
theorem D8:∀{acc:Array ZX},(List.foldl (λx1 x2=>x1++x2) acc (bW n #[y])).toList=acc.toList++bW n y:=by
 induction n with
 |zero=>exact λ{acc}=>(aJ _).symm
 |succ n ih=>intro acc;simp only [qT,qT,List.foldl_cons,ih,iz,au];rfl
theorem EC(hx:VR c as X h x y):VRs c as X h (bW n x) (bW n y):=by
 induction n with
 |zero=>exact .nil
 |succ n ih=>exact .cons hx ih
theorem Lq(S:SR c as X H s)(hv:VR c as X s.heap (.lst [x]) cv)(hw:VR c as X s.heap (.int n) cw)(h0:0<=n)(h1:n<=1000)(q:Q (.ref H.length) (H++[.list (bW n.toNat x)])) :
  ZS c.M A (binaryOp .Mult cv cw) (Res c as X s.heap Q) E s:=by
 induction hw.inv with
 |int u=>
 induction hv.inv with
 |@lst l items t1 t2 t3 rr t5=>
 obtain⟨k,hl⟩:=t3;obtain⟨its⟩:=items;cases rr with
 |@cons _ _ y _ r1 r2=>
 cases r2 with
 |nil=>
 refine wpAny_binaryOp_repeat_ref (T:="list") (U:="int") (by decide) (aG _ hl U) (λs'=>typeIs_int s' n u) noFill_list_mul PySem.F.fills_int_mul PySem.F.slot_int_rmul repeat_list PySem.F.slot_int_index.lookup
  (Zw PySem.F.slot_int_rmul (typeIs_int s n u) PySem.F.entry_int_rmul (PySem.F.args_int_rmul_2 _ _) (int___rmul___int_list n u l #[y] k)
   ⟨hl,rfl,(aG _ hl U),Zw PySem.F.slot_list_mul (aG _ hl U) PySem.F.entry_list_mul (PySem.F.args_list_mul_2 _ _)
    (AutoListH.list___mul___list_int_3 l #[y] k n u (by simp [Builtin.List.listFitsIndex];exact⟨j5 h0 (by simp+arith only),j5 h1 (by simp+arith only)⟩) (by simp;exact j5 h1 (by simp+arith only)) (by simp [my,ZT];exact j5 h1 (by simp+arith only))) ⟨hl,?_⟩⟩)
 refine FreshL.thawed S (j6 (tk:=s.toks) S (.push _ _) (bf _ U) ?_ ?_) q
 ·refine (D8 (acc:=#[])).symm▸EC r1
 ·exact YP HJ (aa (tM.mpr h1) (by decide))
theorem uj{i:Int}(h:bY i=Z5):(if i<0 then 0-i else i)<10 ^ 13:=by
 have h:=of_decide_eq_true h;by_cases z:i<0
 ·exact YP (Z3 z) (iW (j5 h.1 (by simp+arith only):0-i<=10 ^ 12) (by decide))
 ·exact YP (Z2 z) (iW h.2 (by decide))
theorem sg(i:Int):Str.ofString (toString i)=toS (t7 i):=by rw [Str.ofString_eq_toList];rfl
theorem uG{i:Int}(hsm:bY i=Z5):(t7 i).length<=li:=by have:=len_str_of_int i;rw [sg,eW]at this;simp only [bY,decide_eq_true_eq]at hsm;have hb:li=2 ^ 40:=rfl;omega
theorem Lk{v r:V}{cv:ZX}(S:SR c as X H s)(hv:VR c as X s.heap v cv)(e:Ld [v] H=Z (r,H'))(q:Q r H'):ZS c.M A (call (.type "str") [cv]) (Res c as X s.heap Q) E s:=by
 obtain⟨r',e1,e2⟩:=ez e;cases e2;clear e;cases v with
 |int i=>
  replace e1:=c9 e1;obtain⟨hsm,rfl⟩:=e1
  induction hv.inv
  refine str_of_int_fit (uj hsm) (by decide) λhlen=>?_;show Res c as X s.heap Q (.str (Str.ofString (toString i)) _) _;rw [sg];exact Res.now S (.str _ _ (uG hsm)) q
 |str x=>
  cases e1
  induction hv.inv with
  |str _ hs=>exact P.str_of_str (Res.now (tk:=s.toks) S (.str _ _ hs) q)
 |_=>cases e1
theorem uA:∀n<128,(Char.ofNat n).toNat=n:=by decide+kernel
theorem tY:∀n<128,Unicode.upperOf n=[if 97<=n/\n<=122 then n-32 else n]:=by decide+kernel
set_option tactic.hygienic true in
theorem zA(ch:Char)(h:ch.toNat<128):Unicode.upperOf ch.toNat=[(mQ ch).toNat]:=by
 refine YP (tY _ h) ?_;unfold mQ;split
 ·rename_i h;exact Z4 (λx=>[x]) (uA _ (ce (dy _ _) (by assumption))).symm
 ·rfl
theorem sr:∀l:List Char,(∀ch∈l,ch.toNat<128)->((l.map Char.toNat).map Unicode.upperOf).flatten=(l.map mQ).map Char.toNat
 |[],_=>rfl
 |ch::l,hl=>by rw [dI,dI,Oh,dI,dI,sr l λx hx=>hl x (.tail _ hx),zA ch (hl ch (.head _)),List.singleton_append]
theorem zF(l:List Nat):(l.mapIdx λ_ c=>(Unicode.upperOf c).toArray).map Array.toList=l.map Unicode.upperOf:=by apply QY<;>simp
theorem s6{t:List Char}(h:(t.all λc=>decide (c.toNat<128))=Z5):placed (toS t) (λ_ c=>Unicode.upperOf c)=(toS (t.map mQ)).cps:=by refine Array.ext' ?_;simp only [placed,Array.toList_flatten,Array.toList_map,Array.toList_mapIdx];rw [zF];exact sr t λch hc=>of_decide_eq_true (bw.mp h ch hc)
theorem Fd{v r:V}{cv:ZX}(S:SR c as X H s)(hv:VR c as X s.heap v cv)(e:BU [v] H=Z (r,H'))(q:Q r H'):ZS c.M A (call (.builtin "str.upper") [cv]) (Res c as X s.heap Q) E s:=by
 obtain⟨t,h0,e0⟩:=cm e;obtain⟨h,e1⟩:=c9 e0;replace h0:=V.txt_is h0;clear e;cases h0;cases e1
 induction hv.inv
 have hp:=s6 h.1;have hl:(toS (t.map mQ)).length<=ZT:=by rw [eW,aj];exact aa h.2 cO
 refine call_gives F.slot_str_upper (Zy _ _ _) F.entry_str_upper (F.args_str_upper_1 _) (gives_str_upper _ _ ?_) ?_
 ·exact YP hp (decide_eq_false (hV.mpr hl))
 ·refine YP hp ?_;exact⟨hl,Res.now S (.str _ _ (by rw [aj];exact qb h.2)) q⟩
section
variable {c:Cx}
theorem Mv(S:SR c as X H s)(hv:VR c as X s.heap v cv)(e:Jz [v] H=Z (r,H'))(q:Q r H'):ZS c.M A (call (.type "int") [cv]) (Res c as X s.heap Q) E s:=by
 cases v with
 |bool b=>exact Jt S hv e q
 |_=>exact eU e
theorem uJ{R:ZX->ZV->Prop}(hl:s.heap.PlainList a xs)(hb:s.heap.get? b=Z {cls:=.type "list",data:=.seq ys m})(hz:xs.size+ys.size<=ZT)
  (h:∀h',h'.PlainList a (xs++ys)->gK a s.heap h'->R .none {s with heap:=h'}):ZS c.M A (call (.builtin "list.extend") [.ref a,.ref b]) R E s:=by
 refine d5 hl λn ho=>?_;refine Zt F.slot_list_extend (aG _ ho U) F.entry_list_extend ?_ (F.args_list_extend_2 _ _);refine(?_:ZS _ _ (ze (.ref a) (.ref b) .none) _ _ s);unfold ze;refine ZM (Zs (aG _ hb U) ?_);haveI h1:(Builtin.List.listSameRef (.ref a) (.ref b)||Value.type "list"==Value.type "list"||Value.type "list"==Value.type "tuple")=Z5:=by simp
 simp only [h1,if_true];refine ZM ?_;unfold Builtin.List.listItems;refine ZM (wpAny_seqItems hb U (ZL ?_));refine ZM ?_;refine ZM (wpAny_seqItems ho U (ZL ?_));haveI h2:(!xs.isEmpty&&my (xs.size+ys.size))=J:=by simp only [show my (xs.size+ys.size)=decide (xs.size+ys.size>ZT)from U,decide_eq_false (hV.mpr hz:¬(xs.size+ys.size>ZT)),jc]
 simp only [h2,rH,if_false];refine ZM (wpAny_updateSeq ho U ?_ (by exact gQ hz (by simp+arith only)) (by exact YP Oi (gQ hz (by simp+arith only))));exact ZL (aG .none U (h _ ⟨_,cN _ ho U⟩ (qU ..)))
theorem Bi(S:SR c as X H s)(hv:VR c as X s.heap v cv)(hw:VR c as X s.heap w cw)(e:xQ [v,w] H=Z (r,H'))(q:Q r H'):ZS c.M A (call (.builtin "list.extend") [cv,cw]) (Res c as X s.heap Q) E s:=by
 refine ao (cm e) ?_;clear e;intro p h0 e0;refine ao (cm e0) ?_;clear e0;intro ys h1 e1;obtain⟨hz,e2⟩:=c9 e1;clear e1
 (haveI i:=p.1;haveI vs:=p.2)
 replace h0:=ng h0;obtain⟨rfl,hob⟩:=h0;cases e2;replace hv:=jR S hv hob;obtain⟨a,hi,hb,items,hp,rr⟩:=hv;clear hob;replace hw:=eY S hw h1;obtain⟨b,its,rfl,⟨m,hm⟩,r2,_⟩:=hw;clear h1;refine uJ hp hm (by simp only [rr.len_arr,r2.len_arr];exact aa hz cO) λh' hp' sb=>?_;haveI hk:∀b o,s.heap.get? b=Z o->b≠a->h'.get? b=Z o:=λb o e hb=>(sb.2 b hb).trans e;haveI K:=SR.kept1 (X:=X) hi hk;refine nK (s':={s with heap:=h'}) (o':=.list _) S hi hk U U ⟨?_,(aG _ hp' ?_)⟩ .none q
 ·exact YP af (qb hz)
 ·exact YP iz ((rr.keep K (.refl ..)).append (r2.keep K (.refl ..)))
end
set_option genCtorIdx false in
inductive Gl where
 |fn (f:Nat) (b:Bool)
 |c (v:V)
 |bi (b:String)
 |ty (t:String)
 |exc (c:Nat)
 |cls (ms:List (Str×Nat)) (ats:List Str) (f:Nat)
noncomputable def Gl.ctorIdx(v:Gl):Nat:=Gl.casesOn (motive:=λ_=>Nat) v (λ_ _=>0) (λ_=>1) (λ_=>2) (λ_=>3) (λ_=>4) λ_ _ _=>5
structure Tb where
 gl:List (Str×Gl)
 meths:List (Str×Nat)
 names:List (Str×NameKind)
 tab:List (Str×Nat)
 n:Nat
 mu:List (Nat×Nat)
 /-- an exception may be at hand:nothing that is loud -/
 q:Bool
noncomputable def Tb.isMu(T:Tb)(p:Pos):Bool:=T.mu.contains (p.line,p.col)
noncomputable def sd(s:Str):Option (List Char):=
 if toS (s.cps.toList.map Char.ofNat)=s/\(s.cps.toList.map Char.ofNat).length<=1000 then Z (s.cps.toList.map Char.ofNat)else Z6
noncomputable def AD:Const->Option Ex
 |.none=>Z (.c .none)
 |.bool b=>Z (.c (.bool b))
 |.int i=>Z (.c (.int i))
 |.str s=>(sd s).map λl=>.c (.str l)
 |_=>Z6
noncomputable def Tb.var(T:Tb)(x:Str):Option Nat:=
 if x==("__debug__":Str)||x==("__classdict__":Str)then Z6 else
 if T.names.lookup x=Z .local\/T.names.lookup x=Z .cell\/T.names.lookup x=Z .free then T.tab.lookup x else Z6
noncomputable def Tb.glob(T:Tb)(x:Str):Option Gl:=
 if x==("__debug__":Str)then Z6 else
 if T.names.lookup x=Z .globalImplicit then T.gl.lookup x else Z6
noncomputable def glE:Option Gl->Option Ex
 |some (.c v)=>Z (.c v)
 |_=>Z6
noncomputable def LR(o:Option Ex):Option Nat->Option Ex
 |some i=>Z (.v i)
 |none=>o
noncomputable def C4(T:Tb)(x:Str):Option Ex:=LR (glE (T.glob x)) (T.var x)
noncomputable def xR:Operator->Option Bop
 |.Add=>Z .add|.Sub=>Z .sub|.Mult=>Z (.mul 0)|.FloorDiv=>Z .f|.Mod=>Z .mod|.Pow=>Z .pow
 |_=>Z6
noncomputable def ip:CmpOp->Cop
 |.Eq=>.eq|.NotEq=>.ne|.Lt=>.lt|.LtE=>.le|.Gt=>.gt|.GtE=>.ge|.Is=>.is 0|.IsNot=>.isnot|.In=>.in_|.NotIn=>.notin
noncomputable def kD{α β:Type}(f:α->Option β):List α->Option (List β)
 |[]=>Z []
 |a::r=>(f a).bind λb=>(kD f r).map (b::·)
noncomputable def mkB(op:BoolOp)(x y:Ex):Ex:=match op with
 |.And=>.and x y
 |.Or=>.or x y
noncomputable def zm(op:BoolOp)(t:Bool):Bool:=match op with
 |.And=>t
 |.Or=>!t
theorem xI:cW P C (mkB op x y) ρ H Q X=cW P C x ρ H (λv H'=>o9 (gF v) λt=>if zm op t then cW P C y ρ H' Q X else Q (.bool t) H') X:=by induction op<;>rfl
noncomputable def sY(op:BoolOp):List Ex->Option Ex
 |[]=>Z6
 |[x]=>Z x
 |x::r=>(sY op r).map (mkB op x)
noncomputable def EB(t:String):Option Ty:=
 if t="int" then Z .int else if t="bool" then Z .bool else if t="str" then Z .str else if t="list" then Z .list else if t="tuple" then Z .tuple else Z6
noncomputable def wi(b:String)(n:Nat):Option Prim:=
 if b="len"/\n=1 then Z .len else
 if b="all"/\n=1 then Z .all else
 if b="min"/\n=2 then Z .min else
 Z6
noncomputable def vN(t:String)(n:Nat):Option Prim:=
 if t="range"/\n=1 then Z .range1 else
 if t="range"/\n=2 then Z .range2 else
 if t="list"/\n=1 then Z .list else
 if t="int"/\n=1 then Z .int else
 if t="str"/\n=1 then Z .str else
 Z6
noncomputable def Prim.loud:Prim->Bool
 |.all|.min|.list=>Z5
 |_=>J
noncomputable def JY:Expr->Option Const
 |.Constant c _ _=>Z c
 |_=>Z6
theorem IF(e:Expr):Is (JY e) λc=>∃k p,e=.Constant c k p:=by cases e<;>first|exact⟨_,_,rfl⟩|exact Z0
noncomputable def Pd:Const->Option Str
 |.str s=>Z s
 |_=>Z6
noncomputable def E4(e:Expr):Option Str:=(JY e).bind Pd
theorem Ao(e:Expr):Is (E4 e) λs=>∃k p,e=.Constant (.str s) k p:=
 (IF e).bind λc h=>Is.imp (R:=λs=>c=.str s) (by induction c<;>first|exact U|exact Z0) λ_ q=>q▸h
noncomputable def MY:Const->Option Unit
 |.none=>Z ()
 |_=>Z6
theorem IY(c:Const):Is (MY c) λ_=>c=.none:=by induction c<;>first|exact U|exact Z0
noncomputable def Pc:Const->Option Int
 |.int i=>Z i
 |_=>Z6
noncomputable def KY(l:List Expr):Bool:=match l with
 |[e]=>decide ((JY e).bind Pc=Z 0)
 |_=>J
noncomputable def Iz(e:Expr):Bool:=match e with
 |.Subscript _ i _=>(E4 i).isSome
 |.Name _ _=>Z5
 |_=>J
noncomputable def zOf(m:Str)(o:Expr)(l:List Expr):Bool:=if m=Str.ofString "index" then Iz o else KY l
noncomputable def nw(m:Str)(n:Nat)(z:Bool):Option (Mt×Prim):=
 if m=Str.ofString "append"/\n=1 then Z (.list,.append)else
 if m=Str.ofString "pop"/\n=0 then Z (.list,.pop)else
 if m=Str.ofString "pop"/\n=1/\z=Z5 then Z (.list,.pop0)else
 if m=Str.ofString "pop"/\n=1 then Z (.dict,.dpop)else
 if m=Str.ofString "index"/\n=1/\z=Z5 then Z (.list,.lindex)else
 if m=Str.ofString "index"/\n=1 then Z (.tup 0,.index)else
 if m=Str.ofString "extend"/\n=1 then Z (.list,.extend)else
 if m=Str.ofString "upper"/\n=0 then Z (.str,.upper)else
 Z6
noncomputable def oo{α β:Type}(f:α->Option β):List α->Option β
 |[t]=>f t
 |_=>Z6
noncomputable def CR{α β:Type}(f:α->α->Option β):List α->Option β
 |[a,b]=>f a b
 |_=>Z6
noncomputable def tL{α β:Type}(r:Option β):List α->Option β
 |[]=>r
 |_::_=>Z6
noncomputable def Bz:Expr->Option Str
 |.Name x _=>Z x
 |_=>Z6
theorem o0(e:Expr):Is (Bz e) λx=>∃p,e=.Name x p:=by cases e<;>first|exact⟨_,rfl⟩|exact Z0
theorem rP{α:Type}{a:Option α}{x:α}(h:(if b=Z5 then Z6 else a)=Z x):b=J/\a=Z x:=by
 induction b with
 |false=>exact⟨rfl,h⟩
 |true=>exact eU h
noncomputable def th(e:Expr):Bool:=e.ctorIdx==26
noncomputable def lD(e:Expr):Bool:=e.ctorIdx==8||e.ctorIdx==9||e.ctorIdx==10
noncomputable def wM(T:Tb)(x:Str)(sc:Scope):Bool:=
 decide (sc.kind=.function)&&T.tab.all (λp=>decide (p.2<T.n))&&decide (sc.names.lookup x=Z .local)&&
 sc.names.all (λp=>decide (sc.names.lookup p.1=Z p.2)&&(match p.2 with
  |.local=>decide (p.1=x)||(T.tab.lookup p.1).isNone
  |.cell=>J
  |.free=>(decide (T.names.lookup p.1=Z .cell)||decide (T.names.lookup p.1=Z .free))&&(T.tab.lookup p.1).isSome&&decide (p.1≠x)
  |_=>Z5))
noncomputable def LM(e:Expr):Bool:=match e with
 |.List _ _=>Z5
 |_=>J
noncomputable def Cn(e:Expr):Bool:=e.ctorIdx==16
noncomputable def jN(e:Expr):Bool:=!Cn e
noncomputable def G5(o:Option Expr):Option (List Char):=o.bind λe=>(E4 e).bind sd
abbrev OK:=Tb->Expr->Option Ex
noncomputable def Cm:Gl->Option (List (Str×Nat)×List Str×Nat)
 |.cls ms ats f=>Z (ms,ats,f)
 |_=>Z6
theorem FX(g:Gl):Is (Cm g) λq=>g=.cls q.1 q.2.1 q.2.2:=by induction g<;>first|exact U|exact Z0
noncomputable def Ez:List (Str×Gl)->Option (List (Str×Nat)×List Str×Nat)
 |[]=>Z6
 |p::l=>if(Cm p.2).isSome=Z5 then Cm p.2 else Ez l
theorem AF(gl:List (Str×Gl)):Is (Ez gl) λq=>∃x,(x,Gl.cls q.1 q.2.1 q.2.2)∈gl:=by
 induction gl with
 |nil=>exact Z0
 |cons p l ih=>exact Is.ite2 (λ_=>(FX p.2).imp λ_ h=>⟨p.1,h▸.head _⟩) λ_=>ih.imp λ_ h=>h.imp λ_ hx=>.tail _ hx
noncomputable def B3(r:Expr->Option Ex)(T:Tb)(o:Expr)(name:Str):Option (Ex×List Char):=if jN o=Z5 then(Ez T.gl).bind λq=>if q.2.1.contains name=Z5 then(sd name).bind λnm=>(r o).map λa=>(a,nm)else Z6 else Z6
noncomputable def LL(r:Expr->Option Ex)(T:Tb)(o:Expr)(name:Str)(args:List Expr):Option Ex:=if args.length<30 then(Ez T.gl).bind λq=>(q.1.lookup name).bind λg=>(sd name).bind λnm=>(r o).bind λa=>(kD r args).map λes=>.m 0 g nm a es else Z6
noncomputable abbrev oE(T:Tb)(x:Str)(sc:Scope):Tb:={T with names:=sc.names,tab:=(x,T.n)::T.tab,n:=T.n+1}
noncomputable def cUn(op:UnaryOp)(a:Ex):Option Ex:=match op with
 |.Not=>Z (.p J .not [a])
 |.USub=>Z (.p J .neg [a])
 |_=>Z6
noncomputable def L7(r:Expr->Option Ex)(l:Expr)(ops:List CmpOp)(rs:List Expr):Option Ex:=match ops with
 |[op]=>oo (λx=>(r l).bind λa=>(r x).map λb=>.p J (.cop (ip op)) [a,b]) rs
 |[o₁,o₂]=>CR (λm x=>(r l).bind λa=>(r m).bind λb=>(r x).map λc=>.cmp2 a (ip o₁) b (ip o₂) c) rs
 |_=>Z6
noncomputable def JU:Gl->Option String
 |.ty tn=>Z tn
 |_=>Z6
theorem HM(g:Gl):Is (JU g) λtn=>g=.ty tn:=by induction g<;>first|exact U|exact Z0
noncomputable def xN:Gl->Option Nat
 |.exc k=>Z k
 |_=>Z6
theorem tD(g:Gl):Is (xN g) λk=>g=.exc k:=by induction g<;>first|exact U|exact Z0
noncomputable def PZ(tn:String):Option Prim:=if tn="ValueError" then Z (.isX Z6)else(EB tn).map Prim.s
noncomputable def L4:Gl->Option Prim
 |.ty tn=>PZ tn
 |.exc j=>Z (.isX (Z j))
 |_=>Z6
noncomputable def PE(r:Expr->Option Ex)(T:Tb)(args:List Expr):Option Ex:=
 CR (λx y=>(Bz y).bind λt=>(T.glob t).bind λg=>(L4 g).bind λp=>(r x).map λa=>.p J p [a]) args
noncomputable def cGl(r:Expr->Option Ex)(T:Tb)(args:List Expr)(pos:Pos)(g:Gl):Option Ex:=match g with
 |.fn i b=>if(T.q&& !b)=Z5 then Z6 else(kD r args).map λes=>.call i es
 |.bi b=>if b="isinstance" then PE r T args else(wi b args.length).bind λp=>if(T.q&&p.loud)=Z5 then Z6 else(kD r args).map λes=>.p J p es
 |.ty t=>(vN t args.length).bind λp=>if(T.q&&p.loud)=Z5 then Z6 else(kD r args).map λes=>.p (T.isMu pos) p es
 |.cls _ _ f=>if T.q=Z5 then Z6 else oo (λx=>(r x).map λa=>.new 0 f [a]) args
 |_=>Z6
noncomputable def GL(r:Expr->Option Ex)(T:Tb)(f:Expr)(args:List Expr)(kws:List Keyword)(pos:Pos):Option Ex:=tL (match f with
  |.Name g _=>(T.glob g).bind (cGl r T args pos)
  |.Attribute o name apos=>if jN o=Z5/\apos.endLine=pos.line then
    if(nw name args.length (zOf name o args)).isSome=Z5 then(nw name args.length (zOf name o args)).bind λtp=>(r o).bind λa=>(kD r args).map λes=>.n tp.1 (T.isMu pos&&tp.2.fresh) tp.2 a es else if T.q=Z5 then Z6 else LL r T o name args
    else Z6
  |_=>Z6) kws
noncomputable def MR:Ex->Bool
 |.c v=>v.num.isSome
 |_=>J
noncomputable def Prim.isR1:Prim->Bool
 |.range1=>Z5
 |_=>J
noncomputable def Oy:List Ex->Bool
 |[e]=>MR e
 |_=>J
noncomputable def vL:Ex->Bool
 |.p mu p l=>!mu&&(p.isR1&&Oy l)
 |_=>J
theorem Ei{e:Ex}(h:MR e=Z5):∃k,e=.c (.int k):=by
 cases e with
 |c v=>
  cases v with
  |int k=>exact⟨k,rfl⟩
  |_=>exact Z1 h ae
 |_=>exact Z1 h ae
theorem D5{p:Prim}(h:p.isR1=Z5):p=.range1:=by induction p<;>first|rfl|exact Z1 h ae
theorem ED{e:Ex}(h:vL e=Z5):∃k,e=.p J .range1 [.c (.int k)]:=by
 cases e with
 |p mu p l=>
  have h:=cP h;have h2:=cP h.2
  induction mu with
  |true=>exact Z1 h.1 ae
  |false=>
   cases D5 h2.1;clear h;induction l with
   |nil=>exact Z1 h2.2 ae
   |cons x l=>
    clear h;induction l with
    |cons _ _=>exact Z1 h2.2 ae
    |nil=>exact(Ei h2.2).elim λk e=>⟨k,Z4 (λz=>Ex.p J .range1 [z]) e⟩
 |_=>exact Z1 h ae
noncomputable def LK(r:Expr->Option Ex):List Expr->Option (Option Ex)
 |[]=>Z Z6
 |t::l=>tL ((r t).map Z) l
noncomputable def HF(r:OK)(T:Tb)(elt:Expr)(gens:List Comprehension)(sc:Scope)(pos:Pos):Option Ex:=oo (λg=>(Bz g.target).bind λx=>if g.is_async=0/\wM T x sc=Z5 then
   (r T g.iter).bind λi=>if(T.q&& !vL i)=Z5 then Z6 else(r (oE T x sc) elt).bind λb=>(LK (r (oE T x sc)) g.ifs).map λq=>.comp (T.isMu pos) b i q
   else Z6) gens
noncomputable def JB(r:Expr->Option Ex)(mu:Bool)(ks:List (Option Expr))(vs:List Expr):Option Ex:=
 oo (λk=>k.bind λke=>oo (λve=>(r ke).bind λa=>(r ve).map λb=>.p mu .mkdict1 [a,b]) vs) ks
noncomputable def GX(r:Expr->Option Ex)(mu:Bool)(ks:List (Option Expr))(vs:List Expr):Option Ex:=
 if ks.length=vs.length/\ks.length<=15 then(kD G5 ks).bind λkcs=>(kD r vs).map λxs=>.p mu (.d kcs) xs else Z6
noncomputable def Jq(r:Expr->Option Ex)(o:Option Expr):Option Ex:=match o with
 |none=>Z (.c .none)
 |some e=>r e
noncomputable def Pe(r:Expr->Option Ex)(v e:Expr):Option Expr->Option Expr->Option Ex
 |none,Z6=>(r v).bind λa=>(r e).map λb=>.p J .rev [a,b]
 |_,_=>Z6
noncomputable def LU(r:Expr->Option Ex)(mu:Bool)(v sl:Expr):Option Ex:=match sl with
 |.Slice lo hi st _=>match st with
  |none=>(r v).bind λa=>(Jq r lo).bind λb=>(Jq r hi).map λc=>.p mu .slice [a,b,c]
  |some e=>Pe r v e lo hi
 |sl=>if th sl then Z6 else(r v).bind λa=>(r sl).map λb=>.p J .i [a,b]
noncomputable def cE:Nat->Tb->Expr->Option Ex
 |0,_,_=>Z6
 |k+1,T,e=>match e with
  |.Constant c _ _=>AD c
  |.Name x _=>C4 T x
  |.BinOp l op r pos=>(xR op).bind λo=>(cE k T l).bind λa=>(cE k T r).bind λb=>if Cd o=Z5/\LM l=Z5 then Z (.p Z5 .rep [a,b])else Z (.p (T.isMu pos) (.bop o) [a,b])
  |.UnaryOp op x _=>(cE k T x).bind (cUn op)
  |.BoolOp op vs _=>(kD (cE k T) vs).bind (sY op)
  |.Compare l ops rs _=>L7 (cE k T) l ops rs
  |.Call f args kws pos=>GL (cE k T) T f args kws pos
  |.Subscript v sl pos=>LU (cE k T) (T.isMu pos) v sl
  |.List es pos=>(kD (cE k T) es).map λxs=>.p (T.isMu pos) .l xs
  |.Tuple es _ _=>(kD (cE k T) es).map λxs=>.p J .t xs
  |.Dict ks vs pos=>if(GX (cE k T) (T.isMu pos) ks vs).isSome=Z5 then GX (cE k T) (T.isMu pos) ks vs else JB (cE k T) (T.isMu pos) ks vs
  |.ListComp elt gens sc pos=>HF (cE k) T elt gens sc pos
  |.Attribute o name _=>(B3 (cE k T) T o name).map λq=>.p J (.a q.2) [q.1]
  |_=>Z6
noncomputable def Tb.slot(T:Tb)(x:Str):Option Nat:=
 (T.names.lookup x).bind λk=>if k=.local\/k=.cell then(T.tab.lookup x).bind λi=>if i<T.n then Z i else Z6 else Z6
noncomputable def Tb.lslot(T:Tb)(x:Str):Option Nat:=if T.names.lookup x=Z .local then T.slot x else Z6
noncomputable def jm(_:Tb)(_:Nat)(s:St):List St:=[s]
noncomputable def pR:Option (List (List St))->Option (List St)
 |some l=>Z l.flatten
 |none=>Z6
noncomputable def C7(T:Tb)(a b:Expr):Option (List Nat):=(Bz a).bind λx=>(Bz b).bind λy=>(T.slot x).bind λi=>(T.slot y).map λj=>[i,j]
noncomputable def Mm(T:Tb)(t:Expr):Option (Nat ⊕ List Nat):=match t with
 |.Name x _=>(T.slot x).map .inl
 |.Tuple es _ _=>(CR (C7 T) es).map .inr
 |_=>Z6
noncomputable def Ba(T:Tb)(f:Expr):Bool:=(Bz f).any λx=>(T.glob x).any λg=>JU g==Z "reversed"
noncomputable def cIt(r:Expr->Option Ex)(T:Tb)(e:Expr):Option (Bool×Ex):=match e with
 |.Call f args kws p=>if Ba T f=Z5 then tL (oo (λa=>(r a).map λx=>(Z5,x)) args) kws else(r (.Call f args kws p)).map λx=>(J,x)
 |e=>(r e).map λx=>(J,x)
noncomputable def GF(r:Expr->Option Ex)(T:Tb)(es:List Expr)(v:Expr):Option St:=
 if(Cn v&& !T.q)=Z5 then(CR (C7 T) es).bind λis=>(r v).map λe=>.asgTup is e else Z6
noncomputable def LA(r:Expr->Option Ex)(T:Tb)(t v:Expr)(l:Nat):Option (List St):=match t with
 |.Name x _=>(T.slot x).bind λi=>(r v).map λe=>jm T l (.a i e)
 |.Tuple es _ _=>(GF r T es v).map λs=>jm T l s
 |.Subscript o i _=>(r v).bind λev=>(r o).bind λeo=>(r i).map λei=>jm T l (.s eo ei ev)
 |.Attribute o name _=>if lD v then Z6 else(r v).bind λev=>(B3 r T o name).map λq=>jm T l (.setAttr q.1 q.2 ev)
 |_=>Z6
noncomputable def cRz(T:Tb)(e:Expr):Option Nat:=match e with
 |.Call f args kws _=>tL (oo (λa=>(E4 a).bind λ_=>(Bz f).bind λx=>(T.glob x).bind xN) args) kws
 |_=>Z6
noncomputable def Cu(T:Tb)(e cause:Option Expr):Option Nat:=if(cause.isNone&& !T.q)=Z5 then e.bind (cRz T)else Z6
noncomputable def IT:Stmt->Option Expr
 |.Return v _=>v
 |_=>Z6
inductive HdR:Bool->Expr->Prop
 |none {k:Nat} {p:Pos}:HdR J (.Constant .none k p)
 |lst {p:Pos}:HdR Z5 (.List [] p)
noncomputable def hdE(e:Expr):Option Bool:=match e with
 |.Constant c _ _=>(MY c).map λ_=>J
 |.List es _=>tL (Z Z5) es
 |_=>Z6
theorem Nh(e:Expr):Is (hdE e) λt=>HdR t e:=by
 cases e with
 |Constant c k p=>exact(IY c).map λ_ h=>by subst h;exact .none
 |List es p=>
  induction es with
  |nil=>exact .lst
  |cons _ _=>exact Z0
 |_=>exact Z0
noncomputable def NN(b:List Stmt):Option Bool:=oo (λs=>(IT s).bind hdE) b
theorem Kb(b:List Stmt):Is (NN b) λt=>∃e p',b=[.Return (Z e) p']/\HdR t e:=by
 rcases b with _|⟨s,_|_⟩
 ·exact Z0
 ·refine Is.bind (R:=λe=>∃p',s=.Return (Z e) p') ?_ λe h=>(Nh e).imp λ_ h2=>h.elim λp' h=>(gp e p' (h▸rfl) h2);cases s with
  |Return v p=>
   induction v with
   |none=>exact Z0
   |some e=>exact⟨p,rfl⟩
  |_=>exact Z0
 ·exact Z0
noncomputable def cHd(T:Tb)(h:ExceptHandler):Option (Nat×Bool):=match h with
 |.ExceptHandler t nm body _=>if nm.isSome=Z5 then Z6 else t.bind λt=>(Bz t).bind λx=>(T.glob x).bind λg=>(xN g).bind λj=>(NN body).map λb=>(j,b)
noncomputable def GH{α:Type}:Option α->Option α->Option α
 |some a,_=>Z a
 |none,b=>b
theorem Is.orE{α:Type}{a b:Option α}{R:α->Prop}(h:Is a R)(k:Is b R):Is (GH a b) R:=by
 induction a with
 |none=>exact k
 |some x=>exact h
noncomputable def hdX(T:Tb)(t:Option Expr):Option Nat:=t.bind λt=>(Bz t).bind λx=>(T.glob x).bind xN
noncomputable def GV:Stmt->Option Expr
 |.Expr v _=>Z v
 |_=>Z6
noncomputable def NO(b:List Stmt):Option Expr:=oo GV b
theorem HE{α β:Type}{f:α->Option β}{R:α->β->Prop}(hf:∀a,Is (f a) (R a))(l:List α):Is (oo f l) λb=>∃a,l=[a]/\R a b:=by
 rcases l with _|⟨s,_|_⟩
 ·exact Z0
 ·exact (hf s).imp λ_ h=>(aG s U h)
 ·exact Z0
theorem D3(s:Stmt):Is (GV s) λv=>∃p,s=.Expr v p:=by cases s<;>first|exact⟨_,rfl⟩|exact Z0
theorem Kr(s:Stmt):Is (IT s) λv=>∃p,s=.Return (Z v) p:=by
 cases s with
 |Return v p=>
  induction v with
  |none=>exact Z0
  |some e=>exact⟨p,rfl⟩
 |_=>exact Z0
theorem NP(T:Tb)(t:Option Expr):Is (hdX T t) λj=>∃x p,t=Z (.Name x p)/\T.glob x=Z (.exc j):=by
 induction t with
 |none=>exact Z0
 |some t=>exact(o0 t).bind λx h=>Is.self.bind λg h1=>(tD g).imp λj h2=>h.elim λp h=>(gp x p (Z4 Z h) (h2▸h1))
noncomputable def Hy(r rq:Expr->Option Ex)(T:Tb)(body:List Stmt)(h:ExceptHandler):Option St:=match h with
 |.ExceptHandler t nm hb _=>nm.bind λx=>(NO body).bind λv=>if lD v=Z5 then Z6 else(hdX T t).bind λj=>(T.lslot x).bind λi=>(oo IT hb).bind λhe=>(r v).bind λe=>(rq he).map λy=>.tryE e j i y
noncomputable def cS:Nat->Tb->Stmt->Option (List St)
 |0,_,_=>Z6
 |k+1,T,s=>match s with
  |.Assign ts v pos=>oo (λt=>LA (cE k T) T t v pos.line) ts
  |.While t body els pos=>tL ((cE k T t).bind λc=>(pR (kD (cS k T) body)).map λxs=>jm T pos.line (.while_ c xs)) els
  |.Expr v pos=>if lD v then Z6 else(cE k T v).map λe=>jm T pos.line (.e e)
  |.If t a b pos=>(cE k T t).bind λc=>(pR (kD (cS k T) a)).bind λxs=>(pR (kD (cS k T) b)).map λys=>jm T pos.line (.ite c xs ys)
  |.For t it body els pos=>if T.q=Z5 then Z6 else tL ((Mm T t).bind λtg=>(cIt (cE k T) T it).bind λq=>(pR (kD (cS k T) body)).map λxs=>jm T pos.line (.f q.1 tg q.2 xs)) els
  |.Return v _=>(match v with
   |some e=>(cE k T e).map λx=>[.ret x]
   |none=>Z [.ret (.c .none)])
  |.Pass _=>Z [.pass]
  |.Raise e cause _=>(Cu T e cause).map λj=>[.raise j]
  |.Try body hs els fin pos=>if T.q=Z5 then Z6 else tL (tL (oo (λh=>GH ((pR (kD (cS k T) body)).bind λbs=>(cHd T h).map λq=>jm T pos.line (.try_ bs q.1 q.2)) ((Hy (cE k T) (cE k {T with q:=Z5}) T body h).map λs=>jm T pos.line s)) hs) fin) els
  |_=>Z6
noncomputable def Ow(k:Nat)(T:Tb)(b:List Stmt):Option (List St):=pR (kD (cS k T) b)
inductive ResL(c:Cx)(as:d6)(X:List ZZ)(h:HP)(Q:List V->AH->Prop)(xs:List ZX)(s':ZV):Prop
 |mk (vs:List V) (H':AH) (as':d6):Ext as h as'->SR c as' X H' s'->Kept as X h s'.heap->VRs c as' X s'.heap vs xs->Q vs H'->ResL c as X h Q xs s'
inductive ResB(c:Cx)(as:d6)(X:List ZZ)(h:HP)(Q:Bool->AH->Prop)(b:Bool)(s':ZV):Prop
 |mk (H':AH) (as':d6):Ext as h as'->SR c as' X H' s'->Kept as X h s'.heap->Q b H'->ResB c as X h Q b s'
theorem Res.lift(e:Ext as h as₁)(k:Kept as X h h₁)(r:Res c as₁ X h₁ Q x s'):Res c as X h Q x s':=by obtain⟨v,H',as',e',S,k',hv,q⟩:=r;exact⟨v,H',as',e.trans k e',S,k.trans e k',hv,q⟩
theorem ResB.lift{Q:Bool->AH->Prop}(e:Ext as h as₁)(k:Kept as X h h₁)(r:ResB c as₁ X h₁ Q x s'):ResB c as X h Q x s':=by obtain⟨H',as',e',S,k',q⟩:=r;exact⟨H',as',e.trans k e',S,k.trans e k',q⟩
structure ACk(q:Bool)(A:ZU)(n:Nat):Prop where
 hh:q=J->A.handled=Z6
 hd:A.depth+2*n+5<=recursionLimit
 hu:A.units+10*n+300<ZQ
structure AOk(q:Bool)(A:ZU)(n:Nat):Prop extends ACk q A n where
 hr:A.depth+2*n+6<=recursionLimit
 hw:A.units+10*n+305<ZQ
theorem AOk.u64(a:AOk q A n):A.units+64<ZQ:=by haveI:=a.hu;exact gQ this (by simp+arith only)
inductive Hx(c:Cx)(as:d6)(X:List ZZ)(h:HP)(A:ZU):Prop
 |no:A.handled=Z6->Hx c as X h A
 |at {e:ZZ} {k:Nat}:A.handled=Z (.ref e)->VR c as X h (.exc k) (.ref e)->Hx c as X h A
theorem Hx.keepX{c:Cx}{as as':d6}{X:List ZZ}{h h':HP}{A:ZU}(x:Hx c as X h A)(e:Ext as h as')(k:VK as X h h'):Hx c as' X h' A:=by
 induction x with
 |no q=>exact .no q
 |«at» q r=>exact .at q (r.keepX k e)
theorem Hx.keep{c:Cx}{as as':d6}{X:List ZZ}{h h':HP}{A:ZU}(x:Hx c as X h A)(e:Ext as h as')(k:Kept as X h h'):Hx c as' X h' A:=x.keepX e k.x
theorem Hx.to{c:Cx}{as:d6}{X:List ZZ}{h:HP}{A A':ZU}(x:Hx c as X h A)(e:A'.handled=A.handled):Hx c as X h A':=by
 induction x with
 |no q=>exact .no (e.trans q)
 |«at» q r=>exact .at (e.trans q) r
theorem Hx.opens{c:Cx}{as:d6}{X Y:List ZZ}{h h':HP}{A:ZU}(x:Hx c as X h A)(g:Grown h h')(hX:∀b∈Y,b∈X\/h.get? b=Z6):Hx c as Y h' A:=by
 induction x with
 |no q=>exact .no q
 |«at» q r=>exact .at q (VR.gen (λa o ha hx ho=>(bu ha (λz=>(hX a z).elim hx λe=>eU (e.symm.trans ho)) (g _ _ ho))) (λ_ _ e=>e) r)
structure KOk(T:Tb)(env:Env):Prop where
 loc:∀x,T.names.lookup x=Z .local->env.kindOf x=Z .local
 cell:∀x,T.names.lookup x=Z .cell->env.kindOf x=Z .cell
 free:∀x,T.names.lookup x=Z .free->env.kindOf x=Z .free\/env.kindOf x=Z .cell
 glob:∀x,T.names.lookup x=Z .globalImplicit->env.kindOf x=Z .globalImplicit
structure Rdy(c:Cx)(T:Tb)(env:Env)(A:ZU)(n:Nat)(s:ZV)(as:d6)(X:List ZZ)(H:AH)(ρ:Fm):Prop where
 a:AOk T.q A n
 hx:Hx c as X s.heap A
 S:SR c as X H s
 F:FR c as X s.heap env T.tab ρ
 K:KOk T env
 len:ρ.length=T.n
 fr:EnvFr c A X as s.heap env
theorem Rdy.next(R:Rdy c T env A n s as X H ρ)
  (e:Ext as s.heap as₁)(k:Kept as X s.heap s₁.heap)(S:SR c as₁ X H₁ s₁):Rdy c T env A n s₁ as₁ X H₁ ρ:=
 ⟨R.a,R.hx.keep e k,S,R.F.keep k e,R.K,R.len,R.fr.keep e k⟩
def Pi(c:Cx)(x:Str):Gl->Prop
 |.fn f b=>c.mg x=Z (.ref (c.fad f))/\(b=Z5->c.qf f=Z5)
 |.c v=>∃y,c.mg x=Z y/\∀as X h,VR c as X h v y
 |.bi b=>c.mg x=Z6/\c.mb x=Z (.builtin b)
 |.ty t=>c.mg x=Z6/\c.mb x=Z (.type t)
 |.exc k=>c.mg x=Z (.ref (c.xcls k))/\c.P.sub k k=Z5
 |.cls _ _ _=>c.mg x=Z (.ref (c.ccls 0))
inductive CK(c:Cx)(ms:List (Str×Nat))(ats:List Str)(f:Nat):Prop
 |mk {N:ZZ} {mN:Str->Option ZX}:ClsAt c.base (c.ccls 0) N mN->mN "__setattr__"=Z6->mN "__getattribute__"=Z6->mN "__getattr__"=Z6->(∀n∈ats,mN n=Z6/\ZG (.type "object") n=pure Z6)->
   (∀n g,ms.lookup n=Z g->mN n=Z (.ref (c.fad g))/\(∃o,c.base.get? (c.fad g)=Z o/\o.cls=.type "function")/\(∃y,ZG (.type "object") n=pure y)/\∃fn,c.P.fns g=Z fn)->mN "__init__"=Z (.ref (c.fad f))->(∃o,c.base.get? (c.fad f)=Z o/\o.cls=.type "function")->(∃fn,c.P.fns f=Z fn)->CK c ms ats f
structure SC(c:Cx)(n:Nat):Prop where
 run:∀{f:Nat} {fn:Fn} {A:ZU} {s:ZV} {as:d6} {X:List ZZ} {H:AH} {vs:List V} {xs:List ZX} {Q:QE} {XX:XE},
 c.P.fns f=Z fn->ACk (c.qf f) A n->Hx c as X s.heap A->(∃l,FrOk c A X as s.heap l)->SR c as X H s->VRs c as X s.heap vs xs->aO c.P n f vs H Q XX->ZS c.M A (call (.ref (c.fad f)) xs) (Res c as X s.heap Q) (ERes c as X s.heap XX) s
structure Cok(c:Cx)(gl:List (Str×Gl)):Prop where
 g:c.base.Ns mainGlobals c.mg
 b:c.base.Ns ZO c.mb
 nolim:c.base.NoLimit
 x:∀k,c.P.sub k k=Z5->∃bm,XC c.base (c.xcls k) bm/\∀x j,gl.lookup x=Z (.exc j)->(Value.ref (c.xcls k)::bm).contains (.ref (c.xcls j))=c.P.sub k j
 cl:∀x ms ats f,(x,Gl.cls ms ats f)∈gl->CK c ms ats f
 gl:∀x v,gl.lookup x=Z v->Pi c x v
 fobj:∀f fn,c.P.fns f=Z fn->∃o,c.base.get? (c.fad f)=Z o/\o.data=.func (c.fdat f)
structure SE(c:Cx)(n:Nat)(T:Tb)(e:Expr)(ex:Ex):Prop where
 run:∀{env:Env} {A:ZU} {s:ZV} {as:d6} {X:List ZZ} {H:AH} {ρ:Fm} {Q:QE} {XX:XE},
 Rdy c T env A n s as X H ρ->cW c.P (aO c.P n) ex ρ H Q XX->ZS c.M A (eval e env) (Res c as X s.heap Q) (ERes c as X s.heap XX) s
structure ST(c:Cx)(n:Nat)(T:Tb)(e:Expr)(ex:Ex):Prop where
 run:∀{env:Env} {A:ZU} {s:ZV} {as:d6} {X:List ZZ} {H:AH} {ρ:Fm} {P:QE} {Q:Bool->AH->Prop} {XX:XE},(∀v H,P v H->o9 (gF v) λb=>Q b H)->
 Rdy c T env A n s as X H ρ->cW c.P (aO c.P n) ex ρ H P XX->ZS c.M A (isTrue e env (eval e env)) (ResB c as X s.heap Q) (ERes c as X s.heap XX) s
section
variable {c:Cx}{T:Tb}
theorem Jh{XX:XE}{W:V->V->AH->Prop}{t:ZX->ZX->Sem ZX}{Q:QE}
  (h₁:SE c n T e₁ x₁)(h₂:SE c n T e₂ x₂)(R:Rdy c T env A n s as X H ρ)
  (w:cW c.P (aO c.P n) x₁ ρ H (λv H'=>cW c.P (aO c.P n) x₂ ρ H' (λv' H''=>W v v' H'') XX) XX)
  (tail:∀{s':ZV} {as':d6} {H':AH} {v v':V} {y y':ZX},SR c as' X H' s'->VR c as' X s'.heap v y->VR c as' X s'.heap v' y'->W v v' H'->ZS c.M A (t y y') (Res c as' X s'.heap Q) (ERes c as' X s'.heap XX) s') :
  ZS c.M A (eval e₁ env) (λy s₁=>ZS c.M A (eval e₂ env) (λy' s₂=>ZS c.M A (t y y') (Res c as X s.heap Q) (ERes c as X s.heap XX) s₂) (ERes c as X s.heap XX) s₁) (ERes c as X s.heap XX) s:=by
 refine Zr (h₁.run R w) (λy s₁ r=>?_) λ_ _ e=>e;obtain⟨v,H₁,as₁,e1,S1,k1,hv,w1⟩:=r;refine Zr (h₂.run (R.next e1 k1 S1) w1) (λy' s₂ r=>?_) λ_ _ e=>e.lift e1 k1;obtain⟨v',H₂,as₂,e2,S2,k2,hv',w2⟩:=r;refine Zr (tail S2 (hv.keep k2 e2) hv' w2) (λx s₃ r=>?_) λ_ _ e=>(e.lift e2 k2).lift e1 k1;exact(r.lift e2 k2).lift e1 k1
theorem ua:bj c.P J p vs H=prim c.P p vs H:=rfl
theorem ij(h:T.glob x=Z g):T.names.lookup x=Z .globalImplicit/\T.gl.lookup x=Z g/\(x==("__debug__":Str))=J:=by replace h:=rP h;refine dq h λhd h=>?_;exact dq (eS h) λh1 h2=>((bu h1 h2 hd))
theorem yD{R:ZX->ZV->Prop}{E:ZX->ZV->Prop} 
  (C:Cok c T.gl)(h:T.glob x=Z g)(hk:env.scope.kind=.function)(eg:env.globals=mainGlobals)(eb:env.builtins=ZO)(K:KOk T env)(st:c.base.StaysIn s.heap)(hy:c.mg x=Z y\/(c.mg x=Z6/\c.mb x=Z y))(r:R y s):ZS c.M A (eval (.Name x pos) env) R E s:=by
 refine Name_function_global hk (K.glob x (ij h).1) ?_ (ij h).2.2;haveI hg:=eg▸C.g.keeps st;exact hy.elim (λhy=>loadGlobal_global hg hy r) λhy=>loadGlobal_builtin hg hy.1 (eb▸C.b.keeps st) hy.2 r
theorem jq{R:ZX->ZV->Prop}{E:ZX->ZV->Prop} 
  (C:Cok c T.gl)(h:T.glob x=Z g)(Rd:Rdy c T env A n s as X H ρ)(hy:c.mg x=Z y\/(c.mg x=Z6/\c.mb x=Z y))(r:R y s):ZS c.M A (eval (.Name x pos) env) R E s:=yD C h Rd.F.kind Rd.F.glob Rd.F.bi Rd.K Rd.S.stays hy r
theorem Ij(h:T.var x=Z i):T.tab.lookup x=Z i/\(T.names.lookup x=Z .local\/T.names.lookup x=Z .cell\/T.names.lookup x=Z .free)/\(x==("__debug__":Str))=J/\(x==("__classdict__":Str))=J:=by replace h:=rP h;refine dq h λhd h=>?_;exact dq (eS h) λh1 h2=>((bu h2 h1 (jW.mp hd)))
theorem nX(h:sd s=Z l):toS l=s/\l.length<=li:=by replace h:=c9 h;obtain⟨hh,rfl⟩:=h;exact⟨hh.1,aa hh.2 (by decide)⟩
theorem B6(h:AD cst=Z ex):SE c n T (.Constant cst kk pos) ex:=by
 refine⟨?_⟩;intro env A s as X H ρ Q XX R w
 induction cst with
 |none=>(replace h:=ai h;(replace h:=YO h;subst h));exact ZL (Res.now R.S .none w)
 |bool=>(replace h:=ai h;subst h);exact ZL (Res.now R.S (.bool _) w)
 |int=>(replace h:=ai h;subst h);exact wpAny_Constant_int (Res.now R.S (.int _ _) w)
 |str=>refine ao (ez h) λl h1 h2=>?_;clear h;subst h2;refine dq (nX h1) λh3 h4=>(Zq ?_);exact YP (YO h3) (Res.now R.S (.str _ _ h4) w)
 |_=>exact eU h
theorem AX(h:C4 T x=Z ex):(∃i,T.var x=Z i/\ex=.v i)\/∃v,T.glob x=Z (.c v)/\ex=.c v:=by
 refine Is.of (o:=LR (glE (T.glob x)) (T.var x)) (R:=λex=>(∃i,T.var x=Z i/\ex=.v i)\/∃v,T.glob x=Z (.c v)/\ex=.c v) ?_ h;generalize T.var x=a
 induction a with
 |some i=>exact .inl (aG i U U)
 |none=>
  generalize T.glob x=b
  induction b with
  |none=>exact Z0
  |some g=>
   induction g with
   |c v=>exact .inr (aG v U U)
   |_=>exact Z0
theorem wH(w:cW P C (.v i) ρ H Q XX):∃v,ρ[i]? =Z (Z v)/\Q v H:=by
 simp only [yh]at w
 match h:ρ[i]?,w with
 |some (Z v),w=>exact(aG v U w)
theorem E8(C:Cok c T.gl)(h:C4 T x=Z ex):SE c n T (.Name x pos) ex:=by
 refine⟨?_⟩;intro env A s as X H ρ Q XX R w;refine Or.elim (AX h) (λq_=>?_) (λq_=>?_)
 ·obtain ⟨i,hi,rfl⟩:=q_;refine yf (Ij hi) ?_;intro h1 h2 h3 h4;refine ao (wH w) λv hv w=>?_;refine wpAny_Name (JL R.S R.F h1 ?_ hv h4 w) h3;rcases h2 with h2|h2|h2
  ·exact .inl (R.K.loc x h2)
  ·exact .inr (.inl (R.K.cell x h2))
  ·refine Or.elim (R.K.free x h2) (λq=>?_) λq=>?_
   ·exact .inr (.inr q)
   ·exact .inr (.inl q)
 ·obtain ⟨v,hg,rfl⟩:=q_;refine d7 (ij hg) ?_;intro h1 h2 h3;refine ao (C.gl x _ h2) λy e1 e2=>?_;exact jq C hg R (.inl e1) (Res.now R.S (e2 _ _ _) w)
theorem jA{XX:XE}{t:ZX->ZX->Sem ZX}{Q:QE}
  (h₁:SE c n T e₁ x₁)(h₂:SE c n T e₂ x₂)(R:Rdy c T env A n s as X H ρ)(w:cW c.P (aO c.P n) (.p mu p [x₁,x₂]) ρ H Q XX)
  (tail:∀{s':ZV} {as':d6} {H':AH} {v v':V} {y y':ZX},SR c as' X H' s'->VR c as' X s'.heap v y->VR c as' X s'.heap v' y'->iT (bj c.P mu p [v,v'] H') Q->ZS c.M A (t y y') (Res c as' X s'.heap Q) (ERes c as' X s'.heap XX) s') :
  ZS c.M A (eval e₁ env) (λy s₁=>ZS c.M A (eval e₂ env) (λy' s₂=>ZS c.M A (t y y') (Res c as X s.heap Q) (ERes c as X s.heap XX) s₂) (ERes c as X s.heap XX) s₁) (ERes c as X s.heap XX) s:=by
 simp only [iL,gj]at w;exact Jh h₁ h₂ R w tail
theorem cY(h:iT r Q):∃v H',r=Z (v,H')/\Q v H':=by
 induction r with
 |none=>exact h.elim
 |some p=>exact(gp p.1 p.2 rfl h)
theorem j0{K:Bool->Prop}(h:o9 r K):∃b,r=Z b/\K b:=by
 induction r with
 |none=>exact h.elim
 |some p=>exact(aG p U h)
theorem vn{E:ZX->ZV->Prop}(S:SR c as X H s)(hx:VR c as X s.heap x cx)(hy:VR c as X s.heap y cy)(ex:view H x=Z xs)(ey:view H y=Z ys)
  (hz:xs.length+ys.length<=aB)(q:Q (.ref H.length) (H++[.list (xs++ys)])):ZS c.M A (binaryOp .Add cx cy) (Res c as X s.heap Q) E s:=by
 obtain⟨a,its,rfl,⟨n,ha⟩,ra,_⟩:=eY S hx ex;obtain⟨b,its',rfl,⟨n',hb⟩,rb,_⟩:=eY S hy ey;exact P.add_list ha hb (FreshL.thawed S (j6 (tk:=s.toks) S (.push _ _) (bf _ U) (iz.symm▸ra.append rb) (aa (ak af) (aa hz (aa (ax _ 5) fQ)))) q) (YP (ra.len_arr) (YP (rb.len_arr) (aa hz cO)))
theorem qa(h:xR op=Z o):op=CU o:=Is.of (R:=λo=>op=CU o) (by induction op<;>first|exact U|exact Z0) h
theorem BE(ho:xR op=Z o)(h₁:SE c n T l a)(h₂:SE c n T r b):SE c n T (.BinOp l op r pos) (.p mu (.bop o) [a,b]):=by
 refine⟨?_⟩;intro env A s as X H ρ Q XX R w;refine wpAny_BinOp (jA h₁ h₂ R w λS hv hv' q=>?_);clear w;induction mu with
 |false=>refine di (cY q) λv H' e q'=>?_;refine ao (jB (show(CM o _ _ _).map _=_ from e)) λz e1 e2=>?_;cases e2;exact Eh S hv hv' (qa ho) e1 q'
 |true=>
  haveI e:=qa ho;clear ho;subst e
  induction o with
  |add=>
   refine di (cY (show iT (((Ka _ _ _).map _).bind _) Q from q)) λr H' e q'=>?_;refine ao (cm e) λz e1 e2=>(ao (ez e1) λu e3 e4=>?_);clear e1;subst e4
   induction sx e3 with
   |lst h1 h2 h3=>
    (obtain⟨rfl,rfl⟩:=qI e2;clear e2)
    exact vn S hv hv' h1 h2 h3 q'
   |_=>exact eU e2
  |_=>exact q.elim
theorem Bu{o:Bop}{G:Prop}(h:Cd o=Z5)(k:∀n,o=.mul n->G):G:=by
 induction o with
 |mul n=>exact k n U
 |_=>exact Z1 h ae
theorem J3(ho:xR op=Z o)(hm:Cd o=Z5)(h₁:SE c n T l a)(h₂:SE c n T r b):SE c n T (.BinOp l op r pos) (.p Z5 .rep [a,b]):=by
 refine⟨?_⟩;intro env A s as X H ρ Q XX R w;refine wpAny_BinOp (jA h₁ h₂ R w λ{s' as' H' v v' y y'} S hv hv' q=>?_);haveI e:=qa ho;refine Bu hm λm hm=>?_;subst hm;refine YP e ?_;cases v with
 |lst vs=>
  cases vs with
  |nil=>exact q.elim
  |cons x vs=>
   induction vs with
   |cons _ _=>exact q.elim
   |nil=>
    cases v' with
    |int k=>
     replace q:iT ((if 0<=k/\k<=1000 then Z (V.lst (bW k.toNat x),H')else Z6).bind λr=>kF r.1 r.2) Q:=q;by_cases h:0<=k/\k<=1000
     ·rw [Z3 h]at q;exact Lq S hv hv' h.1 h.2 q
     ·rw [Z2 h]at q;exact q.elim
    |_=>exact q.elim
 |_=>exact q.elim
theorem mL(h:gF v=Z b):v=.bool b:=Is.of (R:=λb=>v=.bool b) (by cases v<;>first|exact U|exact Z0) h
theorem AT(hp:∀env whole,isTrue e env whole=(do let v <-whole;standAt e.pos;holding [v] (truthy v)))(h:SE c n T e ex):ST c n T e ex:=by refine⟨?_⟩;intro env A s as X H ρ P Q XX hP R w;rw [hp];refine ZM (Zr (h.run R w) (λy s₁ r=>ZM (Zp (Zv ?_))) λ_ _ e=>e);obtain⟨v,H₁,as₁,e1,S1,k1,hv,q⟩:=r;replace q:=j0 (hP _ _ q);refine ao q ?_;clear q;intro b hb q;cases mL hb;cases hv.inv;exact ZA ⟨H₁,as₁,e1,S1,k1,q⟩
theorem I6(h:SE c n T x a):SE c n T (.UnaryOp .Not x pos) (.p J .not [a]):=by refine⟨?_⟩;intro env A s as X H ρ Q XX R w;simp only [iL,gj]at w;simp only [jk]at w;refine wpAny_UnaryOp (Zr (h.run R w) (λy s₁ r=>?_) λ_ _ e=>e);obtain⟨v,H₁,as₁,e1,S1,k1,hv,q⟩:=r;refine di (cY q) λv' H' e q'=>?_;refine ao (ez e) ?_;intro b e2 e3;replace e2:=mL e2;clear q e;subst e2;cases e3;cases hv.inv;exact not_of (ZA ((Res.now S1 (.bool _) q').lift e1 k1))
theorem IH(h:ST c n T x a):ST c n T (.UnaryOp .Not x pos) (.p J .not [a]):=by refine⟨?_⟩;intro env A s as X H ρ P Q XX hP R w;simp only [iL,gj]at w;refine wpAny_isTrue_Not (Zr (h.run (λv H' q=>?_) R w) (λb s₁ r=>r.rec λH₁ as₁ e1 S1 k1 q=>⟨H₁,as₁,e1,S1,k1,q⟩) λ_ _ e=>e);refine di (cY q) λr H'' e q=>?_;refine ao (ez e) ?_;intro b e2 e3;clear e;cases e3;exact YP e2 (hP _ _ q)
theorem JO(h:SE c n T x a):SE c n T (.UnaryOp .USub x pos) (.p J .neg [a]):=by
 refine⟨?_⟩;intro env A s as X H ρ Q XX R w;simp only [iL,gj]at w;simp only [jk]at w;refine wpAny_UnaryOp (Zr (h.run R w) (λy s₁ r=>?_) λ_ _ e=>e);obtain⟨v,H₁,as₁,e1,S1,k1,hv,q⟩:=r;refine di (cY q) λv' H' e q'=>?_;refine ao (ez e) ?_;intro i e2 e3;replace e2:=V.num_is e2;clear q e;subst e2;cases e3
 induction hv.inv
 exact PyProof.Rows.neg_int ((Res.now S1 (.int _ _) q').lift e1 k1)
theorem uL:boolOp pos op (evalEach (e₁::e₂::es) env)=(do
  let v <-eval e₁ env
  standAt pos
  let t <-holding [v] (truthy v)
  if zm op t then boolOp pos op (evalEach (e₂::es) env)else pure v):=by
 refine(?_:(eval e₁ env>>= λv=>standAt pos>>= λ_=>holding [v] (truthy v)>>= λt=>_)=_);congr 1;funext v;congr 1;funext _;congr 1;funext t
 induction op<;>induction t<;>rfl
theorem Fa(h:A2 (SE c n T) es xs):∀{ex:Ex} {s:ZV} {as:d6} {H:AH} {Q:QE},sY op xs=Z ex->
  Rdy c T env A n s as X H ρ->cW c.P (aO c.P n) ex ρ H Q XX->ZS c.M A (boolOp pos op (evalEach es env)) (Res c as X s.heap Q) (ERes c as X s.heap XX) s:=by
 induction h with
 |nil=>intro ex s as H Q h;exact eU h
 |cons h₁ h₂ ih=>
  intro ex s as H Q h R w
  induction h₂ with
  |nil=>(replace h:=ai h;(replace h:=YO h;subst h));exact h₁.run R w
  |cons h₂ h₃=>
   refine ao (ez h) ?_;intro y hy hex;subst hex;simp only [xI]at w;refine YP uL (ZM (Zr (h₁.run R w) (λv s₁ r=>?_) λ_ _ e=>e));obtain⟨v,H₁,as₁,e1,S1,k1,hv,q⟩:=r;refine ao (j0 q) ?_;clear q w h₁;intro b hb q;cases mL hb;cases hv.inv;refine ZM (Zp (ZM (Zv (ZA ?_))));by_cases g:zm op b=Z5
   ·rw [Z3 g]at q ⊢;exact Zr (ih hy (R.next e1 k1 S1) q) (λ_ _ r=>r.lift e1 k1) λ_ _ e=>e.lift e1 k1
   ·rw [Z2 g]at q ⊢;exact ZL ((Res.now S1 (.bool _) q).lift e1 k1)
theorem tz:allTrue op (e₁::es) env=(do
  let t <-isTrue e₁ env (eval e₁ env)
  if zm op t then allTrue op es env else pure t):=by
 simp only [arm_allTrue_cons];congr 1;funext t
 induction op<;>induction t<;>rfl
theorem Et(h:A2 (ST c n T) es xs):∀{ex:Ex} {s:ZV} {as:d6} {H:AH} {P:QE} {Q:Bool->AH->Prop},sY op xs=Z ex->(∀v H,P v H->o9 (gF v) λb=>Q b H)->
  Rdy c T env A n s as X H ρ->cW c.P (aO c.P n) ex ρ H P XX->ZS c.M A (allTrue op es env) (ResB c as X s.heap Q) (ERes c as X s.heap XX) s:=by
 induction h with
 |nil=>intro ex s as H P Q h;exact eU h
 |cons h₁ h₂ ih=>
  intro ex s as H P Q h hP R w;rw [tz]
  induction h₂ with
  |nil=>
   (replace h:=ai h;(replace h:=YO h;subst h))
   refine ZM (Zr (h₁.run hP R w) (λb s₁ r=>?_) λ_ _ e=>e);by_cases g:zm op b=Z5
   ·induction op<;>induction b<;>first|exact ZL r|cases g
   ·exact (Z2 g)▸ZL r
  |cons h₂ h₃=>
   refine ao (ez h) ?_;intro y hy hex;subst hex;simp only [xI]at w;refine ZM (Zr (h₁.run (λ_ _ q=>q) R w) (λb s₁ r=>?_) λ_ _ e=>e);obtain⟨H₁,as₁,e1,S1,k1,q⟩:=r;by_cases g:zm op b=Z5
   ·rw [Z3 g]at q ⊢;exact Zr (ih hy hP (R.next e1 k1 S1) q) (λ_ _ r=>r.lift e1 k1) λ_ _ e=>e.lift e1 k1
   ·rw [Z2 g]at q ⊢;exact ZL ⟨H₁,as₁,e1,S1,k1,hP _ _ q⟩
theorem Dm(op:CmpOp):Hj (ip op)=op:=by induction op<;>rfl
theorem qK{E:ZX->ZV->Prop}(S:SR c as X H s)(hx:VR c as X s.heap x cx)(hy:VR c as X s.heap y cy)(hu:A.units+64<ZQ)
  (e:ny (ip op) x y H=Z b)(q:Q (.bool b) H):ZS c.M A (ZP op cx cy) (Res c as X s.heap Q) E s:=by
 haveI h:=K7 (E:=E) S hx hy hu e q;rw [Dm]at h;exact h
theorem Kl(hm:behindInMarks op r=J)(h₁:SE c n T l a)(h₂:SE c n T r b):SE c n T (.Compare l [op] [r] pos) (.p J (.cop (ip op)) [a,b]):=by refine⟨?_⟩;intro env A s as X H ρ Q XX R w;refine wpAny_Compare1 (jA h₁ h₂ R w λS hv hv' q=>?_) hm;refine di (cY q) ?_;intro v H' e q';refine ao (ez e) ?_;intro z e1 e2;cases e2;exact qK S hv hv' R.a.u64 e1 q'
theorem Kt(hm:behindInMarks op r=J)(h₁:SE c n T l a)(h₂:SE c n T r b):ST c n T (.Compare l [op] [r] pos) (.p J (.cop (ip op)) [a,b]):=by
 refine⟨?_⟩;intro env A s as X H ρ P Q XX hP R w;refine wpAny_isTrue_Compare1 ?_ hm;simp only [iL,gj]at w;simp only [gj,jk]at w;refine Zr (h₁.run R w) (λy s₁ r=>?_) λ_ _ e=>e;obtain⟨v,H₁,as₁,e1,S1,k1,hv,w1⟩:=r;refine Zr (h₂.run (R.next e1 k1 S1) w1) (λy' s₂ r=>?_) λ_ _ e=>e.lift e1 k1;obtain⟨v',H₂,as₂,e2,S2,k2,hv',w2⟩:=r;refine di (cY w2) λz H' e q'=>?_;refine ao (ez e) ?_;intro t e3 e4;cases e4;replace q':=j0 (hP _ _ q');refine ao q' λt' h5 q'=>?_
 (replace h5:=ai h5;subst h5)
 haveI:=qK (E:=ERes c as X s.heap XX) (Q:=λv H=>v=.bool t/\Q t H) S2 (hv.keep k2 e2) hv' R.a.u64 e3 ⟨rfl,q'⟩;refine Zr this (λx s₃ r=>?_) λ_ _ e=>e;obtain⟨v3,H3,as3,e6,S3,k3,hv3,rfl,q3⟩:=r;cases hv3.inv;exact ZA ((ResB.lift e1 k1 (ResB.lift e2 k2 ⟨H3,as3,e6,S3,k3,q3⟩)))
theorem ui(h₁:SE c n T l a)(h₂:SE c n T m b)
  (R:Rdy c T env A n s as X H ρ)(w:cW c.P (aO c.P n) (.cmp2 a (ip o₁) b (ip o₂) d) ρ H Q XX)
  {α:Type}{k₁:ZX->ZX->ZX->Sem α}{R₀:α->ZV->Prop}
  (no:∀{s':ZV} {as':d6} {H':AH} {y y':ZX},Ext as s.heap as'->Kept as X s.heap s'.heap->SR c as' X H' s'->Q (.bool J) H'->ZS c.M A (k₁ y y' (.bool J)) R₀ (ERes c as X s.heap XX) s')
  (yes:∀{s':ZV} {as':d6} {H':AH} {v':V} {y y':ZX},Ext as s.heap as'->Kept as X s.heap s'.heap->SR c as' X H' s'->VR c as' X s'.heap v' y'->
   cW c.P (aO c.P n) d ρ H' (λz H₃=>o9 (ny (ip o₂) v' z H₃) λt'=>Q (.bool t') H₃) XX->ZS c.M A (k₁ y y' (.bool Z5)) R₀ (ERes c as X s.heap XX) s') :
  ZS c.M A (eval l env) (λy s₁=>ZS c.M A (eval m env) (λy' s₂=>ZS c.M A (ZP o₁ y y') (λx s₃=>ZS c.M A (k₁ y y' x) R₀ (ERes c as X s.heap XX) s₃) (ERes c as X s.heap XX) s₂) (ERes c as X s.heap XX) s₁) (ERes c as X s.heap XX) s:=by
 refine Zr (h₁.run R w) (λy s₁ r=>?_) λ_ _ e=>e;obtain⟨v,H₁,as₁,e1,S1,k1,hv,w1⟩:=r;refine Zr (h₂.run (R.next e1 k1 S1) w1) (λy' s₂ r=>?_) λ_ _ e=>e.lift e1 k1;obtain⟨v',H₂,as₂,e2,S2,k2,hv',w2⟩:=r;refine ao (j0 w2) λt e3 q=>?_;have:=qK (A:=A) (E:=ERes c as X s.heap XX) (Q:=λv H=>v=.bool t/\H=H₂) S2 (hv.keep k2 e2) hv' R.a.u64 e3 ⟨rfl,rfl⟩;refine Zr this (λx s₃ r=>?_) λ_ _ e=>e;obtain⟨v3,H3,as3,e6,S3,k3,hv3,rfl,rfl⟩:=r;cases hv3.inv;haveI E:=(e1.trans k1 e2).trans (k1.trans e1 k2) e6;haveI K:=(k1.trans e1 k2).trans (e1.trans k1 e2) k3;clear hv3 e3;induction t with
 |false=>exact no E K S3 q
 |true=>exact yes E K S3 (hv'.keep k3 e6) q
theorem F7(hm:behindInMarks o₂ r=J)(h₁:SE c n T l a)(h₂:SE c n T m b)(h₃:SE c n T r d):SE c n T (.Compare l [o₁,o₂] [m,r] pos) (.cmp2 a (ip o₁) b (ip o₂) d):=by
 refine⟨?_⟩;intro env A s as X H ρ Q XX R w;haveI e0:eval (.Compare l [o₁,o₂] [m,r] pos) env=(do
   let x <-eval l env;let y <-holding [x] (eval m env)
   standAt pos
   let z <-holding [x,y] (ZP o₁ x y)
   release [x,y] [z]
   if <-holding [z,y] (truthy z)then(do
    let u <-holding [y] (eval r env)
    standAt pos
    operate [y,u] (ZP o₂ y u))else pure z):=by
  haveI:eval (.Compare l [o₁,o₂] [m,r] pos) env=(do compareChain pos (<-eval l env) [o₁,o₂] [eval m env,markedBehindIn o₂ r (eval r env)]):=rfl;refine YP this (YP (Zo hm) ?_);rfl
 refine YP e0 ?_;haveI hrun:=ui (k₁:=λx y z=>(do
   release [x,y] [z]
   if <-holding [z,y] (truthy z)then(do
    let u <-holding [y] (eval r env)
    standAt pos
    operate [y,u] (ZP o₂ y u))else pure z)) (R₀:=Res c as X s.heap Q) h₁ h₂ R w ?_ ?_
 ·refine ZM (Zr hrun (λx s₁ r=>ZM (Zv (Zr r (λy s₂ r=>ZM (Zp (ZM (Zv r)))) λ_ _ e=>e))) λ_ _ e=>e)
 ·intro s' as' H' y y' E K S q;refine ZM (Zn (ZM (Zv (ZA ?_))));exact ZL ((Res.now S (.bool _) q).lift E K)
 ·intro s' as' H' v' y y' E K S hv' w3;refine ZM (Zn (ZM (Zv (ZA ?_))));refine ZM (Zv (Zr (h₃.run (R.next E K S) w3) (λu s₂ r=>?_) λ_ _ e=>e.lift E K));obtain⟨v4,H4,as4,e4,S4,k4,hv4,q4⟩:=r;refine ao (j0 q4) λt e5 q5=>?_;refine ZM (Zp (wpAny_operating ?_));haveI:=qK (E:=ERes c as X s.heap XX) S4 (hv'.keep k4 e4) hv4 R.a.u64 e5 q5;exact Zr this (λ_ _ r=>(r.lift e4 k4).lift E K) λ_ _ e=>e
theorem D1(hm:behindInMarks o₂ r=J)(h₁:SE c n T l a)(h₂:SE c n T m b)(h₃:SE c n T r d):ST c n T (.Compare l [o₁,o₂] [m,r] pos) (.cmp2 a (ip o₁) b (ip o₂) d):=by
 refine⟨?_⟩;intro env A s as X H ρ P Q XX hP R w;haveI e0:isTrue (.Compare l [o₁,o₂] [m,r] pos) env (eval (.Compare l [o₁,o₂] [m,r] pos) env)=(do
   let x <-eval l env;let y <-holding [x] (eval m env)
   standAt pos
   let z <-holding [x,y] (ZP o₁ x y)
   release [x,y] [z]
   if <-holding [z,y] (truthy z)then(do
    let u <-holding [y] (eval r env)
    standAt pos
    let z' <-operate [y,u] (ZP o₂ y u)
    holding [z'] (truthy z'))else pure J):=by
  haveI:isTrue (.Compare l [o₁,o₂] [m,r] pos) env (eval (.Compare l [o₁,o₂] [m,r] pos) env)=(do testChain pos (<-eval l env) [o₁,o₂] [eval m env,markedBehindIn o₂ r (eval r env)]):=rfl;refine YP this (YP (Zo hm) ?_);rfl
 refine YP e0 ?_;haveI hrun:=ui (k₁:=λx y z=>(do
   release [x,y] [z]
   if <-holding [z,y] (truthy z)then(do
    let u <-holding [y] (eval r env)
    standAt pos
    let z' <-operate [y,u] (ZP o₂ y u)
    holding [z'] (truthy z'))else pure J)) (R₀:=ResB c as X s.heap Q) h₁ h₂ R w ?_ ?_
 ·refine ZM (Zr hrun (λx s₁ r=>ZM (Zv (Zr r (λy s₂ r=>ZM (Zp (ZM (Zv r)))) λ_ _ e=>e))) λ_ _ e=>e)
 ·intro s' as' H' y y' E K S q;refine ZM (Zn (ZM (Zv (ZA ?_))));exact ZL ⟨H',as',E,S,K,hP _ _ q⟩
 ·intro s' as' H' v' y y' E K S hv' w3;refine ZM (Zn (ZM (Zv (ZA ?_))));refine ZM (Zv (Zr (h₃.run (R.next E K S) w3) (λu s₂ r=>?_) λ_ _ e=>e.lift E K));obtain⟨v4,H4,as4,e4,S4,k4,hv4,q4⟩:=r;refine ao (j0 q4) λt e5 q5=>?_;refine ZM (Zp (ZM (wpAny_operating ?_)));haveI:=qK (E:=ERes c as X s.heap XX) (Q:=λv H=>v=.bool t/\Q t H) S4 (hv'.keep k4 e4) hv4 R.a.u64 e5 ⟨rfl,hP _ _ q5⟩;refine Zr this (λ_ _ r=>?_) λ_ _ e=>e;obtain⟨v3,H3,as3,e6,S3,k3,hv3,rfl,q3⟩:=r;cases hv3.inv;exact Zv (ZA (ResB.lift E K (ResB.lift e4 k4 ⟨H3,as3,e6,S3,k3,q3⟩)))
def NS(e:Expr):Prop:=(e.ctorIdx==22)=J
theorem jI(h:NS e)(r:List Expr)(env:Env):starEach (e::r) env=(J,eval e env)::starEach r env:=by
 cases e with
 |Starred a p=>exact Z1 h.symm ae
 |_=>rfl
abbrev rL(c:Cx)(n:Nat)(T:Tb)(es:List Expr)(xs:List Ex):Prop:=A2 (λe x=>SE c n T e x/\NS e) es xs
theorem tJ(h:rL c n T es xs):∀{s:ZV} {as:d6} {H:AH} {Q:List V->AH->Prop},Rdy c T env A n s as X H ρ->
  iE c.P (aO c.P n) xs ρ H Q XX->ZS c.M A (spliced (backTo pos (starEach es env))) (ResL c as X s.heap (λvs H'=>vs.length=xs.length/\Q vs H')) (ERes c as X s.heap XX) s:=by
 induction h with
 |nil=>exact λR w=>Zm ⟨[],_,_,.refl ..,R.S,Kept.refl _ _ _,.nil,rfl,w⟩
 |cons h₁ _ ih=>intro s as H Q R w;rw [jI h₁.2];refine Zl ?_;refine Zr (h₁.1.run R w) (λy s₁ r=>?_) λ_ _ e=>e;obtain⟨v,H₁,as₁,e1,S1,k1,hv,w1⟩:=r;refine Zr (ih (R.next e1 k1 S1) w1) (λys s₂ r=>?_) λ_ _ e=>e.lift e1 k1;obtain⟨vs,H₂,as₂,e2,S2,k2,hvs,hl,q⟩:=r;exact⟨v::vs,H₂,as₂,e1.trans k1 e2,S2,k1.trans e1 k2,.cons (hv.keep k2 e2) hvs,Z4 pf hl,q⟩
theorem hH{Q:List V->AH->Prop}(h:rL c n T es xs)(R:Rdy c T env A n s as X H ρ)
  (w:iE c.P (aO c.P n) xs ρ H Q XX):ZS c.M A (evalArgs f Z5 (backTo pos (starEach es env)) []) (λa s'=>a.kw=[]/\ResL c as X s.heap (λvs H'=>vs.length=xs.length/\Q vs H') a.pos s') (ERes c as X s.heap XX) s:=by
 haveI hr:=tJ (pos:=pos) h R w
 induction h with
 |nil=>exact evalArgs_kw_nil U (wpAny_evalAll_nil ⟨rfl,⟨[],H,as,.refl ..,R.S,Kept.refl _ _ _,.nil,rfl,w⟩⟩)
 |cons h₁ h₂=>rw [jI h₁.2]at hr ⊢;exact Zk (Zr hr (λvs s' r=>⟨rfl,r⟩) λ_ _ e=>e)
theorem pz(h:rL c n T es xs):(backTo pos (starEach es env)).any (·.1)=J:=by
 induction h with
 |nil=>rfl
 |cons h₁ _ ih=>rw [jI h₁.2];exact ih
theorem Go{q b qf:Bool}(h:(q&& !b)=J)(hb:b=Z5->qf=Z5)(z:qf=J):q=J:=by
 induction b with
 |false=>exact(iF q).symm.trans h
 |true=>exact Z1 (z.symm.trans (hb U)) ae
theorem EP(C:Cok c T.gl)(sc:SC c n)(hg:T.glob g=Z (.fn f b))(hb:(T.q&& !b)=J)(hf:∃fn,c.P.fns f=Z fn)(h:rL c n T args xs):SE c n T (.Call (.Name g p) args [] pos) (.call f xs):=by refine⟨?_⟩;intro env A s as X H ρ Q XX R w;obtain⟨fn,hf⟩:=hf;haveI e1:=C.gl g _ (ij hg).2.1;refine Zj (jq C hg R (.inl e1.1) ?_);refine Zi (o:=(C.fobj f fn hf).choose) (fd:=c.fdat f) (Zr (hH h R w) (λa s₁ r=>?_) λ_ _ e=>e);haveI e2:=e1.2;obtain⟨hk,vs,H₁,as₁,e1,S1,k1,hvs,_,q⟩:=r;haveI ho:=(C.fobj f fn hf).choose_spec;refine⟨⟨S1.stays _ _ ho.1,ho.2⟩,?_⟩;exact YP hk (Zr (sc.run hf ⟨λz=>R.a.hh (Go hb e2 z),R.a.hd,R.a.hu⟩ (R.hx.keep e1 k1) (R.fr.keep e1 k1).all S1 hvs q) (λ_ _ r=>r.lift e1 k1) λ_ _ e=>e.lift e1 k1)
theorem Bs(C:Cok c T.gl)(hg:T.glob g=Z (.bi b))(h:rL c n T args xs)
  (tail:∀{A:ZU} {s:ZV} {as:d6} {X:List ZZ} {H:AH} {Q:QE} {XX:XE} {vs:List V} {ys:List ZX},AOk T.q A n->SR c as X H s->VRs c as X s.heap vs ys->vs.length=xs.length->iT (bj c.P J pr vs H) Q->ZS c.M A (call (.builtin b) ys) (Res c as X s.heap Q) (ERes c as X s.heap XX) s) :
  SE c n T (.Call (.Name g p) args [] pos) (.p J pr xs):=by
 refine⟨?_⟩;intro env A s as X H ρ Q XX R w;haveI e1:=C.gl g _ (ij hg).2.1;refine Zj (jq C hg R (.inr e1) ?_);refine Zh (pz h) (Zr (hH h R w) (λa s₁ r=>?_) λ_ _ e=>e);obtain⟨hk,vs,H₁,as₁,e1,S1,k1,hvs,hl,q⟩:=r;exact YP hk (Zr (tail R.a S1 hvs hl q) (λ_ _ r=>r.lift e1 k1) λ_ _ e=>e.lift e1 k1)
theorem uQ(C:Cok c T.gl)(hg:T.glob g=Z (.ty b))(h:rL c n T args xs)
  (tail:∀{A:ZU} {s:ZV} {as:d6} {X:List ZZ} {H:AH} {Q:QE} {XX:XE} {vs:List V} {ys:List ZX},AOk T.q A n->SR c as X H s->VRs c as X s.heap vs ys->vs.length=xs.length->iT (bj c.P mu pr vs H) Q->ZS c.M A (call (.type b) ys) (Res c as X s.heap Q) (ERes c as X s.heap XX) s) :
  SE c n T (.Call (.Name g p) args [] pos) (.p mu pr xs):=by
 refine⟨?_⟩;intro env A s as X H ρ Q XX R w;haveI e1:=C.gl g _ (ij hg).2.1;refine Zj (jq C hg R (.inr e1) ?_);refine PySem.callWith_type (pz h) (Zr (hH h R w) (λa s₁ r=>?_) λ_ _ e=>e);obtain⟨hk,vs,H₁,as₁,e1,S1,k1,hvs,hl,q⟩:=r;exact YP hk (Zr (tail R.a S1 hvs hl q) (λ_ _ r=>r.lift e1 k1) λ_ _ e=>e.lift e1 k1)
theorem vp(h:VRs c as X hp vs ys)(hl:vs.length=1):∃v y,vs=[v]/\ys=[y]/\VR c as X hp v y:=by
 induction h with
 |nil=>simp at hl
 |cons a r=>
  induction r with
  |nil=>exact(eK _ _ U U a)
  |cons _ _=>simp at hl
theorem K5(h:VRs c as X hp vs ys)(hl:vs.length=2):∃v v' y y',vs=[v,v']/\ys=[y,y']/\VR c as X hp v y/\VR c as X hp v' y':=by
 cases h with
 |nil=>simp at hl
 |cons a r=>
  cases r with
  |nil=>simp at hl
  |cons b r=>
   induction r with
   |nil=>exact⟨_,_,_,_,rfl,rfl,a,b⟩
   |cons _ _=>simp at hl
theorem A2.length{α β:Type}{R:α->β->Prop}{l:List α}{m:List β}(h:A2 R l m):l.length=m.length:=by
 induction h with
 |nil=>rfl
 |cons _ _ ih=>simp only [dN,dN,ih]
theorem zK(h:AR [v] H=Z (r,H')):∃ws,r=.lst ws/\H'=H:=by
 refine ao (ez h) λr' h1 h2=>?_;cases h2;have hv:((view H v).bind λvs=>if vs.length<=aB then Z (V.lst vs)else Z6)=Z r->∃ws,r=.lst ws:=λe=>by refine ao (cm e) λvs _ e=>?_;exact⟨vs,(c9 e).2.symm⟩
 haveI key:∃ws,r=.lst ws:=by
  clear h;cases v with
  |rng a b=>exact⟨_,(c9 h1).2.symm⟩
  |tup vs=>exact⟨_,(c9 h1).2.symm⟩
  |_=>exact hv h1
 exact(aG key.choose key.choose_spec U)
set_option tactic.hygienic true in
theorem zi(C:Cok c T.gl)(hg:T.glob g=Z (.bi b))(h:rL c n T args xs)(hp:wi b args.length=Z pr)(hq:(T.q&&pr.loud)=J):SE c n T (.Call (.Name g p) args [] pos) (.p J pr xs):=by
 have hl:=h.length;unfold wi at hp;split at hp
 ·rename_i q;(replace hp:=ai hp;cases hp);obtain⟨rfl,hn⟩:=q;refine Bs C hg h λa S hv hl' q=>?_;refine dG (vp hv (hl'.trans (hl.symm.trans hn))) λv y q_3 q_4 hv1=>?_;subst q_3;subst q_4;refine di (cY q) λr H' e q'=>?_;exact MG S hv1 e q'
 split at hp
 ·rename_i q;(replace hp:=ai hp;(replace hp:=YO hp;subst hp));obtain⟨rfl,hn⟩:=q;refine Bs C hg h λa S hv hl' q=>?_;refine dG (vp hv (hl'.trans (hl.symm.trans hn))) λv y q_3 q_4 hv1=>?_;subst q_3;subst q_4;refine di (cY q) λr H' e q'=>?_;exact Ma (a.hh ((iF _).symm.trans hq)) S hv1 e q'
 split at hp
 ·rename_i q;(replace hp:=ai hp;subst hp);obtain⟨rfl,hn⟩:=q;refine Bs C hg h λa S hv hl' q=>?_;obtain⟨v,v',y,y',rfl,rfl,hv,hv'⟩:=K5 hv (hl'.trans (hl.symm.trans hn));exact d5 (cY q) λr q_=>d5 q_ λH' q_=>dq q_ λe q'=>(Ng (a.hh ((iF _).symm.trans hq)) S hv hv' e q')
 exact eU hp
theorem mh(q:iT (bj c.P mu pr vs H) Q):∃r H',prim c.P pr vs H=Z (r,H'):=by
 refine di (cY q) λr H' e _=>?_;clear q;induction mu with
 |false=>exact⟨r,H',e⟩
 |true=>replace e:=eS e;refine dq e λ_ e=>?_;refine ao (cm e) λz e1 _=>?_;exact⟨z.1,z.2,e1⟩
theorem pw(hf:pr.fresh=J)(q:iT (bj c.P mu pr vs H) Q):iT (prim c.P pr vs H) Q:=by
 induction mu with
 |false=>exact q
 |true=>haveI q:iT (if pr.fresh=Z5 then(prim c.P pr vs H).bind λr=>kF r.1 r.2 else Z6) Q:=q;replace q:=hf▸q;exact q.elim
set_option tactic.hygienic true in
theorem zr(C:Cok c T.gl)(hg:T.glob g=Z (.ty b))(h:rL c n T args xs)(hp:vN b args.length=Z pr)(hq:(T.q&&pr.loud)=J):SE c n T (.Call (.Name g p) args [] pos) (.p mu pr xs):=by
 have hl:=h.length;unfold vN at hp;split at hp
 ·rename_i q;(replace hp:=ai hp;subst hp);obtain⟨rfl,hn⟩:=q;refine uQ C hg h λa S hv hl' q=>?_;refine dG (vp hv (hl'.trans (hl.symm.trans hn))) λv y q_3 q_4 hv1=>?_;subst q_3;refine YP q_4 ?_;refine di (cY (pw U q)) λr H' e q'=>?_;exact CO S hv1 e q'
 split at hp
 ·rename_i q;(replace hp:=ai hp;clear hq;subst hp);obtain⟨rfl,hn⟩:=q;refine uQ C hg h λa S hv hl' q=>?_;obtain⟨v,v',y,y',rfl,rfl,hv,hv'⟩:=K5 hv (hl'.trans (hl.symm.trans hn));obtain⟨r,H',e,q'⟩:=cY (pw U q);exact Ds S hv hv' e q'
 split at hp
 ·rename_i q;(replace hp:=ai hp;(replace hp:=YO hp;subst hp))
  (refine dq q λe_0 hn=>?_;subst e_0)
  refine uQ C hg h λa S hv hl' q=>?_;refine dG (vp hv (hl'.trans (hl.symm.trans hn))) λv y q_3 q_4 hv1=>?_;subst q_3;subst q_4;refine j4 (mh q) λr H' e=>?_;refine ao (zK e) λws q_2 q_3=>?_;subst q_2
  (replace q_3:=YO q_3;subst q_3)
  exact nI S e (λR hR=>JJ (a.hh ((iF _).symm.trans hq)) S hv1 e hR) q
 split at hp
 ·rename_i q;(replace hp:=ai hp;subst hp);obtain⟨rfl,hn⟩:=q;refine uQ C hg h λa S hv hl' q=>?_;refine dG (vp hv (hl'.trans (hl.symm.trans hn))) λv y q_3 q_4 hv1=>?_;subst q_3;subst q_4;refine di (cY (pw U q)) λr H' e q'=>?_;exact Mv S hv1 e q'
 split at hp
 ·rename_i q;(replace hp:=ai hp;clear hq;subst hp);obtain⟨rfl,hn⟩:=q;refine uQ C hg h λa S hv hl' q=>?_;refine dG (vp hv (hl'.trans (hl.symm.trans hn))) λv y q_3 q_4 hv1=>?_;subst q_3;refine YP q_4 ?_;refine di (cY (pw U q)) λr H' e q'=>?_;exact Lk S hv1 e q'
 exact eU hp
theorem V.kind_is{v:V}{k:Nat}(h:v.kind=Z k):v=.exc k:=Is.of (R:=λk=>v=.exc k) (by cases v<;>first|exact U|exact Z0) h
theorem Ix{g t:Str}{gv:Gl}{j:Option Nat}{p p' pos:Pos}{x:Expr}{a:Ex}(C:Cok c T.gl)(hg:T.glob g=Z (.bi "isinstance"))(ht:T.glob t=Z gv)(hj:(gv=.ty "ValueError"/\j=Z6)\/∃i,gv=.exc i/\j=Z i)(h:SE c n T x a)(hns:NS x) :
  SE c n T (.Call (.Name g p) [x,.Name t p'] [] pos) (.p J (.isX j) [a]):=by
 refine⟨?_⟩;intro env A s as X H ρ Q XX R w;have e1:=C.gl g _ (ij hg).2.1;obtain⟨y,hy,hjy⟩:∃y,(c.mg t=Z y\/(c.mg t=Z6/\c.mb t=Z y))/\((y=.type "ValueError"/\j=Z6)\/∃i,y=.ref (c.xcls i)/\j=Z i/\c.P.sub i i=Z5/\T.gl.lookup t=Z (.exc i)):=by
  have e2:=C.gl t _ (ij ht).2.1;rcases hj with ⟨rfl,rfl⟩|⟨i,rfl,rfl⟩
  ·exact (aG _ (.inr e2) (.inl ⟨rfl,rfl⟩))
  ·exact (aG _ (.inl e2.1) (.inr (jJ i U U e2.2 ((ij ht).2.1))))
 refine Zj (jq C hg R (.inr e1) ?_);have hst:starEach [x,.Name t p'] env=[(J,eval x env),(J,eval (.Name t p') env)]:=by rw [jI hns];rfl
 refine YP hst (Zh U (Zk (Zl (Zr (h.run R w) (λz s₁ r=>?_) λ_ _ e=>e))));obtain⟨v,H₁,as₁,x1,S1,k1,hv,q⟩:=r;refine Zl (jq C ht (R.next x1 k1 S1) hy (Zm ?_));refine di (cY q) λz' H' e q'=>?_;replace e:=cm (show v.kind.bind _=Z (z',H')from e);refine ao e λk hk e2=>?_;replace hk:=V.kind_is hk;clear q e;cases hk;replace e2:=c9 e2;obtain⟨hkk,e2⟩:=e2;cases e2;obtain⟨ha,hX,ho,hcl,_,_⟩:=hv.inv;refine ao (C.x k hkk) λbm xk xs=>?_;have fin:∀tk b,Q (.bool b) H₁->Res c as X s.heap Q (.bool b) {s₁ with toks:=tk}:=λtk b qq=>(Res.now S1 (.bool b) qq).lift x1 k1;rcases hjy with ⟨rfl,rfl⟩|⟨i,rfl,rfl,hi,hl⟩
 ·exact zB (xk.keeps S1.stays) ho hcl λtk=>fin tk _ q'
 ·refine ao (C.x i hi) λbm' xi _=>?_;exact zH (xk.keeps S1.stays) (xi.keeps S1.stays) ho hcl λtk=>(YP (xs t i hl) (fin tk _ q'))
theorem D2(h:EB t=Z ty):jl ty=t:=
 Is.of (R:=λty=>jl ty=t) (Is.ite2 (λh=>h.symm) λ_=>Is.ite2 (λh=>h.symm) λ_=>Is.ite2 (λh=>h.symm) λ_=>Is.ite2 (λh=>h.symm) λ_=>Is.ite λh=>h.symm) h
theorem zG(C:Cok c T.gl)(hg:T.glob g=Z (.bi "isinstance"))(ht:T.glob t=Z (.ty tn))(hty:EB tn=Z ty)(h:SE c n T x a)(hns:NS x) :
  SE c n T (.Call (.Name g p) [x,.Name t p'] [] pos) (.p J (.s ty) [a]):=by
 refine⟨?_⟩;intro env A s as X H ρ Q XX R w;simp only [iL,gj]at w;simp only [jk]at w;have e1:=C.gl g _ (ij hg).2.1;have e2:=C.gl t _ (ij ht).2.1;refine Zj (jq C hg R (.inr e1) ?_);haveI hst:starEach [x,.Name t p'] env=[(J,eval x env),(J,eval (.Name t p') env)]:=by rw [jI hns];rfl
 refine YP hst (Zh U (Zk (Zl (Zr (h.run R w) (λy s₁ r=>?_) λ_ _ e=>e))));obtain⟨v,H₁,as₁,x1,S1,k1,hv,q⟩:=r;refine Zl (jq C ht (R.next x1 k1 S1) (.inr e2) (Zm ?_));refine di (cY q) λz H' e q'=>?_;haveI hp:=Cv (A:=A) (E:=ERes c as₁ X s₁.heap XX) S1 hv e q';rw [D2 hty]at hp;exact Zr hp (λ_ _ r=>r.lift x1 k1) λ_ _ e=>e.lift x1 k1
theorem Ef(hs:th sl=J)(h₁:SE c n T v a)(h₂:SE c n T sl b):SE c n T (.Subscript v sl pos) (.p J .i [a,b]):=by refine⟨?_⟩;intro env A s as X H ρ Q XX R w;refine Zg (jA h₁ h₂ R w λS hv hv' q=>?_);refine di (cY q) ?_;intro r H' e q';exact Ib (λx y p e=>by clear h₂;subst e;cases hs) S hv hv' e q'
theorem Ft(h:rL c n T es xs):SE c n T (.List es pos) (.p mu .l xs):=by
 refine⟨?_⟩;intro env A s as X H ρ Q XX R w;refine List_ (Zr (tJ h R w) (λys s₁ r=>?_) λ_ _ e=>e);obtain⟨vs,H₁,as₁,e1,S1,k1,hvs,_,q⟩:=r;haveI hsome:∃ws,prim c.P .l vs H₁=Z (.lst ws,H₁):=by refine j4 (mh q) λr H' e=>?_;exact⟨vs,Z3 (c9 e).1⟩
 obtain⟨ws,e⟩:=hsome;refine Zr (nI S1 e (λR hR=>uX S1 hvs e hR) q) (λ_ _ r=>r.lift e1 k1) λ_ _ (e:ERes c as₁ X s₁.heap XX _ _)=>e.lift e1 k1
theorem JC(h:rL c n T es xs):SE c n T (.Tuple es kk pos) (.p J .t xs):=by refine⟨?_⟩;intro env A s as X H ρ Q XX R w;refine Tuple_ (Zr (tJ h R w) (λys s₁ r=>?_) λ_ _ e=>e);obtain⟨vs,H₁,as₁,e1,S1,k1,hvs,_,q⟩:=r;refine di (cY q) λz H' e q'=>?_;exact Zr (Es S1 hvs e q') (λ_ _ r=>r.lift e1 k1) λ_ _ (e:ERes c as₁ X s₁.heap XX _ _)=>e.lift e1 k1
end
theorem SR.turn(x:SR c as X H s)(k:VK [] X s.heap s'.heap)(hst:c.base.StaysIn s'.heap)(hY:∀b∈Y,b∈X)
  (hx:∀b∈Y,∃o,s'.heap.get? b=Z o)(hg:s'.gens=s.gens)(ho:s'.os=s.os):SR c as Y H s' where
 len:=x.len
 stays:=hst
 gens:=hg.trans x.gens
 os:=ho.trans x.os
 objs:=λi a e=>by refine d7 (x.objs i a e) λh1 h2 r_3=>?_;refine ao r_3 λo h3 h4=>?_;exact(bu h1 (λq=>h2 (hY _ q)) (aG o h3 ((h4.keepX (λb o e _ hb=>k b o e (λq=>nomatch q) hb) λob e=>k _ _ e (λq=>nomatch q) h2).frames λb _ _ hb q=>hb (hY _ q))))
 inj:=x.inj
 xs:=hx
def But(Y:List ZZ)(h h':HP):Prop:=∀b o,b∉Y->h.get? b=Z o->h'.get? b=Z o
theorem But.kept(k:But Y h h')(as:d6)(X:List ZZ):KeptX as X Y h h':=λb o e _ hy=>(aG o (k b o hy e) (.inl U))
theorem But.vk(k:But Y h h')(as:d6)(hY:∀b∈Y,b∈X):VK as X h h':=λb o e _ hx=>k b o (λq=>hx (hY b q)) e
theorem But.stays(S:SR c as X H s)(k:But Y s.heap h')(hY:∀b∈Y,c.base.get? b=Z6):c.base.StaysIn h':=λb o e=>k b o (λq=>eU ((hY _ q).symm.trans e)) (S.stays b o e)
theorem SR.but(S:SR c as X H s)(k:But Z7 s.heap s'.heap)(hZ:∀b∈Z7,b∈X/\c.base.get? b=Z6)(hY:∀b∈Y,b∈X)
  (hx:∀b∈Y,b∈Z7->∃o,s'.heap.get? b=Z o)(hg:s'.gens=s.gens)(ho:s'.os=s.os):SR c as Y H s':=
 S.turn (k.vk [] λb q=>(hZ b q).1) (k.stays S λb q=>(hZ b q).2) hY (λb hb=>by
  by_cases hz:b∈Z7
  ·exact hx b hb hz
  ·obtain ⟨o,e⟩:=S.xs b (hY b hb);exact⟨o,k b o hz e⟩) hg ho
theorem OVR.frames(hy:∀b o,h.get? b=Z o->b∉X->b∉Y)(z:OVR c as X h o y):OVR c as Y h o y:=
 λv e=>(z v e).imp λ_ q=>⟨q.1,q.2.frames hy⟩
theorem FR.frames(F:FR c as X h env tab ρ)(hXY:∀b∈X,b∈Y)(hy:∀b o,h.get? b=Z o->b∉X->b∉Y):FR c as Y h env tab ρ where
 kind:=F.kind
 glob:=F.glob
 bi:=F.bi
 lx:=hXY _ F.lx
 lout:=F.lout
 lb:=F.lb
 ns:=by refine ao F.ns λm n r=>?_;exact(aG m n (λx i h1 h2=>(r x i h1 h2).frames hy))
 cells:=λx i h1 h2=>by refine mC (F.cells x i h1 h2) λa y e1 e2 e3 e4 e5 e6 e7=>?_;exact(mE a y e1 (hXY _ e2) e3 e4 e5 e6 (e7.frames hy))
 apart:=F.apart
 inj:=F.inj
def vR(Y:List ZZ)(env:Env)(tab:List (Str×Nat)):Prop:=
 env.locals∉Y/\∀x i,tab.lookup x=Z i->(env.kindOf x=Z .cell\/env.kindOf x=Z .free)->∀a,env.cells.lookup x=Z a->a∉Y
theorem FR.away(F:FR c as X h env tab ρ)(hY:∀b∈Y,b∉X):vR Y env tab:=
 ⟨λq=>hY _ q F.lx,λx i h1 h2 a e q=>by refine dG (F.cells x i h1 h2) λa' y e1 e2 _=>?_;replace e:=e1.symm.trans e;(replace e:=ai e;subst e);exact hY _ q e2⟩
theorem FR.keepY(F:FR c as X h env tab ρ)(k:KeptX as X Y h h')(hY:∀b∈Y,b∈X)(aw:vR Y env tab):FR c as X h' env tab ρ where
 kind:=F.kind
 glob:=F.glob
 bi:=F.bi
 lx:=F.lx
 lout:=F.lout
 lb:=F.lb
 ns:=by refine ao F.ns λm n r=>?_;exact(aG m (Ns.same n λo e=>k _ o e F.lout aw.1) (λy i h1 h2=>(r y i h1 h2).keepX (k.v hY) (.refl ..)))
 cells:=λy i h1 h2=>by refine mC (F.cells y i h1 h2) λa z e1 e2 e3 e4 e5 e6 e7=>?_;exact(mE a z e1 e2 e3 e4 e5 (IsCell.same e6 λo e=>k _ o e e3 (aw.2 y i h1 h2 a e1)) (e7.keepX (k.v hY) (.refl ..)))
 apart:=F.apart
 inj:=F.inj
def ItC(h:HP)(I:ZZ):V->ZX->Nat->Prop
 |.tup _,y,k=>∃a,y=.ref a/\h.IsTupleIter I a k
 |.str _,y,k=>∃x t,y=.str x t/\(h.IsStrIter I "str_ascii_iterator" x t k\/h.IsStrIter I "str_iterator" x t k)
 |.rng a b,_,k=>IsRangeIter h I (a+(k:Nat)*1) (((b-a).toNat:Int)-(k:Nat)) 1
 |.lst _,y,k=>∃a,y=.ref a/\h.IsListIter I a k
 |.ref _,y,k=>∃a,y=.ref a/\h.IsListIter I a k
 |_,_,_=>False
theorem ItC.here(x:ItC h I v y k):∃o,h.get? I=Z o/\∃vs,o.data=.fields vs:=by
 cases v<;>try exact x.elim
 ·obtain ⟨x,t,_,h1|h1⟩:=x
  ·refine ao h1 λo e r=>?_;exact(aG o e ⟨_,r.2⟩)
  ·refine ao h1 λo e r=>?_;exact(aG o e ⟨_,r.2⟩)
 ·refine ao x λa _ r_3=>?_;refine ao r_3 λo e r=>?_;exact(aG o e ⟨_,r.2⟩)
 ·refine ao x λa _ r_3=>?_;refine ao r_3 λo e r=>?_;exact(aG o e ⟨_,r.2⟩)
 ·exact (aG _ x ⟨_,rfl⟩)
 ·refine ao x λa _ r_3=>?_;refine ao r_3 λo e r=>?_;exact(aG o e ⟨_,r.2⟩)
theorem ItC.at(x:ItC h I v y k)(e:∀o,h.get? I=Z o->(∀es n,o.data≠.dict es n)->h'.get? I=Z o):ItC h' I v y k:=by
 refine d5 (x.here) λob q_=>dq q_ λeo q_=>d5 q_ λvs hc=>?_;have e0:=λo q=>e o q λes n hd=>by replace q:=eo.symm.trans q;(replace q:=ai q;subst q);replace hd:=hc.symm.trans hd;cases hd
 cases v<;>try exact x.elim
 ·obtain ⟨x,t,hy,h1|h1⟩:=x
  ·refine ao h1 λo q r=>?_;exact(gp x t hy (.inl (aG o (e0 o q) r)))
  ·refine ao h1 λo q r=>?_;exact(gp x t hy (.inr (aG o (e0 o q) r)))
 ·refine ao x λa hy r_3=>?_;refine ao r_3 λo q r=>?_;exact(aG a hy (aG o (e0 o q) r))
 ·refine ao x λa hy r_3=>?_;refine ao r_3 λo q r=>?_;exact(aG a hy (aG o (e0 o q) r))
 ·exact e0 _ x
 ·refine ao x λa hy r_3=>?_;refine ao r_3 λo q r=>?_;exact(aG a hy (aG o (e0 o q) r))
def HOk(h:HP)(e:ZZ):Prop:=∃o vs,h.get? e=Z o/\o.data=.fields vs/\vs[2]? =Z .none
inductive Hd(A:ZU)(h:HP)(v:V):Prop
 |no:A.handled=Z6->Hd A h v
 |rng (e:ZZ):v.isRng=Z5->A.handled=Z (.ref e)->HOk h e->Hd A h v
theorem Hd.plain{A:ZU}{h:HP}{v:V}(x:Hd A h v)(hv:v.isRng=J):A.handled=Z6:=by
 induction x with
 |no h=>exact h
 |rng e h=>exact Z1 (hv.symm.trans h) ae
theorem Hx.hand{c:Cx}{as:d6}{X:List ZZ}{h:HP}{A:ZU}{q:Bool}{v:V}(x:Hx c as X h A)(hh:q=J->A.handled=Z6)(hr:q=Z5->v.isRng=Z5):Hd A h v:=by
 induction x with
 |no z=>exact .no z
 |«at» z r=>
  induction q with
  |false=>exact .no (hh U)
  |true=>cases r.inv with|exc _ _ h3 _ h5 h6=>exact .rng _ (hr U) z (eK _ _ h3 h5 h6)
theorem rn:entryFor table "proto.unchain"=Z Builtin.«proto.unchain»:=entryFor_of_fast (by kernel_rfl)
theorem t6{prog:ZY}{w:World}{A:ZU}{E:ZX->ZV->Prop}{s:ZV}{it:ZZ}{x left step:Int}{e:ZZ}{Q:Option ZX->ZV->Prop}(hh:A.handled=Z (.ref e))(he:HOk s.heap e)(hit:IsRangeIter s.heap it x left step)(hleft:left<=0)
  (hQ:∀h',Kz it s.heap h'->Q Z6 {s with heap:=h'}):ZS (model prog w) A (pyNext (.ref it)) Q E s:=by
 have hT:s.TypeIs (.ref it) "range_iterator":=(aG _ hit U);refine ZM (Zf (wpAny_callSpecial?_slot hT F.slot_range_iterator_next
  (Zt F.slot_range_iterator_next hT F.entry_range_iterator_next ?_ (F.args_range_iterator_next_1 _))))
 show ZS _ _ (field (.ref it) 0>>= _) _ _ s;refine ZM (ZI hit U U ?_);refine ZM (ZI hit U U ?_);refine ZM (ZI hit U U ?_);show ZS _ _ (if left<=0 then _ else _) _ _ s;refine YP (Z3 hleft) (ZM (Ze (ZM ?_)));refine ZM ?_;refine ZM (ZK ?_ (by size_fits));refine ZM (Zd (a:=Value.none) (by first|rfl|(simp only [firstArgMember];rfl)) ?_);refine ZK ?_ (by size_fits);refine ZM (wpAny_handled ?_);refine YP (show A.in1.handled=Z (.ref e)from hh) (dG he ?_);intro o vs ho hd h2;have ho1:=bq {cls:=Value.type "tuple",data:=Data.seq #[]} ho;have ext1:∀b o,s.heap.get? b=Z o->(s.heap.push {cls:=Value.type "tuple",data:=Data.seq #[]}).get? b=Z o:=λb o h=>bq _ h;generalize s.heap.push {cls:=Value.type "tuple",data:=Data.seq #[]}=h1 at ho1 ext1 ⊢;have hlt:=eJ ho1;have hne:(Value.ref e !=Value.ref h1.objs.size)=Z5:=by
  have:e≠h1.objs.size:=dk hlt
  simpa using this
 show ZS _ _ (if(Value.ref e !=Value.ref h1.objs.size)=Z5 then _ else _) _ _ _;refine YP (Z3 hne) (ZM (Zv (wpAny_runValue (codeAny_builtin rn ?_))));refine ZM (ZI (bq _ ho1) hd h2 ?_);refine ZL ?_;refine ZM (ZJ (bf h1 U) U (YP Oi (bl (by decide) (ax 6 _))) (ZH ?_));refine ZM (Zc (aG _ (cN _ (bf h1 U) U) U) isSubtype_stop ?_);refine ZL (hQ _ λb o hb hbo=>?_);have hb1:=ext1 b o hbo;exact(cG _ _ (fq (eJ hb1))).trans (bq _ hb1)
inductive SrcAt(c:Cx)(as:d6)(X:List ZZ)(h:HP):List V->V->ZX->Prop
 |str (xs:List Char) (t:Tok):SrcAt c as X h (xs.map λc=>V.str [c]) (.str xs) (.str (toS xs) t)
 |tup {a:ZZ} {its:Array ZX} {n:Nat} {vs:List V}:a∉X->h.get? a=Z {cls:=.type "tuple",data:=.seq its n}->VRs c as X h vs its.toList->SrcAt c as X h vs (.tup vs) (.ref a)
 |seq {a:ZZ} {its:Array ZX} {vs:List V} {v:V}:(∀h' I k,ItC h' I v (.ref a) k=∃b,Value.ref a=.ref b/\h'.IsListIter I b k)->v.isRng=J->a∉X->h.PlainList a its->VRs c as X h vs its.toList->SrcAt c as X h vs v (.ref a)
 |rng {a b:Int} {y:ZX}:RngR as X h a b y->SrcAt c as X h (jP a b) (.rng a b) y
theorem wf(S:SR c as X H s)(hv:VR c as X s.heap v y)(hs:rE H v=Z items):SrcAt c as X s.heap items v y:=by
 have hw:view H v=Z items->(∀a h' I k,ItC h' I v (.ref a) k=∃b,Value.ref a=.ref b/\h'.IsListIter I b k)->v.isRng=J->SrcAt c as X s.heap items v y:=λe q hr=>by obtain⟨a,its,rfl,hp,r,_,hx⟩:=eY S hv e;exact .seq (q a) hr hx hp r
 cases v with
 |str xs=>(replace hs:=ai hs;refine YP (YO hs) ?_);induction hv.inv;exact .str _ _
 |tup vs=>(replace hs:=ai hs;refine YP (YO hs) ?_);induction hv.inv with|tup _ h2 h3 h4 _=>exact .tup h2 h3 h4
 |rng a b=>(replace hs:=ai hs;refine YP (YO hs) ?_);exact .rng hv.inv
 |lst vs=>exact hw hs (λ_ _ _ _=>rfl) U
 |ref i=>exact hw hs (λ_ _ _ _=>rfl) U
 |_=>exact eU hs
theorem ux{Q:ZX->ZV->Prop}(S:SR c as X H s)(hv:VR c as X s.heap v y)(hs:rE H v=Z items)
  (hQ:∀o,ItC (s.heap.push o) s.heap.objs.size v y 0->Q (.ref s.heap.objs.size) {s with heap:=s.heap.push o}):ZS c.M A (pyIter y) Q E s:=by
 induction wf S hv hs with
 |str x t=>
  cases ha:(toS x).cps.all (·<128)
  ·exact wpAny_pyIter_wide ha (hQ _ (gp _ _ U (.inr (bQ _ (bf _ U) U U))))
  ·exact wpAny_pyIter_ascii ha (hQ _ (gp _ _ U (.inl (bQ _ (bf _ U) U U))))
 |tup h2 h3 h4=>exact wpAny_pyIter_tuple (bQ _ h3 U ⟨_,rfl⟩) (hQ _ (aG _ U (bQ _ (bf _ U) U U)))
 |seq q _ h2 h3 h4=>exact ZB h3.isList (hQ _ ((q _ _ _).mpr (aG _ U (bQ _ (bf _ U) U U))))
 |@rng a b _ r=>
  induction r with
  |rng h1 h2 h3 h4 h5=>refine wpAny_pyIter_range h3 (oY h4 h5) (hQ _ ?_);show IsRangeIter _ _ _ _ _;rw [kK,show a+((0:Nat):Int)*1=a from Gv a,show((b-a).toNat:Int)-((0:Nat):Int)=((b-a).toNat:Int)from Int.sub_zero _];exact bf _ U
theorem Bp(h:(jP a b)[k]? =Z x):x=.int (a+k)/\k<(b-a).toNat:=by rw [jP,aV,nZ]at h;refine ao h λi h1 q_3=>?_;clear h;subst q_3;rw [c7]at h1;obtain⟨h1,h2⟩:=h1;simp at h1 h2;subst h2;exact⟨rfl,Int.lt_toNat.mpr h1⟩
theorem za{Q:Option ZX->ZV->Prop}(hd:Hd A s.heap v)(S:SR c as X H s)(hI:I∈X)(hb:c.base.get? I=Z6)(hv:VR c as X s.heap v y)(hi:ItC s.heap I v y k)
  (hs:rE H v=Z items)(hk:items[k]? =Z x)
  (hQ:∀z h' tk,But [I] s.heap h'->VR c as X h' x z->VR c as X h' v y->ItC h' I v y (k+1)->SR c as X H {s with heap:=h',toks:=tk}->Q (Z z) {s with heap:=h',toks:=tk}):ZS c.M A (pyNext (.ref I)) Q E s:=by
 have fin:∀z h' tk,But [I] s.heap h'->VR c as X s.heap x z->ItC h' I v y (k+1)->Q (Z z) {s with heap:=h',toks:=tk}:=λz h' tk b hz hit=>by haveI kx:=b.vk as (c8 hI);exact hQ z h' tk b (hz.keepX kx (.refl ..)) (hv.keepX kx (.refl ..)) hit (S.but b (c8 ⟨hI,hb⟩) (λ_ q=>q) (λb hb hz=>in1 hz▸hit.here.imp λ_ e=>e.1) U U)
 induction wf S hv hs with
 |str xs t=>
  refine di hi λx' t' e hit=>?_;cases e;replace hk:=aV.symm.trans hk;refine ao (ez hk) λch hch q_3=>?_;clear hk hQ;subst q_3;haveI hlt:k<(toS xs).cps.size:=by simp only [show(toS xs).cps.size=(toS xs).length from U,eW];exact(cq hch)
  have hsign:∀z,SignAt (toS xs) k z->VR c as X s.heap (.str [ch]) z:=by
   rintro z ⟨q,u,hq,rfl⟩
   simp [toS,hch]at hq;subst hq;exact .str [ch] u (by simp [li])
  haveI hh:=hd.plain U;refine Or.elim hit (λhit=>?_) λhit=>?_
  ·exact (Walks.strAscii hh I (toS xs) t).item k s Q E hlt hit λz h' tk hz st b=>fin z h' tk b (hsign z hz) (gp _ _ U (.inl st))
  ·exact (Walks.strWide hh I (toS xs) t).item k s Q E hlt hit λz h' tk hz st b=>fin z h' tk b (hsign z hz) (gp _ _ U (.inr st))
 |@tup a its n _ h2 h3 h4=>refine ao hi λa' e hit=>?_;cases e;refine ao (h4.get hk) λz hz hzr=>?_;replace hz:=cb.symm.trans hz;refine(Walks.tuple (hd.plain U) I a (λq=>h2 (q▸hI)) its).item k s Q E (kZ.mp hz).1 ⟨hit,(bQ _ h3 U ⟨_,rfl⟩)⟩ λz' h' tk hz' st b=>fin z' h' tk b ?_ (aG _ U st.1);replace hz':=hz.symm.trans hz';(replace hz':=ai hz';subst hz');exact hzr
 |@seq a its _ _ q hr h2 h3 h4=>refine ao ((q _ _ _).mp hi) λa' e hit=>?_;cases e;refine ao (h4.get hk) λz hz hzr=>?_;replace hz:=cb.symm.trans hz;refine(Walks.list (hd.plain hr) I a (λq=>h2 (q▸hI)) its).item k s Q E (kZ.mp hz).1 ⟨hit,h3.isList⟩ λz' h' tk hz' st b=>fin z' h' tk b ?_ ((q _ _ _).mpr (aG _ U st.1));replace hz':=hz.symm.trans hz';(replace hz':=ai hz';subst hz');exact hzr
 |@rng a b _ r=>
  obtain⟨rfl,hlt⟩:=Bp hk;haveI hi':=hi;refine wpAny_pyNext_range_item hi' (Int.sub_pos_of_lt (b9.mpr hlt)) λh' hit' hs'=>(fin _ h' _ (λb o hb e=>hs'.extBut b o (λh=>hb (by simp [h])) e) ?_ ?_)
  ·rw [vJ];exact .int _ _
  ·refine (?_:IsRangeIter _ _ _ _ _);haveI e1:a+((k+1:Nat):Int)*1=a+k*1+1:=by simp only [vJ,vJ];exact(Int.add_assoc a k 1).symm
   haveI e2:((b-a).toNat:Int)-((k+1:Nat):Int)=((b-a).toNat:Int)-k-1:=Int.le_antisymm (j5 (kN (YO e1)) (by simp+arith only)) (j5 (kN e1) (by simp+arith only));simp only [e1,e2];exact hit'
theorem xY{Q:Option ZX->ZV->Prop}(hd:Hd A s.heap v)(S:SR c as X H s)(hI:I∈X)(hv:VR c as X s.heap v y)(hi:ItC s.heap I v y k)
  (hs:rE H v=Z items)(hk:items.length=k)
  (hQ:∀h' tk,But [I] s.heap h'->Q Z6 {s with heap:=h',toks:=tk}):ZS c.M A (pyNext (.ref I)) Q E s:=by
 subst hk
 induction wf S hv hs with
 |str xs t=>
  refine di hi λx' t' e hit=>?_;cases e;rw [aj,<-eW]at hit;haveI hh:=hd.plain U;refine Or.elim hit (λhit=>?_) λhit=>?_
  ·exact (Walks.strAscii hh I (toS xs) t).done s Q E hit hQ
  ·exact (Walks.strWide hh I (toS xs) t).done s Q E hit hQ
 |@tup a its n _ h2 h3 h4=>refine ao hi λa' e hit=>?_;cases e;simp only [h4.length,bU]at hit;exact(Walks.tuple (hd.plain U) I a (λq=>h2 (q▸hI)) its).done s Q E ⟨hit,(bQ _ h3 U ⟨_,rfl⟩)⟩ hQ
 |@seq a its _ _ q hr h2 h3 h4=>refine ao ((q _ _ _).mp hi) λa' e hit=>?_;cases e;simp only [h4.length,bU]at hit;exact(Walks.list (hd.plain hr) I a (λq=>h2 (q▸hI)) its).done s Q E ⟨hit,h3.isList⟩ hQ
 |@rng a b _ r=>
  haveI hi':=hi;simp only [oO]at hi'
  induction hd with
  |no hd=>exact(Walks.range hd I a 1 (b-a).toNat).done s Q E hi' hQ
  |rng e _ hA he=>exact t6 hA he hi' (kN (Int.sub_self _)) λh' b=>hQ h' s.toks λx o hb eo=>b x o (λz=>hb (z▸.head _)) eo
theorem uq:Manifest.owners.lookup (String.ofList ['d','e','s','r','e','v','e','r'].reverse)=Z Manifest.sig_reversed:=by kernel_rfl
theorem nQ:Slot "reversed" "__next__" "reversed.__next__":=
 .of (owner:="reversed") (n:="__next__") (by kernel_rfl) (by decide+kernel) (by decide+kernel) (by decide+kernel)
  (by first|exact .inl (by decide+kernel)|exact .inr (by decide+kernel)) (by kernel_rfl)
theorem uz:entryFor table "reversed.__next__"=Z Builtin.«reversed.__next__»:=entryFor_of_tree (by kernel_rfl)
theorem yU(a:ZX):argsOk "reversed.__next__" ⟨[a],[]⟩:=by unfold argsOk;refine YP (signature?_of (id:="reversed.__next__") (n:=['_','_','t','x','e','n','_','_']) (o:=['d','e','s','r','e','v','e','r']) (by kernel_rfl) uq) ?_;kernel_rfl
theorem nC:Slot "reversed" "__iter__" "reversed.__iter__":=
 .of (owner:="reversed") (n:="__iter__") (by kernel_rfl) (by decide+kernel) (by decide+kernel) (by decide+kernel)
  (by first|exact .inl (by decide+kernel)|exact .inr (by decide+kernel)) (by kernel_rfl)
theorem sO(a:ZX):argsOk "reversed.__iter__" ⟨[a],[]⟩:=by unfold argsOk;refine YP (signature?_of (id:="reversed.__iter__") (n:=['_','_','r','e','t','i','_','_']) (o:=['d','e','s','r','e','v','e','r']) (by kernel_rfl) uq) ?_;kernel_rfl
theorem rB:entryFor table "reversed.__iter__"=Z Builtin.«dict_keyiterator.__iter__»:=
 entryFor_alias (id':="dict_keyiterator.__iter__") (by kernel_rfl) (by first|rfl|decide+kernel|(unfold String.splitOn;simp+decide [String.splitOnAux])) (by decide+kernel) (by kernel_rfl)
theorem Ek:Slot "reversed" "__init__" "object.__init__":=
 .of (owner:="object") (n:="__init__") (by kernel_rfl) (by decide+kernel) (by decide+kernel) (by decide+kernel)
  (by first|exact .inl (by decide+kernel)|exact .inr (by decide+kernel)) (by kernel_rfl)
theorem zC:TypeCalled "reversed" "reversed.__new__" "object.__init__" where
 notType:=by decide+kernel
 canCreate:=PySem.F.create_reversed
 mro:=⟨_,_,PySem.F.mro_reversed⟩
 made:=PySem.F.made_reversed
 plain:=PySem.F.plain_reversed_new
 sub:=PySem.F.sub_reversed_self
 init:=Ek
theorem Lg:ZG (.type "tuple") "__reversed__"=pure Z6:=by kernel_rfl
theorem zk:isSubtype (.type "tuple") (.type "dict")=pure J:=by kernel_rfl
noncomputable def qo(t:ZX)(i:Int):Obj:={cls:=.type "reversed",data:=.fields #[t,rawInt i]}
theorem F8{Q:ZX->ZV->Prop}(ht:IsTup s.heap t items)(hz:(items.size:Int)<2 ^ 63)
  (h:∀tk,Q (.ref s.heap.objs.size) {s with heap:=s.heap.push (qo (.ref t) ((items.size:Int)-1)),toks:=tk}):ZS (model prog w) A (call (.type "reversed") [.ref t]) Q E s:=by
 refine callType_new (S:=λA' R s=>IsTup s.heap t items/\∀tk,R (.ok (.ret (.ref s.heap.objs.size))) {s with heap:=s.heap.push (qo (.ref t) ((items.size:Int)-1)),toks:=tk}) zC (by decide) (PySem.F.typeCall_reversed_1 _) (PySem.F.newCall_reversed_1 _) (λobj=>PySem.F.args_object_init_2 obj _) PySem.F.entry_reversed_new ?_ ⟨ht,λtk=>⟨(aG _ (bf _ U) U),h tk⟩⟩;refine .of_wp λprog w A R s h=>?_;refine dq h λht h=>?_;unfold Builtin.«reversed.__new__»;refine ZM (Zd (newClass_reversed _) ?_);refine ZM (Zd (a:=()) (by first|rfl|kernel_rfl) ?_);refine ZM (Zd (a:=()) (by first|rfl|kernel_rfl) ?_)
 try dsimp only
 refine ZM (Zb ht.typeIs Lg ?_);refine ZM ?_;refine ZM (Zc (T:="tuple") (b:=J) ht.typeIs zk ?_);refine ZM (Zb ht.typeIs slot_tuple_getitem.lookup ?_);refine ZL ?_;refine ZM (len_tuple ht hz ?_);refine ZM (Zd (a:=Z (items.size:Int)) U ?_);refine ZM ?_;unfold Builtin.SmallTypes.newRecord;refine ZK (ZL (aG _ U (h _)))
theorem EO{Q:ZX->ZV->Prop}(hit:s.heap.get? I=Z (qo t i))(h:Q (.ref I) s):ZS (model prog w) A (pyIter (.ref I)) Q E s:=by haveI hT:s.TypeIs (.ref I) "reversed":=(aG _ hit U);refine wpAny_pyIter_slot hT nC (Zt nC hT rB ?_ (sO _));exact ZL (aG _ U (eK ("reversed") _ hT nQ.lookup h))
theorem EX{I t:ZZ}{i:Nat}{items:Array ZX}{x:ZX}{Q:Option ZX->ZV->Prop}(hit:s.heap.get? I=Z (qo (.ref t) (i:Int)))(ht:IsTup s.heap t items)(hi:(i:Int)<2 ^ 63)(hx:items[i]? =Z x)
  (hQ:∀h' tk,h'.get? I=Z (qo (.ref t) ((i:Int)-1))->gK I s.heap h'->Q (Z x) {s with heap:=h',toks:=tk}):ZS (model prog w) A (pyNext (.ref I)) Q E s:=by
 haveI hT:s.TypeIs (.ref I) "reversed":=(aG _ hit U);refine ZM (Zf (wpAny_callSpecial?_slot (name:=Str.ofString "__next__") hT nQ
  (Zt nQ hT uz ?_ (yU _))))
 unfold Builtin.«reversed.__next__»;refine ZM (Zd (a:=(Value.ref I,[])) U ?_);refine ZM (ZI hit U (x:=.ref t) U ?_);refine ZM (ZI hit U (x:=rawInt (i:Int)) U ?_);refine(?_:ZS _ _ (if(i:Int)<0 then _ else _) _ _ s);refine(?_:ZS _ _ (specialOf (.ref t) "__getitem__">>= _) _ _ s);refine ZM (Zb ht.typeIs slot_tuple_getitem.lookup ?_);haveI hz:=(kZ.mp hx).1;refine ZM (wpAny_mkInt ?_);refine ZM (Zf (getItem_tuple (s:={s with toks:=s.toks+1}) ht (bA (by decide) (bp i)) hi (j:=i) (PySem.seqIndex_of (bp i) (b9.mpr hz)) hx ?_));refine ZM (ZI hit U (x:=rawInt (i:Int)) U ?_);refine ZM (ZJ hit U (by simp) ?_);refine ZL (aG x U (ZL (hQ _ _ ?_ (qU ..))));exact cN _ hit U
theorem JI{Q:Option ZX->ZV->Prop}(hh:A.handled=Z6)(hit:s.heap.get? I=Z (qo t (-1)))
  (hQ:∀h',Kz I s.heap h'->Q Z6 {s with heap:=h'}):ZS (model prog w) A (pyNext (.ref I)) Q E s:=by
 haveI hT:s.TypeIs (.ref I) "reversed":=(aG _ hit U);refine ZM (Zf (wpAny_callSpecial?_slot (name:=Str.ofString "__next__") hT nQ
  (Zt nQ hT uz ?_ (yU _))))
 unfold Builtin.«reversed.__next__»;refine ZM (Zd (a:=(Value.ref I,[])) U ?_)
 try dsimp only
 refine ZM (ZI hit U (x:=t) U ?_);refine ZM (ZI hit U (x:=rawInt (-1)) U ?_);refine ZM (Ze ?_);refine ZM ?_;refine ZM (ZJ hit U (by simp) ?_);refine ZJ (cN _ hit U) U (by simp) ?_;haveI hx:Kz I s.heap ((s.heap.update I (Obj.mapFields λx=>x.setIfInBounds 1 (rawInt (-1)))).update I (Obj.mapFields λx=>x.setIfInBounds 0 Value.none)):=
  λb o hb e=>(cG _ _ (Ne.symm hb)).trans ((cG _ _ (Ne.symm hb)).trans e)
 generalize (s.heap.update I (Obj.mapFields λx=>x.setIfInBounds 1 (rawInt (-1)))).update I (Obj.mapFields λx=>x.setIfInBounds 0 Value.none)=h2 at hx ⊢;refine ZM ?_;refine ZM ?_;simp only [newExc,newTuple];refine ZM (ZK ?_ (by size_fits));refine ZM (m:=firstArgMember _ _) (Zd (a:=Value.none) (by first|rfl|(simp only [firstArgMember];rfl)) ?_);refine ZK ?_ (by size_fits);dsimp only [raiseNew];refine ZM (wpAny_handled ?_);refine YP (show A.in1.handled=Z6 from hh) (ZM (ZL (ZH ?_)));refine ZM (Zc (T:="StopIteration") (b:=Z5) (aG _ (bf _ U) U) isSubtype_stop ?_);exact ZL (hQ _ ((hx.push _).push _))
def RvC(h:HP)(I:ZZ):V->ZX->Nat->Prop
 |.tup vs,y,k=>∃a,y=.ref a/\h.get? I=Z (qo (.ref a) ((vs.length:Int)-1-(k:Int)))
 |.lst vs,y,k=>∃a,y=.ref a/\k<=vs.length/\h.IsRevIter I a ((vs.length:Int)-1-(k:Int))
 |_,_,_=>False
theorem RvC.here(x:RvC h I v y k):∃o,h.get? I=Z o/\∃vs,o.data=.fields vs:=by
 cases v with
 |tup vs=>refine d5 x λa q_=>dq q_ λ_ e=>?_;exact(aG _ e ⟨_,rfl⟩)
 |lst vs=>obtain⟨a,_,_,o,e,r⟩:=x;exact(aG o e ⟨_,r.2⟩)
 |_=>exact x.elim
theorem RvC.at(x:RvC h I v y k)(e:∀o,h.get? I=Z o->(∀es n,o.data≠.dict es n)->h'.get? I=Z o):RvC h' I v y k:=by
 cases v with
 |tup vs=>refine d5 x λa q_=>dq q_ λhy q=>?_;exact(aG a hy (e _ q λ_ _ h=>nomatch h))
 |lst vs=>obtain⟨a,hy,hk,o,q,r⟩:=x;exact(bQ a hy hk (aG o (e o q (λes n hd=>by replace hd:=(r.2).symm.trans hd;cases hd)) r))
 |_=>exact x.elim
def ItD(rev:Bool)(h:HP)(I:ZZ)(v:V)(y:ZX)(k:Nat):Prop:=match rev with
 |true=>RvC h I v y k
 |false=>ItC h I v y k
inductive RevIs(items:List V):V->Prop
 |tup {vs:List V}:items=vs.reverse->RevIs items (.tup vs)
 |lst {vs:List V}:items=vs.reverse->RevIs items (.lst vs)
theorem wh(h:j2 Z5 H v=Z items):RevIs items v:=
 Is.of (o:=Nr v) (R:=λitems=>RevIs items v) (by cases v<;>first|exact .tup U|exact .lst U|exact Z0) h
theorem ItD.here(x:ItD rev h I v y k):∃o,h.get? I=Z o/\∃vs,o.data=.fields vs:=by
 induction rev with
 |true=>exact RvC.here x
 |false=>exact ItC.here x
theorem ItD.at(x:ItD rev h I v y k)(e:∀o,h.get? I=Z o->(∀es n,o.data≠.dict es n)->h'.get? I=Z o):ItD rev h' I v y k:=by
 induction rev with
 |true=>exact RvC.at x e
 |false=>exact ItC.at x e
noncomputable def owners:List String:=["enumerate","zip","dict_itemiterator","dict_reverseitemiterator","odict_iterator","itertools.zip_longest","itertools.pairwise"]
inductive NoOwn(h:HP)(I:ZZ):Prop
 |mk {o:Obj} {n:String}:h.get? I=Z o->o.cls=.type n->owners.contains n=J->NoOwn h I
theorem ItD.cls(x:ItD rev h I v y k):NoOwn h I:=by
 induction rev with
 |true=>
  cases v with
  |tup vs=>obtain⟨a,_,e⟩:=x;exact .mk e U (by decide+kernel)
  |lst vs=>obtain⟨a,_,_,o,e,r⟩:=x;exact .mk e r.1 (by decide+kernel)
  |_=>exact x.elim
 |false=>
  cases v with
  |str=>
   obtain⟨x,t,_,h1|h1⟩:=x
   ·refine ao h1 ?_;intro o e r;exact .mk e r.1 (by decide+kernel)
   ·refine ao h1 ?_;intro o e r;exact .mk e r.1 (by decide+kernel)
  |rng=>exact .mk x U (by decide+kernel)
  |tup|lst|ref=>obtain⟨a,_,o,e,r⟩:=x;exact .mk e r.1 (by decide+kernel)
  |_=>exact x.elim
set_option backward.match.sparseCases true in
theorem HU{E:ZX->ZV->Prop}{Q:Unit->ZV->Prop}(h:NoOwn s.heap I)(q:Q () s):ZS (model prog w) A (letOwnedTupleGo te (.ref I) z) Q E s:=by
 obtain⟨e,hc,hn⟩:=h;have F:ZS (model prog w) A (do
   let(.ref r,.ref a):=(Value.ref I,z)|return
   let o <-load r
   match o.cls,o.data with
   |.type n,.fields vs=>
    if owners.contains n&&vs[0]?==Z (rawInt a)then
     rule "for.unpacks-the-owned-tuple"
     updateField r 0 .none
   |_,_=>pure ()) Q E s:=by
  induction z with
  |ref a=>
   refine ZM (wpAny_load e ?_);refine YP hc ?_;generalize Obj.data _=d
   induction d<;>first|exact ZL q|(dsimp only;exact YP hn (ZL q))
  |_=>exact ZL q
 cases te<;>first|exact ZL q|exact F
section
variable {c:Cx}
theorem BZ{vs:List V}{k:Nat}{x:V}(h:vs.reverse[k]? =Z x):vs[vs.length-1-k]? =Z x/\k<vs.length:=by
 haveI hk:k<vs.length:=by exact YP (YO cC) ((cq h))
 rw [HK hk]at h;exact⟨h,hk⟩
theorem C9{n k:Nat}(h:k<n):(n:Int)-1-(k:Int)=((n-1-k:Nat):Int):=((DF (Nat.le_sub_one_of_lt h)).trans (Z4 (·-(k:Int)) (DF (ce (aU k) h)))).symm
theorem FG{rev:Bool}{v:V}{y:ZX}{items:List V}{x:V}{k:Nat}{I:ZZ}{Q:Option ZX->ZV->Prop}(hd:A.handled=Z6)(S:SR c as X H s)(hI:I∈X)(hb:c.base.get? I=Z6)(hv:VR c as X s.heap v y)(hi:ItD rev s.heap I v y k)
  (hs:j2 rev H v=Z items)(hk:items[k]? =Z x)
  (hQ:∀z h' tk,But [I] s.heap h'->VR c as X h' x z->VR c as X h' v y->ItD rev h' I v y (k+1)->SR c as X H {s with heap:=h',toks:=tk}->Q (Z z) {s with heap:=h',toks:=tk}):ZS c.M A (pyNext (.ref I)) Q E s:=by
 induction rev with
 |false=>exact za (.no hd) S hI hb hv hi hs hk hQ
 |true=>
  have fin:∀z h' tk,But [I] s.heap h'->VR c as X s.heap x z->RvC h' I v y (k+1)->Q (Z z) {s with heap:=h',toks:=tk}:=λz h' tk b hz hit=>by haveI kx:VK as X s.heap h':=b.vk as (c8 hI);exact hQ z h' tk b (hz.keepX kx (.refl ..)) (hv.keepX kx (.refl ..)) hit (S.but (s':={s with heap:=h',toks:=tk}) b (c8 ⟨hI,hb⟩) (λ_ q=>q) (λb hb hz=>in1 hz▸hit.here.imp λ_ e=>e.1) U U)
  clear hQ
  induction wh hs with
  |@tup vs e=>
   subst e;obtain⟨hx,hk⟩:=BZ hk;refine ao hi ?_;intro a q_2 hit;subst q_2;cases hv.inv with
   |@tup _ its n h1 h2 h3 h4 h5=>refine ao (h4.get hx) ?_;intro z hz hzr;rw [cb]at hz;rw [C9 hk]at hit;refine EX hit (bQ _ h3 U ⟨_,rfl⟩) (mX (aa (dy _ _) (aa (dy _ _) h5))) hz λh' tk hg hs'=>fin z h' tk (λb o hb e=>hs'.extBut b o (λh=>hb (by exact(h)▸.head _)) e) hzr (aG a U ?_);exact YP hg (YP (YO (C9 hk)) (YP (show(vs.length:Int)-1-((k+1:Nat):Int)=(vs.length:Int)-1-(k:Int)-1 from(Int.sub_sub ((vs.length:Int)-1) k 1).symm) U))
  |@lst vs e=>
   subst e;obtain⟨hx,hk⟩:=BZ hk;refine cu hi ?_;intro a q_2 _ hit;subst q_2;cases hv.inv with
   |@lst _ its h1 h2 h3 h4 h5=>refine ao (h4.get hx) ?_;intro z hz hzr;replace hz:=cb.symm.trans hz;have hl:vs.length=its.size:=h4.length.trans bU;refine(Walks.listRev hd I a (λq=>h2 (q▸hI)) its).item k s Q E (hl▸hk) (bu (fW (hl▸hk)) (hl▸hit) h3.isList) λz' h' tk hz' st b=>fin z' h' tk b ?_ (bQ _ U hk (by exact(hl)▸st.2.1));rw [<-hl,hz]at hz';(replace hz':=ai hz';subst hz');exact hzr
theorem Ck{Q:ZX->ZV->Prop}(hv:VR c as X s.heap v y)(hs:j2 Z5 H v=Z items)
  (hQ:∀o tk,ItD Z5 (s.heap.push o) s.heap.objs.size v y 0->Q (.ref s.heap.objs.size) {s with heap:=s.heap.push o,toks:=tk}):ZS c.M A (call (.type "reversed") [y]) Q E s:=by
 haveI z:∀n:Nat,(n:Int)-1-((0:Nat):Int)=(n:Int)-1:=λn=>Int.sub_zero _
 induction wh hs with
 |@tup vs e=>
  induction hv.inv with
  |@tup a its n h1 h2 h3 h4 h5=>have hl:vs.length=its.size:=h4.length.trans bU;exact F8 (bQ _ h3 U ⟨_,rfl⟩) (mX (hl▸h5)) λtk=>hQ _ tk (aG a U (by rw [z,hl];exact bf _ U))
 |@lst vs e=>
  induction hv.inv with
  |@lst a its h1 h2 h3 h4 h5=>exact call_reversed_list h3.isList (hQ _ s.toks (bQ a U (aU _) (by rw [z,(h4.length.trans bU:vs.length=its.size)];exact(bQ _ (bf _ U) U U))))
theorem My{Q:ZX->ZV->Prop}(h:ItD Z5 s.heap I v y k)(q:Q (.ref I) s):ZS c.M A (pyIter (.ref I)) Q E s:=by
 cases v with
 |tup vs=>refine d5 h λa q_=>dq q_ λ_ e=>?_;exact EO e q
 |lst vs=>refine d5 h λa q_=>dq q_ λ_ q_=>dq q_ λ_ e=>?_;exact wpAny_pyIter_revIter e q
 |_=>exact h.elim
theorem EN{Q:Option ZX->ZV->Prop}(hd:A.handled=Z6)(S:SR c as X H s)(hI:I∈X)(hv:VR c as X s.heap v y)(hi:ItD rev s.heap I v y k)
  (hs:j2 rev H v=Z items)(hk:items.length=k)
  (hQ:∀h' tk,But [I] s.heap h'->Q Z6 {s with heap:=h',toks:=tk}):ZS c.M A (pyNext (.ref I)) Q E s:=by
 induction rev with
 |false=>exact xY (.no hd) S hI hv hi hs hk hQ
 |true=>
  subst hk
  induction wh hs with
  |@tup vs e=>subst e;refine ao hi ?_;intro a q_2 hit;clear hv hi;(replace q_2:=YO q_2;subst q_2);rw [cC,show(vs.length:Int)-1-(vs.length:Int)=-1 by exact by simp+arith only]at hit;exact JI hd hit λh' hx=>hQ h' s.toks λb o hb e=>hx b o (λh=>hb (by exact(h)▸.head _)) e
  |@lst vs e=>
   subst e;refine cu hi ?_;intro a q_2 _ hit;subst q_2;cases hv.inv with
   |@lst _ its h1 h2 h3 h4 h5=>rw [cC,(h4.length.trans bU:vs.length=its.size)]at hit;exact(Walks.listRev hd I a (λq=>h2 (q▸hI)) its).done s Q E (bu (aM _) hit h3.isList) hQ
end
theorem Kept.but(k:Kept as X h₀ h)(b:But Y h h')(hY:∀a∈Y,Fr as h₀ a):Kept as X h₀ h':=λx o e hx=>by refine ao (k x o e hx) λo' e' s=>?_;exact(aG o' (b x o' (λq=>by refine Or.elim (hY _ q) (λr=>?_) λr=>?_;exact hx r;replace e:=r.symm.trans e;exact eU e) e') s)
structure CompF(T:Tb)(x:Str)(sc:Scope):Prop where
 kind:sc.kind=.function
 tabs:∀y i,T.tab.lookup y=Z i->i<T.n
 hx:sc.names.lookup x=Z .local
 names:∀p∈sc.names,sc.names.lookup p.1=Z p.2
 loc:∀y,sc.names.lookup y=Z .local->y=x\/T.tab.lookup y=Z6
 nocell:∀p∈sc.names,p.2≠.cell
 free:∀y,sc.names.lookup y=Z .free->(T.names.lookup y=Z .cell\/T.names.lookup y=Z .free)/\(∃i,T.tab.lookup y=Z i)/\y≠x
theorem NK(h:wM T x sc=Z5):CompF T x sc:=by
 simp only [wM,dP,decide_eq_true_eq,bw]at h;obtain⟨⟨⟨h1,h2⟩,h3⟩,h4⟩:=h;refine⟨h1,λy i e=>h2 _ (mem_of_lookup e),h3,λp hp=>(h4 p hp).1,λy e=>?_,λp hp e=>?_,λy e=>?_⟩
 ·haveI:=(h4 _ (mem_of_lookup e)).2
  simpa using this
 ·haveI:=(h4 p hp).2;rw [e]at this;simp at this
 ·haveI:=(h4 _ (mem_of_lookup e)).2;simp only [dP,ku,decide_eq_true_eq]at this;exact(bu this.1.1 (dJ.mp this.1.2) this.2)
theorem qO{env:Env}(names:List (Str×NameKind))(x:Str) :
  (names.map λ(n,k)=>if(k==NameKind.free&&env.scope.kind==.function&&env.kindOf n==Z .cell)then(n,NameKind.cell)else(n,k)).lookup x=
   (names.lookup x).map λk=>if(k==NameKind.free&&env.scope.kind==.function&&env.kindOf x==Z .cell)then NameKind.cell else k:=by
 induction names with
 |nil=>rfl
 |cons p r ih=>
  obtain⟨n,k⟩:=p;refine(?_:List.lookup x ((if(k==NameKind.free&&env.scope.kind==.function&&env.kindOf n==Z .cell)=Z5 then(n,NameKind.cell)else(n,k))::_)=_);refine nf (o:=x==n) (λhx=>?_) (λhx=>?_)
  ·haveI hxn:x=n:=by simpa using hx
   subst hxn;simp only [bo,hx,ky];by_cases hc:(k==NameKind.free&&env.scope.kind==.function&&env.kindOf x==Z .cell)=Z5
   ·exact YP (Z3 hc) (YP (Z3 hc) (YP bo (YP hx U)))
   ·exact YP (Z2 hc) (YP (Z2 hc) (YP bo (YP hx U)))
  ·by_cases hc:(k==NameKind.free&&env.scope.kind==.function&&env.kindOf n==Z .cell)=Z5
   ·refine YP (Z3 hc) ?_;simp only [bo,hx];exact ih
   ·refine YP (Z2 hc) ?_;simp only [bo,hx];exact ih
theorem p8(hn:∀p∈sc.names,sc.names.lookup p.1=Z p.2)(hf:∀y,sc.names.lookup y=Z .free->∃a,env.cells.lookup y=Z a) :
  ∃cl,closureFor sc env=pure cl/\(∀y a,cl.lookup y=Z a->env.cells.lookup y=Z a)/\(∀y,sc.names.lookup y=Z .free->cl.lookup y=env.cells.lookup y):=by
 haveI go:∀(names:List (Str×NameKind)) acc,(∀p∈names,p.2=.free->∃a,env.cells.lookup p.1=Z a)->(∀y a,acc.lookup y=Z a->env.cells.lookup y=Z a)->
   ∃cl,(forIn names acc λp cs=>(if(p.2==NameKind.free)=Z5 then do let a <-cellOf env p.1;pure (ForInStep.yield ((p.1,a)::cs))else pure (ForInStep.yield cs):Sem _))=pure cl/\
    (∀y a,cl.lookup y=Z a->env.cells.lookup y=Z a)/\(∀p∈names,p.2=.free->∃a,cl.lookup p.1=Z a)/\(∀y a,acc.lookup y=Z a->∃a,cl.lookup y=Z a):=by
  intro names
  induction names with
  |nil=>exact λacc _ h2=>(jJ acc U h2 (by simp) (λy a e=>⟨a,e⟩))
  |cons p r ih=>
   intro acc h1 h2;by_cases hp:p.2=.free
   ·refine d5 (h1 p (.head _) hp) λa ha=>?_;haveI h2':∀y b,((p.1,a)::acc).lookup y=Z b->env.cells.lookup y=Z b:=λy b e=>by
     simp only [bo]at e;refine nf (o:=y==p.1) (λhy=>?_) (λhy=>?_)
     ·rw [hy]at e;simp only [je]at e;subst e;rw [beq_iff_eq]at hy;exact(hy)▸ha
     ·rw [hy]at e;exact h2 y b e
    refine dM (ih ((p.1,a)::acc) (λq hq=>h1 q (.tail _ hq)) h2') λcl e1 e2 e3 e4=>?_;refine(jJ cl ?_ e2 (λq hq hqf=>?_) (λy b e=>?_))
    ·rw [List.forIn_cons];simp only [hp,BEq.rfl,if_true,cellOf,ha];exact e1
    ·refine eV hq (λe_=>?_) λhq=>?_
     ·exact e_▸e4 p.1 a (by simp [bo])
     ·exact e3 q hq hqf
    ·by_cases hy:y=p.1
     ·refine YP hy ?_;exact e4 p.1 a (by simp [bo])
     ·exact e4 y b (by simp only [bo,show(y==p.1)=J by simpa using hy];exact e)
   ·refine dM (ih acc (λq hq=>h1 q (.tail _ hq)) h2) λcl e1 e2 e3 e4=>?_;refine(jJ cl ?_ e2 (λq hq hqf=>?_) e4)
    ·rw [List.forIn_cons];haveI:(p.2==NameKind.free)=J:=by simpa using hp
     simp only [this,rH,if_false];exact e1
    ·refine eV hq (λe_=>?_) λhq=>?_
     ·replace e_:=YO e_;subst e_;exact Z1 hqf hp
     ·exact e3 q hq hqf
 refine dM (go sc.names [] (λp hp hpf=>hf p.1 (by simp only [hn p hp,hpf])) (by simp)) λcl e1 e2 e3 _=>?_;refine(bQ cl ?_ e2 (λy hy=>?_))
 ·dsimp only [closureFor]
  first
   |(exact YP e1 U)
   |(simp only [bind_pure_comp];erw [e1];rfl)
 ·refine d5 (e3 (y,.free) (mem_of_lookup hy) U) λa ha=>?_;simp only [ha,e2 y a ha]
structure Ls(c:Cx)(env:Env)(tab:List (Str×Nat))(as₀:d6)(h₀:HP)(X:List ZZ)(I C D:ZZ):Prop where
 ic:I≠C
 id:I≠D
 cd:C≠D
 bi:c.base.get? I=Z6
 bc:c.base.get? C=Z6
 bd:c.base.get? D=Z6
 hi:Fr as₀ h₀ I
 hc:Fr as₀ h₀ C
 hd:Fr as₀ h₀ D
 dx:D∉X
 cx:C∉X
 aw:vR [I,C,D] env tab
theorem Ls.cnt{Q:ZZ->Prop}(W:Ls c env tab as₀ h₀ X I C D)(k:∀b,2<=X.count b->Q b\/Fr as₀ h₀ b):∀b,2<=(I::C::D::X).count b->Q b\/Fr as₀ h₀ b:=N9 (.inr W.hi) (N9 (.inr W.hc) (N9 (.inr W.hd) k))
theorem Ls.fr(W:Ls c env tab as₀ h₀ X I C D):∀a∈[I,C,D],Fr as₀ h₀ a:=eD W.hi (eD W.hc (eD W.hd qY))
theorem Iy(b:ZZ):X.count b<=(I::C::D::X).count b:=aa cK (aa cK cK)
structure Lp(c:Cx)(T:Tb)(env:Env)(as₀:d6)(h₀:HP)(X:List ZZ)(ρ:Fm)(I C D:ZZ)(v:V)(y:ZX)(k:Nat)(acc:List V)(arr:Array ZX)(s:ZV)(as:d6)(H:AH):Prop where
 S:SR c as (I::C::D::X) H s
 F:FR c as (I::C::D::X) s.heap env T.tab ρ
 hv:VR c as (I::C::D::X) s.heap v y
 hi:ItC s.heap I v y k
 hD:s.heap.PlainList D arr
 hacc:VRs c as (I::C::D::X) s.heap acc arr.toList
 hl:acc.length<=k
 hC:∃m,s.heap.Ns C m
 oi:I∉as
 oc:C∉as
 od:D∉as
 E:Ext as₀ h₀ as
 K:Kept as₀ (I::C::D::X) h₀ s.heap
theorem Lp.eval(L:Lp c T env as₀ h₀ X ρ I C D v y k acc arr s as H)(e:Ext as s.heap as')(kp:Kept as (I::C::D::X) s.heap s'.heap)(S:SR c as' (I::C::D::X) H' s'):Lp c T env as₀ h₀ X ρ I C D v y k acc arr s' as' H' where
 S:=S
 F:=L.F.keep kp e
 hv:=L.hv.keep kp e
 hi:=L.hi.at λo q hc=>kp.get q L.oi hc
 hD:=by obtain⟨n,q⟩:=L.hD;exact⟨n,kp.get q L.od (by simp)⟩
 hacc:=L.hacc.keep kp e
 hl:=L.hl
 hC:=by obtain⟨m,q⟩:=L.hC;exact⟨m,Ns.same q λo e=>kp _ o e L.oc⟩
 oi:=by refine d5 (L.hi.here) λo q_=>dq q_ λq _=>?_;exact e.out q L.oi
 oc:=by obtain⟨m,o,_,_,q,_⟩:=L.hC;exact e.out q L.oc
 od:=by obtain⟨n,q⟩:=L.hD;exact e.out q L.od
 E:=L.E.trans L.K e
 K:=L.K.trans L.E kp
theorem Lp.but{s':ZV}{Z7:List ZZ}(W:Ls c env T.tab as₀ h₀ X I C D)(L:Lp c T env as₀ h₀ X ρ I C D v y k acc arr s as H)(b:But Z7 s.heap s'.heap)(hZ:∀a∈Z7,a∈[I,C,D]) :
  VK as (I::C::D::X) s.heap s'.heap/\FR c as (I::C::D::X) s'.heap env T.tab ρ/\Kept as₀ (I::C::D::X) h₀ s'.heap:=by
 haveI hI:=λa ha=>aR X (hZ a ha);exact(bu (b.vk as hI) (L.F.keepY (b.kept as _) hI ⟨λq=>W.aw.1 (hZ _ q),λx i h1 h2 a e q=>W.aw.2 x i h1 h2 a e (hZ _ q)⟩) (L.K.but b λa ha=>W.fr a (hZ a ha)))
theorem Lp.next{h':HP}{tk:Nat}(W:Ls c env T.tab as₀ h₀ X I C D)(L:Lp c T env as₀ h₀ X ρ I C D v y k acc arr s as H)(b:But [I] s.heap h')(hv:VR c as (I::C::D::X) h' v y)(hi:ItC h' I v y (k+1))
  (S:SR c as (I::C::D::X) H {s with heap:=h',toks:=tk}):Lp c T env as₀ h₀ X ρ I C D v y (k+1) acc arr {s with heap:=h',toks:=tk} as H:=
 d7 (L.but W b (c8 (.head _))) λb1 b2 b3=>
 ⟨S,b2,hv,hi,L.hD.imp λn q=>b _ _ (vB (Ne.symm W.id)) q,L.hacc.keepX b1 (.refl ..),ja L.hl,L.hC.imp λm q=>Ns.same (X:=[]) q λo e=>(aG o (b _ _ (vB (Ne.symm W.ic)) e) (.inl U)),L.oi,L.oc,L.od,L.E,b3⟩
theorem Lp.store{h':HP}{tk:Nat}{m:Str->Option ZX}(W:Ls c env T.tab as₀ h₀ X I C D)(L:Lp c T env as₀ h₀ X ρ I C D v y k acc arr s as H)(b:But [C] s.heap h')(hm:h'.Ns C m) :
  Lp c T env as₀ h₀ X ρ I C D v y k acc arr {s with heap:=h',toks:=tk} as H:=
 d7 (L.but W b (c8 (.tail _ (.head _)))) λb1 b2 b3=>
 ⟨L.S.but b (c8 ⟨.tail _ (.head _),W.bc⟩) (λ_ q=>q) (λa ha hz=>in1 hz▸lR hm λo _ _ e _=>⟨o,e⟩) U U,b2,L.hv.keepX b1 (.refl ..),L.hi.at λo e _=>b _ _ (vB W.ic) e,L.hD.imp λn q=>b _ _ (vB (Ne.symm W.cd)) q,L.hacc.keepX b1 (.refl ..),L.hl,⟨m,hm⟩,L.oi,L.oc,L.od,L.E,b3⟩
theorem Lp.push{h':HP}{z:V}{zc:ZX}(W:Ls c env T.tab as₀ h₀ X I C D)(L:Lp c T env as₀ h₀ X ρ I C D v y k acc arr s as H)(b:But [D] s.heap h')(hp:h'.PlainList D (arr.push zc))(hz:VR c as (I::C::D::X) s.heap z zc)(hl:acc.length+1<=k) :
  Lp c T env as₀ h₀ X ρ I C D v y k (acc++[z]) (arr.push zc) {s with heap:=h'} as H:=
 d7 (L.but W b (c8 (.tail _ (.tail _ (.head _))))) λb1 b2 b3=>
 ⟨L.S.but b (c8 ⟨.tail _ (.tail _ (.head _)),W.bd⟩) (λ_ q=>q) (λa ha hz=>in1 hz▸hp.elim λn e=>⟨_,e⟩) U U,b2,L.hv.keepX b1 (.refl ..),L.hi.at λo e _=>b _ _ (vB W.id) e,hp,by simp only [Of];exact(L.hacc.keepX b1 (.refl ..)).append (.cons (hz.keepX b1 (.refl ..)) .nil),aa (ak af) hl,L.hC.imp λm q=>Ns.same (X:=[]) q λo e=>(aG o (b _ _ (vB W.cd) e) (.inl U)),L.oi,L.oc,L.od,L.E,b3⟩
theorem Fr.ne{as:d6}{h:HP}{a b:ZZ}{o:Obj}(f:Fr as h a)(hb:b∉as)(e:h.get? b=Z o):b≠a:=λq=>f.elim (λz=>hb (q▸z)) λz=>eU (z.symm.trans (q▸e))
theorem Ls.hx{c:Cx}{env:Env}{tab:List (Str×Nat)}{as₀:d6}{h₀:HP}{X:List ZZ}{I C D:ZZ}{A:ZU}(W:Ls c env tab as₀ h₀ X I C D)(x:Hx c as₀ X h₀ A):Hx c as₀ (I::C::D::X) h₀ A:=by
 induction x with
 |no q=>exact .no q
 |«at» q r=>exact .at q (VR.gen (λa o ha hx ho=>(bu ha (dL (W.hi.ne ha ho) (dL (W.hc.ne ha ho) (dL (W.hd.ne ha ho) hx))) ho)) (λ_ _ e=>e) r)
theorem Lp.rdy{A:ZU}{n:Nat}{x:Str}{sc:Scope}{cl:List (Str×ZZ)}{u:V}{uc:ZX}{m:Str->Option ZX}(W:Ls c env T.tab as₀ h₀ X I C D)(L:Lp c T env as₀ h₀ X ρ I C D v y k acc arr s as H)(a:AOk T.q A n)(hx:Hx c as₀ X h₀ A)(fr:EnvFr c A X as₀ h₀ env)(K:KOk T env)(hlen:ρ.length=T.n)
  (ok:CompF T x sc)(hcl:∀y a,cl.lookup y=Z a->env.cells.lookup y=Z a)(hcl':∀y,sc.names.lookup y=Z .free->cl.lookup y=env.cells.lookup y)(hm:s.heap.Ns C m)(hmx:m x=Z uc)(hu:VR c as (I::C::D::X) s.heap u uc) :
  Rdy c {T with names:=sc.names,tab:=(x,T.n)::T.tab,n:=T.n+1} (compEnvC sc cl C env) A n s as (I::C::D::X) H (ρ++[Z u]):=by
 haveI kind:∀y,(compEnvC sc cl C env).kindOf y=(sc.names.lookup y).map λk=>if(k==NameKind.free&&env.scope.kind==.function&&env.kindOf y==Z .cell)then NameKind.cell else k:=λy=>qO sc.names y;have notcell:∀y,sc.names.lookup y≠Z .cell:=λy e=>ok.nocell _ (mem_of_lookup e) U;have kfree:∀y,((compEnvC sc cl C env).kindOf y=Z .cell\/(compEnvC sc cl C env).kindOf y=Z .free)->sc.names.lookup y=Z .free:=λy e=>by
  rw [kind]at e;refine eG (o:=sc.names.lookup y) (λhq=>?_) (λkk hq=>?_)
  ·replace e:=hq▸e;simp at e
  ·refine YP hq ?_;replace e:=hq▸e
   induction kk with
   |free=>rfl
   |cell=>exact Z1 hq (notcell y)
   |_=>simp at e
 have kloc:∀y,(compEnvC sc cl C env).kindOf y=Z .local->sc.names.lookup y=Z .local:=λy e=>by
  rw [kind]at e;refine eG (o:=sc.names.lookup y) (λhq=>?_) (λkk hq=>?_)
  ·simp only [hq]at e;exact eU e
  ·refine YP hq ?_;rw [hq]at e;clear hq;induction kk with
   |«local»=>rfl
   |free=>simp only [ky,je]at e;split at e<;>cases e
   |_=>cases e
 refine⟨a,(W.hx hx).keep L.E L.K,L.S,?_,?_,?_,((fr.grow (.refl _) Iy).keep L.E L.K).env U⟩
 ·refine ⟨ok.kind,L.F.glob,L.F.bi,by simp [compEnvC],L.oc,W.bc,(aG m hm (λz i h1 h2=>?_)),λz i h1 h2=>?_,λz z' b h1 h2=>L.F.apart z z' b (hcl _ _ h1) (hcl _ _ h2),λz z' i h1 h2=>?_⟩
  ·haveI hz:=ok.loc z (kloc z h2);haveI hzx:z=x:=by
    refine Or.elim hz (λhz=>?_) λhz=>?_
    ·exact hz
    ·simp only [bo]at h1;refine nf (o:=z==x) (λhb=>?_) (λhb=>?_)
     ·simpa using hb
     ·replace h1:=hb▸h1;simp only at h1;replace h1:=hz.symm.trans h1;exact eU h1
   subst hzx;simp only [bo,BEq.rfl,je]at h1;subst h1;simp only [hmx,<-hlen];intro w ew;simp at ew;subst ew;exact(aG uc U hu)
  ·haveI hz:=kfree z h2;refine d7 (ok.free z hz) λh3 p_2 h5=>?_;refine d5 p_2 λj h4=>?_;have hzi:T.tab.lookup z=Z i:=by simp only [bo,show(z==x)=J by simpa using h5]at h1;exact h1
   have hek:env.kindOf z=Z .cell\/env.kindOf z=Z .free:=by
    refine Or.elim h3 (λh3=>?_) λh3=>?_
    ·exact .inl (K.cell z h3)
    ·refine Or.elim (K.free z h3) (λq=>?_) λq=>?_
     ·exact .inr q
     ·exact .inl q
   refine mC (L.F.cells z i hzi hek) λa yy e1 e2 e3 e4 e5 e6 e7=>?_;haveI hi:=ok.tabs z i hzi;refine(mE a yy ((hcl' z hz).trans e1) e2 e3 e4 (λq=>W.aw.2 z i hzi hek a e1 (by simp only [q];simp [compEnvC])) e6 ?_);exact YP (bB (kY hi hlen.symm)) e7
  ·rw [bo]at h1 h2;refine nf (o:=z==x) (λhb=>?_) (λhb=>?_)
   ·cases hb':z'==x with
    |true=>rw [beq_iff_eq]at hb hb';simp only [hb,hb']
    |false=>rw [hb]at h1;rw [hb']at h2;simp only [je]at h1 h2;exact(cZ _ (kY (ok.tabs _ _ h2) h1)).elim
   ·cases hb':z'==x with
    |true=>rw [hb]at h1;rw [hb']at h2;simp only [je]at h1 h2;exact(cZ _ (kY (ok.tabs _ _ h1) h2)).elim
    |false=>rw [hb]at h1;rw [hb']at h2;exact L.F.inj z z' i h1 h2
 ·refine ⟨λz hz=>?_,λz hz=>Z1 hz (notcell z),λz hz=>?_,λz hz=>?_⟩
  ·rw [kind,hz];rfl
  ·rw [kind,hz];simp only [ky];split
   ·exact .inr U
   ·exact .inl U
  ·rw [kind,hz];rfl
 ·simp [hlen]
def uT(P:Prog)(Cs:Calls)(elt:Ex)(cond:Option Ex)(ρ:Fm)(XX:XE):V->AH->(Option V->AH->Prop)->Prop:=λx H' K=>match cond with
 |none=>cW P Cs elt (ρ++[Z x]) H' (λy H''=>K (Z y) H'') XX
 |some q=>cW P Cs q (ρ++[Z x]) H' (λb H₂=>o9 (gF b) λt=>if t then cW P Cs elt (ρ++[Z x]) H₂ (λy H''=>K (Z y) H'') XX else K Z6 H₂) XX
theorem sy{Cs:Calls}{Q:QE}{XX:XE}{mu:Bool}{cond:Option Ex}:cW P Cs (.comp mu elt it cond) ρ H Q XX=cW P Cs it ρ H (λv H₁=>∃items,rE H₁ v=Z items/\items.length<=aB/\
   lE (uT P Cs elt cond ρ XX) (λH'=>rE H' v=Z items) items [] H₁ (λys H₂=>iT (if mu then kF (.lst ys) H₂ else Z (.lst ys,H₂)) Q)) XX:=by
 induction cond<;>rfl
theorem su{α:Type}{l:List α}{x:α}(h:l[k]? =Z x):l.drop k=x::l.drop (k+1):=by obtain⟨h1,h2⟩:=c7.mp h;simp only [lV h1,h2]
theorem ERes.nsC(r:ERes c as Y h XX x s')(hC:∃m,h.Ns C m)(oc:C∉as):∃m,s'.heap.Ns C m:=by obtain⟨k,H',as',e,t,ts,_,e',S,k',ex,ht,ap,w⟩:=r;obtain⟨m,n⟩:=hC;exact⟨m,Ns.same n λo e=>k' _ o e oc⟩
theorem Lp.small(L:Lp c T env as₀ h₀ X ρ I C D v y k acc arr s as H)(hk:k<=aB):arr.size<=ZT:=aa (ak (bU.symm.trans L.hacc.length.symm)) (aa L.hl (aa hk cO))
section
variable {K:List V->AH->Prop}{Z8:ZV->Prop}{E':ZX->ZV->Prop}
  (W:Ls c env T.tab as₀ h₀ X I C D)(he:SE c n T' elt b)(hk:k<=aB)(hl:acc.length+1<=k)
  (hJ:∀{acc:List V} {arr:Array ZX} {s:ZV} {as:d6} {H:AH},Lp c T env as₀ h₀ X ρ I C D v y k acc arr s as H->K acc H->Z8 s)
  (hE:∀x s',ERes c as₀ (I::C::D::X) h₀ XX x s'->(∃m,s'.heap.Ns C m)->E' x s')
  (L:Lp c T env as₀ h₀ X ρ I C D v y k acc arr s as H)(r:Rdy c T' env' A n s as (I::C::D::X) H (ρ++[Z u]))
include W he hk hl hJ hE L r
theorem t0(w:cW c.P (aO c.P n) b (ρ++[Z u]) H (λy H''=>K (acc++[y]) H'') XX) :
  ZS c.M A (eval elt env') (λx s₄=>ZS c.M A (call (.builtin "list.append") [.ref D,x]) (λ_ s₅=>Z8 s₅) E' s₄) E' s:=
 Zr (he.run r w) (λzc s₄ q=>by
  obtain⟨zv,H₄,as₄,e₄,S₄,k₄,hz₄,w₄⟩:=q;exact Zx (hsz:=(L.eval e₄ k₄ S₄).small hk) (L.eval e₄ k₄ S₄).hD λh₅ hp₅ hs₅=>hJ ((L.eval e₄ k₄ S₄).push W (λq o hq e=>(hs₅.2 q (DO hq)).trans e) hp₅ hz₄ hl) w₄)
  λ_ _ e=>hE _ _ (e.lift L.E L.K) (e.nsC L.hC L.oc)
theorem zR{ifs:List Expr}{cond:Option Ex}(hc:(ifs=[]/\cond=Z6)\/∃t q,ifs=[t]/\cond=Z q/\ST c n T' t q)(w:uT c.P (aO c.P n) b cond ρ XX u H (λr H'=>K (match r with|some x=>acc++[x]|none=>acc) H')) :
  ZS c.M A (forIn ifs Z5 λc r=>if r=Z5 then do let ok <-isTrue c env' (eval c env');pure (ForInStep.yield ok)else pure (ForInStep.yield r)) (λok s₃=>if ok=Z5 then ZS c.M A (eval elt env') (λx s₄=>ZS c.M A (call (.builtin "list.append") [.ref D,x]) (λ_ s₅=>Z8 s₅) E' s₄) E' s₃ else Z8 s₃) E' s:=by
 refine Or.elim hc (λh=>?_) λh=>dG h λt q h1 h2 ht=>?_
 ·(refine dq h λe_0 e_1=>?_;cases e_0;subst e_1)
  exact wpAny_tests_nil (t0 W he hk hl hJ hE L r w)
 ·clear hc h;subst h1;subst h2;refine wpAny_tests_one (Zr (ht.run (λ_ _ q=>q) r w) (λbb s₃ q=>?_) λ_ _ e=>hE _ _ (e.lift L.E L.K) (e.nsC L.hC L.oc));obtain⟨H₃,as₃,e₃,S₃,k₃,w₃⟩:=q
  induction bb with
  |true=>exact t0 W he hk hl hJ hE (L.eval e₃ k₃ S₃) (r.next e₃ k₃ S₃) w₃
  |false=>exact hJ (L.eval e₃ k₃ S₃) w₃
end
def CI(c:Cx)(T:Tb)(env:Env)(as₀:d6)(h₀:HP)(X:List ZZ)(ρ:Fm)(I C D:ZZ)(v:V)(y:ZX)(items:List V)(F:V->AH->(Option V->AH->Prop)->Prop)(QQ:List V->AH->Prop)(m:Nat)(s:ZV):Prop:=
 ∃k acc arr as H,m=items.length-k/\k<=items.length/\Lp c T env as₀ h₀ X ρ I C D v y k acc arr s as H/\lE F (λH'=>rE H' v=Z items) (items.drop k) acc H QQ
theorem zp{n:Nat}{x:Str}{px:Pos}{elt iter:Expr}{ifs:List Expr}{sc:Scope}{pos:Pos}{cl:List (Str×ZZ)}{cond:Option Ex}{XX:XE}{QQ:List V->AH->Prop}{R:Result->ZV->Prop}
  (W:Ls c env T.tab as₀ h₀ X I C D)(a:AOk T.q A n)(hx:Hx c as₀ X h₀ A)(fr:EnvFr c A X as₀ h₀ env)(K:KOk T env)(hlen:ρ.length=T.n)
  (ok:CompF T x sc)(hcl:∀y a,cl.lookup y=Z a->env.cells.lookup y=Z a)(hcl':∀y,sc.names.lookup y=Z .free->cl.lookup y=env.cells.lookup y)
  (he:SE c n {T with names:=sc.names,tab:=(x,T.n)::T.tab,n:=T.n+1} elt b)
  (hc:(ifs=[]/\cond=Z6)\/∃t q,ifs=[t]/\cond=Z q/\ST c n {T with names:=sc.names,tab:=(x,T.n)::T.tab,n:=T.n+1} t q)
  (hsz:items.length<=aB)(hr:T.q=Z5->v.isRng=Z5)
  (L:Lp c T env as₀ h₀ X ρ I C D v y k acc arr s as H)
  (w:lE (uT c.P (aO c.P n) b cond ρ XX) (λH'=>rE H' v=Z items) (items.drop k) acc H QQ)(hk:k<=items.length)
  (hR:∀k' acc' arr' s' as' H' tk h',Lp c T env as₀ h₀ X ρ I C D v y k' acc' arr' s' as' H'->k'<=items.length->But [I] s'.heap h'->QQ acc' H'->R (.ok .next) {s' with heap:=h',toks:=tk})
  (hX:∀x s',ERes c as₀ (I::C::D::X) h₀ XX x s'->DI x s'.heap->(∃m,s'.heap.Ns C m)->R (.error x) s') :
  ZD c.M A (.compLoop (.ListComp elt [⟨.Name x px,iter,ifs,0⟩] sc pos) 0 (.ref I) (.ref D) (compEnvC sc cl C env)) R s:=by
 refine codeAny_compLoop_tests (CI c T env as₀ h₀ X ρ I C D v y items (uT c.P (aO c.P n) b cond ρ XX) QQ) (λm s h0=>?_) (items.length-k) ⟨k,acc,arr,as,H,rfl,hk,L,w⟩;refine GQ h0 λk acc arr as H q_0 hk L w=>?_;clear h0;subst q_0;refine eG (o:=items[k]?) (λhx'=>?_) λu hx'=>?_
 ·have hkl:=fT (An.mp hx') hk;replace w:=(n6 (ak hkl))▸w;exact xY (((W.hx hx).keep L.E L.K).hand a.hh hr) L.S (.head _) L.hv L.hi w.1 hkl λh' tk hb=>hR k acc arr s as H tk h' L hk hb w.2
 ·have hlt:=(cq hx');rw [su hx']at w;refine za (((W.hx hx).keep L.E L.K).hand a.hh hr) L.S (.head _) W.bi L.hv L.hi w.1 hx' λz h₁ tk₁ b₁ hu₁ hv₁ hi₁ S₁=>?_;haveI L₁:=L.next W b₁ hv₁ hi₁ S₁
  refine L₁.hC.elim λm hm=>Za (ZN (lookup_relabel_local ok.hx) hm (λh₂ hm₂ hs₂=>?_) (by show(sc.kind==.class||(sc.kind==.module&&_))=J;exact YP (ok.kind) U));haveI b₂:But [C] h₁ h₂:=λq o hq e=>(hs₂.2 q (DO hq)).trans e;haveI L₂:=L₁.store (tk:=tk₁+1) W b₂ hm₂;exact zR W he (aa hlt hsz) (aA L.hl) (λL' w'=>⟨items.length-(k+1),KR hlt (dc k),k+1,_,_,_,_,rfl,hlt,L',w'⟩)
   (λx s' er hm=>hm.elim λm hm=>er.note (λas' _ _ e k _ _=>((fr.grow (.refl _) Iy).keep e k).env U) λs'' er' tr d=>hX x s'' er' tr ⟨m,d.ns hm⟩)
   L₂ (L₂.rdy W a hx fr K hlen ok hcl hcl' hm₂ (by simp) (hu₁.keepX (b₂.vk as (c8 (.tail _ (.head _)))) (.refl ..))) hc w.2
theorem SR.opens(x:SR c as X H s)(g:Grown s.heap s'.heap)(hX:∀b∈Y,b∈X\/s.heap.get? b=Z6)(hx:∀b∈Y,∃o,s'.heap.get? b=Z o)(hg:s'.gens=s.gens)(ho:s'.os=s.os):SR c as Y H s' where
 len:=x.len
 stays:=λb o e=>g b o (x.stays b o e)
 gens:=hg.trans x.gens
 os:=ho.trans x.os
 objs:=λi a e=>by
  refine d7 (x.objs i a e) λh1 h2 r_3=>?_;refine ao r_3 λo h3 h4=>?_;obtain⟨ob,hob⟩:=h4.here;haveI hy:∀b o,s.heap.get? b=Z o->b∉X->b∉Y:=λb o e hb q=>by
   refine Or.elim (hX b q) (λr=>?_) λr=>?_
   ·exact hb r
   ·exact eU (r.symm.trans e)
  exact(bu h1 (hy _ _ hob h2) (aG o h3 ((h4.frames hy).keepX (g.kept as Y).x λob e=>g _ _ e)))
 inj:=x.inj
 xs:=hx
theorem FR.opens(F:FR c as X h env tab ρ)(g:Grown h h')(hXY:∀b∈X,b∈Y)(hX:∀b∈Y,b∈X\/h.get? b=Z6):FR c as Y h' env tab ρ:=
 (F.frames hXY λb o e hb q=>by
  refine Or.elim (hX b q) (λr=>?_) λr=>?_
  ·exact hb r
  ·exact eU (r.symm.trans e)).keep (g.kept as Y) (.refl ..)
theorem VR.opens(F:VR c as X h v y)(g:Grown h h')(hX:∀b∈Y,b∈X\/h.get? b=mj):VR c as Y h' v y:=
 (F.frames λb o e hb q=>by
  refine Or.elim (hX b q) (λr=>?_) λr=>?_
  ·exact hb r
  ·exact eU (r.symm.trans e)).grow g
theorem y5{as:d6}{X Y:List ZZ}{a:ZZ}{h:HP}(ha:a∈X)(hY:∀b∈Y,b∈X):∀b (o:Obj),b∉as->b∉X->h.get? b=Z o->b∉as++[a]/\b∉Y/\h.get? b=Z o:=λb o h1 h2 h3=>
 (bu (Ke h1 λq=>h2 (q▸ha)) (λq=>h2 (hY _ q)) h3)
theorem VR.adopt{c:Cx}{as:d6}{X Y:List ZZ}{h:HP}{a:ZZ}(ha:a∈X)(hY:∀b∈Y,b∈X){v:V}{y:ZX}(r:VR c as X h v y):VR c (as++[a]) Y h v y:=VR.gen (y5 ha hY) (λ_ _ e=>dT e) r
theorem VRs.adopt{c:Cx}{as:d6}{X Y:List ZZ}{h:HP}{a:ZZ}(ha:a∈X)(hY:∀b∈Y,b∈X){v:List V}{y:List ZX}(r:VRs c as X h v y):VRs c (as++[a]) Y h v y:=VRs.gen (y5 ha hY) (λ_ _ e=>dT e) r
theorem OR.adopt(ha:a∈X)(hY:∀b∈Y,b∈X)(x:OR c as X h b o):OR c (as++[a]) Y h b o:=by
 induction o with
 |list vs=>refine dq x λhb q_=>d5 q_ λitems q_=>dq q_ λhp r=>?_;exact⟨hb,(aG items hp (r.adopt ha hY))⟩
 |dict ks vs=>obtain⟨hb,hsm,cs,hd,hl,r⟩:=x;exact(bu hb hsm (bQ cs hd hl (r.adopt ha hY)))
 |inst k d=>obtain⟨dx,ob,e1,r0,r1,r2,r3⟩:=x;exact⟨dx,ob,dT e1,r0,r1,r2,r3⟩
 |ns ks vs=>obtain⟨hb,cs,mA,hn,hl,r,hm⟩:=x;exact⟨hb,(iZ cs mA hn hl (r.adopt ha hY) hm)⟩
theorem SR.adopt(S:SR c as X H s)(ha:a∈X)(hb:c.base.get? a=Z6)(hY:∀b∈Y,b∈X)(haY:a∉Y)(ho:OR c (as++[a]) Y s.heap a o):SR c (as++[a]) Y (H++[o]) s where
 len:=by simp only [af,af,S.len];rfl
 stays:=S.stays
 gens:=S.gens
 os:=S.os
 objs:=λi b e=>(iR e).elim (λe=>d7 (S.objs i b e) λh1 h2 r=>ao r λob h3 h4=>(bu h1 (λq=>h2 (hY _ q)) (aG ob (dT h3) (h4.adopt ha hY)))) λq=>by
  (refine dq q λe_0 e_1=>?_;clear q e;subst e_0;refine YP e_1 ?_)
  exact(bu hb haY (aG o ((S.len)▸dU) ho))
 inj:=λi j b e1 e2=>by haveI hne:∀{i:Nat},as[i]? =Z b->b≠a:=λe q=>(S.objs _ _ e).2.1 (q▸ha);exact(iR e1).elim (λh1=>(iR e2).elim (S.inj i j b h1) λh2=>Z1 h2.2 (hne h1)) λh1=>(iR e2).elim (λh2=>Z1 h1.2 (hne h2)) λh2=>h1.1.trans h2.1.symm
 xs:=λb hb=>S.xs b (hY b hb)
theorem OVR.adopt(ha:a∈X)(hY:∀b∈Y,b∈X)(z:OVR c as X h o y):OVR c (as++[a]) Y h o y:=
 λv e=>(z v e).imp λ_ q=>⟨q.1,q.2.adopt ha hY⟩
theorem FR.narrow(F:FR c as X h env tab ρ)(hY:∀b∈Y,b∈X)(hZ:∀b∈X,b∈Y\/b∈Z7)(aw:vR Z7 env tab):FR c as Y h env tab ρ where
 kind:=F.kind
 glob:=F.glob
 bi:=F.bi
 lx:=(hZ _ F.lx).resolve_right aw.1
 lout:=F.lout
 lb:=F.lb
 ns:=by refine ao F.ns λm n r=>?_;exact(aG m n (λy i h1 h2=>(r y i h1 h2).frames λb _ _ hb q=>hb (hY _ q)))
 cells:=λy i h1 h2=>by refine mC (F.cells y i h1 h2) λa z e1 e2 e3 e4 e5 e6 e7=>?_;exact(mE a z e1 ((hZ _ e2).resolve_right (aw.2 y i h1 h2 a e1)) e3 e4 e5 e6 (e7.frames λb _ _ hb q=>hb (hY _ q)))
 apart:=F.apart
 inj:=F.inj
theorem FR.adopt(F:FR c as X h env tab ρ)(ha:a∈X)(hY:∀b∈Y,b∈X)(hZ:∀b∈X,b∈Y\/b∈Z7)(aw:vR Z7 env tab)(haZ:a∈Z7):FR c (as++[a]) Y h env tab ρ where
 kind:=F.kind
 glob:=F.glob
 bi:=F.bi
 lx:=(hZ _ F.lx).resolve_right aw.1
 lout:=Ke F.lout λq=>aw.1 (q▸haZ)
 lb:=F.lb
 ns:=by refine ao F.ns ?_;intro m n r;exact(aG m n (λy i h1 h2=>(r y i h1 h2).adopt ha hY))
 cells:=λy i h1 h2=>by refine mC (F.cells y i h1 h2) λa' z e1 e2 e3 e4 e5 e6 e7=>?_;have hz:=aw.2 y i h1 h2 a' e1;exact(mE a' z e1 ((hZ _ e2).resolve_right hz) (Ke e3 λq=>hz (q▸haZ)) e4 e5 e6 (e7.adopt ha hY))
 apart:=F.apart
 inj:=F.inj
theorem FW{E:ZX->ZV->Prop}{Q:ZX->ZV->Prop}(hi:ItC s.heap I v y k)(h:Q (.ref I) s):ZS (model prog w) A (pyIter (.ref I)) Q E s:=by
 cases v<;>try exact hi.elim
 ·obtain ⟨x,t,_,h1|h1⟩:=hi
  ·exact wpAny_pyIter_striter_ascii h1 h
  ·exact wpAny_pyIter_striter_wide h1 h
 ·refine ao hi λa _ h1=>?_;exact wpAny_pyIter_tupleiter h1 h
 ·refine ao hi λa _ h1=>?_;exact Y9 h1 h
 ·exact wpAny_pyIter_rangeiter hi h
 ·refine ao hi λa _ h1=>?_;exact Y9 h1 h
def ResC(c:Cx)(as:d6)(X:List ZZ)(h:HP)(env:Env)(tab:List (Str×Nat))(ρ:Fm)(C:ZZ)(Q:QE)(x:ZX)(s':ZV):Prop:=
 ∃v H' as',Ext as h as'/\SR c as' (C::X) H' s'/\Kept as X h s'.heap/\VR c as' (C::X) s'.heap v x/\Q v H'/\FR c as' (C::X) s'.heap env tab ρ
theorem Res.drop(r:Res c as (C::X) h Q x s')(hC:Fr as h C)(hb:c.base.get? C=Z6)(hX:C∉X)(hs:gK C s'.heap h'):Res c as X h Q x {s' with heap:=h'}:=by
 obtain⟨v,H',as',e,S,k,hv,q⟩:=r;haveI b:But [C] s'.heap h':=λq o hq e=>(hs.2 q (DO hq)).trans e;exact⟨v,H',as',e,S.but b (by simpa using hb) (λ_ q=>.tail _ q) (λa ha hz=>by replace hz:=in1 hz;(replace hz:=YO hz;subst hz);exact(hX ha).elim) U U,(k.but b (c8 hC)).less (λa ha=>(zZ ha).elim (λq=>.inr (q▸hC)) .inl),
  (hv.keepX (b.vk as' (c8 (.head _))) (.refl ..)).frames λb _ _ hb q=>hb (.tail _ q),q⟩
section
variable {T:Tb}{s:ZV}
theorem qL{A:ZU}{n:Nat}{x:Str}{px:Pos}{elt iter:Expr}{ifs:List Expr}{sc:Scope}{pos:Pos}{cl:List (Str×ZZ)}{b:Ex}{cond:Option Ex}{XX:XE}{mu:Bool}{Q:QE}{RR:ZX->ZZ->Result->ZV->Prop}
  {v:V}{y:ZX}{s₁:ZV}{as₁:d6}{H₁:AH}
  (R:Rdy c T env A n s as X H ρ)
  (ok:CompF T x sc)(hcl:∀y a,cl.lookup y=Z a->env.cells.lookup y=Z a)(hcl':∀y,sc.names.lookup y=Z .free->cl.lookup y=env.cells.lookup y)
  (he:SE c n {T with names:=sc.names,tab:=(x,T.n)::T.tab,n:=T.n+1} elt b)
  (hc:(ifs=[]/\cond=Z6)\/∃t q,ifs=[t]/\cond=Z q/\ST c n {T with names:=sc.names,tab:=(x,T.n)::T.tab,n:=T.n+1} t q)
  (e1:Ext as s.heap as₁)(k1:Kept as X s.heap s₁.heap)(S1:SR c as₁ X H₁ s₁)(hv:VR c as₁ X s₁.heap v y)(hr:T.q=Z5->v.isRng=Z5)
  (w:∃items,rE H₁ v=Z items/\items.length<=aB/\lE (uT c.P (aO c.P n) b cond ρ XX) (λH'=>rE H' v=Z items) items [] H₁ (λys H₂=>iT (if mu then kF (.lst ys) H₂ else Z (.lst ys,H₂)) Q))
  (hRR:∀D C s',Fr as s.heap C->C∉X->c.base.get? C=Z6->(∃m,s'.heap.Ns C m)->ResC c as X s.heap env T.tab ρ C Q (.ref D) s'->RR (.ref D) C (.ok .next) s')
  (hRX:∀D C x s',Fr as s.heap C->C∉X->c.base.get? C=Z6->(∃m,s'.heap.Ns C m)->ERes c as (C::X) s.heap XX x s'->DI x s'.heap->RR (.ref D) C (.error x) s') :
  ZS c.M A (pyIter y) (λit s₂=>ZS c.M A (newList []) (λacc s₃=>ZS c.M A (newFunctionEnv sc env.globals cl [] env.qual Z6 .none (Z env)) (λcenv s₄=>ZD c.M A (.compStart (.ListComp elt [⟨.Name x px,iter,ifs,0⟩] sc pos) 0 it acc {cenv with scope:=relabel sc env}) (RR acc cenv.locals) s₄) E s₃) E s₂) E s₁:=by
 refine cu w ?_;intro items hsrc hsz w;refine ux S1 hv hsrc λo hi=>?_;refine ZK (wpAny_newFunctionEnv ok.nocell (by intro y hy;simp at hy) (λh₁ hns₁ hsb₁=>?_) ok.kind);dsimp only at hns₁ hsb₁ ⊢;generalize hI:s₁.heap.objs.size=I at hi ⊢;have hfI:s₁.heap.get? I=Z6:=hI▸dK _;generalize hH1:s₁.heap.push o=G1 at hi hns₁ hsb₁ ⊢;have gI:Grown s₁.heap G1:=hH1▸.push _ _;generalize hD:G1.objs.size=D at hns₁ hsb₁ ⊢;have hfD:G1.get? D=Z6:=hD▸dK _;generalize hH2:G1.push {cls:=.type "list",dict:=Z6,data:=.seq ([]:List ZX).toArray}=G2 at hns₁ hsb₁ ⊢;have gD:Grown G1 G2:=hH2▸.push _ _;have hlD:G2.get? D=Z {cls:=.type "list",dict:=Z6,data:=.seq ([]:List ZX).toArray}:=by exact YP (YO hH2) (YP (YO hD) (bf _ U))
 generalize hC:G2.objs.size=C at hns₁ hsb₁ ⊢;have hfC:G2.get? C=Z6:=hC▸dK _;have g3:Grown G2 h₁:=λq o e=>hsb₁.extBut q o (λh=>by(replace h:=YO h;subst h);replace e:=hfC.symm.trans e;exact eU e) (bq _ e);refine ao hi.here λoI eI _=>?_;haveI hID:=Cf eI hfD;have hIC:=Cf (gD _ _ eI) hfC;haveI hCD:=(Cf hlD hfC).symm;have fC:=gI.none (gD.none hfC);haveI fD:=gI.none hfD;have g13:=(gI.trans gD).trans g3;haveI hX':∀b∈I::C::D::X,b∈X\/s₁.heap.get? b=Z6:=eD (.inr hfI) (eD (.inr fC) (eD (.inr fD) λ_ hb=>.inl hb));have F1:=R.F.keep k1 e1;have aw:vR [I,C,D] env T.tab:=F1.away (eD (S1.not_x hfI) (eD (S1.not_x fC) (eD (S1.not_x fD) qY)));have W:Ls c env T.tab as s.heap X I C D:=⟨hIC,hID,hCD,S1.base_none hfI,S1.base_none fC,S1.base_none fD,k1.fr hfI,k1.fr fC,k1.fr fD,S1.not_x fD,S1.not_x fC,aw⟩;haveI L:Lp c T env as s.heap X ρ I C D v y 0 [] #[] {s₁ with heap:=h₁,toks:=s₁.toks+([]:List (Str×ZX)).length} as₁ H₁:=
  ⟨S1.opens g13 hX' (eD ⟨oI,g3 _ _ (gD _ _ eI)⟩ (eD (lR hns₁ λo _ _ e _=>⟨o,e⟩) (eD ⟨_,g3 _ _ hlD⟩ λb hb=>(S1.xs b hb).imp λo e=>g13 _ _ e))) U U,F1.opens g13 (λb hb=>.tail _ (.tail _ (.tail _ hb))) hX',hv.opens g13 hX',hi.at λo e _=>g3 _ _ (gD _ _ e),⟨_,g3 _ _ hlD⟩,.nil,aM _,⟨_,hns₁⟩,S1.not_as hfI,S1.not_as fC,S1.not_as fD,e1,(k1.more Iy).trans e1 (g13.kept as₁ _)⟩
 haveI loop:ZD c.M A (.compLoop (.ListComp elt [⟨.Name x px,iter,ifs,0⟩] sc pos) 0 (.ref I) (.ref D) (compEnvC sc cl C env)) (RR (.ref D) C) {s₁ with heap:=h₁,toks:=s₁.toks+([]:List (Str×ZX)).length}:=by
  refine zp W R.a R.hx R.fr R.K R.len ok hcl hcl' he hc hsz hr L w (aU _) (λk' acc' arr' s' as' H' tk h' L' hk' bI q=>?_) λx s' er tr hm=>hRX D C x s' W.hc W.cx W.bc hm (er.less (eD (.tail _ (.head _)) λb hb=>.tail _ (.tail _ (.tail _ hb))) (W.cnt λb hb=>.inl (aa hb cK))) tr;refine hRR D C _ W.hc W.cx W.bc (L'.hC.imp λm q=>Ns.same (X:=[]) q λo e=>(aG o (bI _ _ (vB (Ne.symm hIC)) e) (.inl U)):∃m,h'.Ns C m) ?_;refine d7 (L'.but (s':={s' with heap:=h',toks:=tk}) W bI (c8 (.head _))) λb1 b2 b3=>?_;haveI hpD:h'.PlainList D arr':=L'.hD.imp λn q=>bI _ _ (vB (Ne.symm hID)) q;haveI hbn:acc'.length<=li:=aa (aa L'.hl (aa hk' hsz)) (Nat.le_of_add_right_le fQ);haveI hDC:D∉C::X:=dL (Ne.symm hCD) W.dx;have hsub':∀b∈C::X,b∈C::D::X:=eD (.head _) λb hb=>.tail _ (.tail _ hb);haveI hZ':∀b∈C::D::X,b∈C::X\/b∈[I,C,D]:=eD (.inl (.head _)) (eD (.inr (.tail _ (.tail _ (.head _)))) λb hb=>.inl (.tail _ hb));have S3:=L'.S.but (s':={s' with heap:=h',toks:=tk}) bI (c8 ⟨.head _,W.bi⟩) (λb hb=>.tail _ hb) (eD (λhz=>Z1 (in1 hz).symm hIC) (eD (λhz=>Z1 (in1 hz).symm hID) λb hb hz=>Z1 (in1 hz▸hb) (S1.not_x hfI))) U U;haveI F3:FR c as' (C::D::X) h' env T.tab ρ:=b2.narrow (Z7:=[I,C,D]) (λb hb=>.tail _ hb) (eD (.inr (.head _)) λb hb=>.inl hb) aw;haveI hacc3:=(L'.hacc.keepX b1 (.refl ..)).frames λb _ _ hb q=>hb (.tail _ q);haveI b3':=b3.less (X:=X) (W.cnt λb hb=>.inl hb);clear w;induction mu with
  |false=>refine(fM (.lst acc') H' as' L'.E (S3.turn (s':={s' with heap:=h',toks:=tk}) (λb o e _ _=>e) S3.stays hsub' (λb hb=>S3.xs b (hsub' b hb)) U U) b3' ?_ q (F3.narrow hsub' hZ' aw));exact .lst L'.od hDC hpD (hacc3.frames λb _ _ hb q=>hb (hsub' b q)) hbn
  |true=>
   haveI hDin:D∈C::D::X:=.tail _ (.head _);haveI q':Q (.ref H'.length) (H'++[.list acc']):=q;refine(fM (.ref H'.length) (H'++[.list acc']) (as'++[D]) ⟨λi z e=>?_,λz hz=>?_⟩ (S3.adopt (o:=.list acc') hDin W.bd hsub' hDC ⟨hbn,(aG arr' hpD (hacc3.adopt hDin hsub'))⟩) b3' (.ref ?_) q' (F3.adopt hDin hsub' hZ' aw (.tail _ (.tail _ (.head _)))))
   ·exact dT (L'.E.old i z e)
   ·exact (jZ hz).elim (L'.E.new z) λr=>in1 r▸W.hd
   ·exact YP (YO (S3.len)) dU
 exact codeAny_compStart_list loop (FW L.hi loop)
def sZ(e:Expr):Prop:=(e.ctorIdx==7)=J
theorem oz(h:sZ e)(env:Env)(x:ZX):foldedSetIterable e env x=pure x:=by
 cases e with
 |Set a k p=>exact Z1 h.symm ae
 |_=>rfl
theorem ResC.drop(r:ResC c as X s.heap env T.tab ρ C Q x s')(hC:Fr as s.heap C)(hb:c.base.get? C=Z6)(hX:C∉X)(hs:gK C s'.heap h'):Res c as X s.heap Q x {s' with heap:=h'}:=by refine hU r λv H' as' e S k hv q _=>?_;exact Res.drop ⟨v,H',as',e,S,k.more (λ_=>cK),hv,q⟩ hC hb hX hs
theorem qQ(F:FR c as X s.heap env T.tab ρ)(K:KOk T env)(ok:CompF T x sc):∀y,sc.names.lookup y=Z .free->∃a,env.cells.lookup y=Z a:=λy hy=>by
 refine d7 (ok.free y hy) λh3 p_2 h5=>?_;obtain⟨j,h4⟩:=p_2;have hek:env.kindOf y=Z .cell\/env.kindOf y=Z .free:=by
  refine Or.elim h3 (λh3=>?_) λh3=>?_
  ·exact .inl (K.cell y h3)
  ·refine Or.elim (K.free y h3) (λq=>?_) λq=>?_
   ·exact .inr q
   ·exact .inl q
 refine di (F.cells y j h4 hek) ?_;intro a _ e1 _;exact⟨a,e1⟩
theorem ERes.drop(r:ERes c as (C::X) s.heap XX x s')(tr:DI x s'.heap)(hC:Fr as s.heap C)(hb:c.base.get? C=Z6)(hX:C∉X)(hs:gK C s'.heap h'):ERes c as X s.heap XX x {s' with heap:=h'}/\DI x h':=by
 obtain⟨k,H',as',e,t,ts,rfl,e',S,k',ex,ht,ap,w⟩:=r;refine lR tr λe₁ T cls he ex₁=>?_;cases he;have b:But [C] s'.heap h':=λq o hq e=>(hs.2 q (DO hq)).trans e;have hne:∀a∈e::ts,a≠C:=λa ha q=>(ap a ha).2.2.1 (q▸.head _);have kE:∀{t:Option ZZ},(∀T,t=Z T->T∈ts)->∀a∈e::t.toList,∀o,s'.heap.get? a=Z o->h'.get? a=Z o:=λ{t} ht a ha o q=>b a o (by
  rw [gJ];refine Or.elim (iU ha) (λq_=>?_) (λha=>?_)
  ·refine YP q_ ?_;exact hne _ (.head _)
  ·exact hne _ (.tail _ (ht a (jb.mp ha)))) q
 have hY:∀a∈e::(ts++X),a≠C:=λa ha=>by
  rcases iU ha with rfl|ha
  ·exact hne _ (.head _)
  ·refine Or.elim (jZ ha) (λha=>?_) λha=>?_
   ·exact hne _ (.tail _ ha)
   ·exact λq=>hX (q▸ha)
 replace ex₁:=ex.uniq ex₁;obtain rfl:=ex₁;refine⟨⟨k,H',as',e,Z T,ts,rfl,e',S.but (s':={s' with heap:=h'}) b (λa ha=>?_) (λa ha=>?_) (λa ha hz=>Z1 (gJ.mp hz) (hY a ha)) U U,(k'.but b (c8 hC)).less (λa ha=>(zZ ha).elim (λq=>.inr (q▸hC)) .inl),ex.keep (kE ht),ht,λa ha=>(qF ((ap a ha).1) ((ap a ha).2.1) (λq=>(ap a ha).2.2.1 (.tail _ q)) ((ap a ha).2.2.2)),w⟩,(ly e T _ U (ex.keep (kE ht)))⟩
 ·cases gJ.mp ha;exact⟨.tail _ (aC _ (.head _)),hb⟩
 ·rcases iU ha with rfl|ha
  ·exact .head _
  ·refine Or.elim (jZ ha) (λha=>?_) λha=>?_
   ·exact .tail _ (aR _ ha)
   ·exact .tail _ (aC _ (.tail _ ha))
theorem ud{Qf:ZX->ZV->Prop}(hC:Fr as s.heap C)(hX:C∉X)(hb:c.base.get? C=Z6)(hm:∃m,s'.heap.Ns C m)(r:ERes c as (C::X) s.heap XX x s')(tr:DI x s'.heap):compPost c.M A (ERes c as X s.heap XX) use Qf acc C (.error x) s':=by
 refine d5 hm λm hm=>?_;have key:∃m,s'.heap.Ns C m/\∀h',gK C s'.heap h'->∀cenv:Env,cenv.locals=C->ZS c.M A (PySem.passOn "comprehension.variables-let-go" x cenv:Sem ZX) (λ_ _=>False) (ERes c as X s.heap XX) {s' with heap:=h'}:=
  (aG m hm (λh' hs cenv _=>(r.drop tr hC hb hX hs).1.pass (r.drop tr hC hb hX hs).2 λ_ er _=>er))
 induction use with
 |none=>exact key
 |some u=>exact key
theorem nF{P:Prog}{C:Calls}{q:Bool}{i:Ex}{ρ:Fm}{H:AH}{Q:QE}{XX:XE}(hq:(q&& !vL i)=J)(w:cW P C i ρ H Q XX):∃Q':QE,cW P C i ρ H Q' XX/\∀v H',Q' v H'->(q=Z5->v.isRng=Z5)/\Q v H':=by
 induction q with
 |false=>exact(aG Q w (λ_ _ h=>⟨λz=>Z1 z ae,h⟩))
 |true=>
  refine(aG (λv H'=>v.isRng=Z5/\Q v H') ?_ (λ_ _ h=>⟨λ_=>h.1,h.2⟩));refine(ED ((dz _).mp hq)).elim λk e=>?_;clear hq;subst e;have w:iT (if bY k=Z5 then Z (V.rng 0 k,H)else Z6) Q:=w;refine(?_:iT (if bY k=Z5 then Z (V.rng 0 k,H)else Z6) _);by_cases hs:bY k=Z5
  ·rw [Z3 hs]at w ⊢;exact⟨rfl,w⟩
  ·rw [Z2 hs]at w;exact w.elim
theorem DS{n:Nat}{x:Str}{px:Pos}{elt iter:Expr}{ifs:List Expr}{sc:Scope}{pos:Pos}{cond:Option Ex}{mu:Bool}
  (ok:CompF T x sc)(hns:sZ iter)(hi:SE c n T iter i)(hq:(T.q&& !vL i)=J)
  (he:SE c n {T with names:=sc.names,tab:=(x,T.n)::T.tab,n:=T.n+1} elt b)
  (hc:(ifs=[]/\cond=Z6)\/∃t q,ifs=[t]/\cond=Z q/\ST c n {T with names:=sc.names,tab:=(x,T.n)::T.tab,n:=T.n+1} t q) :
  SE c n T (.ListComp elt [⟨.Name x px,iter,ifs,0⟩] sc pos) (.comp mu b i cond):=by
 refine⟨?_⟩;intro env A s as X H ρ Q XX R w;simp only [sy]at w;refine cu (p8 ok.names (qQ R.F R.K ok)) ?_;intro cl hclos hcl hcl';refine Y8 U (oz hns env) hclos ok.kind (λp hp hl=>by simp only [ok.names p hp,hl]) (Zr (hi.run R (nF hq w).choose_spec.1) (λy s₁ r=>?_) λ_ _ e=>e);obtain⟨v,H₁,as₁,e1,S1,k1,hv,w1⟩:=r;replace w1:=(nF hq w).choose_spec.2 _ _ w1;refine qL R ok hcl hcl' he hc e1 k1 S1 hv w1.1 w1.2 (λD C s' h1 h2 h3 h4 h5=>?_) λD C x s' h1 h2 h3 h4 h5 h6=>ud h1 h2 h3 h4 h5 h6;refine d5 h4 λm hm=>?_;exact(aG m hm (λh' hs'=>h5.drop h1 h3 h2 hs'))
theorem AW{n:Nat}{x:Str}{px:Pos}{elt iter:Expr}{ifs:List Expr}{sc:Scope}{pos:Pos}{cond:Option Ex}{mu:Bool}{Q:QE}{XX:XE}{u:ZX->Sem Unit}{Qf:ZX->ZV->Prop}
  (ok:CompF T x sc)(hns:sZ iter)(hi:SE c n T iter i)(hq:(T.q&& !vL i)=J)
  (he:SE c n {T with names:=sc.names,tab:=(x,T.n)::T.tab,n:=T.n+1} elt b)
  (hc:(ifs=[]/\cond=Z6)\/∃t q,ifs=[t]/\cond=Z q/\ST c n {T with names:=sc.names,tab:=(x,T.n)::T.tab,n:=T.n+1} t q)
  (R:Rdy c T env A n s as X H ρ)(w:cW c.P (aO c.P n) (.comp mu b i cond) ρ H Q XX)
  (hu:∀D C s',Fr as s.heap C->C∉X->c.base.get? C=Z6->(∃m,s'.heap.Ns C m)->ResC c as X s.heap env T.tab ρ C Q (.ref D) s'->
   ZS c.M A (u (.ref D)) (λ_ s''=>∃m,s''.heap.Ns C m/\∀h',gK C s''.heap h'->Qf .none {s'' with heap:=h'}) (ERes c as X s.heap XX) s') :
  ZS c.M A (comprehension (.ListComp elt [⟨.Name x px,iter,ifs,0⟩] sc pos) sc env (firstIterPos [⟨.Name x px,iter,ifs,0⟩] pos) (newList []) J (eval iter env) (Z u)) Qf (ERes c as X s.heap XX) s:=by
 simp only [sy]at w;refine cu (p8 ok.names (qQ R.F R.K ok)) ?_;intro cl hclos hcl hcl';refine Y8 U (oz hns env) hclos ok.kind (λp hp hl=>by simp only [ok.names p hp,hl]) (Zr (hi.run R (nF hq w).choose_spec.1) (λy s₁ r=>?_) λ_ _ e=>e);obtain⟨v,H₁,as₁,e1,S1,k1,hv,w1⟩:=r;replace w1:=(nF hq w).choose_spec.2 _ _ w1;exact qL R ok hcl hcl' he hc e1 k1 S1 hv w1.1 w1.2 (λD C s' h1 h2 h3 h4 h5=>hu D C s' h1 h2 h3 h4 h5) λD C x s' h1 h2 h3 h4 h5 h6=>ud h1 h2 h3 h4 h5 h6
end
theorem oG(h:jN o=Z5):attributeBase o name env w=w:=by cases o<;>first|rfl|cases h
noncomputable def lB:Mt->String
 |.list=>"list"
 |.dict=>"dict"
 |.str=>"str"
 |.tup _=>"tuple"
theorem qA(h:rL c n T args xs):(backTo pos (starEach args env)).all (λx=>!x.1)=Z5:=by
 induction h with
 |nil=>rfl
 |cons h₁ _ ih=>rw [jI h₁.2];exact ih
theorem vS(S:SR c as X H s)(hv:VR c as X s.heap v y)(h:lF H v t=Z5) :
  s.TypeIs y (lB t)/\(∀a,y=.ref a->∃ob,s.heap.get? a=Z ob/\ob.dict=Z6):=by
 induction t with
 |str=>
  replace h:=dJ.mp h;obtain⟨x,h⟩:=h;replace h:=V.txt_is h;subst h
  induction hv.inv
  exact⟨Zy _ _ _,λ_ e=>nomatch e⟩
 |list=>replace h:=dJ.mp h;obtain⟨x,h⟩:=h;replace S:=eY S hv h;obtain⟨a,its,rfl,⟨n,e⟩,_⟩:=S;exact⟨(aG _ e U),λa q=>by cases q;exact(aG _ e U)⟩
 |dict=>replace h:=dJ.mp h;obtain⟨x,h⟩:=h;replace S:=nL S hv h;obtain⟨a,cs,rfl,_,⟨o,es,ep,e,hx,_⟩,_⟩:=S;exact⟨(aG _ e hx.1),λa q=>by cases q;exact(aG _ e hx.2.1)⟩
 |tup _=>
  replace h:=dJ.mp h;obtain⟨x,h⟩:=h;replace h:=V.tpl_is h;subst h
  induction hv.inv with
  |tup _ _ e _ _=>exact⟨(aG _ e U),λa q=>by cases q;exact(aG _ e U)⟩
theorem uH{o:Expr}{name:Str}{apos pos:Pos}{args:List Expr}{xs:List Ex}{t:Mt}{mu:Bool}{pr:Prim}{id:String}(hat:jN o=Z5)(hl:apos.endLine=pos.line)(hlt:args.length<20)(h:SE c n T o a)(hs:rL c n T args xs)
  (pa:PlainAttrs (lB t))(slot:Slot (lB t) name id)(hty:typeOf (.builtin id)=pure (.type "method_descriptor"))
  (tail:∀{A:ZU} {s:ZV} {as:d6} {X:List ZZ} {H:AH} {Q:QE} {XX:XE} {v:V} {y:ZX} {vs:List V} {ys:List ZX},AOk T.q A n->SR c as X H s->VR c as X s.heap v y->VRs c as X s.heap vs ys->vs.length=xs.length->iT (bj c.P mu pr (v::vs) H) Q->
   ZS c.M A (call (.builtin id) (y::ys)) (Res c as X s.heap Q) (ERes c as X s.heap XX) s) :
  SE c n T (.Call (.Attribute o name apos) args [] pos) (.n t mu pr a xs):=by
 refine⟨?_⟩;intro env A s as X H ρ Q XX R w;simp only [zq]at w;refine wpAny_Call_method_lateS (oG hat) ?_ (by simpa using hl) (Zr (h.run R w) (λov s₁ r=>?_) λ_ _ e=>e)
 ·exact YP (qA hs) (decide_eq_true (bl hlt (by decide)))
 ·obtain ⟨v,H₁,as₁,e1,S1,k1,hv,ht,w1⟩:=r;refine dq (vS S1 hv ht) λh1 h2=>?_;refine⟨lB t,id,pa,slot,hty,h1,h2,?_⟩;refine Zh (pz hs) (Zr (hH hs (R.next e1 k1 S1) w1) (λar s₂ r=>?_) λ_ _ e=>e.lift e1 k1);obtain⟨hk,vs,H₂,as₂,e2,S2,k2,hvs,hln,q⟩:=r;simp only [hk];exact Zr (tail R.a S2 (hv.keep k2 e2) hvs hln q) (λ_ _ r=>(r.lift e2 k2).lift e1 k1) λ_ _ e=>(e.lift e2 k2).lift e1 k1
theorem rT{o:Expr}{name:Str}{apos pos:Pos}{args:List Expr}{xs:List Ex}{t:Mt}{mu:Bool}{pr:Prim}{id:String}(hat:jN o=Z5)(hl:apos.endLine=pos.line)(h:SE c n T o a)(hs:rL c n T args xs)(hn:args.length=1)
  (hmu:mu=Z5->pr.fresh=Z5)(hf:pr.fresh=J)(pa:PlainAttrs (lB t))(slot:Slot (lB t) name id)(hty:typeOf (.builtin id)=pure (.type "method_descriptor"))
  (tail:∀{A:ZU} {s:ZV} {as:d6} {X:List ZZ} {H H':AH} {Q:QE} {XX:XE} {v w r:V} {y z:ZX},AOk T.q A n->SR c as X H s->VR c as X s.heap v y->VR c as X s.heap w z->prim c.P pr [v,w] H=Z (r,H')->Q r H'->
   ZS c.M A (call (.builtin id) [y,z]) (Res c as X s.heap Q) (ERes c as X s.heap XX) s):SE c n T (.Call (.Attribute o name apos) args [] pos) (.n t mu pr a xs):=by
 induction mu with
 |true=>exact Z1 (hmu U) (by refine YP hf ?_;decide)
 |false=>refine uH hat hl (by refine YP hn ?_;decide) h hs pa slot hty λa S hv hvs hln q=>?_;replace hs:=vp hvs (hln.trans (hs.length.symm.trans hn));refine dG hs ?_;intro v y q_3 q_4 hv1;clear hvs hs hln;subst q_3;refine YP q_4 ?_;refine di (cY q) ?_;intro r H' e q';exact tail a S hv hv1 e q'
theorem Hr{o:Expr}{name:Str}{apos pos:Pos}{args:List Expr}{a:Ex}{xs:List Ex}{t:Mt}{mu:Bool}{pr:Prim}{id:String}(hat:jN o=Z5)(hl:apos.endLine=pos.line)(h:SE c n T o a)(hs:rL c n T args xs)(hn:args.length=0)
  (hmu:mu=Z5->pr.fresh=Z5)(hf:pr.fresh=J)(pa:PlainAttrs (lB t))(slot:Slot (lB t) name id)(hty:typeOf (.builtin id)=pure (.type "method_descriptor"))
  (tail:∀{A:ZU} {s:ZV} {as:d6} {X:List ZZ} {H H':AH} {Q:QE} {XX:XE} {v r:V} {y:ZX},SR c as X H s->VR c as X s.heap v y->prim c.P pr [v] H=Z (r,H')->Q r H'->
   ZS c.M A (call (.builtin id) [y]) (Res c as X s.heap Q) (ERes c as X s.heap XX) s):SE c n T (.Call (.Attribute o name apos) args [] pos) (.n t mu pr a xs):=by
 induction mu with
 |true=>exact Z1 (hmu U) (by refine YP hf ?_;decide)
 |false=>
  refine uH hat hl (by refine YP hn ?_;decide) h hs pa slot hty λ_ S hv hvs hln q=>?_
  induction hvs with
  |cons _ _=>exact Z1 (hln.trans ((hs.length).symm.trans hn)) (Nat.succ_ne_zero _)
  |nil=>exact di (cY q) λr H' e q'=>tail S hv e q'
set_option tactic.hygienic true in
theorem uk(hat:jN o=Z5)(hl:apos.endLine=pos.line)(h:SE c n T o a)(hs:rL c n T args xs)
  (hp:nw name args.length z=Z (t,pr))(hmu:mu=Z5->pr.fresh=Z5):SE c n T (.Call (.Attribute o name apos) args [] pos) (.n t mu pr a xs):=by
 unfold nw at hp;split at hp
 ·rename_i q;(obtain⟨rfl,rfl⟩:=qI hp;clear hp);cases q.1;exact rT hat hl h hs q.2 hmu U F.plainAttrs_list F.slot_list_append F.type_list_append λ_ S hv hw e q=>C1 S hv hw e q
 split at hp
 ·rename_i q;(obtain⟨rfl,rfl⟩:=qI hp;clear hp);cases q.1;exact Hr hat hl h hs q.2 hmu U F.plainAttrs_list F.slot_list_pop F.type_list_pop λS hv e q=>ND S hv e q
 split at hp
 ·rename_i q;(obtain⟨rfl,rfl⟩:=qI hp;clear hp);cases q.1;exact rT hat hl h hs q.2.1 hmu U F.plainAttrs_list F.slot_list_pop F.type_list_pop λa S hv hw e q=>HX S hv hw e q
 split at hp
 ·rename_i q;(obtain⟨rfl,rfl⟩:=qI hp;clear hp);cases q.1;exact rT hat hl h hs q.2 hmu U F.plainAttrs_dict F.slot_dict_pop F.type_dict_pop λa S hv hw e q=>II S hv hw e q
 split at hp
 ·rename_i q;(obtain⟨rfl,rfl⟩:=qI hp;clear hp);cases q.1;exact rT hat hl h hs q.2.1 hmu U F.plainAttrs_list F.slot_list_index F.type_list_index λa S hv hw e q=>Cz S hv hw e q a.u64
 split at hp
 ·rename_i q;(obtain⟨rfl,rfl⟩:=qI hp;clear hp);cases q.1;exact rT hat hl h hs q.2 hmu U F.plainAttrs_tuple F.slot_tuple_index F.type_tuple_index λa S hv hw e q=>E9 S hv hw e q a.u64
 split at hp
 ·rename_i q;((refine dq (qI hp) λe_0 e_1=>?_;refine YP (YO e_0) ?_;subst e_1);clear hp);cases q.1;exact rT hat hl h hs q.2 hmu U F.plainAttrs_list F.slot_list_extend F.type_list_extend λa S hv hw e q=>Bi S hv hw e q
 split at hp
 ·rename_i q;(obtain⟨rfl,rfl⟩:=qI hp;clear hp);cases q.1;exact Hr hat hl h hs q.2 hmu U F.plainAttrs_str F.slot_str_upper F.type_str_upper λS hv e q=>Fd S hv e q
 exact eU hp
theorem O.ins_i(o:O):Is o.ins λd=>o=.inst 0 d:=by
 induction o with
 |inst c d'=>exact Is.ite λh=>h▸rfl
 |_=>exact Z0
theorem O.nms_i(o:O):Is o.nms λq=>o=.ns q.1 q.2:=by induction o<;>first|exact U|exact Z0
theorem AB(h:gU H v=Z (d,ks,vs)):∃i,v=.ref i/\H[i]? =Z (.inst 0 d)/\H[d]? =Z (.ns ks vs):=
 Is.of (o:=gU H v) (R:=λq=>∃i,v=.ref i/\H[i]? =Z (.inst 0 q.1)/\H[q.1]? =Z (.ns q.2.1 q.2.2)) ((V.at_i v).bind λi h1=>(Is.self.bind λo h3=>(O.ins_i o).imp (R':=λd=>H[i]? =Z (.inst 0 d)) λ_ h4=>h4▸h3).bind λd h5=>
  (Is.self.bind λo h3=>(O.nms_i o).imp (R':=λq=>H[d]? =Z (.ns q.1 q.2)) λ_ h4=>h4▸h3).map λ_ h6=>(bQ i h1 h5 h6)) h
inductive Ins(c:Cx)(as:d6)(X:List ZZ)(h:HP)(d:Nat)(ks:List (List Char))(vs:List V):ZX->Prop
 |mk {x dx:ZZ} {ob:Obj} {cs:List ZX} {mA:Str->Option ZX}:as[d]? =Z dx->h.get? x=Z ob->ob.cls=.ref (c.ccls 0)->ob.dict=Z dx->(∀cd,ob.data≠.cls cd)->dx≠x->h.Ns1 dx mA->ks.length=cs.length->VRs c as X h vs cs->vs.length<=li->
   (∀n,mA n=((ks.map toS).zip cs).lookup n)->x∈as->Ins c as X h d ks vs (.ref x)
section
variable {c:Cx}
theorem vW(S:SR c as X H s)(hv:VR c as X s.heap v cv)(h:gU H v=Z (d,ks,vs)):Ins c as X s.heap d ks vs cv:=by
 refine cu (AB h) λi q_2 h1 h2=>?_;clear h;subst q_2
 induction jR S hv h1 with
 |mk x e e2=>
  obtain⟨dx,ob,f1,f2,f3,f4,f5⟩:=e2;cases jR S (.ref f1) h2 with
  |mk _ _ e4=>obtain⟨hb,cs,mA,hn,hl,r,hm⟩:=e4;exact⟨f1,f2,f3,f4,f5,λq=>(by haveI:=S.inj _ _ _ e (q▸f1);clear f1;subst this;exact nomatch h1.symm.trans h2),hn,hl,r,hb,hm,aI e⟩
theorem Ins.inst{x dx:ZZ}{ob:Obj}{mA:Str->Option ZX}{h:HP}(f2:h.get? x=Z ob)(f3:ob.cls=.ref (c.ccls 0))(f4:ob.dict=Z dx)(f5:∀cd,ob.data≠.cls cd)(hne:dx≠x)(hn:h.Ns1 dx mA):h.Inst x (c.ccls 0) mA:=(jJ ob f2 f3 f5 (.inr (bQ dx f4 hne hn)))
theorem uu:∀{ks:List (List Char)} {vs:List V} {cs:List ZX} {v:V},VRs c as X h vs cs->gx n ks vs=Z v->∃y,((ks.map toS).zip cs).lookup (toS n)=Z y/\VR c as X h v y:=by
 intro ks
 induction ks with
 |nil=>intro vs cs v r e;induction vs<;>exact eU e
 |cons k ks ih=>
  intro vs cs v r e
  induction r with
  |nil=>exact eU e
  |@cons w ws y ys a r=>
   haveI e:(if n=k then Z w else gx n ks ws)=Z v:=e;simp only [dI,fG,bo];by_cases hk:n=k
   ·replace e:=(Z3 hk).symm.trans e
    (replace e:=ai e;refine YP (YO e) ?_)
    simp only [hk,beq_self_eq_true];exact(aG y U a)
   ·replace e:=(Z2 hk).symm.trans e;haveI:(toS n==toS k)=J:=by rw [beq_eq_false_iff_ne];exact λq=>hk (jH q)
    exact YP this (ih r e)
theorem Ig(r:VR c as X h v y):handedOut y=pure y:=by cases r<;>rfl
theorem Ju{cv:ZX}{nm:List Char}{ms:List (Str×Nat)}{ats:List Str}{f:Nat}(K:CK c ms ats f)(hat:toS nm∈ats)(S:SR c as X H s)(hv:VR c as X s.heap v cv)(e:Hp nm [v] H=Z (r,H'))(q:Q r H'):ZS c.M A (getAttr cv (toS nm) Z5) (Res c as X s.heap Q) E s:=by refine ao (cm (e:(gU H v).bind _=Z (r,H'))) ?_;intro p h1 h2;refine ao (ez h2) λr' h3 h5=>?_;cases h5;obtain⟨hC,k1,k2,k3,k4,_,_,_,_⟩:=K;obtain⟨nmC,qC,bs,sn,sub,col,dd,z0,z1,z2,z3,z5,hCo⟩:=(hC.keeps S.stays).obj;obtain⟨f1,f2,f3,f4,f5,hne,hn,hl,rv,hb,hm,_⟩:=vW S hv h1;refine ao (uu rv h3) ?_;intro y e1 e2;obtain⟨hp,g,d,t,os⟩:=s;exact load_attr hCo (hC.keeps S.stays).ns k2 (k4 _ hat).1 (k4 _ hat).2 (Ins.inst f2 f3 f4 f5 hne hn) ((hm _).trans e1) (Ig e2) (Res.now (tk:=t+1) S e2 q)
theorem uK(hx:VR c as X h x y):∀{ks:List (List Char)} {vs:List V} {cs:List ZX},VRs c as X h vs cs->ks.length=cs.length->
  ∃cs',(eQ n x ks vs).1.length=cs'.length/\VRs c as X h (eQ n x ks vs).2 cs'/\(eQ n x ks vs).2.length<=vs.length+1/\∀m,(((eQ n x ks vs).1.map toS).zip cs').lookup m=if m=toS n then Z y else((ks.map toS).zip cs).lookup m:=by
 haveI one:∀m,(([n].map toS).zip [y]).lookup m=if m=toS n then Z y else Z6:=λm=>by
  refine(?_:(match m==toS n with|true=>Z y|false=>Z6)=_);by_cases hm:m=toS n
  ·rw [Z3 hm,hm,beq_self_eq_true]
  ·exact YP (Z2 hm) (YP (beq_eq_false_iff_ne.mpr hm) U)
 intro ks
 induction ks with
 |nil=>
  intro vs cs r hl;haveI:eQ n x [] vs=([n],[x]):=by cases vs<;>rfl
  exact(jJ [y] U (.cons hx .nil) (bG _ _) one)
 |cons k ks ih=>
  intro vs cs r hl
  induction r with
  |nil=>cases hl
  |@cons w ws z zs a r=>
   haveI hl':ks.length=zs.length:=by simpa using hl
   haveI e:eQ n x (k::ks) (w::ws)=if n=k then(k::ks,x::ws)else(k::(eQ n x ks ws).1,w::(eQ n x ks ws).2):=rfl;by_cases hk:n=k
   ·refine YP e (YP (Z3 hk) ?_);refine YP (YO hk) ?_;refine(jJ (y::zs) hl (.cons hx r) (ax _ _) (λm=>?_));simp only [dI,fG,fG,bo,bo];by_cases hm:m=toS n
    ·rw [Z3 hm,hm,beq_self_eq_true]
    ·exact YP (Z2 hm) (YP (beq_eq_false_iff_ne.mpr hm) U)
   ·refine YP e (YP (Z2 hk) (dM (ih r hl') ?_));intro cs' h1 h2 h3 h4;refine(jJ (z::cs') (Z4 pf h1) (.cons a h2) (aA h3) (λm=>?_));simp only [dI,dI,fG,fG,bo,bo,h4];by_cases hm:m=toS k
    ·haveI hmn:m≠toS n:=λq=>hk (jH (q.symm.trans hm));rw [Z2 hmn,Z2 hmn,hm,beq_self_eq_true]
    ·exact YP (beq_eq_false_iff_ne.mpr hm) U
theorem sq{ks:List (List Char)}{cs:List ZX}{m:Str}(h:((ks.map toS).zip cs).lookup m≠Z6):m∈ks.map toS:=by
 cases e:((ks.map toS).zip cs).lookup m with
 |none=>exact Z1 e h
 |some y=>exact(xw (mem_of_lookup e)).1
theorem Obj.same{a b:Obj}(h1:a.cls=b.cls)(h2:a.data=b.data)(h3:a.slots=b.slots)(h4:a.dict=b.dict):a=b:=by
 induction a;induction b
 replace h1:=h1;subst h2;subst h3;subst h4;subst h1;rfl
set_option tactic.hygienic true in
theorem zD{cv cx:ZX}{nm:List Char}{ms:List (Str×Nat)}{ats:List Str}{f:Nat}{R:Unit->ZV->Prop}(K:CK c ms ats f)(hat:toS nm∈ats)(S:SR c as X H s)(hv:VR c as X s.heap v cv)(hx:VR c as X s.heap x cx)(e:iQ v nm x H=Z H')
  (r:∀s',SR c as X H' s'->Kept as X s.heap s'.heap->R () s'):ZS c.M A (setAttr cv (toS nm) cx) R E s:=by
 refine ao (cm (e:(gU H v).bind _=Z H')) ?_;intro p h1 h2;obtain⟨hlen,h3⟩:=c9 h2;subst h3;obtain⟨d,ks,vs⟩:=p;obtain⟨hC,k1,k2,k3,k4,_,_,_,_⟩:=K;have hCk:=hC.keeps S.stays;obtain⟨nmC,qC,bs,sn,sub,col,dd,z0,z1,z2,z3,z5,hCo⟩:=hCk.obj;obtain⟨f1,f2,f3,f4,f5,hne,hn,hl,rv,hb,hm,hxa⟩:=vW S hv h1;rename_i xa dx ob cs mA;obtain⟨_,_,_,_,_,_,_,_,_,_,_,_,hC0⟩:=(hC.obj);have hxC:xa≠c.ccls 0:=λq=>by obtain⟨i,hi⟩:=c6 hxa;replace hi:=q▸hi;replace hC0:=((S.objs i _ hi).1).symm.trans hC0;exact eU hC0
 obtain⟨hp,g,dr,t,os⟩:=s;refine store_attr PySem.F.store_object hCo hCk.ns k1 (k4 _ hat).1 (k4 _ hat).2 hxC (Ins.inst f2 f3 f4 f5 hne hn) (λh' tk' I' hk hsame=>?_) (ns:=ks.map toS) (λy hy=>sq (by rw [<-hm];exact hy)) (by rw [aj];exact aa hlen (by decide));refine Dl (hsame ob f2) ?_;intro o₁ e₁ q1 q2 q3 q4;haveI hob:o₁=ob:=Obj.same q1 q2 q3 ((q4 dx f4).trans f4.symm);clear q4 q3 q2 q1 f5 f3;(replace hob:=YO hob;subst hob);have kk:∀b o,hp.get? b=Z o->b≠dx->h'.get? b=Z o:=λb o e hb=>by
  by_cases hbx:b=xa
  ·clear hb;(replace hbx:=YO hbx;subst hbx);cases f2.symm.trans e;exact e₁
  ·exact hk b o hbx (λo₀ d' g1 g2=>by cases f2.symm.trans g1;cases f4.symm.trans g2;exact hb) e
 refine dM I' ?_;intro o' g1 _ _ g4;replace e₁:=e₁.symm.trans g1;cases e₁;have hns:h'.Ns1 dx (λy=>if y=toS nm then Z cx else mA y):=by
  refine Or.elim g4 (λq_=>?_) (λq_=>?_)
  ·obtain ⟨g4,_⟩:=q_;replace g4:=f4.symm.trans g4;cases g4
  ·obtain ⟨d',g4,_,g5⟩:=q_;cases f4.symm.trans g4;exact g5
 refine dM (uK (n:=nm) hx rv hl) ?_;intro cs' d1 d2 d3 d4;refine r _ (S.upd (s':=⟨h',g,dr,tk',os⟩) f1 kk U U ⟨aa d3 ?_,(iZ cs' _ hns d1 (d2.keepX (λb o e ha _=>kk b o e λq=>ha (q▸aI f1):VK as X hp h') (.refl ..)) (λm=>?_))⟩) (SR.kept1 f1 kk)
 ·have h1:vs.length=ks.length:=rv.length.trans hl.symm;have h2:(1001:Nat)<=li:=by decide
  rw [h1];exact aa (aA (hlen:ks.length<=1000)) h2
 ·simp only [d4];show(if m=toS nm then Z cx else mA m)=_;rw [hm]
end
theorem uU{E:ZX->ZV->Prop}{Q:List ZX->ZV->Prop}(hs:starEach [x] env=(J,eval x env)::starEach [] env)(h:ZS M A (eval x env) (λy s₁=>Q [y] s₁) E s):ZS M A (spliced (backTo pos (starEach [x] env))) Q E s:=by exact YP hs (Zl (Zr h (λ_ _ q=>Zm q) λ_ _ e=>e))
theorem FC(K:CK c ms ats f)(hat:toS nm∈ats)(hok:jN o=Z5)(h:SE c n T o a):SE c n T (.Attribute o (toS nm) pos) (.p J (.a nm) [a]):=by refine⟨?_⟩;intro env A s as X H ρ Q XX R w;simp only [iL,gj]at w;simp only [jk]at w;simp only [arm_eval_Attribute,oG hok];refine ZM (Zr (h.run R w) (λy s₁ r=>ZM (Zp (ZM (Zv ?_)))) λ_ _ e=>e);obtain⟨v,H₁,as₁,e1,S1,k1,hv,q⟩:=r;refine di (cY q) ?_;intro z H' e q';exact Zr (Ju (E:=ERes c as₁ X s₁.heap XX) K hat S1 hv e q') (λ_ _ r=>ZM (wpAny_letTemporaryGo (ZL (r.lift e1 k1)))) λ_ _ e=>e.lift e1 k1
set_option tactic.hygienic true in
theorem Fj{o:Expr}{nm:List Char}{g:Nat}{apos pos:Pos}{args:List Expr}{xs:List Ex}(K:CK c ms ats f)(C:Cok c T.gl)(sc:SC c n)(hg:ms.lookup (toS nm)=Z g)(hok:jN o=Z5)(hline:apos.endLine=pos.line)(hlt:args.length<30)(h:SE c n T o a)(hs:rL c n T args xs)(hq:T.q=J) :
  SE c n T (.Call (.Attribute o (toS nm) apos) args [] pos) (.m 0 g nm a xs):=by
 refine⟨?_⟩;intro env A s as X H ρ Q XX R w;simp only [C5]at w;simp only [arm_eval_Call,oG hok];refine ZM (Zr (h.run R w) (λy s₁ r=>ZM (Zp ?_)) λ_ _ e=>e);obtain⟨v,H₁,as₁,e1,S1,k1,hv,hm,w1⟩:=r;haveI hform:methodCallForm (args.length+([]:List Keyword).length) (backTo pos (starEach args env)) (backToKw pos (keywordEach [] env))=Z5:=by refine(?_:((backTo pos (starEach args env)).all (λx=>!x.1)&&Z5&&decide (args.length+0+0<30))=Z5);exact YP (qA hs) (decide_eq_true hlt)
 haveI hpos:methodCallPos Z5 o env apos pos=pure pos:=by unfold methodCallPos;simp [hline]
 obtain⟨hC,k1',k2,k3,k4,k5,_,_,_⟩:=K;obtain⟨m1,⟨of,m2,m3⟩,⟨yB,m4⟩,fn,hf⟩:=k5 _ _ hg;have hCk:=hC.keeps S1.stays;obtain⟨nmC,qC,bs,sn,sub,col,dd,z0,z1,z2,z3,z5,hCo⟩:=hCk.obj;dsimp only [methodCall];refine YP hform ?_;haveI R1:=R.next e1 k1 S1
 obtain⟨p,hi,hnot⟩:∃p,gU H₁ v=Z p/\(!p.2.1.contains nm)=Z5:=by
  unfold iI at hm;refine eG (o:=gU H₁ v) (λhq=>?_) (λp hq=>?_)
  ·refine YP hq ?_;replace hm:=hq▸hm;cases hm
  ·rw [hq];rw [hq]at hm;exact(aG p U hm)
 obtain⟨d,ks,vs⟩:=p;obtain⟨f1,f2,f3,f4,f5,hne,hn,hl,rv,hb,hmA,hxa⟩:=vW S1 hv hi;rename_i xa dx ob cs mA;have hsh:mA (toS nm)=Z6:=by
  rw [hmA];cases e:((ks.map toS).zip cs).lookup (toS nm)with
  |none=>rfl
  |some y=>refine ao (cL (sq (ks:=ks) (cs:=cs) (m:=toS nm) (by rw [e];nofun))) ?_;intro k hk e';replace e':=jH e';cases e';haveI:ks.contains nm=Z5:=bn.mpr hk;replace hnot:=this▸hnot;cases hnot
 obtain⟨hp,gg,dr,tt,os⟩:=s₁;refine ZM (Zv (method_of hCo hCk.ns k2 k3 m1 (S1.stays _ _ m2) m3 m4 (Ins.inst f2 f3 f4 f5 hne hn) hsh ?_));refine ZM (Zd hpos ?_);refine Zi (o:=of) (fd:=c.fdat g) (Zr (hH hs R1 w1) (λar s₂ r=>?_) λ_ _ e=>e.lift e1 k1);obtain⟨hk,vs',H₂,as₂,e2,S2,k2,hvs,_,q⟩:=r;refine ao (C.fobj g fn hf) ?_;intro o' g1 g2;replace g1:=m2.symm.trans g1
 (replace g1:=ai g1;subst g1)
 refine⟨⟨S2.stays _ _ m2,g2⟩,?_⟩;exact YP hk (Zr (sc.run hf ⟨λ_=>R.a.hh hq,R.a.hd,R.a.hu⟩ (.no (R.a.hh hq)) (R1.fr.keep e2 k2).all S2 (.cons (hv.keep k2 e2) hvs) q) (λ_ _ r=>(r.lift e2 k2).lift e1 k1) λ_ _ e=>(e.lift e2 k2).lift e1 k1)
theorem Ks(C:Cok c T.gl)(sc:SC c n)(hg:T.glob g=Z (.cls ms ats f))(h:SE c n T x a)(hns:NS x)(hq:T.q=J):SE c n T (.Call (.Name g p) [x] [] pos) (.new 0 f [a]):=by
 refine⟨?_⟩;intro env A s as X H ρ Q XX R w;simp only [FN,gj]at w;simp only [jk]at w;haveI e1:=C.gl g _ (ij hg).2.1;obtain⟨hC,_,_,_,_,_,hi,⟨oI,hfI,hfc⟩,fn,hfn⟩:=C.cl g ms ats f (mem_of_lookup (ij hg).2.1);refine Zj (jq C hg R (.inl e1) ?_);refine callWith_cls hC (uU (jI hns [] env) (Zr (h.run R w) (λy s₁ r=>?_) λ_ _ e=>e)) (jI hns [] env) U;obtain⟨v,H₁,as₁,e1,S1,k1,hv,q⟩:=r;refine⟨S1.stays,?_⟩;have hCk:=hC.keeps S1.stays;obtain⟨nmC,qC,bs,sn,sub,col,dd,z0,z1,z2,z3,z5,hCo⟩:=hCk.obj;obtain⟨hp,gg,dr,tt,os⟩:=s₁;refine wpAny_call_obj_init PySem.F.objNew hCo hCk.ns hi (S1.stays _ _ hfI) hfc λh' xa dx Mk=>?_;refine dM Mk.inst ?_;intro ob hx hcx hncx hdx;have hdd:=Mk.dict ob hx;obtain⟨hnsd,hne⟩:h'.Ns1 dx (λ_=>Z6)/\dx≠xa:=by
  refine Or.elim hdx (λq_=>?_) (λq_=>?_)
  ·obtain ⟨hn0,_⟩:=q_;replace hdd:=hn0.symm.trans hdd;exact eU hdd
  ·obtain ⟨d',hd',hne',hns'⟩:=q_;try clear hdx
   cases hd'.symm.trans hdd;exact⟨hns',hne'⟩
 haveI hg1:∀b,(only h' λb=>b !=xa).get? b=if(b !=xa)=Z5 then h'.get? b else Z6:=λb=>AP b;generalize (only h' λb=>b !=xa)=h₁ at hg1;have DO:∀b,b≠xa->h₁.get? b=h'.get? b:=λb hb=>by rw [hg1,Z3 (by simpa using hb)]
 have no1:h₁.get? xa=Z6:=by rw [hg1,Z2 (by simp)]
 have g1:Grown hp h₁:=λb o e=>by refine YP (DO b λq=>by rw [q,Mk.newX]at e;cases e) ?_;exact Mk.keeps b o e
 have g2:Grown h₁ h':=λb o e=>by rw [DO b λq=>by rw [q,no1]at e;cases e]at e;exact e
 haveI Sd:=S1.alloc (s':=⟨h₁,gg,dr,tt,os⟩) (a:=dx) (o:=.ns [] []) Mk.newD g1 U U ⟨aU _,(iZ [] (λ_=>Z6) (hnsd.at λo e=>by refine YP (DO dx hne) ?_;exact e) U .nil (λ_=>rfl))⟩;haveI Sx:=Sd.alloc (s':=⟨h',gg,dr,tt,os⟩) (a:=xa) (o:=.inst 0 H₁.length) no1 g2 U U ⟨dx,ob,by refine YP (YO (S1.len)) ?_;simp,hx,hcx,hdd,hncx⟩;have E1:Ext as₁ hp (as₁++[dx]):=nz as₁ _ dx Mk.newD;haveI K1:Kept as₁ X hp h₁:=g1.kept as₁ X;haveI E2:Ext (as₁++[dx]) h₁ (as₁++[dx]++[xa]):=nz _ _ xa no1;have E3:=E1.trans K1 E2;have K3:=K1.trans E1 (g2.kept _ X:Kept (as₁++[dx]) X h₁ h');have hix:(as₁++[dx]++[xa])[H₁.length+1]? =Z xa:=by refine YP (YO (S1.len)) ?_;simp
 have fr:∃l,FrOk c (A.under (.builtin "type.__call__" ⟨.ref (c.ccls 0)::[y],[]⟩)) X (as₁++[dx]++[xa]) h' l:=by refine d5 ((R.fr.keep e1 k1).all) λl hl=>?_;exact(aG l hl.1 ((hl.keep E3 K3).2))
 haveI ack:ACk (c.qf f) (A.under (.builtin "type.__call__" ⟨.ref (c.ccls 0)::[y],[]⟩)) n:=⟨λ_=>R.a.hh hq,by
  haveI:=R.a.hr;refine(?_:A.depth+1+2*n+5<=recursionLimit);exact gQ this (by simp+arith only),by
  haveI:=R.a.hw;refine(?_:A.units+1+10*n+300<ZQ);exact gQ this (by simp+arith only)⟩
 haveI w2:aO c.P n f [.ref (H₁.length+1),v] (H₁++[.ns [] []]++[.inst 0 H₁.length]) (λv H''=>v=.none/\Q (.ref (H₁.length+1)) H'') XX:=by simp only [au];exact q
 refine Zr (sc.run hfn ack (.no (R.a.hh hq)) fr Sx (.cons (.ref hix) (.cons (hv.keep K3 E3) .nil)) w2) (λr s' q=>?_) λ_ _ e=>(e.lift E3 K3).lift e1 k1;obtain⟨z,H',as',e',S',k',hz,rfl,q⟩:=q;refine⟨hz.inv,(Res.lift E3 K3 ⟨_,H',as',e',S',k',?_,q⟩).lift e1 k1⟩;exact .ref (e'.old _ _ hix)
section
variable {c:Cx}
def Be(e:Option Expr)(k:List Char):Prop:=∃x kk p,e=Z (.Constant (.str x) kk p)/\sd x=Z k
theorem BJ(o:Option Expr):Is (G5 o) (Be o):=by
 induction o with
 |none=>exact Z0
 |some e=>exact(Ao e).bind λs h=>Is.to λ_ h2=>h.elim λk h=>h.elim λp h=>h▸(ly s k p U h2)
theorem AM(hk:A2 Be ks kcs):∀{es:List Expr} {xs:List Ex} {s:ZV} {as:d6} {H:AH} {Q:List V->AH->Prop},rL c n T es xs->ks.length=es.length->Rdy c T env A n s as X H ρ->
  iE c.P (aO c.P n) xs ρ H Q XX->ZS c.M A (evalPairs (pairTrees ks es env pos)) (λps s'=>∃ys,Carries c.kd ps ((kcs.map toS).zip ys)/\kcs.length=ys.length/\ResL c as X s.heap Q ys s') (ERes c as X s.heap XX) s:=by
 induction hk with
 |nil=>
  intro es xs s as H Q h hl R w
  induction h with
  |nil=>exact Y7 ⟨[],Z0,rfl,[],H,as,.refl ..,R.S,Kept.refl _ _ _,.nil,w⟩
  |cons _ _=>simp at hl
 |cons h₁ h₂ ih=>
  intro es xs s as H Q h hl R w
  induction h with
  |nil=>simp at hl
  |cons g₁ g₂=>
   refine lR h₁ ?_;intro x kk p q_4 hk;refine YP q_4 ?_;obtain⟨h3,h4⟩:=nX hk;simp only [gj]at w;refine Y6 (Zq ?_);haveI R1:Rdy c T env A n {s with toks:=s.toks+1} as X H ρ:=R.next (.refl ..) (Kept.refl _ _ _) (R.S.grow (.refl _) U U)
   refine Zr (g₁.1.run R1 w) (λy s₁ r=>?_) λ_ _ e=>e;obtain⟨v,H₁,as₁,e1,S1,k1,hv,w1⟩:=r;refine Zr (ih g₂ (by simpa using hl) (R1.next e1 k1 S1) w1) (λps s₂ r=>?_) λ_ _ e=>e.lift e1 k1;refine cu r ?_;intro ys hc hy p_4;obtain⟨vs,H₂,as₂,e2,S2,k2,hvs,q⟩:=p_4;refine⟨y::ys,(bu ?_ U hc),by simp [hy],v::vs,H₂,as₂,e1.trans k1 e2,S2,k1.trans e1 k2,.cons (hv.keep k2 e2) hvs,q⟩;exact YP (YO h3) (qc _ _)
theorem rM(C:Cok c gl)(S:SR c as X H s):(s.heap.objs.size==ZW)=J:=by refine lR C.g ?_;intro o es ep e _;haveI h2:=eJ (S.stays _ _ e);haveI h3:mainGlobals=3:=rfl;haveI h1:ZW=1:=rfl;exact beq_eq_false_iff_ne.mpr λq=>by rw [q]at h2;exact Z1 h2 (by decide)
theorem vz(q:iT (bj c.P mu (.d kcs) vs H) Q):(kcs.length=vs.length/\kcs.length<=15/\kcs.Nodup)/\(if mu then Q (.ref H.length) (H++[.dict kcs vs])else Q (.dct kcs vs) H):=by
 refine j4 (mh q) ?_;intro r H' e;haveI e':tF kcs vs H=Z (r,H'):=e;unfold tF at e';by_cases h:kcs.length=vs.length/\kcs.length<=15/\kcs.Nodup
 ·refine ⟨h,?_⟩;have hp:prim c.P (.d kcs) vs H=Z (.dct kcs vs,H):=Z3 h
  induction mu with
  |false=>simp only [ua,hp]at q;exact q
  |true=>unfold bj at q;rw [Z3 U,show(Prim.d kcs).fresh=Z5 from U,Z3 U,hp]at q;exact q
 ·exact eU ((Z2 h).symm.trans e')
theorem uW{a:ZZ}{mu:Bool}{s₀:ZV}{s':ZV}{as as₂:d6}{X:List ZZ}{H:AH}{Q:QE}{kcs:List (List Char)}{vs:List V}{ys:List ZX}(ha:s₀.heap.get? a=Z6)(hx:a∉X)(ho:a∉as₂)(hsm:(a==ZW)=J)(hb:c.base.get? a=Z6)
  (E:Ext as s₀.heap as₂)(K:Kept as X s₀.heap s'.heap)(S:SR c as₂ (a::X) H s')(hd:s'.heap.DictOf c.kd a ((kcs.map toS).zip ys))(hy:kcs.length=ys.length)(hv:VRs c as₂ (a::X) s'.heap vs ys)(hl:vs.length<=li)
  (q:if mu then Q (.ref H.length) (H++[.dict kcs vs])else Q (.dct kcs vs) H):Res c as X s₀.heap Q (.ref a) s':=by
 induction mu with
 |false=>have q':Q (.dct kcs vs) H:=q;exact⟨_,H,as₂,E,S.frames (λb _ _ hb q=>hb (.tail _ q)) λb hb=>S.xs b (.tail _ hb),K,.dct ho hx hsm hd hy (hv.frames λb _ _ hb q=>hb (.tail _ q)) hl,q'⟩
 |true=>have q':Q (.ref H.length) (H++[.dict kcs vs]):=q;haveI hsub:∀b∈X,b∈a::X:=λb hb=>.tail _ hb;exact⟨.ref H.length,H++[.dict kcs vs],as₂++[a],⟨λi z e=>dT (E.old i z e),bR E.new (c8 (.inr ha))⟩,S.adopt (o:=.dict kcs vs) (.head _) hb hsub hx (bu hl hsm (bQ ys hd hy (hv.adopt (.head _) hsub))),K,.ref (by exact YP (YO (S.len)) dU),q'⟩
theorem sD{ks:List (Option Expr)}{es:List Expr}{pos:Pos}{mu:Bool}{env:Env}{A:ZU}{s:ZV}{as:d6}{X:List ZZ}{H:AH}{ρ:Fm}{Q:QE}{XX:XE}(C:Cok c T.gl)(hall:ks.all (·.isSome)=Z5)(hl:ks.length=es.length)(h0:ks≠[])(h15:ks.length<=15)(R:Rdy c T env A n s as X H ρ)
  (hp:∀{s₁:ZV} {X₁:List ZZ},Rdy c T env A n s₁ as X₁ H ρ->ZS c.M A (evalPairs (pairTrees ks es env pos)) (λps s'=>∃kcs ys,Carries c.kd ps ((kcs.map toS).zip ys)/\kcs.length=ys.length/\kcs.Nodup/\ResL c as X₁ s₁.heap (λvs H'=>vs.length<=15/\if mu then Q (.ref H'.length) (H'++[.dict kcs vs])else Q (.dct kcs vs) H') ys s') (ERes c as X₁ s₁.heap XX) s₁) :
  ZS c.M A (eval (.Dict ks es pos) env) (Res c as X s.heap Q) (ERes c as X s.heap XX) s:=by
 have hX:∀b∈s.heap.objs.size::X,b∈X\/s.heap.get? b=Z6:=λb hb=>by
  refine eV hb (λe_=>?_) λh=>?_
  ·exact e_▸.inr (dK _)
  ·exact .inl h
 haveI hbase:c.base.get? s.heap.objs.size=Z6:=R.S.base_none (dK _);haveI S1:SR c as (s.heap.objs.size::X) H {s with heap:=s.heap.push {cls:=.type "dict",data:=.dict #[]}}:=R.S.opens (.push _ _) hX (λb hb=>by
  refine eV hb (λe_=>?_) λh=>?_
  ·clear hb;subst e_;exact⟨_,bf _ U⟩
  ·obtain ⟨o,e⟩:=R.S.xs b h;exact⟨o,bq _ e⟩) U U
 haveI g0:Grown s.heap (s.heap.push {cls:=.type "dict",data:=.dict #[]}):=.push _ _;refine wpAny_Dict_walk (knd:=c.kd) hall hl h0 h15 ?_;haveI R1:Rdy c T env A n _ as (s.heap.objs.size::X) H ρ:=⟨R.a,R.hx.opens g0 hX,S1,R.F.opens g0 (λb h=>.tail _ h) hX,R.K,R.len,R.fr.grow g0 λ_=>cK⟩;refine Zr (hp R1) (λps s₂ r=>?_) λ_ _ e=>(e.lift (Ext.refl as s.heap) (g0.kept as _)).less (λ_ q=>.tail _ q) λb hb=>(zZ hb).elim (λq=>.inr (.inr (q▸dK _))) .inl;clear hp S1 hX R1 hall hl h0 h15;refine kR r ?_;intro kcs ys hc hy hnd p_6;obtain⟨vs,H₂,as₂,e2,S2,k2,hvs,hl,q⟩:=p_6;refine(bQ _ hc (DictOf.same (Heap.DictOf.new _) (λo e=>k2.one (jC R.S) e (hO R.S))) (λh' hd sb=>?_));have hn:(((kcs.map toS).zip ys).map (·.1)).Nodup:=by rw [m6 (by rw [aj,hy];exact aM _)];exact mz.map _ (λa b hab e=>hab (jH e)) hnd
 simp only [merged_nil_of_nodup _ hn]at hd;clear hc hn hnd;haveI b:But [s.heap.objs.size] s₂.heap h':=λq o hq e=>(sb.2 q (by exact DO hq)).trans e;refine uW (s':={s₂ with heap:=h',toks:=_}) (dK _) (jC R.S) (e2.out (bf _ U) (hO R.S)) (rM C R.S) hbase ((Ext.refl as s.heap).trans (g0.kept as X) e2:Ext as s.heap as₂) ((((g0.kept as _).trans (.refl ..) k2).less λb hb=>(zZ hb).elim (λq=>.inr (.inr (q▸dK _))) .inl:Kept as X s.heap s₂.heap).but b (by intro a ha;replace ha:=in1 ha;subst ha;exact .inr (dK _)))
  (S2.but (s':={s₂ with heap:=h',toks:=_}) b (by simpa using hbase) (λ_ q=>q) (λa _ hz=>by replace hz:=in1 hz;subst hz;obtain⟨o,_,_,e,_⟩:=hd;exact⟨o,e⟩) U U) hd hy (hvs.keepX (b.vk as₂ (by exact c8 (.head _))) (.refl ..)) (aa hl (by decide)) q
theorem DR{ks:List (Option Expr)}{kcs:List (List Char)}{es:List Expr}{xs:List Ex}{pos:Pos}{mu:Bool}(C:Cok c T.gl)(hk:A2 Be ks kcs)(h:rL c n T es xs)(hl:ks.length=es.length)(h15:ks.length<=15) :
  SE c n T (.Dict ks es pos) (.p mu (.d kcs) xs):=by
 refine⟨?_⟩;intro env A s as X H ρ Q XX R w;simp only [iL]at w;by_cases h0:ks=[]
 ·clear h15;subst h0;cases hk
  induction h with
  |cons _ _=>cases hl
  |nil=>
   simp only [jk]at w;obtain⟨hq,q⟩:=vz w;have hX:∀b∈s.heap.objs.size::X,b∈X\/s.heap.get? b=Z6:=λb hb=>by
    refine eV hb (λe_=>?_) λh=>?_
    ·exact e_▸.inr (dK _)
    ·exact .inl h
   haveI S1:SR c as (s.heap.objs.size::X) H {s with heap:=s.heap.push {cls:=.type "dict",data:=.dict #[]}}:=R.S.opens (.push _ _) hX (λb hb=>by
    refine eV hb (λe_=>?_) λh=>?_
    ·subst e_;exact⟨_,bf _ U⟩
    ·obtain ⟨o,e⟩:=R.S.xs b h;exact⟨o,bq _ e⟩) U U
   exact wpAny_Dict_empty (uW (ys:=[]) (dK _) (jC R.S) (hO R.S) (rM C R.S) (R.S.base_none (dK _)) (.refl ..) (Grown.kept (.push _ _) as X) S1 (Heap.DictOf.new _) U .nil (aU _) q)
 ·haveI hall:ks.all (·.isSome)=Z5:=by
   clear h0 h15 hl w
   induction hk with
   |nil=>rfl
   |cons a _ ih=>obtain⟨_,_,_,rfl,_⟩:=a;exact ih
  refine sD (mu:=mu) C hall hl h0 h15 R λR1=>Zr (AM hk h hl R1 w) (λps s₂ r=>?_) λ_ _ e=>e;refine cu r ?_;intro ys hc hy p_4;obtain⟨vs,H₂,as₂,e2,S2,k2,hvs,q⟩:=p_4;replace q:=vz q
  (haveI hq:=q.1;haveI q:=q.2)
  exact⟨kcs,ys,hc,hy,hq.2.2,vs,H₂,as₂,e2,S2,k2,hvs,hq.1▸hq.2.1,q⟩
theorem zt(q:iT (bj c.P mu .mkdict1 [k,v] H) Q):∃kc,k=.str kc/\if mu then Q (.ref H.length) (H++[.dict [kc] [v]])else Q (.dct [kc] [v]) H:=by
 refine j4 (mh q) ?_;intro r H' e;refine ao (ez (e:bX _ k.txt=_)) ?_;intro kc h1 _;replace h1:=V.txt_is h1;clear e;subst h1;refine(aG kc U ?_)
 induction mu with
 |false=>exact q
 |true=>exact q
theorem Ch(C:Cok c T.gl)(hk:SE c n T ke a)(hv:SE c n T ve b):SE c n T (.Dict [Z ke] [ve] pos) (.p mu .mkdict1 [a,b]):=by
 refine⟨?_⟩;intro env A s as X H ρ Q XX R w;refine sD (mu:=mu) C U U (λh=>nomatch h) (show 1<=15 by decide) R λR1=>Y6 (Zr (hk.run R1 w) (λy s₁ r=>?_) λ_ _ e=>e);obtain⟨kv,H₁,as₁,e1,S1,k1,hkv,w1⟩:=r;refine Zr (hv.run (R1.next e1 k1 S1) w1) (λz s₂ r=>Y7 ?_) λ_ _ e=>e.lift e1 k1;obtain⟨v,H₂,as₂,e2,S2,k2,hvv,q⟩:=r;replace q:=zt q;refine ao q ?_;intro kc q_2 q1;clear w1 q;subst q_2
 induction hkv.inv
 exact⟨[kc],[z],(bu (qc _ _) U Z0),rfl,List.pairwise_singleton _ _,[v],H₂,as₂,e1.trans k1 e2,S2,k1.trans e1 k2,.cons hvv .nil,(show 1<=15 by decide),q1⟩
end
section
variable {c:Cx}
structure SO(c:Cx)(n:Nat)(T:Tb)(o:Option Expr)(ex:Ex):Prop where
 run:∀{env:Env} {A:ZU} {s:ZV} {as:d6} {X:List ZZ} {H:AH} {ρ:Fm} {Q:QE} {XX:XE},
 Rdy c T env A n s as X H ρ->cW c.P (aO c.P n) ex ρ H Q XX->ZS c.M A (evalPart o env) (Res c as X s.heap Q) (ERes c as X s.heap XX) s
theorem By(ih:∀e,Is (r e) (SE c n T e))(o:Option Expr):Is (Jq r o) (SO c n T o):=by
 induction o with
 |none=>exact⟨λR w=>ZL (Res.now R.S .none w)⟩
 |some e=>exact(ih e).imp λ_ h=>⟨λR w=>h.run R w⟩
theorem ka(n:Nat)(i:Int):((g9 n i:Nat):Int)=max 0 (min (if i<0 then i+n else i) n):=by
 unfold g9;by_cases h:i<0
 ·refine YP (Z3 h) (YP (Z3 h) ?_);by_cases h2:i+n<0
  ·exact YP (Z3 h2) ((Int.max_eq_left (bA (Int.min_le_left _ _) (fp h2))).symm)
  ·exact YP (Z2 h2) (YP (om (j5 (fp h) (by simp+arith only))) (YP (m7 (cU.mp h2)) (YP (bP (cU.mp h2)) U)))
 ·refine YP (Z2 h) (YP (Z2 h) ?_);by_cases h2:i<n
  ·exact YP (Z3 h2) (YP (om (fp h2)) (YP (m7 (cU.mp h)) (YP (bP (cU.mp h)) U)))
  ·exact YP (Z2 h2) (YP (QX (cU.mp h2)) (YP (m7 (bp n)) U))
theorem Eo(lo hi:Option Int)(n:Nat):Builtin.Str.strSliceIndices lo hi 1 n=(aX (oZ n hi-nB n lo)).map (nB n lo+·):=by
 rw [<-sliceRange_one];haveI e1:∀a b a' b':Int,a=a'->b=b'->sliceRange a b 1=sliceRange a' b' 1:=λ_ _ _ _ h h'=>by rw [h,h']
 refine e1 _ _ _ _ ?_ ?_
 ·induction lo with
  |none=>rfl
  |some i=>exact(ka n i).symm
 ·induction hi with
  |none=>rfl
  |some i=>exact(ka n i).symm
theorem mT{α:Type}(xs:List α)(a b:Nat):(xs.drop a).take (b-a)=bE xs a b:=by unfold bE;simp only [List.drop_take]
theorem HQ(n:Nat)(o:Option Int):oZ n o<=n:=by
 induction o with
 |none=>exact aM _
 |some i=>exact b7.mp (bA (kN (ka n i)) (Int.max_le.mpr ⟨bp n,Int.min_le_right _ _⟩))
set_option tactic.hygienic true in
theorem sj(xs:List Char)(lo hi:Option Int):Txt.slice (toS xs) lo hi=toS (bE xs (nB xs.length lo) (oZ xs.length hi)):=by
 unfold Txt.slice;rw [eW,Eo,Y5];haveI e:(toS xs).cps.toList=xs.map Char.toNat:=by rfl
 haveI hh:=HQ xs.length hi;split
 ·rename_i h;rw [BEq.rfl,gR,aj,aZ,beq_iff_eq]at h;by_cases h0:xs.length=0
  ·have:xs=[]:=iY.mp h0;refine YP this ?_;simp [bE]
  ·have h1:=Nat.eq_zero_of_not_pos λhp=>dk (bl (Nat.sub_lt (eC λz=>h0 (h.symm.trans ((Z4 (·-_) z).trans (Nat.zero_sub _)))) hp) hh) h;haveI h2:=(n8 _).symm.trans ((Z4 (oZ xs.length hi-·) h1).symm.trans h);simp only [h1,h2,bE,gy];rfl
 ·simp only [e,mT];unfold toS;simp [bE,List.map_take,q7]
theorem wW(items:Array ZX)(lo hi:Option Int):(slicePick items lo hi Z6).toList=bE items.toList (nB items.size lo) (oZ items.size hi):=by
 dsimp only [slicePick];have e1:(sliceBounds lo hi Z6 items.size).1=((nB items.size lo):Int):=by
  induction lo with
  |none=>rfl
  |some i=>exact(ka _ i).symm
 haveI e2:(sliceBounds lo hi Z6 items.size).2.1=((oZ items.size hi):Int):=by
  clear e1;induction hi with
  |none=>rfl
  |some i=>exact(ka _ i).symm
 simp only [e1,e2,show(sliceBounds lo hi Z6 items.size).2.2=1 from U,sliceRange_one,Y5,mT]
theorem VRs.slice(r:VRs c as X h vs cs)(a b:Nat):VRs c as X h (bE vs a b) (bE cs a b):=(r.take b).drop a
theorem ya(hv:VR c as X h v y)(e:gA v=Z o):IsPart y o/\∃l:Option (Int×Tok),y=partValue l/\l.map (·.1)=o:=by
 refine Is.of (R:=λo=>IsPart y o/\∃l:Option (Int×Tok),y=partValue l/\l.map (·.1)=o) ?_ e;clear e;cases v with
 |none=>cases hv.inv;exact⟨.none,(aG Z6 U U)⟩
 |int _=>induction hv.inv;exact⟨.int _ _,(aG (Z (_,_)) U U)⟩
 |_=>exact Z0
section
variable {lo hi:Option Int}
noncomputable abbrev nc(yl yu:ZX):Obj:={cls:=.type "slice",data:=.fields #[yl,yu,.none]}
theorem IC(hsz:t.length<=aB)(S:SR c as X H s)(hv:VR c as X s.heap (.str t) y)(pl:∃l:Option (Int×Tok),yl=partValue l/\l.map (·.1)=lo)(pu:∃l:Option (Int×Tok),yu=partValue l/\l.map (·.1)=hi)
  (q:Q (.str (bE t (nB t.length lo) (oZ t.length hi))) H):ItemOn c.M A E y (.ref s.heap.objs.size) (Res c as X s.heap Q) {s with heap:=s.heap.push (nc yl yu)}:=by
 refine ao pl λl q_2 q_3=>?_;clear pl;subst q_2;subst q_3;refine ao pu λu q_2 q_3=>?_;clear pu;subst q_2;subst q_3
 induction hv.inv with
 |str tk hb=>
  refine(eK ("str") _ F.slot_str_getitem.lookup (Zy _ _ _) (wpAny_getItem_str_slice (st:=Z6) (bQ _ (bf _ U) U U) U ?_));haveI hl:(bE t (nB t.length (l.map (·.1))) (oZ t.length (u.map (·.1)))).length<=t.length:=by exact YP dg (YP dh (aa (dy _ _) (fE _ _)))
  have fin:∀t' k,Res c as X s.heap Q (.str (Txt.slice (toS t) (l.map (·.1)) (u.map (·.1))) t') {s with heap:=s.heap.push (nc (partValue l) (partValue u)),toks:=k}:=λt' k=>by rw [sj];exact Res.grow S (.push _ _) U U (.str _ _ (gQ hb (gQ hl (by simp+arith only)))) q
  refine post_val_or_str ⟨?_,λt' k=>fin t' k⟩;show(Txt.slice (toS t) (l.map (·.1)) (u.map (·.1))).length<=ZT;rw [sj,eW];have:=cO;exact gQ hsz (gQ hl (gQ this (by simp+arith only)))
theorem Ap{mu:Bool}{o:Obj}{items:Array ZX}(S:SR c as X H s)(hr:VRs c as X s.heap vs items.toList)(hb:vs.length<=li)(q:iT (if mu then kF (.lst vs) H else Z (.lst vs,H)) Q):Res c as X s.heap Q (.ref (s.heap.push o).objs.size) {s with heap:=(s.heap.push o).push {cls:=.type "list",data:=.seq items}}:=by
 haveI g:Grown s.heap ((s.heap.push o).push {cls:=.type "list",data:=.seq items}):=(Grown.push _ _).trans (Grown.push _ _);haveI hn:s.heap.get? (s.heap.push o).objs.size=Z6:=by
  cases e:s.heap.get? (s.heap.push o).objs.size with
  |none=>rfl
  |some _=>exact Z1 (eJ e) (by rw [Heap.size_push];exact hV.mpr (bh _))
 haveI f:FreshL c as X s vs (.ref (s.heap.push o).objs.size) {s with heap:=(s.heap.push o).push {cls:=.type "list",data:=.seq items}}:=.mk _ items U hn (S.base_none hn) g U U ⟨_,bf _ U⟩ hr hb
 induction mu with
 |false=>exact f.frozen S q
 |true=>exact f.thawed S q
theorem MF{α β:Type}{f g:α->Option β}{l:List α}(h:∀k∈l,f k=g k):l.filterMap f=l.filterMap g:=by
 induction l with
 |nil=>rfl
 |cons a l ih=>simp only [iB,iB,h a (.head _),ih λk hk=>h k (.tail _ hk)]
theorem Ie{t sl:ZZ}{items out:Array ZX}{lo step:Int}{m:Nat}{R:ZX->ZV->Prop}(ht:IsTup s.heap t items)(hs:s.TypeIs (.ref sl) "slice")
  (hap:∀(A:ZU) (Q:Int×Int×Nat->ZV->Prop),Q (lo,step,m) s->ZS c.M A (z8 (.ref sl) (pure (items.size:Int))) Q E s)
  (ho:((aX m).filterMap λ(k:Nat)=>items[(lo+(k:Int)*step).toNat]?).toArray=out)(hz:out.size<=ZT)
  (h1:(lo==0&&step==1&&m==items.size)=Z5->R (.ref t) s)
  (h2:R (.ref s.heap.objs.size) {s with heap:=s.heap.push {cls:=.type "tuple",data:=.seq out}}):ZS c.M A (getItem (.ref t) (.ref sl)) R E s:=by
 unfold getItem
 try with_reducible refine Zv ?_
 first|refine ZM (ZL ?_)|skip
 refine ZM (Zu ht.typeIs (by decide) ?_);refine ZM (wpAny_callSpecial?_slot ht.typeIs Y4
  (Zt Y4 ht.typeIs entry_tuple_getitem ?_ (args_tuple_getitem _ _)))
 show ZS _ _ (Builtin.Tuple.tupleItemsOf (.ref t)>>= _) _ _ s;refine ZM (tupleItemsOf_ ht ?_);refine ZM (Zs hs ?_);refine YP (Z3 (by decide)) (ZM (hap _ _ ?_));show ZS _ _ (if(lo==0&&step==1&&m==items.size)=Z5 then _ else _) _ _ s;by_cases hw:(lo==0&&step==1&&m==items.size)=Z5
 ·refine YP (Z3 hw) (ZM (ZM (Zs ht.typeIs (ZL ?_))));refine YP (Z3 (by decide)) ?_
  first
   |exact ZM (Ze (ZL (aG _ U (ZL (h1 hw)))))
   |exact ZM (Ze (ZM (ZL (ZL ⟨_,rfl,ZL (h1 hw)⟩))))
 ·refine YP (Z2 hw) (YP ho ?_)
  first
   |exact ZM (ZK (ZL (aG _ U (ZL h2))) hz)
   |exact ZM (ZK (ZM (ZL (ZL ⟨_,rfl,ZL h2⟩))) hz)
   |exact ZM (ZM (ZK (ZL (ZL ⟨_,rfl,ZL h2⟩)) hz))
   |exact ZM (ZM (ZK (ZL ⟨_,rfl,ZL h2⟩) hz))
theorem pW{v:ZX}{o:Option Int}{R:Option Int->ZV->Prop}(p:IsPart v o)(h:R o s):ZS c.M A (Builtin.Slice.slicePartIndex v) R E s:=by
 induction p with
 |none=>exact slicePart_none h
 |int i t=>exact slicePart_int h
theorem EL{sl:ZZ}{va vb vc:ZX}{a b st:Option Int}{len lo hi:Int}{m:Nat}{R:Int×Int×Nat->ZV->Prop}(hs:s.heap.IsSliceOf sl va vb vc)(pa:IsPart va a)(pb:IsPart vb b)(pc:IsPart vc st)(h0:(st.getD 1==0)=J)
  (ha:iu a b (st.getD 1) len=(lo,hi))(hm:fO lo hi (st.getD 1)=m)(h:R (lo,st.getD 1,m) s) :
  ZS c.M A (z8 (.ref sl) (pure len)) R E s:=by
 obtain⟨os,hos,hcs,hds⟩:=id hs;refine ZM (ZM (ZI hos hds (x:=va) U (ZM (ZI hos hds (x:=vb) U (ZM (ZI hos hds (x:=vc) U (ZL ?_)))))));refine ZM (pW pc ?_);show ZS _ _ (if(st.getD 1==0)=Z5 then _ else _) _ _ s;refine YP h0 (YP (Z2 (by decide)) (ZM (pW pa (ZM (pW pb (ZM (ZL ?_)))))));show ZS _ _ (match iu a b (st.getD 1) len with|(lo,hi)=>pure (lo,st.getD 1,fO lo hi (st.getD 1))) _ _ s;refine YP ha ?_;show ZS _ _ (pure (lo,st.getD 1,fO lo hi (st.getD 1))) _ _ s;exact YP hm (ZL h)
theorem uM(n:Nat)(lo hi:Option Int):iu lo hi 1 (n:Int)=(((nB n lo:Nat):Int),((oZ n hi:Nat):Int)):=by
 unfold iu;have c1:∀i:Int,(if i<0 then max (i+n) 0 else min i n)=((g9 n i):Int):=λi=>by
  rw [ka];by_cases h:i<0
  ·rw [Z3 h,Z3 h,om (j5 (fp h) (by simp+arith only)),Int.max_comm]
  ·rw [Z2 h,Z2 h];exact(m7 (Int.le_min.mpr ⟨cU.mp h,bp n⟩)).symm
 induction lo<;>induction hi<;>simp only [show ¬((1:Int)<0) by decide,if_false,c1,nB,oZ]<;>rfl
theorem tU(a b:Nat):fO (a:Int) (b:Int) 1=b-a:=by
 unfold fO;simp only [show 1>0 by decide,if_true,Gu];by_cases h:(a:Int)<b
 ·rw [Z3 h,NY];exact Int.toNat_sub b a
 ·exact YP (Z2 h) ((HL (b7.mp (cU.mp h))).symm)
theorem JF(hsz:t.length<=aB)(S:SR c as X H s)(hv:VR c as X s.heap (.tup t) y)(pl:IsPart yl lo)(pu:IsPart yu hi)
  (q:Q (.tup (bE t (nB t.length lo) (oZ t.length hi))) H):ItemOn c.M A E y (.ref s.heap.objs.size) (Res c as X s.heap Q) {s with heap:=s.heap.push (nc yl yu)}:=by
 induction hv.inv with
 |@tup addr items nn t1 t2 t3 rr t5=>
  have hl:=rr.len_arr;have z1:=cO;have ht:IsTup (s.heap.push (nc yl yu)) addr items:=(bQ _ (bq _ t3) U ⟨_,rfl⟩);have S1:SR c as X H {s with heap:=s.heap.push (nc yl yu)}:=S.grow (.push _ _) U U;have hpick:((aX (oZ items.size hi-nB items.size lo)).filterMap λ(k:Nat)=>items[(((nB items.size lo):Int)+k*1).toNat]?)=bE items.toList (nB items.size lo) (oZ items.size hi):=by rw [<-mT,<-Y5,rI];refine Z4 (λf=>List.filterMap f _) (funext λk=>?_);show items[(((nB items.size lo):Int)+k*1).toNat]? =items[nB items.size lo+k]?;rw [show(((nB items.size lo):Int)+k*1).toNat=nB items.size lo+k by rw [vJ];rfl]
  have hlen:(bE items.toList (nB items.size lo) (oZ items.size hi)).length<=items.size:=by unfold bE;rw [dg,dh,bU];exact aa (dy _ _) (fE _ _)
  refine(eK ("tuple") _ slot_tuple_getitem.lookup ht.typeIs (Ie (step:=1) ht (aG _ (bf _ U) U) (λA' Q' h=>EL (rJ ..) pl pu .none U (uM _ _ _) (tU _ _) h) (by rw [hpick]) (by rw [i9];omega) (λhw=>?_) ?_))
  ·simp only [dP,beq_iff_eq]at hw;obtain⟨⟨hw1,_⟩,hw2⟩:=hw;have h1:=hl▸dX hw1;have h2:=hl▸(n8 _).symm.trans ((Z4 (oZ items.size hi-·) (dX hw1)).symm.trans hw2);rw [h1,h2,bE,gy]at q;exact Res.grow S (.push _ _) U U (.tup t1 t2 (bq _ t3) (rr.grow (.push _ _)) t5) q
  ·have g:Grown s.heap ((s.heap.push (nc yl yu)).push {cls:=.type "tuple",data:=.seq (bE items.toList (nB items.size lo) (oZ items.size hi)).toArray}):=(Grown.push _ _).trans (Grown.push _ _);have hr:VRs c as X s.heap (bE t (nB t.length lo) (oZ t.length hi)) (bE items.toList (nB items.size lo) (oZ items.size hi)):=by rw [hl];exact rr.slice _ _
   have hlen2:(bE t (nB t.length lo) (oZ t.length hi)).length<=t.length:=by unfold bE;rw [dg,dh];exact aa (dy _ _) (fE _ _)
   exact Res.grow S g U U (.tup (hO S1) (jC S1) (bf _ U) (hr.grow g) (aa hlen2 t5)) q
theorem Cj(items:Array ZX):(slicePick items Z6 Z6 (Z (-1))).toList=items.toList.reverse:=by
 haveI e:sliceRange (items.size-1) (-1) (-1)=(aX items.size).map λk=>items.size-1-k:=by
  haveI h:(if(items.size:Int)-1>-1 then((items.size:Int)-1 - -1 - -1-1)/(- -1)else 0).toNat=items.size:=by
   rw [show(- -1)=1 from U,Gu];by_cases h:(items.size:Int)-1>-1
   ·rw [Z3 h];exact Z4 vD (by simp+arith only:((items.size:Int)-1 - -1 - -1-1)=items.size)
   ·rw [Z2 h];exact(Nat.le_zero.mp (b7.mp (show(items.size:Int)<=0 from j5 (cU.mp h) (by simp+arith only)))).symm
  refine(?_:(aX (if(items.size:Int)-1>-1 then((items.size:Int)-1 - -1 - -1-1)/(- -1)else 0).toNat).map _=_);rw [h];exact cR λk hk=>by simp only [Int.neg_mul,Int.one_mul];exact Z4 vD (C9 (jK hk))
 refine(?_:((sliceRange (items.size-1) (-1) (-1)).filterMap (items[·]?))=_);simp only [e,rI];haveI z:=Y5 items.toList.reverse.toArray 0 items.size;rw [rI]at z;rw [show items.toList.reverse=(items.toList.reverse.drop 0).take items.size from by rw [z9,gM];simp only [cC,bU];exact aM _];refine Eq.trans (MF λk hk=>?_) z;haveI hk:=jK hk;refine(?_:items[items.size-1-k]? =items.toList.reverse.toArray[0+k]?);rw [fw,show items.toList.reverse.toArray[k]? =items.toList.reverse[k]? from List.getElem?_toArray,HK hk,bU,cb]
theorem Ec{mu:Bool}(S:SR c as X H s)(hv:VR c as X s.heap v y)(pl:IsPart yl lo)(pu:IsPart yu hi)(e:((view H v).bind λt=>if t.length<=aB then Z (V.lst (bE t (nB t.length lo) (oZ t.length hi)))else Z6)=Z r)
  (q:iT (if mu then kF r H else Z (r,H)) Q):ItemOn c.M A E y (.ref s.heap.objs.size) (Res c as X s.heap Q) {s with heap:=s.heap.push (nc yl yu)}:=by
 refine ao (cm e) λvs hvs e=>(dq (eS e) λhz e=>?_)
 (replace e:=ai e;subst e)
 obtain⟨a,items,rfl,hp,rr,hs,_⟩:=eY S hv hvs;haveI hl:=rr.len_arr;haveI hz2:=cO;haveI hp':(s.heap.push (nc yl yu)).IsList a items:=hp.isList.imp λ_ q=>⟨bq _ q.1,q.2⟩;refine(eK ("list") _ slot_list_getitem.lookup hp'.typeIs (Y3 hp' (rJ ..) pl pu .none (by decide) ?_ (gQ hz (gQ (ak hl) (gQ hz2 (by simp+arith only))))));exact Ap S ((wW ..).symm▸hl.symm▸rr.slice _ _) (aa (aa (ak dg) (aa (dy _ _) (List.length_take_le' _ _))) hs) q
theorem AJ(S:SR c as X H s)(hv:VR c as X s.heap v y)(e:((view H v).bind λt=>if t.length<=aB then Z (V.lst t.reverse,H)else Z6)=Z (r,H₁))
  (q:Q r H₁):ItemOn c.M A E y (.ref s.heap.objs.size) (Res c as X s.heap Q) {s with heap:=s.heap.push {cls:=.type "slice",data:=.fields #[.none,.none,.int (-1) tk]}}:=by
 refine ao (cm e) λvs hvs e=>(dq (eS e) λhz e=>?_)
 (obtain⟨rfl,rfl⟩:=qI e;clear e)
 obtain⟨a,items,rfl,hp,rr,hs,_⟩:=eY S hv hvs;haveI hl:=rr.len_arr;haveI hz2:=cO;haveI hp':(s.heap.push {cls:=.type "slice",data:=.fields #[.none,.none,.int (-1) tk]}).IsList a items:=hp.isList.imp λ_ q=>⟨bq _ q.1,q.2⟩;refine(eK ("list") _ slot_list_getitem.lookup hp'.typeIs (Y3 hp' (rJ ..) .none .none (.int _ _) (by decide) ?_ (gQ hz (gQ (ak hl) (gQ hz2 (by simp+arith only))))));exact Ap (mu:=J) S ((Cj ..).symm▸rr.reverse) (aa (ak cC) hs) q
end
theorem slM(q:iT (bj c.P mu .slice [v,vl,vu] H) Q):∃lo hi r,gA vl=Z lo/\gA vu=Z hi/\sL H v lo hi=Z r/\iT (if mu then kF r H else Z (r,H)) Q:=by
 have k:∀{z:V×AH},vT [v,vl,vu] H=Z z->iT (if mu then kF z.1 z.2 else Z z) Q->∃lo hi r,gA vl=Z lo/\gA vu=Z hi/\sL H v lo hi=Z r/\iT (if mu then kF r H else Z (r,H)) Q:=λ{z} e q=>ao (cm e) λlo h1 e=>ao (cm e) λhi h2 e=>ao (ez e) λr h3 e=>(yz lo hi r h1 h2 h3 (by subst e;exact q))
 induction mu with
 |false=>exact di (cY q) λr H' e q=>k e q
 |true=>exact di (cY (show iT ((vT [v,vl,vu] H).bind λr=>kF r.1 r.2) Q from q)) λr H' e q=>ao (cm e) λz e e2=>k e (by show iT (kF z.1 z.2) Q;exact(e2).symm▸q)
theorem Dv{ve:Expr}{q p:Pos}{lo hi:Option Expr}{mu:Bool}(h₁:SE c n T ve a)(h₂:SO c n T lo b)(h₃:SO c n T hi d):SE c n T (.Subscript ve (.Slice lo hi Z6 q) p) (.p mu .slice [a,b,d]):=by
 refine⟨?_⟩;intro env A s as X H ρ Q XX R w;refine Zg (Zr (h₁.run R w) (λy s₁ r=>?_) λ_ _ e=>e);obtain⟨v,H₁,as₁,e1,S1,k1,hv,w1⟩:=r;haveI R1:=R.next e1 k1 S1
 refine wpAny_Slice (Zr (h₂.run R1 w1) (λyl s₂ r=>?_) λ_ _ e=>e.lift e1 k1);obtain⟨vl,H₂,as₂,e2,S2,k2,hvl,w2⟩:=r;refine Zr (h₃.run (R1.next e2 k2 S2) w2) (λyu s₃ r=>?_) λ_ _ e=>(e.lift e2 k2).lift e1 k1;obtain⟨vu,H₃,as₃,e3,S3,k3,hvu,w3⟩:=r;refine ZL ?_;have hv3:=(hv.keep k2 e2).keep k3 e3;haveI hvl3:=hvl.keep k3 e3;obtain⟨lo',hi',r,hlo,hhi,er,q'⟩:=slM w3;clear w3 w2 w1 w hvl hv S2 S1 R1 R h₁ h₂ h₃;refine dq (ya hvl3 hlo) λpl1 pl2=>?_;obtain⟨pu1,pu2⟩:=ya hvu hhi;haveI fin:ItemOn c.M A (ERes c as X s.heap XX) y (.ref s₃.heap.objs.size) (Res c as₃ X s₃.heap Q) {s₃ with heap:=s₃.heap.push (nc yl yu)}:=by
  cases v with
  |str t=>
   obtain⟨hz,e'⟩:=eS er
   (replace e':=ai e';subst e')
   induction mu with
   |false=>exact IC hz S3 hv3 pl2 pu2 q'
   |true=>exact q'.elim
  |tup t=>
   obtain⟨hz,e'⟩:=eS er
   (replace e':=ai e';subst e')
   induction mu with
   |false=>exact JF hz S3 hv3 pl1 pu1 q'
   |true=>exact q'.elim
  |_=>exact Ec S3 hv3 pl1 pu1 er q'
 refine dG fin λT' id f1 f2 f3=>?_;exact Zz f2 f1 (Zr f3 (λ_ _ z=>(λz=>((z.lift e3 k3).lift e2 k2).lift e1 k1) z) λ_ _ z=>z) U
theorem J9(h₁:SE c n T ve a)(h₂:SE c n T e b):SE c n T (.Subscript ve (.Slice Z6 Z6 (Z e) q) p) (.p J .rev [a,b]):=by
 refine⟨?_⟩;intro env A s as X H ρ Q XX R w;refine Zg (Zr (h₁.run R w) (λy s₁ r=>?_) λ_ _ e=>e);obtain⟨v,H₁,as₁,e1,S1,k1,hv,w1⟩:=r;refine wpAny_Slice (ZL (ZL (Zr (h₂.run (R.next e1 k1 S1) w1) (λyt s₂ r=>?_) λ_ _ e=>e.lift e1 k1)));obtain⟨vt,H₂,as₂,e2,S2,k2,hvt,w2⟩:=r;refine di (cY w2) λr H' e q'=>?_;refine ao (cm e) λi hi e=>?_
 (refine dq (eS e) λe_0 e=>?_;subst e_0)
 haveI ei:=V.num_is hi;clear w2 hi;subst ei
 induction hvt.inv with
 |int tk=>exact dG (AJ (A:=A) (E:=ERes c as X s.heap XX) (tk:=tk) S2 (hv.keep k2 e2) e q') λT' id f1 f2 f3=>(Zz f2 f1 (Zr f3 (λ_ _ z=>(z.lift e2 k2).lift e1 k1) λ_ _ z=>z) U)
end
structure EOk(c:Cx)(n:Nat)(T:Tb)(e:Expr)(ex:Ex):Prop where
 se:SE c n T e ex
 st:ST c n T e ex
 ns:NS e
 nset:sZ e
theorem ma(h:sZ e):behindInMarks op e=J:=by
 cases e with
 |Set a k p=>exact Z1 h.symm ae
 |_=>rfl
theorem A2.imp{α β:Type}{R R':α->β->Prop}(hi:∀a b,R a b->R' a b){l:List α}{m:List β}(h:A2 R l m):A2 R' l m:=by
 induction h with
 |nil=>exact .nil
 |cons x _ ih=>exact .cons (hi _ _ x) ih
theorem nN{α β:Type}{f:α->Option β}{R:α->β->Prop}(hf:∀a,Is (f a) (R a))(l:List α):Is (kD f l) (A2 R l):=by
 induction l with
 |nil=>exact A2.nil
 |cons a l ih=>exact(hf a).bind λ_ h1=>ih.map λ_ h2=>A2.cons h1 h2
inductive IsiR:Gl->Prim->Prop
 |ty {tn:String} {t:Ty}:EB tn=Z t->IsiR (.ty tn) (.s t)
 |x {g:Gl} {j:Option Nat}:(g=.ty "ValueError"/\j=Z6)\/(∃i,g=.exc i/\j=Z i)->IsiR g (.isX j)
abbrev EI(c:Cx)(n:Nat)(T:Tb)(r:Expr->Option Ex):Prop:=∀e,Is (r e) (EOk c n T e)
section
variable (ih:EI c n T r)
include ih
theorem Kc(v sl:Expr):Is (LU r mu v sl) (SE c n T (.Subscript v sl p)):=by
 have F:th sl=J->Is ((r v).bind λa=>(r sl).map λb=>Ex.p J .i [a,b]) (SE c n T (.Subscript v sl p)):=λhs=>(ih v).bind λ_ h1=>(ih sl).map λ_ h2=>Ef hs h1.se h2.se;cases sl with
 |Slice lo hi st q=>
  clear F;induction st with
  |none=>exact(ih v).bind λ_ h1=>(By (λe=>(ih e).imp λ_ q=>q.se) lo).bind λ_ h2=>(By (λe=>(ih e).imp λ_ q=>q.se) hi).map λ_ h3=>Dv h1.se h2 h3
  |some e=>
   induction lo with
   |some _=>exact Z0
   |none=>
    induction hi with
    |some _=>exact Z0
    |none=>exact(ih v).bind λ_ h1=>(ih e).map λ_ h2=>J9 h1.se h2.se
 |_=>exact F U
theorem jE(es:List Expr):Is (kD r es) (rL c n T es):=nN (λe=>(ih e).imp λ_ q=>⟨q.se,q.ns⟩) es
omit ih in
theorem Jj(g:Gl):Is (L4 g) (IsiR g):=by
 induction g with
 |ty tn=>exact Is.ite2 (λe=>.x (.inl ⟨Z4 Gl.ty e,rfl⟩)) λ_=>Is.self.map λ_ h=>.ty h
 |exc j=>exact .x (.inr (aG j U U))
 |_=>exact Z0
theorem Fq(C:Cok c T.gl)(sc:SC c n)(hf:∀x f b,T.gl.lookup x=Z (.fn f b)->∃fn,c.P.fns f=Z fn)
  (h1:T.glob g=Z gv):Is (cGl r T args pos gv) (SE c n T (.Call (.Name g p) args [] pos)):=by
 induction gv with
 |fn i b=>exact Is.nite λhb=>(jE ih args).map λ_ h2=>EP C sc h1 hb (hf _ _ _ (ij h1).2.1) h2
 |bi b=>
  refine Is.ite2 (λhb=>?_) λ_=>Is.self.bind λ_ h2=>Is.nite λhq=>(jE ih args).map λ_ h3=>zi C h1 h3 h2 hq;subst hb;rcases args with _|⟨x,_|⟨y,_|_⟩⟩
  ·exact Z0
  ·exact Z0
  ·refine (o0 y).bind λt hy=>Is.self.bind λg2 h2=>(Jj g2).bind λpr hp=>(ih x).map λ_ h3=>?_;obtain⟨_,rfl⟩:=hy
   induction hp with
   |ty h5=>exact zG C h1 h2 h5 h3.se h3.ns
   |x h5=>exact Ix C h1 h2 h5 h3.se h3.ns
  ·exact Z0
 |ty t=>exact Is.self.bind λ_ h2=>Is.nite λhq=>(jE ih args).map λ_ h3=>zr C h1 h3 h2 hq
 |cls ms ats f=>
  refine Is.nite λhq=>?_;rcases args with _|⟨x,_|_⟩
  ·exact Z0
  ·exact (ih x).map λ_ h3=>Ks C sc h1 h3.se h3.ns hq
  ·exact Z0
 |_=>exact Z0
inductive AttrR(c:Cx)(n:Nat)(T:Tb)(o:Expr):Str->Ex×List Char->Prop
 |mk {x:Str} {ms:List (Str×Nat)} {ats:List Str} {f:Nat} {a:Ex} {nm:List Char}:(x,Gl.cls ms ats f)∈T.gl->toS nm∈ats->jN o=Z5->EOk c n T o a->AttrR c n T o (toS nm) (a,nm)
theorem tX(o:Expr)(name:Str):Is (B3 r T o name) (AttrR c n T o name):=
 Is.ite λhok=>(AF T.gl).bind λ_ h2=>Is.ite λhin=>Is.self.bind λnm h5=>(ih o).map λ_ h7=>by obtain⟨x,hx⟩:=h2;have e:=(nX h5).1;clear h5;subst e;exact .mk hx (bn.mp hin) hok h7
theorem EQ(C:Cok c T.gl)(sc:SC c n)(hf:∀x f b,T.gl.lookup x=Z (.fn f b)->∃fn,c.P.fns f=Z fn):Is (GL r T f args kws pos) (SE c n T (.Call f args kws pos)):=by
 induction kws with
 |cons _ _=>exact Z0
 |nil=>
  cases f with
  |Name g p=>exact Is.self.bind λ_ h1=>Fq ih C sc hf h1
  |Attribute o name apos=>
   refine Is.ite λhc=>Is.ite2 (λ_=>?_) λ_=>?_
   ·exact Is.self.bind λ_ h1=>(ih o).bind λ_ h2=>(jE ih args).map λ_ h3=>uk hc.1 hc.2 h2.se h3 h1 λq=>(cP q).2
   ·refine Is.nite λhq=>Is.ite λhlt=>(AF T.gl).bind λ_ h2=>Is.self.bind λ_ h4=>Is.self.bind λ_ h6=>(ih o).bind λ_ h8=>(jE ih args).map λ_ h10=>?_;refine d5 h2 λx hx=>?_;replace h6:=(nX h6).1;subst h6;exact Fj (C.cl x _ _ _ hx) C sc h4 hc.1 hc.2 hlt h8.se h10 hq
  |_=>exact Z0
theorem JG(l:List Expr):Is (LK r l) λq=>(l=[]/\q=Z6)\/∃t x,l=[t]/\q=Z x/\ST c n T t x:=by
 rcases l with _|⟨t,_|_⟩
 ·exact .inl ⟨rfl,rfl⟩
 ·exact Is.map (o:=(r t)) (ih t) λx h1=>.inr (eK t x U U h1.st)
 ·exact Z0
theorem IA:Is (L7 r l ops rs) λex=>SE c n T (.Compare l ops rs p) ex/\ST c n T (.Compare l ops rs p) ex:=by
 rcases ops with _|⟨op,_|⟨o₂,_|_⟩⟩
 ·exact Z0
 ·rcases rs with _|⟨x,_|_⟩
  ·exact Z0
  ·exact (ih l).bind λ_ h1=>(ih x).map λ_ h2=>⟨Kl (ma h2.nset) h1.se h2.se,Kt (ma h2.nset) h1.se h2.se⟩
  ·exact Z0
 ·rcases rs with _|⟨m,_|⟨x,_|_⟩⟩
  ·exact Z0
  ·exact Z0
  ·exact (ih l).bind λ_ h1=>(ih m).bind λ_ h2=>(ih x).map λ_ h3=>⟨F7 (ma h3.nset) h1.se h2.se h3.se,D1 (ma h3.nset) h1.se h2.se h3.se⟩
  ·exact Z0
 ·exact Z0
end
inductive CompR(c:Cx)(n:Nat)(T:Tb)(elt:Expr)(scope:Scope):List Comprehension->Ex->Prop
 |mk {x:Str} {px:Pos} {iter:Expr} {ifs:List Expr} {b i:Ex} {cond:Option Ex} {mu:Bool}:CompF T x scope->sZ iter->SE c n T iter i->(T.q&& !vL i)=J->SE c n (oE T x scope) elt b->
   ((ifs=[]/\cond=Z6)\/∃t q,ifs=[t]/\cond=Z q/\ST c n (oE T x scope) t q)->CompR c n T elt scope [⟨.Name x px,iter,ifs,0⟩] (.comp mu b i cond)
theorem xz(ih:∀{T':Tb},T'.gl=T.gl->EI c n T' (cE k T')) :
  Is (HF (cE k) T elt gens scope pos) (CompR c n T elt scope gens):=by
 rcases gens with _|⟨⟨t,it,ifs,ia⟩,_|_⟩
 ·exact Z0
 ·refine (o0 t).bind λx h1=>Is.ite λhc=>(ih U it).bind λ_ h2=>Is.nite λhq=>(ih (T':=oE T x scope) U elt).bind λ_ h3=>(JG (ih (T':=oE T x scope) U) ifs).map λ_ h4=>?_;obtain⟨_,rfl⟩:=h1;obtain⟨h,hok⟩:=hc;subst h;exact .mk (NK hok) h2.nset h2.se hq h3.se h4
 ·exact Z0
theorem fh(hp:∀env whole,isTrue e env whole=(do let v <-whole;standAt e.pos;holding [v] (truthy v)))(ns:NS e)(nset:sZ e)(h:SE c n T e ex):EOk c n T e ex:=⟨h,AT hp h,ns,nset⟩
theorem vy(C:Cok c gl)(sc:SC c n)(hf:∀x f b,gl.lookup x=Z (.fn f b)->∃fn,c.P.fns f=Z fn)(k:Nat):∀{T:Tb},T.gl=gl->EI c n T (cE k T):=by
 induction k with
 |zero=>exact λ_ _=>Z0
 |succ k ih=>
  intro T hg e;subst hg;have iht:=ih U;cases e with
  |Constant a b d=>exact Is.to λ_ h=>fh (λ_ _=>rfl) U U (B6 h)
  |Name a b=>exact Is.to λ_ h=>fh (λ_ _=>rfl) U U (E8 C h)
  |BinOp l op r pos=>exact Is.self.bind λ_ h1=>(iht l).bind λ_ h2=>(iht r).bind λ_ h3=>Is.ite2 (λho=>fh (λ_ _=>rfl) U U (J3 h1 ho.1 h2.se h3.se)) λ_=>fh (λ_ _=>rfl) U U (BE h1 h2.se h3.se)
  |UnaryOp op x p=>
   refine(iht x).bind λ_ h1=>?_
   induction op with
   |Not=>exact⟨I6 h1.se,IH h1.st,rfl,rfl⟩
   |USub=>exact fh (λ_ _=>rfl) U U (JO h1.se)
   |_=>exact Z0
  |BoolOp op vs p=>exact(nN iht vs).bind λ_ q=>Is.to λ_ h2=>⟨⟨λR w=>Fa (q.imp λ_ _ x=>x.se) h2 R w⟩,⟨λhP R w=>Et (q.imp λ_ _ x=>x.st) h2 hP R w⟩,rfl,rfl⟩
  |Compare l ops rs p=>exact(IA iht).imp λ_ h=>⟨h.1,h.2,rfl,rfl⟩
  |Call f args kws pos=>exact(EQ iht C sc hf).imp λ_=>fh (λ_ _=>rfl) U U
  |Subscript v sl p=>exact(Kc iht v sl).imp λ_=>fh (λ_ _=>rfl) U U
  |List es pos=>exact(jE iht es).map λ_ h1=>fh (λ_ _=>rfl) U U (Ft h1)
  |Tuple es kk pos=>exact(jE iht es).map λ_ h1=>fh (λ_ _=>rfl) U U (JC h1)
  |Dict ks vs p=>
   refine Is.imp (R:=SE c n T (.Dict ks vs p)) (Is.ite2 (λ_=>Is.ite λhc=>(nN BJ ks).bind λ_ h1=>(jE iht vs).map λ_ h2=>DR C h1 h2 hc.1 hc.2) λ_=>?_) λ_=>fh (λ_ _=>rfl) U U;rcases ks with _|⟨_|ke,_|_⟩
   ·exact Z0
   ·exact Z0
   ·exact Z0
   ·rcases vs with _|⟨ve,_|_⟩
    ·exact Z0
    ·exact (iht ke).bind λ_ h1=>(iht ve).map λ_ h2=>Ch C h1.se h2.se
    ·exact Z0
   ·exact Z0
  |ListComp elt gens scope pos=>exact(xz ih).imp λ_ h=>by induction h with|mk ok hns hi hq he hc=>exact fh (λ_ _=>rfl) U U (DS ok hns hi hq he hc)
  |Attribute o name pos=>exact(tX iht o name).map λ_ h=>by induction h with|mk hx hat hok h1=>exact fh (λ_ _=>rfl) U U (FC (C.cl _ _ _ _ hx) hat hok h1.se)
  |_=>exact Z0
noncomputable abbrev own(env:Env):List ZZ:=env.locals::env.cells.map (·.2)
noncomputable abbrev jT(env:Env):List ZZ:=env.locals::own env
theorem FR.away'(_F:FR c as X h env tab ρ)(ha:a∉own env):vR [a] env tab:=
 ⟨λq=>ha (by replace q:=in1 q;subst q;exact .head _),λx i h1 h2 b e q=>ha (by replace q:=in1 q;clear ha;subst q;exact .tail _ (cQ.mpr (aG (x,b) (mem_of_lookup e) U)))⟩
def ResS(c:Cx)(as:d6)(X:List ZZ)(h:HP)(T:Tb)(env:Env)(K:KS)(R:QE)(f:Flow)(s':ZV):Prop:=
 match f with
 |.next=>∃ρ' H' as',Ext as h as'/\SR c as' X H' s'/\KeptX as X (own env) h s'.heap/\FR c as' X s'.heap env T.tab ρ'/\ρ'.length=T.n/\K ρ' H'
 |.ret x=>∃v H' as',Ext as h as'/\SR c as' X H' s'/\KeptX as X (own env) h s'.heap/\VR c as' X s'.heap v x/\R v H'
 |_=>False
inductive EResS(c:Cx)(as:d6)(X:List ZZ)(h:HP)(env:Env)(XX:XE)(x:ZX)(s':ZV):Prop
 |mk (k:Nat) (H':AH) (as':d6) (e:ZZ) (t:Option ZZ) (ts:List ZZ):x=.ref e->Ext as h as'->SR c as' (e::(ts++X)) H' s'->KeptX as X (own env) h s'.heap->ExcS s'.heap e (.ref (c.xcls k)) t->(∀T,t=Z T->T∈ts)->(∀a∈e::ts,y8 c as h as' X a)->(∃m,s'.heap.Ns env.locals m)->XX k H'->EResS c as X h env XX x s'
structure Own(A:ZU)(X:List ZZ)(env:Env):Prop where
 mem:∀b∈own env,b∈X
 fr:env.frame=Z env.locals
 out:∀l,A.frames=Z l->∀e∈l,∀L,e.frame=Z L->L∉env.cells.map (·.2)
theorem Own.more(o:Own A X env):Own A (I::X) env:=⟨λb hb=>.tail _ (o.mem b hb),o.fr,o.out⟩
theorem EnvFr.step{c:Cx}{A:ZU}{X:List ZZ}{as as':d6}{h h':HP}{env:Env}(f:EnvFr c A X as h env)(o:Own A X env)(E:Ext as h as')(k:KeptX as X (own env) h h')(hn:∃m,h'.Ns env.locals m)(lo:env.locals∉as'):EnvFr c A X as' h' env:=by
 obtain⟨env₀,outer,L,h1,h2,h3,h4⟩:=f;refine⟨env₀,outer,L,h1,λa ha=>⟨(h2 a ha).kind,?_⟩,h3,h4⟩;refine oM ((h2 a ha).there) λL' ob es n q1 q2 q3 q4 q5 q6=>?_;by_cases hL:L'=env.locals
 ·exact hn.elim λm hn=>jF hn λob' es' ep e1 e2 _=>⟨L',ob',es',ep,q1,q2,q3,hL▸lo,hL▸e1,e2⟩
 ·exact ao (k L' ob q5 q4 λq=>eV q hL λq=>o.out _ h1 a ha L' q1 q) λob' e1 s=>⟨L',ob',es,n,q1,q2,q3,E.out q5 q4,e1,s.elim (λs=>s▸q6) λs=>s.2.2.elim λsl s=>s▸q6⟩
theorem KeptX.trans(k:KeptX as X Y h h₁)(x:Ext as h as₁)(k':KeptX as₁ X Y h₁ h₂):KeptX as X Y h h₂:=λb o e hb hy=>by refine ao (k b o e hb hy) ?_;intro o₁ e₁ s₁;refine ao (k' b o₁ e₁ (x.out e hb) hy) ?_;intro o₂ e₂ s₂;exact(aG o₂ e₂ (s₁.trans s₂))
theorem KeptX.fr(k:KeptX as X Y h h')(hY:∀b∈Y,∃o,h'.get? b=Z o)(ha:h'.get? a=Z6):Fr as h a:=
 (Classical.em (a∈as)).imp id λhm=>eG (o:=h.get? a) id λo hq=>(Classical.em (a∈Y)).elim (λhy=>(hY a hy).elim λ_ e=>eU (ha.symm.trans e)) λhy=>ao (k a o hq hm hy) λ_ e _=>eU (ha.symm.trans e)
theorem Ext.transX(x:Ext as h as₁)(k:KeptX as X Y h h₁)(hY:∀b∈Y,∃o,h₁.get? b=Z o)(y:Ext as₁ h₁ as₂):Ext as h as₂:=
 ⟨λi a e=>y.old i a (x.old i a e),λa ha=>(y.new a ha).elim (x.new a) (k.fr hY)⟩
theorem KeptX.less(k:KeptX as X' Y h h')(hX:∀b,2<=X'.count b->2<=X.count b\/Fr as h b):KeptX as X Y h h':=λb o e hb hy=>by refine ao (k b o e hb hy) ?_;intro o' e' s;exact(aG o' e' (s.mono λq=>(hX b q).elim id λr=>r.elim (λr=>Z1 r hb) λr=>by replace e:=r.symm.trans e;cases e))
theorem KeptX.but(k:KeptX as X Y h₀ h)(b:But Z7 h h')(hZ:∀a∈Z7,Fr as h₀ a)  :KeptX as X Y h₀ h':=λx o e hx hy=>by refine ao (k x o e hx hy) ?_;intro o' e' s;exact(aG o' (b x o' (λq=>by refine Or.elim (hZ _ q) (λr=>?_) λr=>?_;exact hx r;replace e:=r.symm.trans e;exact eU e) e') s)
theorem ResS.lift{K:KS}{R:QE}(e:Ext as h as₁)(k:KeptX as X (own env) h h₁)(hY:∀b∈own env,∃o,h₁.get? b=Z o)(r:ResS c as₁ X h₁ T env K R f s'):ResS c as X h T env K R f s':=by
 induction f with
 |next=>refine hU r ?_;intro ρ' H' as' e' S k' F hl q;exact(fM ρ' H' as' (e.transX k hY e') S (k.trans e k') F hl q)
 |ret x=>refine qj r ?_;intro v H' as' e' S k' hv q;exact(oS v H' as' (e.transX k hY e') S (k.trans e k') hv q)
 |_=>exact r.elim
theorem EResS.lift(e:Ext as h as₁)(k:KeptX as X (own env) h h₁)(hY:∀b∈own env,∃o,h₁.get? b=Z o)(r:EResS c as₁ X h₁ env XX x s'):EResS c as X h env XX x s':=by obtain⟨n,H',as',a,t,ts,hx,e',S,k',ex,ht,ap,hn,q⟩:=r;exact⟨n,H',as',a,t,ts,hx,e.transX k hY e',S,k.trans e k',ex,ht,λb hb=>⟨(ap b hb).1.elim (e.new b) (k.fr hY),(ap b hb).2⟩,hn,q⟩
theorem ERes.none(r:ERes c as X h (λ_ _=>False) x s'):False:=by obtain⟨_,_,_,_,_,_,_,_,_,_,_,_,_,q⟩:=r;exact q
theorem EResS.none(r:EResS c as X h env (λ_ _=>False) x s'):False:=by obtain⟨_,_,_,_,_,_,_,_,_,_,_,_,_,_,q⟩:=r;exact q
theorem ERes.toS(r:ERes c as X h XX x s')(F:FR c as X h env tab ρ):EResS c as X h env XX x s':=by haveI hn:=r.nsC (F.ns.imp λ_ h=>h.1) F.lout;obtain⟨n,H',as',a,t,ts,hx,e',S,k',ex,ht,ap,q⟩:=r;exact⟨n,H',as',a,t,ts,hx,e',S,k'.y _,ex,ht,ap,hn,q⟩
structure SS(c:Cx)(n:Nat)(T:Tb)(st:Stmt)(sts:List St):Prop where
 run:∀{env:Env} {A:ZU} {s:ZV} {as:d6} {X:List ZZ} {H:AH} {ρ:Fm} {K:KS} {R:QE} {XX:XE},
  Rdy c T env A n s as X H ρ->Own A X env->bk c.P (aO c.P n) sts ρ H K R XX->ZS c.M A (exec st env) (ResS c as X s.heap T env K R) (EResS c as X s.heap env XX) s
structure SB(c:Cx)(n:Nat)(T:Tb)(b:List Stmt)(sts:List St):Prop where
 run:∀{env:Env} {A:ZU} {s:ZV} {as:d6} {X:List ZZ} {H:AH} {ρ:Fm} {K:KS} {R:QE} {XX:XE},
  Rdy c T env A n s as X H ρ->Own A X env->bk c.P (aO c.P n) sts ρ H K R XX->ZS c.M A (execs b env) (ResS c as X s.heap T env K R) (EResS c as X s.heap env XX) s
theorem uy{C:Calls}{R:QE}{X:XE}{K:KS}:∀{ρ:Fm} {H:AH},bk P C (xs++ys) ρ H K R X=bk P C xs ρ H (λρ' H'=>bk P C ys ρ' H' K R X) R X:=by
 induction xs with
 |nil=>exact U
 |cons s xs ih=>exact λ{ρ H}=>Z4 (λk=>vq P C s ρ H k R X) (funext λ_=>funext λ_=>ih)
theorem Rdy.step(R:Rdy c T env A n s as X H ρ)(hY:Own A X env)(e:Ext as s.heap as₁)(k:KeptX as X (own env) s.heap s₁.heap)(S:SR c as₁ X H₁ s₁)(F:FR c as₁ X s₁.heap env T.tab ρ₁)(hl:ρ₁.length=T.n):Rdy c T env A n s₁ as₁ X H₁ ρ₁:=⟨R.a,R.hx.keepX e (k.v hY.mem),S,F,R.K,hl,R.fr.step hY e k (F.ns.imp λ_ h=>h.1) F.lout⟩
theorem Hk(h:A2 (SS c n T) b xss):SB c n T b xss.flatten:=by
 induction h with
 |nil=>refine⟨?_⟩;intro env A s as X H ρ K R XX r hY w;exact Y2 (fM ρ H as (.refl ..) r.S (λb o e _ _=>(aG o e (.inl U))) r.F r.len w)
 |@cons st xs l m h₁ _ ih=>
  refine⟨?_⟩;intro env A s as X H ρ K R XX r hY w;simp only [Oh,uy]at w;refine Y1 (Zr (h₁.run r hY w) (λf s₁ q=>?_) λ_ _ e=>e)
  induction f with
  |next=>refine hU q ?_;intro ρ₁ H₁ as₁ e1 S1 k1 F1 hl1 w1;exact Zr (ih.run (r.step hY e1 k1 S1 F1 hl1) hY w1) (λf s₂ q=>q.lift e1 k1 λb hb=>S1.xs b (hY.mem b hb)) λ_ _ e=>e.lift e1 k1 λb hb=>S1.xs b (hY.mem b hb)
  |ret x=>exact q
  |_=>exact q.elim
theorem Res.toS{K:KS}{Q:QE}(r:Res c as X h Q x s'):ResS c as X h T env K Q (.ret x) s':=by obtain⟨v,H',as',e,S,k,hv,q⟩:=r;exact(oS v H' as' e S (k.y _) hv q)
theorem Kj(h:SE c n T e ex):SS c n T (.Return (Z e) pos) [.ret ex]:=by refine⟨?_⟩;intro env A s as X H ρ K R XX r hY w;simp only [sf,yZ]at w;exact Y0 (Zr (h.run r w) (λ_ _ q=>q.toS) λ_ _ e=>e.toS r.F)
theorem DX:SS c n T (.Return Z6 pos) [.ret (.c .none)]:=by refine⟨?_⟩;intro env A s as X H ρ K R XX r hY w;simp only [sf,yZ,FF]at w;exact wpAny_Return_none (oS .none H as (.refl ..) r.S (λb o e _ _=>(aG o e (.inl U))) .none w)
theorem F6:SS c n T (.Pass pos) [.pass]:=by refine⟨?_⟩;intro env A s as X H ρ K R XX r hY w;exact wpAny_Pass (fM ρ H as (.refl ..) r.S (λb o e _ _=>(aG o e (.inl U))) r.F r.len w)
structure S1(c:Cx)(n:Nat)(T:Tb)(st:Stmt)(x:St):Prop where
 run:∀{env:Env} {A:ZU} {s:ZV} {as:d6} {X:List ZZ} {H:AH} {ρ:Fm} {K:KS} {R:QE} {XX:XE},
  Rdy c T env A n s as X H ρ->Own A X env->vq c.P (aO c.P n) x ρ H K R XX->ZS c.M A (exec st env) (ResS c as X s.heap T env K R) (EResS c as X s.heap env XX) s
theorem Gq(hc:lD e=J)(h:SE c n T e ex):S1 c n T (.Expr e pos) (.e ex):=by
 refine⟨?_⟩;intro env A s as X H ρ K R XX r hY w;simp only [CV]at w;haveI hi:YZ env=J:=by dsimp only [YZ];exact YP (r.F.kind) U
 haveI hs:swapsWith e Z6 pos.line env=pure J:=by cases e<;>first|rfl|cases hc
 refine YP (exec_Expr env e pos hi hs) (ZM (Zp (ZM (Zr (h.run r w) (λv s₁ q=>?_) λ_ _ e=>e.toS r.F))));obtain⟨v,H',as',e,S,k,hv,q⟩:=q;exact wpAny_dropValue (fM ρ H' as' e S (k.y _) (r.F.keep k e) r.len q)
theorem L8(h:ST c n T t ex)(ha:SB c n T a xs)(hb:SB c n T b ys):S1 c n T (.If t a b pos) (.ite ex xs ys):=by
 refine⟨?_⟩;intro env A s as X H ρ K R XX r hY w;simp only [FA]at w;refine wpAny_If (Zr (h.run (Q:=λt H'=>if t then bk c.P (aO c.P n) xs ρ H' K R XX else bk c.P (aO c.P n) ys ρ H' K R XX) (λ_ _ q=>q) r w) (λt s₁ q=>?_) λ_ _ e=>e.toS r.F);obtain⟨H',as',e,S,k,q⟩:=q;haveI r':=r.next e k S
 induction t with
 |true=>simp only [if_true]at q ⊢;exact Zr (ha.run r' hY q) (λ_ _ q=>q.lift e (k.y _) λb hb=>S.xs b (hY.mem b hb)) λ_ _ e'=>e'.lift e (k.y _) λb hb=>S.xs b (hY.mem b hb)
 |false=>simp only [rH,if_false]at q ⊢;exact Zr (hb.run r' hY q) (λ_ _ q=>q.lift e (k.y _) λb hb=>S.xs b (hY.mem b hb)) λ_ _ e'=>e'.lift e (k.y _) λb hb=>S.xs b (hY.mem b hb)
theorem lX(K:KOk T env)(h:T.slot x=Z i):T.tab.lookup x=Z i/\(env.kindOf x=Z .local\/env.kindOf x=Z .cell)/\i<T.n:=
 Is.of (R:=λi=>T.tab.lookup x=Z i/\(env.kindOf x=Z .local\/env.kindOf x=Z .cell)/\i<T.n) (Is.bind Is.self λk hk=>Is.ite λhq=>Is.bind (R:=λj=>T.tab.lookup x=Z j) Is.self λj hj=>Is.ite (o:=Z j) λhlt=>And.intro hj ⟨hq.imp (λq=>K.loc x (hk.trans (Z4 Z q))) λq=>K.cell x (hk.trans (Z4 Z q)),hlt⟩) h
theorem Dc(hi:T.slot x=Z i)(h:SE c n T e ex){K:KS}{R:QE}{XX:XE}
  (r:Rdy c T env A n s as X H ρ)(hY:Own A X env)(w:vq c.P (aO c.P n) (.a i ex) ρ H K R XX)(hs:swapsWith e (Z (.Name x px)) pos.line env=pure J) :
  ZS c.M A (exec (.Assign [.Name x px] e pos) env) (ResS c as X s.heap T env K R) (EResS c as X s.heap env XX) s:=by
 refine d7 (lX r.K hi) ?_;intro h1 h2 h3;simp only [Eu]at w;refine wpAny_Assign_Name (Zr (h.run r w) (λy s₁ q=>?_) λ_ _ e=>e.toS r.F) hs;obtain⟨v,H₁,as₁,e1,S1,k1,hv,hl,q⟩:=q;refine l7 S1 (r.F.keep k1 e1) h1 h2 hl hv λs₂ st=>?_;obtain⟨S2,k2,F2⟩:=st;exact ResS.lift e1 (k1.y _) (λb hb=>S1.xs b (hY.mem b hb)) (fM _ H₁ as₁ (.refl ..) S2 k2 F2 (by exact(aY).symm▸r.len) q)
theorem CS(C:Cok c T.gl)(hq:T.q=J)(hg:T.glob x=Z (.exc k)):S1 c n T (.Raise (Z (.Call (.Name x np) [.Constant (.str m) kk mp] [] cpos)) Z6 pos) (.raise k):=by
 refine⟨?_⟩;intro env A s as X H ρ K R XX r hY w;simp only [zU]at w;refine dq (C.gl x _ (ij hg).2.1) λhm hk=>?_;refine ao (C.x k hk) ?_;intro bm xc _;have xb:(bm).contains (.type "BaseException")=Z5:=by obtain⟨_,_,_,tl⟩:=xc;exact tl.has (by decide)
 obtain⟨hC,hN,hmN,tl⟩:=xc.keeps r.S.stays;refine wpAny_Raise_call_subT F.excBase_ValueError xb (r.a.hh hq) U (hmN _ (.head _)) (jq C hg r (.inl hm) ⟨rfl,Zk (Zl (Zq (k:=kk) (pos:=mp) (Zm ⟨rfl,(by decide:1<=ZT),hC,hN,tl.tail,λh' e me=>?_⟩)))⟩);refine cu me.there ?_;intro t he ht _;have g:Grown s.heap h':=me.keeps;refine⟨k,H,as,e,Z6,[],rfl,.refl ..,r.S.opens (s':={s with heap:=h',toks:=_}) g (eD (.inr me.new) λ_ hb=>.inl hb:∀b∈e::([]++X),b∈X\/s.heap.get? b=Z6) (eD ⟨_,he⟩ λb hb=>(r.S.xs b hb).imp λ_ eo=>g _ _ eo) U U,(g.kept as X).y _,.fresh he U U U U U,nofun,c8 (qF (.inr me.new) (r.S.not_as me.new) (r.S.not_x me.new) (r.S.base_none me.new)),r.F.ns.imp λm h=>h.1.at λo e=>g _ o e,w⟩
theorem ExcS.obj(x:ExcS h e cls t):∃oe vs,h.get? e=Z oe/\oe.cls=cls/\oe.data=.fields vs/\vs[2]? =Z .none:=by
 induction x with
 |fresh he hc hd hsz v1 v2=>exact(iZ _ _ he hc hd v2)
 |traced he hc hd hsz v1 v2=>exact(iZ _ _ he hc hd v2)
theorem ExcS.trc{e T:ZZ}{cls:ZX}(x:ExcS h e cls (Z T)):∃o,h.get? T=Z o:=by cases x with|traced he hc hd hsz v1 v2 hTe hT=>exact⟨_,hT⟩
theorem E6{l:List Env}{a:ZZ}{o o':Obj}(h2:∀ev∈l,FrE c X as h ev)(ho:h.get? a=Z o)(q:o'=o\/a∈l.filterMap (·.frame)/\∃sl,o'={o with slots:=sl}):SameO X a o o':=
 q.imp id λq=>ao (rF.mp q.1) λev he hf=>oM ((h2 ev he).there) λL' ob es m q1 _ q3 _ q5 q6=>by cases q1.symm.trans hf;cases q5.symm.trans ho;exact(bu q3 ⟨es,m,q6⟩ q.2)
theorem Bv{env₀:Env}{outer:List Env}{Y:List ZZ}{s₀ s:ZV}{as as':d6}{X:List ZZ}{H':AH}{e:ZZ}{ts S:List ZZ}{h':HP}{tk:Nat}
  (S':SR c as' (e::(ts++X)) H' s)(k':KeptX as X Y s₀.heap s.heap)(h2:∀ev∈env₀::outer,FrE c X as' s.heap ev)(ap:∀a∈e::ts,y8 c as s₀.heap as' X a)
  (tc:Touch S ((env₀::outer).filterMap (·.frame)) s.heap h')(hS:∀a∈S,a∈e::ts\/s.heap.get? a=Z6) :
  SR c as' X H' {s with heap:=h',toks:=tk}/\KeptX as X Y s₀.heap h':=by
 have out:∀a o,s.heap.get? a=Z o->a∉e::ts->∃o',h'.get? a=Z o'/\(o'=o\/a∈(env₀::outer).filterMap (·.frame)/\∃sl,o'={o with slots:=sl}):=λa o ho ha=>tc.out ho λq=>(hS a q).elim ha λr=>eU (r.symm.trans ho);have inX:∀a,a∈X->a∈e::(ts++X):=λa q=>.tail _ (aC _ q);refine⟨S'.but (s':={s with heap:=h',toks:=tk}) (Z7:=(e::ts)++(env₀::outer).filterMap (·.frame)) (λa o ha ho=>?_) (bR (λa ha=>⟨aR X ha,(ap a ha).2.2.2⟩) λa ha=>⟨inX a (FrE.mem h2 ha).1,(FrE.mem h2 ha).2⟩) inX (λa ha _=>(S'.xs a (inX a ha)).elim λo eo=>(tc a o eo).imp λ_ q=>q.1) U U,λa o eo ha hy=>?_⟩
 ·exact ao (out a o ho λq=>ha (aR _ q)) λo' e1 q=>q.elim (λq=>q▸e1) λq=>Z1 (aC _ q.1) ha
 ·exact ao (k' a o eo ha hy) λo₁ e₁ s₁=>(out a o₁ e₁ λq=>(ap a q).1.elim ha λr=>eU (r.symm.trans eo)).imp λo₂ q=>⟨q.1,s₁.trans (E6 h2 e₁ q.2)⟩
theorem fly(tc:Touch (T₂::e::t) fs h₀ h)(ex':ExcS h' e cls (Z T₂))(hk:∀b,b≠T₂->h'.get? b=h.get? b):Touch (T₂::e::t) fs h₀ h':=tc.trans λb o eb=>by
 by_cases hb:b=T₂
 ·exact ex'.trc.imp λo e=>⟨hb▸e,.inl (hb▸.head _)⟩
 ·exact (aG o ((hk b hb).trans eb) (.inr (.inl U)))
inductive Ct(c:Cx)(as as':d6)(X Y:List ZZ)(H':AH)(kx:Nat)(h:HP)(s₁:ZV)(e:ZZ)(h₃:HP):Prop
 |mk (T₂:ZZ):ExcS h₃ e (.ref (c.xcls kx)) (Z T₂)->(∀h₄,ExcS h₄ e (.ref (c.xcls kx)) (Z T₂)->(∀b,b≠T₂->h₄.get? b=h₃.get? b)->SR c as' X H' {s₁ with heap:=h₄}/\KeptX as X Y h h₄)->Ct c as as' X Y H' kx h s₁ e h₃
theorem xO{Q:Flow->ZV->Prop}{E:ZX->ZV->Prop}(C:Cok c T.gl)(hg:T.glob x=Z (.exc j))(r:Rdy c T env A n s as X H ρ)(hy:y=.ref e)(f:EnvFr c A X as' s₁.heap env)(S':SR c as' (e::(ts++X)) H' s₁)(k':KeptX as X Y s.heap s₁.heap)(ex:ExcS s₁.heap e (.ref (c.xcls kx)) t)(ht:∀T,t=Z T->T∈ts)(ap:∀a∈e::ts,y8 c as s.heap as' X a)(hsub:(c.P.sub kx kx&&c.P.sub kx j)=Z5)
  (k:∀h₃,Ct c as as' X Y H' kx s.heap s₁ e h₃->ZD c.M (A.mark (Z (.ref e))) (.handlers (.ref e) [.ExceptHandler Z6 nm body hp] env) (λr s₂=>match r with
     |.ok f=>(match nm with
      |none=>Q f s₂
      |some n=>ZS c.M A (do bindName env n .none;unbindBehindTheSuite env n hp) (λ_ s₃=>Q f s₃) E s₂)
     |.error x=>cameBackBy c.M A env E x s₂) {s₁ with heap:=h₃}) :
  ZS c.M A (noteFrame y env) (λ_ s₂=>ZS c.M A (setFlight y Z6) (λ_ s₃=>ZS c.M A (handleBy y env [.ExceptHandler (Z (.Name x xp)) nm body hp]) Q E s₃) E s₂) E s₁:=by
 subst hy;obtain⟨env₀,outer,L,h1,h2,h3,h4⟩:=f;refine ur h1 (FrOk.fun h2) h3 h4 ex λh₂ T₂ ex₂ hT tc₂=>?_;have hS:∀a∈T₂::e::t.toList,a∈e::ts\/s₁.heap.get? a=Z6:=eD (hT.imp (λh=>.tail _ (ht _ h)) id) (eD (.inl (.head _)) λa ha=>.inl (.tail _ (ht a (jb.mp ha))));refine kA ex₂ λh₃ ex₃ hk₃=>?_;have tc₃:=fly (tc₂.mono λb q=>.tail _ q) ex₃ hk₃;have st:c.base.StaysIn h₃:=(Bv (tk:=0) S' k' h2 ap tc₃ hS).1.stays;have ss:=cP hsub;refine ao (C.x kx ss.1) λbm xk xs=>ao (C.x j (C.gl x _ (ij hg).2.1).2) λbm' xj _=>?_;refine wpAny_handleBy_cons (codeAny_handlers_test (yD C hg r.F.kind r.F.glob r.F.bi r.K st (.inl (C.gl x _ (ij hg).2.1).1) ?_)) nofun;refine dG ex₃.obj λoe _ he hcl _=>FE (xk.keeps st) (xj.keeps st) he hcl ((xs x j (ij hg).2.1).trans ss.2) ?_;exact k h₃ ⟨T₂,ex₃,λh₄ ex₄ hk₄=>Bv (tk:=s₁.toks) S' k' h2 ap (fly tc₃ ex₄ hk₄) hS⟩
theorem I3(C:Cok c T.gl)(hg:T.glob x=Z (.exc j))(hb:SB c n T b bs)(hr:HdR t he) :
  S1 c n T (.Try b [.ExceptHandler (Z (.Name x xp)) Z6 [.Return (Z he) p'] hp] [] [] pos) (.try_ bs j t):=by
 refine⟨?_⟩;intro env A s as X H ρ K R XX r hY w;refine wpAny_Try_except (Zr (hb.run r hY w) (λf s₁ q=>?_) λy s₁ q=>?_)
 ·induction f with
  |next=>exact Y2 q
  |_=>exact q
 refine q.rec λkx H' as' e tt ts hx e' S' k' ex ht ap hn hw=>xO C hg r hx (r.fr.step hY e' k' hn λq=>(c6 q).elim λi hi=>(S'.objs i _ hi).2.1 (.tail _ (aC _ (hY.mem _ (.head _))))) S' k' ex ht ap hw.1 λh₃ ct=>ct.rec λT₂ ex₃ fin=>?_;refine codeAny_handlers_suite (kA ex₃ λh₄ ex₄ hk₄=>Y1 (Y0 ?_));have qq:=fin h₄ ex₄ hk₄
 induction hr with
 |none=>exact Constant_none (oS .none H' as' e' qq.1 qq.2 .none hw.2)
 |lst=>refine List_ (Zm (uX qq.1 .nil U λz s₅ f=>?_));obtain⟨v,H₁,as₁,e1,S1,k1,hv,rfl,rfl⟩:=f.frozen (Q:=λv H=>v=.lst []/\H=H') qq.1 ⟨rfl,rfl⟩;exact ResS.lift (f:=.ret z) e' qq.2 (λb hb=>qq.1.xs b (hY.mem b hb)) (oS _ _ as₁ e1 S1 (k1.y _) hv hw.2)
theorem Il{x:Str}{env:Env}{A:ZU}{E:ZX->ZV->Prop}{s:ZV}{as:d6}{X:List ZZ}{H:AH}{pos:Pos}{m:Str->Option ZX}{R:Unit->ZV->Prop}(S:SR c as X H s)(kind:env.scope.kind=.function)(lx:env.locals∈X)(lb:c.base.get? env.locals=Z6)(hk:env.kindOf x=Z .local)(hn:s.heap.Ns env.locals m)
  (r:∀h' v tk,h'.Ns env.locals (λy=>if y=x then v else m y)->SR c as X H {s with heap:=h',toks:=tk}->(∀b o,s.heap.get? b=Z o->b≠env.locals->h'.get? b=Z o)->R () {s with heap:=h',toks:=tk}):ZS c.M A (do bindName env x .none;unbindBehindTheSuite env x pos) R E s:=by
 refine wpAny_nameGoes_keeps hk hn (by exact YP kind U) λh' v hn' sb=>r h' v _ hn' ?_ ?_
 ·have K0:∀b o,s.heap.get? b=Z o->b≠env.locals->h'.get? b=Z o:=λb o e hb=>(sb.2 b hb).trans e;refine S.keepX (s':={s with heap:=h',toks:=s.toks+1}) (λb o e _ hb=>K0 b o e (λq=>hb (q▸lx))) (λb o e=>K0 b o (S.stays b o e) λq=>?_) (λb hb=>?_) U U
  ·subst q;rw [lb]at e;cases e
  ·by_cases q:b=env.locals
   ·refine YP q ?_;obtain⟨o,_,_,e,_⟩:=hn';exact⟨o,e⟩
   ·obtain ⟨o,e⟩:=S.xs b hb;exact⟨o,K0 b o e q⟩
 ·exact λb o e hb=>(sb.2 b hb).trans e
theorem E5{x y:Str}{j i:Nat}{xp hp pos ep rp:Pos}{v hexp:Expr}{ev eh:Ex}(C:Cok c T.gl)(hg:T.glob x=Z (.exc j))(hsl:T.slot y=Z i)(hloc:T.names.lookup y=Z .local)(hc:lD v=J)(hv:SE c n T v ev)(hh:SE c n {T with q:=Z5} hexp eh) :
  S1 c n T (.Try [.Expr v ep] [.ExceptHandler (Z (.Name x xp)) (Z y) [.Return (Z hexp) rp] hp] [] [] pos) (.tryE ev j i eh):=by
 refine⟨?_⟩;intro env A s as X H ρ K R XX r hY w;haveI hin:YZ env=J:=by dsimp only [YZ];exact YP (r.F.kind) U
 haveI hs:swapsWith v Z6 ep.line env=pure J:=by cases v<;>first|rfl|cases hc
 refine wpAny_Try_except (Y1 ?_);refine YP (exec_Expr env v ep hin hs) (ZM (Zp (ZM (Zr (hv.run r w) (λz s₁ q=>?_) λz s₁ q=>?_))))
 ·obtain ⟨u,H',as',e',S,k,hu,q⟩:=q;exact wpAny_dropValue (Y2 (Y2 (fM ρ H' as' e' S (k.y _) (r.F.keep k e') r.len q)))
 obtain⟨k,H',as',e,t,ts,hx,e',S',k',ex,ht,ap,hsub,w'⟩:=q;refine xO C hg r hx (r.fr.keep e' k') S' (k'.y []) ex ht ap hsub λh₃ ct=>ct.rec λT₂ ex₃ fin=>?_;refine d7 (lX r.K hsl) λhx1 hx2 hx3=>?_;refine codeAny_handlers_suite_as (kA ex₃ λh₄ ex₄ hk₄=>?_);have q:=fin h₄ ex₄ hk₄;have K4:Kept as X s.heap h₄:=λb o eb hb=>q.2 b o eb hb nofun;have hx:VR c as' X h₄ (.exc k) (.ref e):=kR ex₄.obj λoe vs he hcl hd h2=>.exc (ap e (.head _)).2.1 (ap e (.head _)).2.2.1 he hcl hd h2;have r₄:Rdy c {T with q:=Z5} env (A.mark (Z (.ref e))) n {s₁ with heap:=h₄} as' X H' ρ:=⟨⟨⟨nofun,r.a.hd,r.a.hu⟩,r.a.hr,r.a.hw⟩,.at U hx,q.1,r.F.keep K4 e',⟨r.K.loc,r.K.cell,r.K.free,r.K.glob⟩,r.len,by obtain⟨env₀,outer,L,h1,h2,h3,h4⟩:=r.fr.keep e' K4;exact⟨env₀,outer,L,h1,h2,h3,h4⟩⟩;have Y':Own (A.mark (Z (.ref e))) X env:=⟨hY.mem,hY.fr,hY.out⟩;refine l7 r₄.S r₄.F hx1 hx2 (by exact YP (r.len) hx3) hx λs₅ st=>?_;obtain⟨S5,k5,F5⟩:=st;have r₅:=r₄.step Y' (.refl ..) k5 S5 F5 (by exact YP aY r.len);refine Y1 (Y0 (Zr (hh.run r₅ w') (λz s₆ q=>?_) λ_ _ e=>(e.toS F5).none.elim));obtain⟨u,H₆,as₆,e₆,S₆,k₆,hu,q⟩:=q;refine ao (F5.keep k₆ e₆).ns λm hn _=>?_;refine Il S₆ r.F.kind r.F.lx r.F.lb (r.K.loc y hloc) hn λh' v' tk hn' S7 K0=>?_;exact ResS.lift (f:=.ret z) e' (K4.y _) (λb hb=>r₄.S.xs b (hY.mem b hb)) (ResS.lift (f:=.ret z) (.refl ..) k5 (λb hb=>S5.xs b (hY.mem b hb)) (oS u H₆ as₆ e₆ S7 ((k₆.y _).trans e₆ λb o e _ hb=>(aG o (K0 b o e λq=>hb (q▸.head _)) (.inl U))) (hu.keepX (λb o e _ hb=>K0 b o e (λq=>hb (q▸r.F.lx))) (.refl ..)) q))
theorem Az(h:ST c n T t ex)(hb:SB c n T body xs):S1 c n T (.While t body [] pos) (.while_ ex xs):=by
 refine⟨?_⟩;intro env A s as X H ρ K R XX r hY w;simp only [zT]at w;obtain⟨k,w⟩:=w;refine wpAny_While ?_;have hown:∀{s':ZV} {as':d6} {H':AH},SR c as' X H' s'->∀b∈own env,∃o,s'.heap.get? b=Z o:=λS b hb=>S.xs b (hY.mem b hb);refine codeAny_whileLoop (λm s'=>∃as' H' ρ',Ext as s.heap as'/\SR c as' X H' s'/\KeptX as X (own env) s.heap s'.heap/\FR c as' X s'.heap env T.tab ρ'/\ρ'.length=T.n/\
  mU (λρ' H' K₁ K₂=>cW c.P (aO c.P n) ex ρ' H' (λv H''=>o9 (gF v) λt=>if t then bk c.P (aO c.P n) xs ρ' H'' K₁ R (λ_ _=>False)else K₂ ρ' H'') (λ_ _=>False)) m ρ' H' K) ?_ k
  (fM as H ρ (.refl ..) r.S ((Kept.refl _ _ _).y _) r.F r.len w)
 clear w;intro m s' h0;refine hU h0 ?_;clear h0;intro as' H' ρ' e S kx F hl w
 induction m with
 |zero=>exact w.elim
 |succ m=>
  haveI r':Rdy c T env A n s' as' X H' ρ':=r.step hY e kx S F hl;refine Zr (h.run (λ_ _ q=>q) r' w) (λb s₂ q=>?_) λ_ _ e=>e.none.elim;obtain⟨H₂,as₂,e2,S2,k2,q2⟩:=q;haveI r2:=r'.next e2 k2 S2
  have ex2:Ext as s.heap as₂:=e.transX kx (hown S) e2;have kx2:KeptX as X (own env) s.heap s₂.heap:=kx.trans e (k2.y _)
  induction b with
  |true=>
   rw [Z3 U]at q2 ⊢;refine Zr (hb.run r2 hY q2) (λf s₃ q=>?_) λ_ _ e=>e.none.elim
   induction f with
   |next=>refine hU q ?_;intro ρ₃ H₃ as₃ e₃ S₃ k₃ F₃ hl₃ q₃;exact(aG m (dc m) (fM as₃ H₃ ρ₃ (ex2.transX kx2 (hown S2) e₃) S₃ (kx2.trans ex2 k₃) F₃ hl₃ q₃))
   |ret xv=>refine qj q ?_;intro v' H₃ as₃ e₃ S₃ k₃ hv₃ q₃;exact(oS v' H₃ as₃ (ex2.transX kx2 (hown S2) e₃) S₃ (kx2.trans ex2 k₃) hv₃ q₃)
   |_=>exact q.elim
  |false=>rw [Z2 (by decide)]at q2 ⊢;exact Y2 (fM ρ' H₂ as₂ ex2 S2 kx2 r2.F hl q2)
theorem zj{kvs:List (Str×ZX)}{k k':Str}{x y:ZX}(h:k'≠k):stored ((k',x)::kvs) k y=(k',x)::stored kvs k y:=by unfold stored;simp only [List.any_cons,h,decide_false,DG,dI,if_false];split<;>rfl
theorem zu{kvs:List (Str×ZX)}{k:Str}{x y:ZX}(h:k∉kvs.map (·.1)):stored ((k,x)::kvs) k y=(k,y)::kvs:=by
 unfold stored;simp only [List.any_cons,decide_true,Bool.true_or,if_true,dI];congr 1
 conv=>rhs;rw [<-List.map_id kvs]
 refine cR λp hp=>?_;haveI:p.1≠k:=λe=>h (e▸bx hp);simp [this]
theorem vh{k:List Char}{y:ZX}(hv:VR c as X h v y){ks:List (List Char)}:∀{vs:List V} {cs:List ZX},ks.length=cs.length->(ks.map toS).Nodup->VRs c as X h vs cs->
  ∃cs',stored ((ks.map toS).zip cs) (toS k) y=((eQ k v ks vs).1.map toS).zip cs'/\(eQ k v ks vs).1.length=cs'.length/\VRs c as X h (eQ k v ks vs).2 cs'/\cs'.length<=cs.length+1:=by
 induction ks with
 |nil=>
  intro vs cs hl _ r
  induction r with
  |nil=>exact(jJ [y] U U (.cons hv .nil) (aM _))
  |cons _ _=>cases hl
 |cons k' ks ih=>
  intro vs cs hl hn r
  induction r with
  |nil=>cases hl
  |@cons w vs x cs hx r=>
   haveI hn':=kC hn;haveI hl':=b8 hl;clear hn hl;by_cases hk:k=k'
   ·subst hk;haveI ed:eQ k v (k::ks) (w::vs)=(k::ks,v::vs):=Z3 U;rw [ed];refine(jJ (y::cs) ?_ (Z4 pf hl') (.cons hv r) (bh _));show stored ((toS k,x)::(ks.map toS).zip cs) (toS k) y=_;refine zu ?_;rw [m6 (by rw [aj,hl'];exact aM _)];exact hn'.1
   ·haveI ed:eQ k v (k'::ks) (w::vs)=(k'::(eQ k v ks vs).1,w::(eQ k v ks vs).2):=Z2 hk;rw [ed];refine dM (ih hl' hn'.2 r) ?_;intro cs' e1 e2 e3 e4;exact(jJ (x::cs') ((zj (λe=>hk (jH e).symm)).trans (Z4 _ e1)) (Z4 pf e2) (.cons hx e3) (aA e4))
inductive SetI(x:V)(H H':AH):V->V->Prop
 |mk {r:Nat} {k:List Char} {ks:List (List Char)} {vs:List V}:H[r]? =Z (.dict ks vs)->ks.length<=aB->H'=H.set r (.dict (eQ k x ks vs).1 (eQ k x ks vs).2)->SetI x H H' (.ref r) (.str k)
 |lst {r:Nat} {i:Int} {vs:List V}:H[r]? =Z (.list vs)->0<=i/\i<vs.length->H'=H.set r (.list (vs.set i.toNat x))->SetI x H H' (.ref r) (.int i)
theorem rm(e:eX o i x H=Z H'):SetI x H H' o i:=by
 refine Is.of (R:=λH'=>SetI x H H' o i) ?_ e;clear e;cases o with
 |ref r=>
  cases i with
  |str k=>
   haveI F:∀{ob},ob=H[r]?->Is (CQ r k x H ob) λH'=>SetI x H H' (.ref r) (.str k):=λ{ob} e=>by
    induction ob with
    |none=>exact Z0
    |some ob=>
     induction ob with
     |dict ks vs=>exact Is.ite λh=>.mk e.symm h U
     |_=>exact Z0
   exact F U
  |int k=>
   haveI F:∀{ob},ob=H[r]?->Is (IB r k x H ob) λH'=>SetI x H H' (.ref r) (.int k):=λ{ob} e=>by
    induction ob with
    |none=>exact Z0
    |some ob=>
     induction ob with
     |list vs=>exact Is.ite λh=>.lst e.symm h U
     |_=>exact Z0
   exact F U
  |_=>exact Z0
 |_=>exact Z0
theorem zx{E:ZX->ZV->Prop}{R:Unit->ZV->Prop}(S:SR c as X H s)(ho:VR c as X s.heap o co)(hi:VR c as X s.heap i ci)(hx:VR c as X s.heap x cx)(e:eX o i x H=Z H')
  (hR:∀s',SR c as X H' s'->Kept as X s.heap s'.heap->R () s'):ZS c.M A (setItem co ci cx) R E s:=by
 replace e:=rm e
 induction e with
 |@lst r i vs hob hz e=>
  (replace e:=YO e;subst e)
  obtain⟨a,ha,hb,items,hp,rr⟩:=jR S ho hob
  induction hi.inv with
  |int u=>
  have hl:=rr.len_arr;refine rc hp hz.1 (Gr hz.2 (mX hb)) (hl.symm▸hz.2) λh' hp' sb=>?_;have hk:∀b o,s.heap.get? b=Z o->b≠a->h'.get? b=Z o:=λb o e hb=>(sb.2 b hb).trans e;have K:=SR.kept1 (X:=X) ha hk;refine hR _ (S.upd (s':={s with heap:=h'}) (o':=.list _) ha hk U U ⟨aY.symm▸hb,(aG _ hp' ?_)⟩) K;exact YP (Array.toList_setIfInBounds) (VRs.set _ (rr.keep K (.refl ..)) (hx.keep K (.refl ..)))
 |@mk r k ks vs hob hz q_9=>
  subst q_9;replace ho:=jR S ho hob;obtain⟨a,ha,hb,hsm,cs,hd,hl,rr⟩:=ho;cases hi;haveI h1:=cO;haveI h2:=fQ;haveI hn:(ks.map toS).Nodup:=by refine hU hd ?_;intro _ _ _ _ _ _ _ _ hn;rw [m6 (by simp [hl])]at hn;exact hn
  refine wpAny_setItem_pairs (knd:=c.kd) (qc _ _) hd (λh' hd' sb=>?_) (by simp only [xu,aj];exact aa (xt _ _) (aa hz h1));have hk:∀b o,s.heap.get? b=Z o->b≠a->h'.get? b=Z o:=λb o e hb=>(sb.2 b hb).trans e;have K:=SR.kept1 (X:=X) ha hk;refine dM (vh (k:=k) (hx.keep K (.refl ..)) hl hn (rr.keep K (.refl ..))) ?_;intro cs' e1 e2 e3 e4;simp only [e1]at hd';haveI e5:=e3.length;exact hR _ (S.upd (s':={s with heap:=h',toks:=_}) (o':=.dict _ _) ha hk U U (bu (aa (ak e5) (aa e4 (aa (aA (aa (ak hl.symm) hz)) (aa (aH (by decide:1<=5) aB) h2)))) hsm (bQ cs' hd' e2 e3))) K
theorem Fk(h1:SE c n T v ev)(h2:SE c n T o eo)(h3:SE c n T i ei):S1 c n T (.Assign [.Subscript o i p'] v pos) (.s eo ei ev):=by
 refine⟨?_⟩;intro env A s as X H ρ K R XX r hY w;simp only [uP]at w;refine wpAny_Assign_Subscript (Zr (h1.run r w) (λx s₁ q=>?_) λ_ _ e=>e.toS r.F) (by cases v<;>rfl);obtain⟨vx,H₁,as₁,e1,S1,k1,hvx,w1⟩:=q;have r1:=r.next e1 k1 S1
 refine Zr (h2.run r1 w1) (λy s₂ q=>?_) λ_ _ e=>(e.lift e1 k1).toS r.F;obtain⟨vo,H₂,as₂,e2,S2,k2,hvo,w2⟩:=q;have r2:=r1.next e2 k2 S2
 refine Zr (h3.run r2 w2) (λz s₃ q=>?_) λ_ _ e=>((e.lift e2 k2).lift e1 k1).toS r.F;obtain⟨vi,H₃,as₃,e3,S3,k3,hvi,w3⟩:=q;haveI r3:=r2.next e3 k3 S3
 refine eG (o:=eX vo vi vx H₃) (λhs=>?_) (λH' hs=>?_)
 ·replace w3:=hs▸w3;exact w3.elim
 ·simp only [hs]at w3;refine zx S3 (hvo.keep k3 e3) hvi ((hvx.keep k2 e2).keep k3 e3) hs λs' S' k'=>?_;haveI E1:=e1.trans k1 e2;haveI K1:=k1.trans e1 k2;exact(fM ρ H' as₃ (E1.trans K1 e3) S' (((K1.trans E1 k3).trans (E1.trans K1 e3) k').y _) (r3.F.keep k' (.refl ..)) r.len w3)
theorem Bh{E:ZX->ZV->Prop}{Q:Unit->ZV->Prop}(h:ZS M A (f a) (λ_ s₁=>ZS M A (g b) Q E s₁) E s):ZS M A (assignInOrder [f,g] [a,b]) Q E s:=
 YY (Zr h (λ_ _ h₁=>YY (Zr h₁ (λ_ _ h₂=>assignInOrder_nil h₂) λ_ _ e=>e)) λ_ _ e=>e)
structure Tgt(c:Cx)(T:Tb)(t:Expr)(tg:Nat ⊕ List Nat):Prop where
 run:∀{env:Env} {A:ZU} {s:ZV} {as:d6} {X:List ZZ} {H:AH} {ρ ρ':Fm} {u:V} {z:ZX} {E:ZX->ZV->Prop} {Q:Unit->ZV->Prop},KOk T env->ρ.length=T.n->(∀b∈own env,b∈X)->SR c as X H s->FR c as X s.heap env T.tab ρ->VR c as X s.heap u z->
  (u.tpl.isSome=Z5->A.handled=Z6)->gz ρ tg u=Z ρ'->(∀s',StepF c as X H env T.tab s.heap ρ' s'->ρ'.length=T.n->Q () s')->ZS c.M A (assign t env z) Q E s
theorem CW(hi:T.slot x=Z i):Tgt c T (.Name x px) (.inl i) where
 run:=λ{env A s as X H ρ ρ' u z E Q} K hl _ S F hv _ e q=>by
  (replace e:=ai e;subst e)
  refine d7 (lX K hi) ?_;intro h1 h2 h3;exact Za (l7 S F h1 h2 (by simp only [hl];exact h3) hv λs' st=>q s' st (by exact(aY).trans hl))
inductive Pair2(c:Cx)(as:d6)(X:List ZZ)(h:HP)(ρ ρ':Fm)(i j:Nat):V->ZX->Prop
 |mk {a:ZZ} {ob:Obj} {n:Nat} {u v:V} {y z:ZX}:ρ'=(ρ.set i (Z u)).set j (Z v)->h.get? a=Z {cls:=.type "tuple",data:=.seq #[y,z] n}->VR c as X h u y->VR c as X h v z->Pair2 c as X h ρ ρ' i j (.tup [u,v]) (.ref a)
theorem LP(hv:VR c as X h u z)(e:gz ρ (.inr [i,j]) u=Z ρ'):Pair2 c as X h ρ ρ' i j u z:=by
 cases u with
 |tup vs=>
  replace e:=c9 e;obtain⟨hl,e⟩:=e
  match vs,hl with
  |[a,b],_=>
   induction hv.inv with
   |@tup addr items nn t1 t2 t3 rr t5=>
    obtain⟨items⟩:=items;cases rr with
    |cons ha rr=>
     cases rr with
     |cons hb rr=>cases rr;exact .mk (ob:=default) e.symm t3 ha hb
 |_=>exact eU e
theorem uD(hi:T.slot x=Z i)(hj:T.slot y=Z j):Tgt c T (.Tuple [.Name x px,.Name y py] kk pt) (.inr [i,j]) where
 run:=λ{env A s as X H ρ ρ' u z E Q} K hl hY S F hv hh e q=>by
  induction LP hv e with
  |@mk a _ n u v y z e1 t3 ha hb=>subst e1;refine d7 (lX K hi) ?_;intro x1 x2 x3;refine d7 (lX K hj) ?_;intro y1 y2 y3;clear e hv hi hj;refine assign_Tuple_tuple (hh U) (bQ _ t3 U ⟨_,rfl⟩) U U λh' eb=>?_;have g:Grown s.heap h':=λb o e=>eb b o (λq=>by rw [q]at e;exact Z1 (eJ e) (cZ _)) e;clear eb t3;refine Bh (Za (l7 (S.grow (s':={s with heap:=h'}) g U U) (F.keep (g.kept as _) (.refl ..)) x1 x2 (by simp only [hl];exact x3) (ha.grow g) λs₂ st=>?_));obtain⟨S2,k2,F2⟩:=st;refine Za (l7 S2 F2 y1 y2 (by simp only [aY,hl];exact y3) ((hb.grow g).keepX (KeptX.v (Y:=own env) k2 hY) (.refl ..):VR c as X s₂.heap v z) λs₃ st=>q s₃ ⟨st.1,?_,st.3⟩ (by simp only [aY,aY];exact hl));exact(((g.kept as _).y _).trans (.refl ..) k2).trans (.refl ..) st.2
theorem EZ(hi:T.slot x=Z i)(hj:T.slot y=Z j)(hq:T.q=J)(h:SE c n T (.Call f args kws p) ex) :
  S1 c n T (.Assign [.Tuple [.Name x px,.Name y py] kk pt] (.Call f args kws p) pos) (.asgTup [i,j] ex):=by
 refine⟨?_⟩;intro env A s as X H ρ K R XX r hY w;simp only [wj]at w;refine Assign_Tuple (Zr (h.run r w) (λv s₁ q=>?_) λ_ _ e=>e.toS r.F);obtain⟨vv,H₁,as₁,e1,S1,k1,hv,w1⟩:=q;haveI r1:=r.next e1 k1 S1
 refine eG (o:=gz ρ (.inr [i,j]) vv) (λht=>?_) (λρ' ht=>?_)
 ·replace w1:=ht▸w1;exact w1.elim
 ·simp only [ht]at w1;refine(uD hi hj).run r.K r.len hY.mem S1 r1.F hv (λ_=>r.a.hh hq) ht λs₂ st hl=>?_;obtain⟨S2,k2,F2⟩:=st;exact(fM ρ' H₁ as₁ e1 S2 ((k1.y _).trans e1 k2) F2 hl w1)
theorem Ed(K:CK c ms ats f)(hat:toS nm∈ats)(hc:lD v=J)(h1:SE c n T v ev)(h2:SE c n T o eo):S1 c n T (.Assign [.Attribute o (toS nm) p'] v pos) (.setAttr eo nm ev):=by
 refine⟨?_⟩;intro env A s as X H ρ Kk R XX r hY w;simp only [vA]at w;refine plainObj_wpAny_Assign_Attribute (Zr (h1.run r w) (λx s₁ q=>?_) λ_ _ e=>e.toS r.F) (by cases v<;>first|rfl|cases hc);obtain⟨vx,H₁,as₁,e1,S1,k1,hvx,w1⟩:=q;have r1:=r.next e1 k1 S1
 refine Zr (h2.run r1 w1) (λy s₂ q=>?_) λ_ _ e=>(e.lift e1 k1).toS r.F;obtain⟨vo,H₂,as₂,e2,S2,k2,hvo,w2⟩:=q;haveI r2:=r1.next e2 k2 S2
 refine eG (o:=iQ vo nm vx H₂) (λhs=>?_) (λH' hs=>?_)
 ·replace w2:=hs▸w2;exact w2.elim
 ·simp only [hs]at w2;refine zD K hat S2 hvo (hvx.keep k2 e2) hs λs' S' k'=>?_;haveI E1:=e1.trans k1 e2;haveI K1:=k1.trans e1 k2;exact(fM ρ H' as₂ E1 S' ((K1.trans E1 k').y _) (r2.F.keep k' (.refl ..)) r.len w2)
theorem wT:∃b,swapsWith (.ListComp elt gens scope pos) (Z (.Name x px)) l env=pure b:=⟨_,rfl⟩
theorem BX(h:lD e=J):swapsWith e (Z (.Name x px)) l env=pure J:=by cases e<;>first|rfl|cases h
theorem FD{x y:Str}{j:Nat}{px py spos:Pos}{elt iter:Expr}{ifs:List Expr}{sc:Scope}{pos:Pos}{cond:Option Ex}{mu:Bool}{K:KS}{R:QE}{XX:XE}
  (hj:T.slot y=Z j)(ok:CompF T x sc)(hns:sZ iter)(hi:SE c n T iter i)(hqr:(T.q&& !vL i)=J)
  (he:SE c n {T with names:=sc.names,tab:=(x,T.n)::T.tab,n:=T.n+1} elt b)
  (hc:(ifs=[]/\cond=Z6)\/∃t q,ifs=[t]/\cond=Z q/\ST c n {T with names:=sc.names,tab:=(x,T.n)::T.tab,n:=T.n+1} t q)
  (r:Rdy c T env A n s as X H ρ)(hY:Own A X env)(w:vq c.P (aO c.P n) (.a j (.comp mu b i cond)) ρ H K R XX)
  (hs:swapsWith (.ListComp elt [⟨.Name x px,iter,ifs,0⟩] sc pos) (Z (.Name y py)) spos.line env=pure Z5) :
  ZS c.M A (exec (.Assign [.Name y py] (.ListComp elt [⟨.Name x px,iter,ifs,0⟩] sc pos) spos) env) (ResS c as X s.heap T env K R) (EResS c as X s.heap env XX) s:=by
 refine d7 (lX r.K hj) λh1 h2 h3=>?_;refine YP (exec_Assign_Name_used _ _ _ _ hs) (ZM (Zp (ZM ?_)));refine ZM (Zr (AW ok hns hi hqr he hc r w ?_) (λ_ s' hq=>ZL (ZL hq)) λ_ _ e=>e.toS r.F);intro D Ca s' fC cX bC hm q;refine hU q λv H' as' e S k hv p_8 F=>?_
 (haveI hl:=p_8.1;haveI q:=p_8.2)
 refine Za (l7 S F h1 h2 hl hv λs'' st=>?_);obtain⟨S2,k2,F2⟩:=st;have hCown:=λq=>cX (hY.mem _ q);haveI hCas:Ca∉as':=λq=>by obtain⟨i,hi⟩:=c6 q;refine d7 (S.objs i _ hi) λ_ h2 _=>?_;exact h2 (.head _)
 obtain⟨m,hm⟩:=hm;refine(aG m (Ns.same hm λo e=>k2 _ o e hCas hCown) (λh' hs'=>?_));haveI b':But [Ca] s''.heap h':=λq o hq e=>(hs'.2 q (DO hq)).trans e;refine(fM _ H' as' e (S2.but b' (by simpa using bC) (λ_ q=>.tail _ q) (λa ha hz=>by replace hz:=in1 hz;(replace hz:=YO hz;subst hz);exact(cX ha).elim) U U) ?_ ?_ (by refine YP aY ?_;exact r.len) q)
 ·exact ((((k.more λ_=>cK).y _).trans e k2).but b' (c8 fC)).less λb hb=>(zZ hb).elim (λq=>.inr (q▸fC)) .inl
 ·haveI aw:=F2.away' hCown;exact(F2.keepY (b'.kept as' _) (c8 (.head _)) aw).narrow (λb hb=>.tail _ hb) (λb hb=>by
   refine eV hb (λe_=>?_) λhb=>?_
   ·replace e_:=YO e_;subst e_;exact .inr (.head _)
   ·exact .inl hb) aw
structure Fl(c:Cx)(T:Tb)(env:Env)(as₀:d6)(h₀:HP)(X:List ZZ)(rev:Bool)(I:ZZ)(v:V)(y:ZX)(k:Nat)(s:ZV)(as:d6)(H:AH)(ρ:Fm):Prop where
 S:SR c as (I::X) H s
 F:FR c as (I::X) s.heap env T.tab ρ
 hl:ρ.length=T.n
 hv:VR c as (I::X) s.heap v y
 hi:ItD rev s.heap I v y k
 oi:I∉as
 E:Ext as₀ h₀ as
 K:KeptX as₀ (I::X) (own env) h₀ s.heap
theorem SR.less(S:SR c as (I::X) H s):SR c as X H s:=
 S.turn (λb o e _ _=>e) S.stays (λ_ q=>.tail _ q) (λb hb=>S.xs b (.tail _ hb)) U U
def FI(c:Cx)(T:Tb)(env:Env)(as₀:d6)(h₀:HP)(X:List ZZ)(rev:Bool)(I:ZZ)(v:V)(y:ZX)(items:List V)(F:V->Fm->AH->KS->Prop)(K:KS)(m:Nat)(s:ZV):Prop:=
 ∃k as H ρ,m=items.length-k/\k<=items.length/\Fl c T env as₀ h₀ X rev I v y k s as H ρ/\ri F (λH'=>j2 rev H' v=Z items) (items.drop k) ρ H K
theorem AO{te:Expr}{tg:Nat ⊕ List Nat}{rev:Bool}{body:List Stmt}{K:KS}{R:QE}{I:ZZ}{y:ZX}{RR:Result->ZV->Prop}{Kn:KOk T env}{F:V->Fm->AH->KS->Prop}
  (ht:Tgt c T te tg)(hq:T.q=J)(hb:SB c n T body xs)(a:AOk T.q A n)(fr:EnvFr c A X as₀ h₀ env)(hY:Own A X env)(bI:c.base.get? I=Z6)(fI:Fr as₀ h₀ I)(iX:I∉X)
  (L:Fl c T env as₀ h₀ X rev I v y 0 s as H ρ)(w:ri F (λH'=>j2 rev H' v=Z items) items ρ H K)
  (hF:∀{x ρ' H'} {K':KS},F x ρ' H' K'->match gz ρ' tg x with|some ρ''=>bk c.P (aO c.P n) xs ρ'' H' K' R (λ_ _=>False)|none=>False)
  (hR:∀f s',ResS c as₀ X h₀ T env K R f s'->RR (.ok f) s') :
  ZD c.M A (.forLoop te (.ref I) body [] env) RR s:=by
 have iO:=λq=>iX (hY.mem _ q);have lessI:∀b,2<=(I::X).count b->2<=X.count b\/Fr as₀ h₀ b:=N9 (.inr fI) λ_=>.inl;refine codeAny_forLoop_any (FI c T env as₀ h₀ X rev I v y items F K) (λm s h0=>?_) (items.length-0) ⟨0,as,H,ρ,rfl,aU _,L,w⟩;refine M7 h0 λk as H ρ q_0 hk L w=>?_;clear h0;subst q_0;have aw:=L.F.away' iO;refine eG (o:=items[k]?) (λhx=>?_) λu hx=>?_
 ·have hkl:=fT (An.mp hx) hk;replace w:=(n6 (ak hkl))▸w;exact EN (a.hh hq) L.S (.head _) L.hv L.hi w.1 hkl λh' tk b=>Y2 (hR _ _ (fM ρ H as L.E (L.S.but b (c8 ⟨.head _,bI⟩) (λ_ q=>.tail _ q) (λa ha hz=>Z1 (in1 hz▸ha) iX) U U) ((L.K.but b (c8 fI)).less lessI) ((L.F.keepY (b.kept as _) (c8 (.head _)) aw).narrow (λb hb=>.tail _ hb) (eD (.inr (.head _)) λb hb=>.inl hb) aw) L.hl w.2))
 ·have hlt:=(cq hx);rw [su hx]at w;refine FG (a.hh hq) L.S (.head _) bI L.hv L.hi w.1 hx λz h₁ tk₁ b₁ hu₁ hv₁ hi₁ S₁=>(HU hi₁.cls ?_);haveI F₁:=L.F.keepY (b₁.kept as _) (c8 (.head _)) aw;haveI K₁:=L.K.but b₁ (c8 fI);haveI w2:=hF w.2;refine eG (o:=gz ρ tg u) (λhst=>?_) (λρ₂ hst=>?_)
  ·replace w2:=hst▸w2;exact w2.elim
  ·rw [hst]at w2;refine ht.run Kn L.hl (λb hb=>.tail _ (hY.mem b hb)) S₁ F₁ hu₁ (λ_=>a.hh hq) hst λs₂ st hl₂=>?_;obtain⟨S₂,k₂,F₂⟩:=st;haveI K₂:=K₁.trans L.E k₂;refine Zr (hb.run ⟨a,.no (a.hh hq),S₂,F₂,Kn,hl₂,(fr.step hY L.E (K₂.less lessI) (F₂.ns.imp λ_ h=>h.1) F₂.lout).grow (.refl _) λb=>cK⟩ hY.more w2) (λf s₃ q=>?_) λ_ _ e=>e.none.elim;haveI hI₂:=hi₁.at λo e hc=>k₂.get e L.oi iO hc;haveI hown₂:=λb hb=>S₂.xs b (.tail _ (hY.mem b hb))
   induction f with
   |next=>exact hU q λρ₃ H₃ as₃ e₃ S₃ k₃ F₃ hl₃ q₃=>(aG (items.length-(k+1)) (KR hlt (dc k)) ⟨k+1,as₃,H₃,ρ₃,rfl,hlt,⟨S₃,F₃,hl₃,(hv₁.keepX (KeptX.v k₂ λb hb=>.tail _ (hY.mem b hb)) (.refl ..)).keepX (k₃.v λb hb=>.tail _ (hY.mem b hb)) e₃,hI₂.at λo e hc=>k₃.get e L.oi iO hc,ao hI₂.here λo e _=>e₃.out e L.oi,L.E.transX K₂ hown₂ e₃,K₂.trans L.E k₃⟩,q₃⟩)
   |ret xv=>exact qj q λv' H₃ as₃ e₃ S₃ k₃ hv₃ q₃=>hR _ _ (oS v' H₃ as₃ (L.E.transX K₂ hown₂ e₃) S₃.less ((K₂.trans L.E k₃).less lessI) (hv₃.frames λb _ _ hb q=>hb (.tail _ q)) q₃)
   |_=>exact q.elim
theorem uS{te:Expr}{tg:Nat ⊕ List Nat}{rev:Bool}{body:List Stmt}{K:KS}{R:QE}{y:ZX}{o:Obj}{tk:Nat}{F:V->Fm->AH->KS->Prop}
  (ht:Tgt c T te tg)(hq:T.q=J)(hb:SB c n T body xs)(r:Rdy c T env A n s as X H ρ)(hY:Own A X env)(e1:Ext as s.heap as₁)(S1:SR c as₁ X H₁ s₁)(k1:Kept as X s.heap s₁.heap)(hv:VR c as₁ X s₁.heap v y)
  (hit:ItD rev (s₁.heap.push o) s₁.heap.objs.size v y 0)(w:ri F (λH'=>j2 rev H' v=Z items) items ρ H₁ K)
  (hF:∀{x ρ' H'} {K':KS},F x ρ' H' K'->match gz ρ' tg x with|some ρ''=>bk c.P (aO c.P n) xs ρ'' H' K' R (λ_ _=>False)|none=>False){RR:Result->ZV->Prop}(hR:∀f s',ResS c as X s.heap T env K R f s'->RR (.ok f) s') :
  ZD c.M A (.forLoop te (.ref s₁.heap.objs.size) body [] env) RR {s₁ with heap:=s₁.heap.push o,toks:=tk}:=by
 haveI hfI:s₁.heap.get? s₁.heap.objs.size=Z6:=dK _;generalize s₁.heap.objs.size=I at hit hfI ⊢;haveI g:Grown s₁.heap (s₁.heap.push o):=.push _ _;haveI hX':∀b∈I::X,b∈X\/s₁.heap.get? b=Z6:=eD (.inr hfI) λ_ hb=>.inl hb;exact AO (Kn:=r.K) ht hq hb r.a r.fr hY (S1.base_none hfI) (k1.fr hfI) (S1.not_x hfI) ⟨S1.opens g hX' (eD (hit.here.imp λ_ e=>e.1) λb hb=>(S1.xs b hb).imp λ_ e=>g _ _ e) U U,(r.F.keep k1 e1).opens g (λb hb=>.tail _ hb) hX',r.len,hv.opens g hX',hit,S1.not_as hfI,e1,((k1.trans e1 (g.kept as₁ _)).more λ_=>cK).y _⟩ w hF hR
theorem HT(ht:Tgt c T te tg)(hq:T.q=J)(hns:sZ iter)(h:SE c n T iter ex)(hb:SB c n T body xs) :
  S1 c n T (.For te iter body [] pos) (.f J tg ex xs):=by
 refine⟨?_⟩;intro env A s as X H ρ K R XX r hY w;refine wpAny_For (Zr (h.run r w) (λy s₁ q=>?_) λ_ _ e=>e.toS r.F) (oz hns env);obtain⟨v,H₁,as₁,e1,S1,k1,hv,items,hsrc,hsz,w⟩:=q;exact ux S1 hv hsrc λo hit=>uS (rev:=J) ht hq hb r hY e1 S1 k1 hv hit w (λh=>h) λf s' q=>q
theorem AZ:iE P C [e] ρ H (λvs H'=>W (vs.headD .none) H') X=cW P C e ρ H W X:=rfl
theorem zX(C:Cok c T.gl)(hg:T.glob g=Z (.ty "reversed"))(ht:Tgt c T te tg)(hq:T.q=J)(h:rL c n T [e] [ex])(hb:SB c n T body xs) :
  S1 c n T (.For te (.Call (.Name g p) [e] [] p') body [] pos) (.f Z5 tg ex xs):=by
 refine⟨?_⟩;intro env A s as X H ρ K R XX r hY w;simp only [zS]at w;haveI e1:=C.gl g _ (ij hg).2.1;refine wpAny_For (Zj (jq C hg r (.inr e1) ?_)) (λ_=>rfl);rw [<-AZ]at w;refine PySem.callWith_type (pz h) (Zr (hH h r w) (λa s₁ q=>?_) λ_ _ e=>e.toS r.F);obtain⟨hk,vs,H₁,as₁,e1,S1,k1,hvs,hl,items,hsrc,hsz,w⟩:=q;simp only [hk];refine dG (vp hvs hl) λv y e2 hy hv=>?_;clear hvs hl;subst e2;exact YP hy (Ck hv hsrc λo tk hit=>My hit (uS ht hq hb r hY e1 S1 k1 hv hit w (λh=>h) λf s' q=>q))
theorem mJ{st:Stmt}{x:St}{l:Nat}(h:S1 c n T st x):SS c n T st (jm T l x):=by refine⟨?_⟩;intro env A s as X H ρ K R XX r hY w;exact Zr (h.run r hY w) (λ_ _ q=>q) λ_ _ e=>e
theorem B2(C:Cok c gl)(sc:SC c n)(hf:∀x f b,gl.lookup x=Z (.fn f b)->∃fn,c.P.fns f=Z fn)(hg:T.gl=gl)(h1:T.slot x=Z i)(v:Expr) :
  Is (cE k T v) λe=>S1 c n T (.Assign [.Name x px] v pos) (.a i e):=by
 have he:=vy C sc hf k hg v;have F:lD v=J->Is (cE k T v) λe=>S1 c n T (.Assign [.Name x px] v pos) (.a i e):=λhc=>he.imp λ_ h=>⟨λr hY w=>Dc h1 h.se r hY w (BX hc)⟩;cases v with
 |ListComp elt gens scope pos'=>
  refine Is.to λex h=>⟨λ{env} {A s as X H ρ K R XX} r hY w=>?_⟩;obtain⟨b,hb⟩:=wT (x:=x) (l:=pos.line) (env:=env)
  induction b with
  |false=>exact Dc h1 (he.of h).se r hY w hb
  |true=>
   clear he F;cases k with
   |zero=>exact eU h
   |succ k=>
    induction(xz λa=>vy C sc hf k (a.trans hg)).of h with
    |mk ok hns hi hq he' hc=>exact FD h1 ok hns hi hq he' hc r hY w hb
 |SetComp elt gens scope pos'=>induction k<;>exact Z0
 |DictComp elt elt' gens scope pos'=>induction k<;>exact Z0
 |_=>exact F U
theorem yQ{R:List (List St)->Prop}{S:List St->Prop}(h:Is o R)(k:∀l,R l->S l.flatten):Is (pR o) S:=by
 induction o with
 |none=>exact Z0
 |some l=>exact k l h
inductive Tgt2R(T:Tb):List Expr->List Nat->Prop
 |mk {x y:Str} {px py:Pos} {i j:Nat}:T.slot x=Z i->T.slot y=Z j->Tgt2R T [.Name x px,.Name y py] [i,j]
theorem yY(T:Tb)(es:List Expr):Is (CR (C7 T) es) (Tgt2R T es):=by
 rcases es with _|⟨a,_|⟨b,_|_⟩⟩
 ·exact Z0
 ·exact Z0
 ·refine (o0 a).bind λx h1=>(o0 b).bind λy h2=>Is.self.bind λi h3=>Is.self.map λj h4=>?_;obtain⟨_,rfl⟩:=h1;obtain⟨_,rfl⟩:=h2;exact .mk h3 h4
 ·exact Z0
theorem Gp(t:Expr):Is (Mm T t) (Tgt c T t):=by
 cases t with
 |Name x p=>exact Is.self.map λ_ h1=>CW h1
 |Tuple es k p=>exact(yY T es).map λ_ h=>by induction h with|mk h3 h4=>exact uD h3 h4
 |_=>exact Z0
theorem BQ(h:Ba T f=Z5):∃g p,f=.Name g p/\T.glob g=Z (.ty "reversed"):=by
 haveI k:Is (Bz f) λx=>(T.glob x).any (λg=>JU g==Z "reversed")=Z5->∃g p,f=.Name g p/\T.glob g=Z (.ty "reversed"):=(o0 f).imp λx e=>e.elim λp e q=>by
  refine(gp x p e ?_);refine eG (o:=T.glob x) (λh2=>?_) (λg h2=>?_)
  ·refine YP h2 ?_;rw [h2]at q;exact nomatch q
  ·refine YP h2 ?_;rw [h2]at q;exact Z4 _ ((HM g).of (YQ q))
 unfold Ba at h;refine eG (o:=Bz f) (λh1=>?_) (λx h1=>?_)
 ·rw [h1]at h;exact nomatch h
 ·rw [h1]at h;exact k.of h1 h
theorem JA(C:Cok c T.gl)(hq:T.q=J)(ihe:EI c n T r)(ht:Tgt c T t tg)(hb:SB c n T body xs)(it:Expr) :
  Is (cIt r T it) λq=>S1 c n T (.For t it body [] pos) (.f q.1 tg q.2 xs):=by
 have F:∀e,Is ((r e).map λx=>(J,x)) λq=>S1 c n T (.For t e body [] pos) (.f q.1 tg q.2 xs):=λe=>(ihe e).map λ_ h=>HT ht hq h.nset h.se hb;cases it with
 |Call f args kws p=>
  refine Is.ite2 (λhr=>?_) λ_=>F _
  induction kws with
  |cons _ _=>exact Z0
  |nil=>
   rcases args with _|⟨e,_|_⟩
   ·exact Z0
   ·refine (ihe e).map λ_ h=>?_;obtain⟨g,p',rfl,hg⟩:=BQ hr;exact zX C hg ht hq (.cons ⟨h.se,h.ns⟩ .nil) hb
   ·exact Z0
 |_=>exact F _
theorem HD{b:Bool}(h:(!b)=Z5):b=J:=by induction b with|false=>rfl|true=>exact Z1 h ae
theorem Gm(ihe:EI c n T r)(es:List Expr)(v:Expr):Is (GF r T es v) (S1 c n T (.Assign [.Tuple es kk pt] v pos)):=by
 cases v with
 |Call f a k p=>exact Is.ite λhq=>(yY T es).bind λ_ h1=>(ihe _).map λ_ h5=>by induction h1 with|mk h3 h4=>exact EZ h3 h4 (HD (cP hq).2) h5.se
 |_=>exact Z0
theorem Ja(C:Cok c gl)(sc:SC c n)(hf:∀x f b,gl.lookup x=Z (.fn f b)->∃fn,c.P.fns f=Z fn)(hg:T.gl=gl)(t v:Expr):Is (LA (cE k T) T t v pos.line) (SS c n T (.Assign [t] v pos)):=by
 have ihe:=vy C sc hf k hg;cases t with
 |Name x px=>exact Is.self.bind λ_ h1=>(B2 C sc hf hg h1 v).map λ_ h=>mJ h
 |Tuple es kk pt=>exact(Gm ihe es v).map λ_ h=>mJ h
 |Subscript o i pp=>exact(ihe v).bind λ_ h1=>(ihe o).bind λ_ h2=>(ihe i).map λ_ h3=>mJ (Fk h1.se h2.se h3.se)
 |Attribute o name pp=>clear hf;subst hg;exact Is.nite λhc=>(ihe v).bind λ_ h2=>(tX ihe o name).map λ_ h=>by induction h with|mk hx hat hok h1=>exact mJ (Ed (C.cl _ _ _ _ hx) hat hc h2.se h1.se)
 |_=>exact Z0
inductive RzR(T:Tb):Option Expr->Option Expr->Nat->Prop
 |mk {x m:Str} {p mp cp:Pos} {kk j:Nat}:T.glob x=Z (.exc j)->RzR T (Z (.Call (.Name x p) [.Constant (.str m) kk mp] [] cp)) Z6 j
theorem KZ(e cause:Option Expr):Is (Cu T e cause) λj=>T.q=J/\RzR T e cause j:=by
 induction cause with
 |some _=>exact Z0
 |none=>
  refine Is.ite λhq=>?_
  induction e with
  |none=>exact Z0
  |some e=>
   cases e with
   |Call f args kws cp=>
    induction kws with
    |cons _ _=>exact Z0
    |nil=>
     rcases args with _|⟨a,_|_⟩
     ·exact Z0
     ·refine (Ao a).bind λm h1=>(o0 f).bind λx h2=>Is.self.bind λg h3=>(tD g).imp λ_ h4=>?_;obtain⟨_,_,rfl⟩:=h1;obtain⟨_,rfl⟩:=h2;subst h4;exact⟨HD hq,.mk h3⟩
     ·exact Z0
   |_=>exact Z0
theorem IM(C:Cok c T.gl)(hb:SB c n T body bs)(hd:ExceptHandler) :
  Is (cHd T hd) λq=>S1 c n T (.Try body [hd] [] [] pos) (.try_ bs q.1 q.2):=by
 obtain⟨t,nm,b,p⟩:=hd
 induction nm with
 |some _=>exact Z0
 |none=>
  induction t with
  |none=>exact Z0
  |some t=>refine(o0 t).bind λx h1=>Is.self.bind λg h2=>(tD g).bind λj h3=>(Kb b).map λ_ h=>?_;obtain⟨_,rfl⟩:=h1;obtain⟨he,p',rfl,hr⟩:=h;subst h3;exact I3 C h2 hb hr
theorem Ea(C:Cok c T.gl){r rq:Expr->Option Ex}(ihe:EI c n T r)(iheq:EI c n {T with q:=Z5} rq){body:List Stmt}{pos:Pos} hd:Is (Hy r rq T body hd) (S1 c n T (.Try body [hd] [] [] pos)):=by
 obtain⟨t,nm,b,p⟩:=hd
 induction nm with
 |none=>exact Z0
 |some y=>refine(HE D3 body).bind λv hv=>Is.nite λhc=>(NP T t).bind λj hj=>Is.self.bind λi hi=>(HE Kr b).bind λhe hh=>(ihe v).bind λe h1=>(iheq he).map λx h2=>?_;obtain⟨_,rfl,_,rfl⟩:=hv;obtain⟨x,px,rfl,hx⟩:=hj;obtain⟨_,rfl,_,rfl⟩:=hh;have hi:=eS hi;exact E5 C hx hi.2 hi.1 hc h1.se h2.se
theorem Nx(k:Nat):∀{c:Cx},Cok c gl->SC c n->(∀x f b,gl.lookup x=Z (.fn f b)->∃fn,c.P.fns f=Z fn)->∀{T:Tb},T.gl=gl->∀st,Is (cS k T st) (SS c n T st):=by
 induction k with
 |zero=>exact λ_ _ _ _ _ _=>Z0
 |succ k ih=>
  intro c C sc hf T hg st;have ihb:=λb=>yQ (nN (ih C sc hf hg) b) λ_ q=>Hk q;have ihe:=vy C sc hf k hg;have iheq:=vy C sc hf k (T:={T with q:=Z5}) hg;cases st with
  |Assign ts v pos=>
   rcases ts with _|⟨t,_|_⟩
   ·exact Z0
   ·exact Ja C sc hf hg t v
   ·exact Z0
  |While t body els pos=>
   induction els with
   |nil=>exact(ihe t).bind λ_ h1=>(ihb body).map λ_ h2=>mJ (Az h1.st h2)
   |cons _ _=>exact Z0
  |Expr v pos=>exact Is.nite λhc=>(ihe v).map λ_ h1=>mJ (Gq hc h1.se)
  |If t a b pos=>exact(ihe t).bind λ_ h1=>(ihb a).bind λ_ h2=>(ihb b).map λ_ h3=>mJ (L8 h1.st h2 h3)
  |For t it body els pos=>
   refine Is.nite λhq=>?_
   induction els with
   |nil=>exact(Gp t).bind λtg h1=>Is.self.bind λq h2=>(ihb body).map λxs h3=>mJ ((JA (hg▸C) hq ihe h1 h3 it).of h2)
   |cons _ _=>exact Z0
  |Return v p=>
   induction v with
   |some e=>exact(ihe e).map λ_ h1=>Kj h1.se
   |none=>exact DX
  |Pass p=>exact F6
  |Raise a b p=>exact(KZ a b).map λ_ h=>by obtain⟨hq,h⟩:=h;induction h with|mk hx=>exact⟨λr hY w=>(CS (hg▸C) hq hx).run r hY w⟩
  |Try body hs els fin pos=>
   refine Is.nite λ_=>?_
   induction els with
   |cons _ _=>exact Z0
   |nil=>
    induction fin with
    |cons _ _=>exact Z0
    |nil=>
     rcases hs with _|⟨hd,_|_⟩
     ·exact Z0
     ·exact Is.orE ((ihb body).bind λ_ h1=>(IM (hg▸C) h1 hd).map λ_ h2=>mJ h2) ((Ea (hg▸C) ihe iheq hd).map λ_ h2=>mJ h2)
     ·exact Z0
  |_=>exact Z0
theorem IZ(C:Cok c gl)(sc:SC c n)(hf:∀x f b,gl.lookup x=Z (.fn f b)->∃fn,c.P.fns f=Z fn)(hg:T.gl=gl)(h:Ow k T b=Z sts):SB c n T b sts:=
 (yQ (nN (Nx k C sc hf hg) b) λ_ q=>Hk q).of h
set_option backward.match.sparseCases true in
theorem uR{R:Result->ZV->Prop} 
  
  (hroom:A.depth<recursionLimit)(ho:s.heap.get? a=Z o)(hdata:o.data=.func (methDef name qual params body scope pm cd doc))(hlim:s.heap.NoLimit)(hcd:s.heap.CodeRec cd qual)
  (hbind:bindArgs (methDef name qual params body scope pm cd doc) ⟨args,[]⟩=pure binds)
  (hkind:∀x∈binds,scope.names.lookup x.1=Z .local\/(scope.names.lookup x.1=Z .cell/\((cellsFrom (s.heap.objs.size+1) scope.names []).lookup x.1).isSome=Z5))
  (h:∀h₁ tk,PyProof.Rows.Fr s.heap s.heap.objs.size h₁ (bindL (envOfC qual scope s.heap.objs.size a cd).kindOf binds λ_=>Z6)->
   Cl s.heap.objs.size (cellsFrom (s.heap.objs.size+1) scope.names []) h₁ (bindC (envOfC qual scope s.heap.objs.size a cd).kindOf binds λ_=>Z6)->
   ZS (model prog w) (A.deeper (envOfC qual scope s.heap.objs.size a cd)) (execs body (envOfC qual scope s.heap.objs.size a cd))
    (λf s'=>R (.ok (.ret (match f with|.ret v=>v|_=>.none))) s')
    (λe s'=>ZS (model prog w) (A.deeper (envOfC qual scope s.heap.objs.size a cd)) (leaving (envOfC qual scope s.heap.objs.size a cd) e)
     (λ_ s''=>R (.error e) s'') (λe' s''=>R (.error e') s'') s')
    {s with heap:=h₁,toks:=tk})
  (hco:scope.isCoroutine=J)(hgen:scope.isGenerator=J)(hk:scope.kind=.function) :
  ZD (model prog w) A (.call (.ref a) ⟨args,[]⟩) R s:=by
 refine codeAny_call_cells hroom ho hdata hlim hcd U hbind U hkind (λs₁ X=>?_) hco hgen hk;refine di X.done λh₁ tk q_3 _=>?_;subst q_3;exact h h₁ tk ⟨X.toInCall.ns,X.toInCall.keep,X.toInCall.fresh⟩ ⟨X.cell,X.apart,X.above⟩
inductive FOk(c:Cx)(gl:List (Str×Gl))(f:Nat)(fn:Fn):Prop
 |mk (name qual:Str) (params:Arguments) (body:List Stmt) (scope:Scope) (pm cd doc:ZX) (ps:List Str) (T:Tb) (k:Nat):(c.fdat f=methDef name qual params body scope pm cd doc)->(c.base.CodeRec cd qual)->(T.gl=gl)->(T.q=c.qf f)->(T.names=scope.names)->(T.n=fn.arity+fn.extra)->(Ow k T body=Z fn.body)->(∀xs:List ZX,xs.length=fn.arity->bindArgs (methDef name qual params body scope pm cd doc) ⟨xs,[]⟩=pure (ps.zip xs))->(ps.length=fn.arity)->(ps.Nodup)->(∀x∈ps,scope.names.lookup x=Z .local\/scope.names.lookup x=Z .cell)->((T.tab.map (·.2)).Nodup)->(∀x i,T.tab.lookup x=Z i->i<fn.arity->ps[i]? =Z x)->((scope.names.map (·.1)).Nodup)->(∀p∈scope.names,p.2≠.free)->(scope.kind=.function)->(scope.isCoroutine=J)->(scope.isGenerator=J)->FOk c gl f fn
theorem xh(names:List (Str×NameKind)):∀(n:Nat) (acc:List (Str×ZZ)),((cellsFrom n names acc).map (·.1)).Perm (((names.filter (λp=>p.2==.cell)).map (·.1))++acc.map (·.1)):=by
 induction names with
 |nil=>exact λ_ _=>.refl _
 |cons p r ih=>
  intro n acc;obtain⟨x,k⟩:=p;dsimp only [cellsFrom];by_cases hk:(k==NameKind.cell)=Z5
  ·exact YP (Z3 hk) (YP (dt (p:=λp:Str×NameKind=>p.2==NameKind.cell) hk) ((ih (n+1) ((x,n)::acc)).trans QZ))
  ·exact YP (Z2 hk) (YP (eZ (p:=λp:Str×NameKind=>p.2==NameKind.cell) hk) (ih n acc))
theorem qM(names:List (Str×NameKind)):∀(n:Nat) (acc:List (Str×ZZ)) (x:Str),((x,NameKind.cell)∈names\/(∃a,acc.lookup x=Z a))->∃a,(cellsFrom n names acc).lookup x=Z a:=by
 induction names with
 |nil=>exact λ_ _ _ h=>h.elim (λh=>nomatch h) id
 |cons p r ih=>
  intro n acc x h;obtain⟨y,k⟩:=p;dsimp only [cellsFrom];by_cases hk:(k==NameKind.cell)=Z5
  ·refine YP (Z3 hk) (ih _ _ _ ?_);by_cases hxy:x=y
   ·exact .inr ⟨n,by exact YP bo (YP (beq_iff_eq.mpr hxy) U)⟩
   ·exact h.imp (λh=>eV h (λe=>Z1 (Z4 pg e) hxy) id) λh=>h.imp λa h=>by simp only [bo,beq_eq_false_iff_ne.mpr hxy];exact h
  ·exact YP (Z2 hk) (ih _ _ _ (h.imp (λh=>eV h (λe=>Z1 (beq_iff_eq.mpr (Z4 lc e).symm) hk) id) id))
theorem q9{α β:Type}[BEq α][LawfulBEq α]{l:List (α×β)}(hn:(l.map (·.1)).Nodup){p:α×β}(h:p∈l):l.lookup p.1=Z p.2:=by
 induction l with
 |nil=>exact nomatch h
 |cons q r ih=>
  haveI hn:=kC hn;refine YP bo (eV h (λe=>?_) λh=>?_)
  ·exact YP e (YP (BEq.rfl) U)
  ·exact YP (beq_eq_false_iff_ne.mpr λe:p.1=q.1=>hn.1 (cQ.mpr (aG p h e))) (ih hn.2 h)
theorem E7{α:Type}{l:List (α×Nat)}(hn:(l.map (·.2)).Nodup){x y:α}(h1:(x,i)∈l)(h2:(y,i)∈l):x=y:=by
 induction l with
 |nil=>exact nomatch h1
 |cons q r ih=>
  haveI hn:=kC hn;refine eV h1 (λe1=>?_) λh1=>?_
  ·exact eV h2 (λe2=>Z4 pg (e1.trans e2.symm)) λh2=>Z1 (cQ.mpr (aG _ h2 (Z4 lc e1:i=q.2))) hn.1
  ·exact eV h2 (λe2=>Z1 (cQ.mpr (aG _ h1 (Z4 lc e2:i=q.2))) hn.1) λh2=>ih hn.2 h1 h2
section
variable {kindOf:Str->Option NameKind}{ps:List Str}
theorem uh(h:x∉ps):∀{xs:List ZX} {m:Str->Option ZX},bindL kindOf (ps.zip xs) m x=m x:=by
 induction ps with
 |nil=>exact U
 |cons p ps ih=>
  intro xs m
  induction xs with
  |nil=>exact U
  |cons y xs=>
   refine(ih (λe=>h (.tail _ e))).trans ?_;by_cases hk:kindOf p=Z .local
   ·exact YP (Z3 hk) (Z2 λe:x=p=>h (e▸.head _))
   ·exact YP (Z2 hk) U
theorem Dg(hn:ps.Nodup):∀{xs:List ZX} {m:Str->Option ZX} {i:Nat} {y:ZX},ps[i]? =Z x->xs[i]? =Z y->kindOf x=Z .local->bindL kindOf (ps.zip xs) m x=Z y:=by
 induction ps with
 |nil=>exact λh=>eU h
 |cons p ps ih=>
  have hn:=kC hn;intro xs m i y h1 h2 hk;cases xs with
  |nil=>exact eU h2
  |cons z xs=>
   induction i with
   |zero=>
    (replace h1:=ai h1;(replace h1:=YO h1;subst h1))
    (replace h2:=ai h2;subst h2)
    exact(uh hn.1).trans (YP (Z3 hk) (Z3 U))
   |succ i=>exact ih hn.2 h1 h2 hk
theorem vg(h:x∉ps):∀{xs:List ZX} {m:Str->Option ZX},bindC kindOf (ps.zip xs) m x=m x:=by
 induction ps with
 |nil=>exact U
 |cons p ps ih=>
  intro xs m
  induction xs with
  |nil=>exact U
  |cons y xs=>
   refine(ih (λe=>h (.tail _ e))).trans ?_;by_cases hk:kindOf p=Z .local
   ·exact YP (Z3 hk) U
   ·exact YP (Z2 hk) (Z2 λe:x=p=>h (e▸.head _))
theorem Bd(hn:ps.Nodup):∀{xs:List ZX} {m:Str->Option ZX} {i:Nat} {y:ZX},ps[i]? =Z x->xs[i]? =Z y->kindOf x≠Z .local->bindC kindOf (ps.zip xs) m x=Z y:=by
 induction ps with
 |nil=>exact λh=>eU h
 |cons p ps ih=>
  have hn:=kC hn;intro xs m i y h1 h2 hk;cases xs with
  |nil=>exact eU h2
  |cons z xs=>
   induction i with
   |zero=>
    (replace h1:=ai h1;(replace h1:=YO h1;subst h1))
    (replace h2:=ai h2;subst h2)
    exact(vg hn.1).trans (YP (Z2 hk) (Z3 U))
   |succ i=>exact ih hn.2 h1 h2 hk
end
theorem ACk.deep(a:ACk q A (n+1)):AOk q (A.deeper env) n:=⟨⟨a.hh,by have:=a.hd;simp only [Around.deeper];exact gQ this (by simp+arith only),by have:=a.hu;simp only [Around.deeper];exact gQ this (by simp+arith only)⟩,by have:=a.hd;simp only [Around.deeper];exact gQ this (by simp+arith only),by have:=a.hu;simp only [Around.deeper];exact gQ this (by simp+arith only)⟩
theorem z4{h:HP}{b:ZZ}(hb:h.objs.size<=b):h.get? b=Z6:=eG id λ_ e=>Z1 (eJ e) (hV.mpr hb)
theorem uB{vs:List V}{m i:Nat}{v:V}(e:((vs.map Z++bW m Z6)[i]?).join=Z v):i<vs.length/\vs[i]? =Z v:=by
 by_cases hi:i<(vs.map Z).length
 ·rw [bB hi,aV]at e;refine⟨(aj _)▸hi,?_⟩;refine eG (o:=vs[i]?) (λhq=>?_) (λv' hq=>?_)
  ·refine YP hq ?_;rw [hq]at e;exact eU e
  ·refine YP hq ?_;rw [hq]at e;exact e
 ·rw [cB (hV.mp hi),List.getElem?_replicate]at e;split at e<;>exact eU e
theorem xH{P:ZZ->Prop}(h:P env.locals)(k:∀p∈env.cells,P p.2):∀b∈own env,P b:=eD h (KU.mpr k)
theorem uV:∀b∈jT env,b∈own env:=eD (.head _) λ_ h=>h
theorem Gb(h:env.locals=L):2<=(jT env++X).count L:=by exact YP (YO h) (YP tQ (aa (by exact YP pd (YP pd (bG 2 _))) (ax _ _)))
theorem F4{c:Cx}{n:Nat}{gl:List (Str×Gl)}(C:Cok c gl)(hf:∀x f b,gl.lookup x=Z (.fn f b)->∃fn,c.P.fns f=Z fn)(ok:∀f fn,c.P.fns f=Z fn->FOk c gl f fn)(sc:SC c n):SC c (n+1):=by
 refine⟨?_⟩;intro f fn A s as X H vs xs Q XX hfn a hx fr S hvs w;refine(ok f fn hfn).rec λKname Kqual Kparams Kbody Kscope Kpm Kcd Kdoc Kps KT Kk Kdata Kcode Khgl Kqq Knames Khn Khc Kbind Kpsl Kpsn Kpsk Ktabn Ktabp Kkeys Knofree Kkind Kco Kgen=>?_;simp only [mZ,hfn]at w;refine dq w λhlen w=>?_;refine ao (C.fobj f fn hfn) ?_;intro o ho hdata;rw [Kdata]at hdata;haveI hxl:xs.length=fn.arity:=by refine YP (YO (hvs.length)) ?_;exact hlen
 refine wpAny_call (uR (by haveI:=a.hd;exact gQ this (by simp+arith only)) (S.stays _ _ ho) hdata (C.nolim.keeps S.stays) (Kcode.keeps S.stays) (Kbind xs hxl) (λx hx=>?_) (λh₁ tk F0 Cl0=>?_) Kco Kgen Kkind)
 ·exact (Kpsk _ (xw hx).1).imp id λq=>⟨q,dJ.mpr (qM Kscope.names (s.heap.objs.size+1) [] x.1 (.inl (mem_of_lookup q)))⟩
 ·haveI hfL:s.heap.get? s.heap.objs.size=Z6:=dK _;generalize hL:s.heap.objs.size=L at F0 Cl0 hfL ⊢;generalize henv:envOfC Kqual Kscope L (c.fad f) Kcd=env at F0 Cl0 ⊢;haveI ecells:env.cells=cellsFrom (L+1) Kscope.names []:=by exact YP (YO henv) U
  have eloc:env.locals=L:=by exact YP (YO henv) U
  have ekind:∀x,env.kindOf x=Kscope.names.lookup x:=λx=>by exact YP (YO henv) U
  haveI hcn:((cellsFrom (L+1) Kscope.names []).map (·.1)).Nodup:=by refine(xh Kscope.names (L+1) []).symm.nodup ?_;simp only [Gx,aJ];exact(List.filter_sublist.map _).nodup Kkeys
  haveI habove:∀p∈cellsFrom (L+1) Kscope.names [],L<p.2:=λp hp=>Cl0.above p.1 p.2 hp;have hfresh:∀b,L<=b->s.heap.get? b=Z6:=λb hb=>z4 (aa (ak hL) hb);have hownc:∀p∈env.cells,p∈cellsFrom (L+1) Kscope.names []:=λp hp=>ecells▸hp;have hown:∀b∈own env,s.heap.get? b=Z6:=xH (hfresh _ (ak eloc.symm)) λp hp=>hfresh _ (fW (habove p (hownc p hp)));have g:Grown s.heap h₁:=F0.keep;haveI ho2:∀b∈jT env,s.heap.get? b=Z6:=λb hb=>hown b (uV b hb);haveI hX':∀b∈jT env++X,b∈X\/s.heap.get? b=Z6:=bR (λb q=>.inr (ho2 b q)) λ_ q=>.inl q;haveI S1:=S.opens (s':={s with heap:=h₁,toks:=tk}) g hX' (bR (λb q=>xH (P:=λb=>∃o,h₁.get? b=Z o) (eloc▸lR F0.ns λo _ _ e _=>⟨o,e⟩) (λp hp=>(Cl0.cell p.1 p.2 ((λp hp=>q9 hcn hp:∀p∈cellsFrom (L+1) Kscope.names [],(cellsFrom (L+1) Kscope.names []).lookup p.1=Z p.2) p (hownc p hp))).imp λ_ e=>e.1) b (uV b q)) λb q=>(S.xs b q).imp λ_ e=>g _ _ e) U U;have hslot:∀{x:Str} {i:Nat} {v:V},KT.tab.lookup x=Z i->((vs.map Z++bW fn.extra Z6)[i]?).join=Z v->∃y,Kps[i]? =Z x/\xs[i]? =Z y/\VR c as (jT env++X) h₁ v y:=λ{x i v} ht e=>
   (hvs.get (uB e).2).imp λy q=>(bu (Ktabp x i ht (hlen▸(uB e).1)) q.1 (q.2.opens g hX'))
  haveI F1:FR c as (jT env++X) h₁ env KT.tab (vs.map Z++bW fn.extra Z6):=by
   refine⟨by refine YP (YO henv) ?_;exact Kkind,by exact YP (YO henv) U,by exact YP (YO henv) U,by simp,?_,?_,(aG _ (by exact(eloc)▸F0.ns) (λx i ht hk v e=>?_)),λx i ht hk=>?_,λx y b e1 e2=>?_,λx y i e1 e2=>?_⟩
   ·exact eloc▸S.not_as hfL
   ·exact eloc▸S.base_none hfL
   ·exact (hslot ht e).imp λy q=>⟨Dg Kpsn q.1 q.2.1 hk,q.2.2⟩
   ·have hk':Kscope.names.lookup x=Z .cell:=hk.elim (λhk=>(ekind x).symm.trans hk) λhk=>Z1 U (Knofree _ (mem_of_lookup ((ekind x).symm.trans hk)));refine d5 (qM Kscope.names (L+1) [] x (.inl (mem_of_lookup hk'))) λb hb=>?_;haveI hLb:=Cl0.above x b (mem_of_lookup hb);haveI hnb:=hfresh b (fW hLb);refine(mE b _ (by refine YP ecells ?_;exact hb) (aR _ (.tail _ (.tail _ (cQ.mpr (aG (x,b) (by refine YP ecells ?_;exact mem_of_lookup hb) U))))) (S.not_as hnb) (S.base_none hnb) (by exact(eloc)▸fq hLb) (Cl0.cell x b hb) (λv e=>?_));exact(hslot ht e).imp λy q=>⟨Bd Kpsn q.1 q.2.1 (λh=>nomatch hk'.symm.trans ((ekind x).symm.trans h)),q.2.2⟩
   ·exact name_of_addr Cl0.apart (hownc _ (mem_of_lookup e1)) (hownc _ (mem_of_lookup e2))
   ·exact E7 Ktabn (mem_of_lookup e1) (mem_of_lookup e2)
  haveI ek:∀x,env.kindOf x=KT.names.lookup x:=λx=>(ekind x).trans (Z4 _ Knames.symm);haveI Kn:KOk KT env:=⟨λx h=>(ek x).trans h,λx h=>(ek x).trans h,λx h=>.inl ((ek x).trans h),λx h=>(ek x).trans h⟩;haveI a1:AOk KT.q (A.deeper env) n:=Kqq▸a.deep;refine ao fr ?_;intro l hfl hfe;have efr:env.frame=Z L:=by exact YP (YO henv) U
  haveI ekd:env.scope.kind=.function:=by exact YP (YO henv) Kkind
  haveI hcnt:∀b,X.count b<=(jT env++X).count b:=λb=>by simp only [tQ];exact bG _ _
  haveI hLX:L∈jT env++X:=aR _ (by simp only [<-eloc];exact .head _);have fr1:∀{as':d6} {Z7:List ZZ} {H':AH} {s':ZV},Ext as s.heap as'->Kept as (jT env++X) s.heap s'.heap->SR c as' Z7 H' s'->(∀b∈jT env++X,b∈Z7)->(∃m,s'.heap.Ns env.locals m)->EnvFr c (A.deeper env) (jT env++X) as' s'.heap env:=λ{as' Z7 H' s'} e k S' hZ hn=>⟨env,l,L,Around.frames_deeper hfl,eD (hn.elim λm hn=>jF hn λob es ep e1 e2 _=>⟨ekd▸(by decide),L,ob,es,ep,efr,S.base_none hfL,Gb eloc,λq=>(c6 q).elim λi hi=>(S'.objs i _ hi).2.1 (hZ _ hLX),eloc▸e1,e2⟩) λev hev=>((hfe ev hev).grow (.refl _) hcnt).keep e k,efr,efr⟩
  have O1:Own (A.deeper env) (jT env++X) env:=by refine⟨λb hb=>aR _ (.tail _ hb),efr.trans (Z4 Z eloc.symm),λl' hl' ev hev L' hL' q=>?_⟩;haveI hev:ev∈env::l:=ai ((Around.frames_deeper (env:=env) hfl).symm.trans hl')▸hev;have hlt:L<L':=(KU (P:=λb=>L<b)).mpr (λp hp=>habove p (hownc p hp)) L' q;refine eD (p:=λev=>ev.frame=Z L'->False) (λhL'=>dk hlt (ai (efr.symm.trans hL'))) (λev hev hL'=>oM ((hfe ev hev).there) λL'' o' _ _ q1 _ _ _ q5 _=>?_) ev hev hL';cases q1.symm.trans hL';exact eU ((hfresh _ (fW hlt)).symm.trans q5)
  have hE1:∀{as':d6},Ext as h₁ as'->Ext as s.heap as':=λe=>⟨e.old,λb hb=>(e.new b hb).imp id g.none⟩;have hK1:∀{h':HP},KeptX as (jT env++X) (own env) h₁ h'->Kept as (jT env++X) s.heap h':=λk b o e hb=>k b o (g _ _ e) hb λq=>eU ((hown b q).symm.trans e);have hless:∀b,2<=(jT env++X).count b->2<=X.count b\/Mine.Fr as s.heap b:=λb hb=>by
   by_cases hm:b∈jT env
   ·exact .inr (.inr (ho2 b hm))
   ·rw [tQ,jV hm,fw]at hb;exact .inl hb
  haveI R1:Rdy c KT env (A.deeper env) n {s with heap:=h₁,toks:=tk} as (jT env++X) H (vs.map Z++bW fn.extra Z6):=⟨a1,(hx.opens g hX').to U,S1,F1,Kn,by rw [Khn,af,aj,HJ,hlen],fr1 (.refl ..) (g.kept _ _) S1 (λ_ q=>q) (F1.ns.imp λ_ h=>h.1)⟩;have fin:∀{v:V} {y:ZX} {H':AH} {as':d6} {s':ZV},Ext as h₁ as'->SR c as' (jT env++X) H' s'->KeptX as (jT env++X) (own env) h₁ s'.heap->VR c as' (jT env++X) s'.heap v y->Q v H'->Res c as X s.heap Q y s':=λ{v y H' as' s'} e S' k hv q=>⟨v,H',as',hE1 e,S'.turn (λb o e _ _=>e) S'.stays (λb hb=>aC _ hb) (λb hb=>S'.xs b (aC _ hb)) U U,(hK1 k).less hless,hv.frames λb _ _ hb q=>hb (aC _ q),q⟩
  refine Zr ((IZ C sc hf Khgl Khc).run R1 O1 w) (λfl s' q=>?_) λx s' r=>?_
  rotate_left
  ·obtain ⟨k,H',as',e,t,ts,rfl,e',S',k',ex,ht,ap,hn,q⟩:=r;haveI er:ERes c as (jT env++X) s.heap XX (.ref e) s':=⟨k,H',as',e,t,ts,rfl,hE1 e',S',hK1 k',ex,ht,λa ha=>⟨(ap a ha).1.imp id g.none,(ap a ha).2⟩,q⟩;dsimp only [leaving];refine ZM (er.note (λas'' _ _ e'' k'' S'' hZ=>fr1 e'' k'' S'' hZ hn) λs'' er' tr _=>er'.fly tr λs₃ er₃ _=>?_);exact er₃.less (λb hb=>aC _ hb) hless
  induction fl with
  |next=>refine hU q ?_;intro ρ' H' as' e S' k _ _ q;exact fin e S' k .none q
  |ret y=>refine qj q ?_;intro v H' as' e S' k hv q;exact fin e S' k hv q
  |_=>exact q.elim
theorem Eg:SC c 0:=⟨λ_ _ _ _ _ _ h=>h.elim⟩
theorem H7(C:Cok c gl)(hf:∀x f b,gl.lookup x=Z (.fn f b)->∃fn,c.P.fns f=Z fn)(ok:∀f fn,c.P.fns f=Z fn->FOk c gl f fn):SC c n:=by
 induction n with
 |zero=>exact Eg
 |succ n ih=>exact F4 C hf ok ih
theorem wD{ps:List Str}{x:Str}:∀{xs:List ZX},ps.length=xs.length->x∈ps->((ps.zip xs).lookup x).isSome=Z5:=by
 induction ps with
 |nil=>exact λ_ h=>nomatch h
 |cons p ps ih=>
  intro xs hl h
  induction xs with
  |nil=>exact nomatch hl
  |cons y xs=>refine YP fG (YP bo ?_);exact nf (o:=x==p) (λe=>YP e U) λe=>by exact YP e (ih (b8 hl) (eV h (λz=>Z1 ((beq_iff_eq.mpr z).symm.trans e) (Ne.symm ae)) id))
theorem AS{α β:Type}{f g:α->Option β}{l:List α}:(∀a∈l,f a=g a)->l.filterMap f=l.filterMap g:=by
 induction l with
 |nil=>exact λ_=>rfl
 |cons a l ih=>exact λh=>YP iB (YP iB (YP (h a (.head _)) (YP (ih λb hb=>h b (.tail _ hb)) U)))
theorem ro{ps:List Str}:∀{xs:List ZX},ps.length=xs.length->ps.Nodup->ps.filterMap (λn=>((ps.zip xs).lookup n).map (n,·))=ps.zip xs:=by
 induction ps with
 |nil=>exact λ_ _=>rfl
 |cons p ps ih=>
  intro xs hl hn
  induction xs with
  |nil=>exact nomatch hl
  |cons y xs=>haveI hn':=kC hn;rw [fG,iB,bo,beq_self_eq_true];refine Z4 ((p,y)::·) ((AS λn h=>?_).trans (ih (b8 hl) hn'.2));exact YP bo (YP (show(n==p)=J from beq_false_of_ne λe=>hn'.1 (e▸h)) U)
theorem sB{α β:Type}{x:Sem α}{a:α}{f:α->Sem β}{r:Sem β}(h:x=pure a)(k:f a=r):(x>>= f)=r:=by subst h;exact k
theorem sI{α:Type}{A B r:Sem α}(h:c=J)(k:B=r):(if c=Z5 then A else B)=r:=by subst h;exact k
theorem zJ(hp:args.map (·.arg)=ps)(hl:decide (xs.length>ps.length)=J)
  (hm:((ps.take ps.length).filter λn=>((ps.zip xs).lookup n).isNone)=[])(hz:ps.filterMap (λn=>((ps.zip xs).lookup n).map (n,·))=ps.zip xs) :
  bindArgs (methDef name qual ⟨[],args,Z6,[],kd,Z6,df⟩ body scope pm cd doc) ⟨xs,[]⟩=pure (ps.zip xs):=by
 subst hp;haveI hd:∀k,List.drop k (((Z6:Option (Array ZX)).getD #[]).toList)=[]:=λk=>List.drop_nil;refine sB (α:=List (Str×ZX)×List (Str×ZX)) U ?_;refine sB U ?_;refine sI ?_ ?_
 ·exact Z4 (·&&Z5) hl
 refine sI ?_ ?_
 ·rw [hd];exact Z4 (λl:List Str=>!l.isEmpty) hm
 refine sB (by rw [hd,List.zip_nil_right];rfl) ?_;refine sB U (sI U ?_);exact Z4 pure ((Z4 (λl=>List.filterMap _ l) (aJ _)).trans hz)
theorem wP(h1:params.posonlyargs=[])(h2:params.vararg=Z6)(h3:params.kwonlyargs=[])(h4:params.kwarg=Z6)
  (hn:(params.args.map (·.arg)).Nodup)(hl:xs.length=(params.args.map (·.arg)).length):bindArgs (methDef name qual params body scope pm cd doc) ⟨xs,[]⟩=pure ((params.args.map (·.arg)).zip xs):=by
 obtain⟨a,b,c,d,e,f,g⟩:=params;subst h1;subst h2;subst h3;subst h4;refine zJ U (decide_eq_false λh=>Z1 hl (fq h)) ?_ (ro hl.symm hn);refine og.mpr λn hn' e=>?_;haveI:=wD hl.symm (jX hn');rw [fP.mp e]at this;exact nomatch this
noncomputable def ub(d:YX):List Str:=d.params.args.map (·.arg)
noncomputable def nT(d:YX):List Str:=(d.scope.names.filter λp=>(decide (p.2=.local)||decide (p.2=.cell))&& !(ub d).contains p.1).map (·.1)
noncomputable def mW(x:Str):Bool:=x==("_law_kinds":Str)
noncomputable def M9(gl:List (Str×Gl))(mu:List (Nat×Nat))(fz:List (Nat×List Nat))(d:YX):Tb:=
 {gl,meths:=[],names:=d.scope.names,tab:=(ub d++nT d).zipIdx,n:=(ub d).length+(nT d).length,mu,q:=mW d.name}
noncomputable def GA(d:YX):Bool:=
 d.params.posonlyargs.isEmpty&&d.params.vararg.isNone&&d.params.kwonlyargs.isEmpty&&d.params.kwarg.isNone&&decide (ub d).Nodup&&
 (ub d).all (λx=>decide (d.scope.names.lookup x=Z .local)||decide (d.scope.names.lookup x=Z .cell))&&
 decide (d.scope.names.map (·.1)).Nodup&&d.scope.names.all (λp=>decide (p.2≠.free))&&decide (d.scope.kind=.function)&& !d.scope.isCoroutine&& !d.scope.isGenerator
noncomputable def tK(gl:List (Str×Gl))(mu:List (Nat×Nat))(fz:List (Nat×List Nat))(d:YX):Option Fn:=
 if GA d then(Ow 60 (M9 gl mu fz d) d.body).map λb=>⟨(ub d).length,(nT d).length,b⟩else Z6
theorem wV{α:Type}(l:List α):l.zipIdx.map (·.2)=aX l.length:=by refine YP (List.zipIdx_eq_zip_range') (YP (List.map_snd_zip (by simp)) ?_);simp only [Kx]
theorem zY{l:List Str}{x:Str}{i:Nat}(h:l.zipIdx.lookup x=Z i):l[i]? =Z x:=by
 haveI:=mem_of_lookup h;have h2:=gP.mp this
 simpa using h2
set_option tactic.hygienic true in
theorem JV{gl:List (Str×Gl)}{mu:List (Nat×Nat)}{fz:List (Nat×List Nat)}{d:YX}{f:Nat}{fn:Fn}{pm cd doc:ZX}{qual:Str}(h:tK gl mu fz d=Z fn)(hd:c.fdat f=methDef d.name qual d.params d.body d.scope pm cd doc)
  (hc:c.base.CodeRec cd qual)(hq:mW d.name=c.qf f):FOk c gl f fn:=by
 unfold tK at h;split at h
 ·rename_i hok;replace h:=jB h;refine ao h ?_;intro b hb q_3;clear h;subst q_3;simp only [GA,dP,decide_eq_true_eq,vC,fP,bw,ku,cH]at hok;obtain⟨⟨⟨⟨⟨⟨⟨⟨⟨⟨h1,h2⟩,h3⟩,h4⟩,h5⟩,h6⟩,h7⟩,h8⟩,h9⟩,h10⟩,h11⟩:=hok;refine⟨d.name,qual,d.params,d.body,d.scope,pm,cd,doc,ub d,M9 gl mu fz d,60,hd,hc,rfl,hq,rfl,rfl,hb,
   λxs hl=>wP h1 h2 h3 h4 h5 hl,rfl,h5,h6,?_,λx i hx hi=>?_,h7,h8,h9,h10,h11⟩
  ·refine (?_:((ub d++nT d).zipIdx.map (·.2)).Nodup);rw [wV];exact Q0
  ·haveI:=zY hx;replace this:=(bB hi).symm.trans this;exact this
 ·exact eU h
noncomputable def s7(recs:List YX)(gl:List (Str×Gl))(mu:List (Nat×Nat))(fz:List (Nat×List Nat))(cs:List (List Nat)):Prog:=
 {fns:=λf=>(recs[f]?).bind (tK gl mu fz),sub:=DA cs}
noncomputable def Bb(h:HP)(x:Str):Bool:=
 match h.clsAt mainGlobals x with
 |some (_,_,cd)=>kI.all λn=>(h.nsMap cd.ns n).isNone
 |none=>J
noncomputable def FS(h:HP)(n:Str):ZX:=(h.nsMap mainGlobals n).getD .none
noncomputable def Nf(owns:List YW)(h:HP):Bool:=h.isNs mainGlobals&&owns.all λo=>h.ownExcOk o.name o.chain o.bm o.newId&&Bb h o.name&&decide (o.bm=B5)&&(o.newId=="ValueError.__new__")&&o.chain.all λn=>owns.any λo'=>o'.name==n
noncomputable def C2(owns:List YW)(h:HP):List (List Bool):=owns.map λo=>owns.map λo'=>(FS h o.name::(o.chain.map (FS h)++o.bm)).contains (FS h o'.name)
noncomputable def Jc(cs:List (List Nat))(n:Nat):List (List Bool):=(aX n).map λk=>(aX n).map λj=>DA cs k j
def XSays(owns:List YW)(cs:List (List Nat))(h:HP):Prop:=
 ∃mg,h.Ns mainGlobals mg/\∀(k:Nat) o,owns[k]? =Z o->∃C bm,mg o.name=Z (.ref C)/\XC h C bm/\∀(j:Nat) o',owns[j]? =Z o'->(Value.ref C::bm).contains ((mg o'.name).getD .none)=DA cs k j
theorem XSays.keeps(x:XSays owns cs h)(hk:∀b o,h.get? b=Z o->h'.get? b=Z o):XSays owns cs h':=by refine ao x λmg hn r=>?_;exact(aG mg (hn.keeps hk) (λk o e=>(r k o e).imp λ_ q=>q.imp λ_ q=>(bu q.1 (q.2.1.keeps hk) q.2.2)))
theorem Mz{o:YW}(x:h.ownExcOk o.name o.chain o.bm o.newId=Z5)(y:Bb h o.name=Z5)(_hb:o.bm=B5)(hi:o.newId="ValueError.__new__") :
  ∃C,h.nsMap mainGlobals o.name=Z (.ref C)/\∀_:XTail h (o.chain.map (FS h)++o.bm),XC h C (o.chain.map (FS h)++o.bm):=by
 obtain⟨C,N,nm,q,bs,hdct,sn,sub,ab,col,dd,k0,k1,k2,k3,k5,hg,hC,hN,_⟩:=Oj x;refine(aG C hg (λT=>⟨hi▸hC,hN,λn hn=>?_,T⟩));unfold Bb at y;cases hf:h.clsAt mainGlobals o.name with
 |none=>replace y:=hf▸y;cases y
 |some z=>
  obtain⟨C',o',cd'⟩:=z;simp only [hf]at y;refine d7 (Heap.clsAt_spec hf) ?_;intro hn' ho' hd';rw [hg]at hn';obtain rfl:C=C':=by injection hn' with q1;injection q1
  rw [hC]at ho';replace ho':=ai ho';obtain rfl:=ho';replace hd':=by injection hd'
  obtain rfl:_=cd':=hd';exact fP.mp (bw.mp y n hn)
theorem A8(e:(Nf owns h,C2 owns h)=(Z5,Jc cs owns.length)):XSays owns cs h:=by
 haveI e2:=Z4 lc e;obtain⟨hn,hall⟩:=cP (Z4 pg e);have all:∀o∈owns,h.ownExcOk o.name o.chain o.bm o.newId=Z5/\Bb h o.name=Z5/\o.bm=B5/\o.newId="ValueError.__new__"/\∀n∈o.chain,∃o'∈owns,o'.name=n:=λo ho=>by haveI:=bw.mp hall o ho;simp only [dP,decide_eq_true_eq,beq_iff_eq]at this;obtain⟨⟨⟨⟨h1,h2⟩,h3⟩,h4⟩,h5⟩:=this;refine⟨h1,h2,h3,h4,λn hn=>?_⟩;refine ao (m8.mp (bw.mp h5 n hn)) λo' ho' q=>?_;exact(aG o' ho' (beq_iff_eq.mp q))
 have tail:∀(ch:List Str),(∀n∈ch,∃o'∈owns,o'.name=n)->XTail h (ch.map (FS h)++B5):=λch=>by
  induction ch with
  |nil=>intro _;exact .base
  |cons n ch ih=>
   intro hc;refine ao (hc n (.head _)) λo' ho' q_3=>?_;subst q_3;refine G4 (all o' ho') λh1 h2 h3 h4 h5=>?_;obtain⟨C,N,nm,q,bs,hdct,sn,sub,ab,col,dd,k0,k1,k2,k3,k5,hg,hC,hN,_⟩:=Oj h1;haveI hq:∀n∈kI,h.nsMap N n=Z6:=λn hn=>by
    unfold Bb at h2;cases hf:h.clsAt mainGlobals o'.name with
    |none=>replace h2:=hf▸h2;cases h2
    |some z=>
     obtain⟨C',o',cd'⟩:=z;simp only [hf]at h2;refine d7 (Heap.clsAt_spec hf) λhn' ho' hd'=>?_;rw [hg]at hn';obtain rfl:C=C':=by injection hn' with q1;injection q1
     rw [hC]at ho';replace ho':=ai ho';obtain rfl:=ho';replace hd':=by injection hd'
     obtain rfl:_=cd':=hd';exact fP.mp (bw.mp h2 n hn)
   refine(?_:XTail h ((h.nsMap mainGlobals o'.name).getD .none::(ch.map (FS h)++B5)));exact YP hg (.own hC hN hq (ih λn hn=>hc n (.tail _ hn)))
 refine(aG _ (.of_isNs hn) (λk o ho=>?_));refine G4 (all o (aI ho)) λh1 h2 h3 h4 h5=>?_;refine ao (Mz h1 h2 h3 h4) λC hg hx=>?_;refine(eK C _ hg (hx (h3▸tail o.chain h5)) (λj o' ho'=>?_));haveI e3:=Z4 (λl=>(l[k]?.bind λr=>r[j]?)) e2;haveI hk:=(cq ho);simp only [C2,Jc,aV,ho,ho',ky,vE,cT hk,cT ((cq ho'))]at e3;haveI e4:=ai e3;simp only [<-e4];haveI hgC:FS h o.name=.ref C:=by unfold FS;exact YP hg U
 refine YP hgC ?_;rfl
noncomputable def Mr(owns:List YW)(cs:List (List Nat)):PySem.W.Hook:=
 ⟨Bool×List (List Bool),λs=>(Nf owns s.heap,C2 owns s.heap),λ_=>(Z5,Jc cs owns.length),λ_ h=>XSays owns cs h,λ_ _ e=>A8 e,λ_ _ _ x hk=>x.keeps hk⟩
noncomputable def Bt(recs:List YX):List (Str×Gl):=recs.zipIdx.map λp=>(p.1.name,.fn p.2 (mW p.1.name))
noncomputable def pU(x:Str):Gl->Bool
 |.bi b=>decide (YV x=Z (.builtin b))
 |.ty b=>decide (YV x=Z (.type b))
 |_=>J
noncomputable def GG:ZR->Option Int
 |.int j=>Z j
 |_=>Z6
noncomputable def G8:ZR->Option Str
 |.str j=>Z j
 |_=>Z6
theorem Bo{d:ZR}{i:Int}(h:GG d=Z i):d=.int i:=Is.of (R:=λi=>d=.int i) (by cases d<;>first|exact U|exact Z0) h
theorem Bj{d:ZR}{i:Str}(h:G8 d=Z i):d=.str i:=Is.of (R:=λi=>d=.str i) (by cases d<;>first|exact U|exact Z0) h
noncomputable def Aq(p:ZY)(x:Str):V->Bool
 |.int i=>decide ((valOf p x).bind GG=Z i)
 |.str t=>decide ((valOf p x).bind G8=Z (toS t))&&decide (t.length<=1000)
 |_=>J
theorem IL(T:Top p loose mean mg mb h)(e:Aq p x v=Z5):∃y,mg x=Z y/\∀as X h,VR c as X h v y:=by
 cases v with
 |int i=>
  refine ao (kS (of_decide_eq_true e)) λd hd hi=>?_;cases Bo hi;refine ao (T.const x _ hd) λy h1 h2=>?_;cases h2 h with
  |int _ t=>exact(aG _ h1 (λ_ _ _=>.int _ _))
 |str t=>
  replace e:=cP e;refine ao (kS (of_decide_eq_true e.1)) λd hd hi=>?_;cases Bj hi;refine ao (T.const x _ hd) λy h1 h2=>?_;cases h2 h with
  |str _ t=>exact(aG _ h1 (λ_ _ _=>.str _ _ (aa (of_decide_eq_true e.2) (by decide))))
 |_=>exact Z1 e ae
noncomputable def NJ:ZX->Option ZZ
 |.ref a=>Z a
 |_=>Z6
structure TopOk(p:ZY)(loose:List Str)(csts:List (Str×V))(bis:List (Str×Gl)):Prop where
 csts:csts.all (λq=>Aq p q.1 q.2)=Z5
 names:((YU p).map (·.name)).Nodup
 boot:bis.all (λq=>pU q.1 q.2)=Z5
 free:bis.all (λq=>decide (q.1≠"__name__")&&decide (q.1∉startupNames)&&decide (q.1∉loose)&&decide (q.1∉(YU p).map (·.name))&&decide (q.1∉(litsOf p).map (·.1))&&decide (q.1∉(clssOf p loose).map (·.name)))=Z5
theorem iK{α β:Type}[BEq α]{x:α}{l m:List (α×β)}{v:β}:(l++m).lookup x=Z v->l.lookup x=Z v\/m.lookup x=Z v:=by
 induction l with
 |nil=>exact .inr
 |cons p l ih=>exact YP (List.cons_append) (YP bo (YP bo (nf (o:=x==p.1) (λhx=>YP hx .inl) λhx=>YP hx ih)))
theorem Da:∀{vs:List ZX} {zs:List Int},YT vs zs->VRs c as X h (zs.map V.int) vs:=by
 intro vs zs x
 induction x with
 |nil=>exact .nil
 |cons n t _ ih=>exact .cons (.int n t) ih
noncomputable def glC(csts:List (Str×V)):List (Str×Gl):=csts.map λq=>(q.1,.c q.2)
noncomputable def glX(owns:List YW):List (Str×Gl):=owns.zipIdx.map λp=>(p.1.name,.exc p.2)
noncomputable def CY(p:ZY)(loose:List Str):Option YS:=(plainsOf p loose).head?
noncomputable def DU(m:MethRec):YX:=⟨m.name,m.params,m.body,m.scope,⟨0,0,0,0⟩⟩
noncomputable def hM(p:ZY)(loose:List Str):List YX:=YU p++(CY p loose).elim [] λk=>k.meths.map DU
noncomputable def wg(k:YS):Nat:=k.meths.findIdx λm=>m.name==("__init__":Str)
noncomputable def OA(p:ZY)(k:YS):Str×Gl:=(k.name,.cls (k.meths.zipIdx.map λq=>(q.1.name,(YU p).length+q.2)) k.statics ((YU p).length+wg k))
noncomputable def j7(p:ZY)(loose:List Str)(csts:List (Str×V))(bis:List (Str×Gl)):List (Str×Gl):=Bt (YU p)++(glX (YR p)++((CY p loose).toList.map (OA p)++(glC csts++bis)))
noncomputable def kOk(k:YS):Bool:=(k.statics.all λn=>match fastLookup "object" n with|some Z6=>Z5|_=>J)&&(k.meths.all λm=>(fastLookup "object" m.name).isSome)&&k.meths.any λm=>m.name==("__init__":Str)
theorem vm(h:fastLookup "object" n=Z y):ZG (.type "object") n=pure y:=by simp only [typeLookup_type,builtinLookup_eq_fast,h]
theorem mS{α β:Type}{f:α->Str}(g:α->Nat->β){l:List α}{v:β}(h:(l.zipIdx.map λp=>(f p.1,g p.1 p.2)).lookup x=Z v):∃i d,v=g d i/\l[i]? =Z d/\f d=x:=by refine ao (cL (mem_of_lookup h)) λq hq e=>?_;haveI h2:=gP.mp hq;cases e;exact(eK q.2 q.1 rfl (by simpa using h2) U)
inductive GlR(p:ZY)(loose:List Str)(bis:List (Str×Gl))(x:Str):Gl->Prop
 |fn {i:Nat} {d:YX}:(YU p)[i]? =Z d->d.name=x->GlR p loose bis x (.fn i (mW d.name))
 |exc {i:Nat} {d:YW}:(YR p)[i]? =Z d->d.name=x->GlR p loose bis x (.exc i)
 |cls {k:YS} {g:Gl}:CY p loose=Z k->(x,g)=OA p k->GlR p loose bis x g
 |kst {v:V}:Aq p x v=Z5->GlR p loose bis x (.c v)
 |bi {g:Gl}:bis.lookup x=Z g->pU x g=Z5->GlR p loose bis x g
theorem xl(ok:TopOk p loose csts bis)(h:(j7 p loose csts bis).lookup x=Z g):GlR p loose bis x g:=by
 rcases iK h with h|h
 ·refine dG (mS (λ(d:YX) i=>Gl.fn i (mW d.name)) h) λi d e hd hn=>?_;exact YP e (.fn hd hn)
 rcases iK h with h|h
 ·refine dG (mS (λ_ i=>Gl.exc i) h) ?_;intro i d e hd hn;exact YP e (.exc hd hn)
 rcases iK h with h|h
 ·refine ao (cL (mem_of_lookup h)) λk hk e=>?_;exact .cls (jb.mp hk) e.symm
 rcases iK h with h|h
 ·refine ao (cL (mem_of_lookup h)) λq hq e=>?_;cases e;exact .kst (bw.mp ok.csts _ hq)
 ·exact .bi h (bw.mp ok.boot _ (mem_of_lookup h))
theorem Fc(ok:TopOk p loose csts bis)(h:(x,Gl.cls ms ats f)∈j7 p loose csts bis):∃k,CY p loose=Z k/\(x,Gl.cls ms ats f)=OA p k:=by
 have F:∀{α:Type} {l:List α} {f':α->Str×Gl},(x,Gl.cls ms ats f)∈l.map f'->(∀q,f' q≠(x,Gl.cls ms ats f))->False:=λh hq=>(cL h).elim λq e=>hq q e.2;rcases jZ h with h|h
 ·exact (F h λ_ e=>by cases e).elim
 rcases jZ h with h|h
 ·exact (F h λ_ e=>by cases e).elim
 rcases jZ h with h|h
 ·refine ao (cL h) λk hk e=>?_;exact(aG k (jb.mp hk) e.symm)
 rcases jZ h with h|h
 ·exact (F h λ_ e=>by cases e).elim
 ·exact Z1 (bw.mp ok.boot _ h) ae
theorem Fs(h:pU x (.bi b)=Z5):YV x=Z (.builtin b):=of_decide_eq_true h
theorem Fv(h:pU x (.ty b)=Z5):YV x=Z (.type b):=of_decide_eq_true h
theorem Fi 
  {Q E:ZX->ZV->Prop}
  (T:Top p loose mean mg mb s.heap)(TC:TopC p loose mg s.heap)(hko:(CY p loose).all kOk=Z5)(ok:TopOk p loose csts bis)(Y:XSays (YR p) cs s.heap)(hcs:cs.length<=(YR p).length)(hg:s.gens= #[])(hd:(YU p)[f]? =Z d)(hfa:mg d.name=Z (.ref fa))(hfn:∃fn,tK (j7 p loose csts bis) mu fz d=Z fn)
  (hall:∀d∈hM p loose,∃fn,tK (j7 p loose csts bis) mu fz d=Z fn)
  (hl:s.heap.PlainList l items)(hi:YT items.toList zs)(hlen:zs.length<=63)(hn:n<=300)
  (hlaw:aO (s7 (hM p loose) (j7 p loose csts bis) mu fz cs) n f [.lst (zs.map V.int)] [] (λv _=>v=.bool Z5) (λ_ _=>False))
  (hR:∀s',(∀b o,s.heap.get? b=Z o->s'.heap.get? b=Z o)->s'.os=s.os->s'.gens= #[]->Q (.bool Z5) s') :
  ZS (model prog w) callerA (call (.ref fa) [.ref l]) Q E s:=by
 obtain⟨KC,KN,mN,hK⟩:∃(C N:ZZ) (mN:Str->Option ZX),∀k,CY p loose=Z k->mg k.name=Z (.ref C)/\PlainAt s.heap k C N mN:=by
  try try try try try try try try try try try try try try try try try try try try try try try try try try clear ok
  cases hk:CY p loose with
  |none=>exact⟨0,0,λ_=>Z6,nofun⟩
  |some k=>
   refine lR (TC k (List.mem_of_mem_head? hk)) λC N mN h1 h2=>?_
   try try clear k
   exact⟨C,N,mN,λk' e=>by(replace e:=ai e;subst e);exact⟨h1,h2⟩⟩
 haveI hm:∀i d,(hM p loose)[i]? =Z d->(YU p)[i]? =Z d\/∃k j m,CY p loose=Z k/\i=(YU p).length+j/\k.meths[j]? =Z m/\d=DU m:=λi d h=>by
  by_cases hlt:i<(YU p).length
  ·exact .inl ((bB hlt).symm.trans h)
  ·have h:=(cB (dR hlt)).symm.trans h
   try try try clear mN
   cases hk:CY p loose with
   |none=>replace h:=hk▸h;exact eU h
   |some k=>
    rw [hk]at h;haveI h:(k.meths.map DU)[i-(YU p).length]? =Z d:=h;rw [aV]at h;refine ao (jB h) λm h1 h2=>?_
    try try clear h
    exact .inr (yz k _ m U ((gu (dR hlt)).symm) h1 h2.symm)
 have pick:∀g:Nat,∃q:ZZ×FuncData,∀d,(hM p loose)[g]? =Z d->(∃qual o pm code doc,s.heap.get? q.1=Z o/\o.data=.func q.2/\q.2=methDef d.name qual d.params d.body d.scope pm code doc/\s.heap.CodeRec code qual/\((YU p).length<=g->mN d.name=Z (.ref q.1)/\o.cls=.type "function"))/\(g<(YU p).length->mg d.name=Z (.ref q.1)):=λg=>by
  try clear CY
  cases hq:(hM p loose)[g]? with
  |none=>exact⟨(0,default),λd e=>by cases e⟩
  |some d=>
   try try clear p
   rcases hm g d hq with h|⟨k,j,m,hk,rfl,hj,rfl⟩
   ·refine GQ (T.fn d (aI h)) λa o pm code doc h1 h2 h3 h4=>?_
    try clear T
    haveI hlt:=(cq h);exact⟨(a,_),λd' e=>by(replace e:=ai e;subst e);exact⟨⟨d.name,o,pm,code,doc,h2,h3,rfl,h4,λq=>Z1 hlt (hV.mpr q)⟩,λ_=>h1⟩⟩
   ·refine NA ((hK k hk).2.meths m (aI hj)) λf o pm cd doc h1 h2 h3 h4 h5=>?_
    try try clear k
    exact⟨(f,_),λd' e=>by(replace e:=ai e;subst e);exact⟨⟨_,o,pm,cd,doc,h2,h4,rfl,h5,λ_=>⟨h1,h3⟩⟩,λq=>Z1 q (hV.mpr (ax _ _))⟩⟩
 obtain⟨F,hF⟩:=Classical.axiomOfChoice pick;let c:Cx:={prog:=prog,w:=w,base:=s.heap,mg:=mg,mb:=mb,P:=s7 (hM p loose) (j7 p loose csts bis) mu fz cs,os:=s.os,fad:=λg=>(F g).1,fdat:=λg=>(F g).2,xcls:=λk=>((((YR p)[k]?).bind λo=>mg o.name).bind NJ).getD 0,ccls:=λ_=>KC,qf:=λg=>((hM p loose)[g]?).any λd=>mW d.name};have fns:∀g fn,c.P.fns g=Z fn->∃d,(hM p loose)[g]? =Z d/\tK (j7 p loose csts bis) mu fz d=Z fn:=λg fn h=>kS h;have hqf:∀g d,(hM p loose)[g]? =Z d->c.qf g=mW d.name:=λg d h=>by show((hM p loose)[g]?).any _=_;exact YP h U
 have inX:∀i d,(YU p)[i]? =Z d->(hM p loose)[i]? =Z d:=λi d h=>(bB (cq h)).trans h;have has:∀i d,(hM p loose)[i]? =Z d->∃fn,c.P.fns i=Z fn:=λi d h=>by
  refine d5 (hall d (aI h)) λfn hfn=>?_
  try clear hall
  exact⟨fn,by show((hM p loose)[i]?).bind _=_;exact(h)▸hfn⟩
 have hX:∀k o,(YR p)[k]? =Z o->mg o.name=Z (.ref (c.xcls k))/\∃bm,XC s.heap (c.xcls k) bm/\∀j o',(YR p)[j]? =Z o'->(Value.ref (c.xcls k)::bm).contains (.ref (c.xcls j))=DA cs k j:=by
  refine ao Y λmg' hn' r=>?_;have r:=(funext λx=>hn'.agree T.g x:mg'=mg)▸r;have hcl:∀k o,(YR p)[k]? =Z o->mg o.name=Z (.ref (c.xcls k)):=λk o ho=>by refine di (r k o ho) λC bm h1 _=>?_;refine(?_:_=Z (Value.ref (((((YR p)[k]?).bind λo=>mg o.name).bind NJ).getD 0)));simp only [ho,vE,h1];rfl
  intro k o ho;refine dG (r k o ho) λC bm h1 h2 h3=>?_;have hC:=h1.symm.trans (hcl k o ho);cases hC;refine⟨h1,(aG bm h2 (λj o' ho'=>?_))⟩;simp only [<-h3 j o' ho',hcl j o' ho'];rfl
 haveI hbis:∀x g,bis.lookup x=Z g->pU x g=Z5/\mg x=Z6/\mb x=YV x:=λx g h=>by have hm:=mem_of_lookup h;haveI h2:=bw.mp ok.free _ hm;simp only [dP,decide_eq_true_eq]at h2;exact(bu (bw.mp ok.boot _ hm) (T.free x h2.1.1.1.1.2 h2.1.1.1.2 h2.1.1.2 h2.1.2 h2.2) (T.builtins x h2.1.1.1.1.1))
 haveI hf:∀x g b,(j7 p loose csts bis).lookup x=Z (.fn g b)->∃fn,c.P.fns g=Z fn:=λx g b h=>by
  cases xl ok h with
  |fn hd _=>exact has _ _ (inX _ _ hd)
  |cls _ e=>cases e
  |bi _ h=>exact Z1 h ae
 haveI C:Cok c (j7 p loose csts bis):=by
  refine⟨T.g,T.b,T.nolimit,λk hk=>?_,λx ms ats f h=>?_,λx g h=>?_,λg fn h=>?_⟩
  ·obtain ⟨r,hr⟩:∃r,cs[k]? =Z r:=by
    try clear hr
    cases hq:cs[k]? with
    |none=>haveI hk':(cs[k]?).any (·.contains k)=Z5:=hk;replace hk':=hq▸hk';cases hk'
    |some r=>exact⟨r,rfl⟩
   obtain⟨_,bm,h2,h3⟩:=hX k _ (az (bl (cq hr) hcs))
   try try clear hlt
   refine(aG bm h2 (λx j h=>?_))
   try try try try clear r
   cases xl ok h with
   |exc hd _=>exact h3 j _ hd
   |cls _ e=>cases e
   |bi _ h=>exact Z1 h ae
  ·haveI hk:=Fc ok h;refine ao hk ?_
   try clear hk
   intro k hk e;cases e;obtain⟨_,P⟩:=hK k hk
   try clear hK
   rw [hk]at hko;replace hko:=cP hko;refine dq hko λhko ki=>?_;obtain⟨ks,km⟩:=cP hko
   try clear hko
   have hmeth:∀j m,k.meths[j]? =Z m->mN m.name=Z (.ref (c.fad ((YU p).length+j)))/\(∃o,s.heap.get? (c.fad ((YU p).length+j))=Z o/\o.cls=.type "function")/\∃fn,c.P.fns ((YU p).length+j)=Z fn:=λj m hj=>by
    have hX:(hM p loose)[(YU p).length+j]? =Z (DU m):=by unfold hM;rw [cB (ax _ _),e9,hk];exact YP aV (YP hj U)
    obtain⟨⟨_,o,_,_,_,e1,_,_,_,e5⟩,_⟩:=hF _ _ hX
    try clear hF
    obtain⟨e6,e7⟩:=e5 (ax _ _)
    try clear e5
    exact(bu e6 (aG o e1 e7) (has _ _ hX))
   obtain⟨mi,hmi,hni⟩:∃mi,k.meths[wg k]? =Z mi/\mi.name="__init__":=by
    refine ao (m8.mp ki) λm h1 h2=>?_
    try clear ki
    haveI hlt:k.meths.findIdx (λm=>m.name==("__init__":Str))<k.meths.length:=List.findIdx_lt_length.mpr (aG m h1 h2);exact(aG (k.meths[wg k]'hlt) (az hlt) (YQ (KA (w:=hlt))))
   refine d7 (hmeth _ mi hmi) λi1 i2 i3=>?_
   try try clear hmi
   refine⟨P.cls,P.quiet _ (.head _),P.quiet _ (.tail _ (.head _)),P.quiet _ (.tail _ (.tail _ (.head _))),λn hn=>⟨P.quiet n (aC _ hn),?_⟩,λn g e=>?_,hni▸i1,i2,i3⟩
   ·have:=bw.mp ks n hn
    try try try try try try try try try try try try clear k
    cases hq:fastLookup "object" n with
    |none=>replace this:=hq▸this;cases this
    |some y=>
     induction y with
     |none=>exact vm hq
     |some y=>replace this:=hq▸this;cases this
   ·replace p:=mS (g:=λ_ j=>(YU p).length+j) e;refine dG p ?_
    try clear p
    intro j m q_3 hj q_5;refine YP q_3 (YP (YO q_5) ?_)
    try clear e
    refine d7 (hmeth j m hj) λm1 m2 m3=>?_
    try clear j
    obtain⟨y,hy⟩:=dJ.mp (bw.mp km m (aI hj))
    try try try try clear hj
    exact(qF m1 m2 ⟨y,vm hy⟩ m3)
  ·cases xl ok h with
   |fn hd e=>subst e;exact⟨(hF _ _ (inX _ _ hd)).2 (cq hd),λhb=>(hqf _ _ (inX _ _ hd)).trans hb⟩
   |exc hd e=>subst e;exact dq (hX _ _ hd) λh1 q_=>d5 q_ λbm q_=>dq q_ λ_ h3=>(⟨h1,(h3 _ _ hd).symm.trans (by simp)⟩)
   |cls hk e=>cases e;exact(hK _ hk).1
   |kst h1=>exact IL T h1
   |bi hl hb=>
    refine d7 (hbis x g hl) λ_ h2 h3=>?_;clear hl h;induction g with
    |bi b=>exact⟨h2,h3.trans (Fs hb)⟩
    |ty b=>exact⟨h2,h3.trans (Fv hb)⟩
    |_=>exact Z1 hb ae
  ·refine ao (fns g fn h) λd hd _=>?_
   try clear fns
   obtain⟨⟨_,o,pm,code,doc,e1,e2,_⟩,_⟩:=hF g d hd
   try try try clear hd
   exact(aG o e1 e2)
 have sc:=H7 (n:=n) C hf (λg fn h=>by
  refine ao (fns g fn h) λd hd hfn=>?_
  try clear fns
  obtain⟨⟨qual,o,pm,code,doc,e1,e2,e3,e4,_⟩,_⟩:=hF g d hd
  try clear hF
  exact JV hfn e3 e4 (hqf g d hd).symm)
 obtain⟨fn,hfn⟩:=hfn;have hfs:c.P.fns f=Z fn:=by show((hM p loose)[f]?).bind _=_;exact(inX _ _ hd)▸hfn
 haveI hfa':c.fad f=fa:=by
  haveI:=(hF f d (inX _ _ hd)).2 (cq hd);replace this:=hfa.symm.trans this
  try try try clear hfn
  cases this;rfl
 have S:SR c [] [] [] s:=⟨rfl,λ_ _ e=>e,hg,rfl,(λ_ _ e=>nomatch e),(λ_ _ _ e=>eU e),qY⟩;haveI hv:∀{vs:List ZX} {zs:List Int},YT vs zs->VRs c [] [] s.heap (zs.map V.int) vs:=λ{vs zs} h=>Da h;have hbl:(zs.map V.int).length<=li:=by
  rw [aj];have:63<=li:=by decide
  exact gQ hlen (gQ this (by simp+arith only))
 haveI aok:ACk (c.qf f) callerA n:=⟨λ_=>rfl,aa (aK (bD (aH (by decide:claimMargin<=300) 1) (bH 2 hn)) 5) (by decide),ce (aK (aH (bH 10 hn) 4) 300) (by decide)⟩;haveI run:=sc.run hfs aok (.no U) (aG [] U (λ_ h=>nomatch h)) S (.cons (.lst (by simp) (by simp) hl (hv hi) hbl) .nil) hlaw;subst hfa';refine Zr run (λy s' r=>?_) λ_ _ e=>e.none.elim
 try try try clear S
 obtain⟨v,H',as',e,S',k,hv,rfl⟩:=r
 try try try try try clear k
 cases hv.inv;exact hR s' S'.stays S'.os S'.gens
theorem CB 
  {Q E:ZX->ZV->Prop}
  (T:Top p loose mean mg mb s.heap)(TC:TopC p loose mg s.heap)(hko:(CY p loose).all kOk=Z5)(ok:TopOk p loose csts bis)(Y:XSays (YR p) cs s.heap)(hcs:cs.length<=(YR p).length)(hg:s.gens= #[])(hfns:(hM p loose).map (tK (j7 p loose csts bis) mu fz)=fns.map Z)(hnm:((YU p)[f]?).map (·.name)=Z nm)(hfa:mg nm=Z (.ref fa))
  (hl:s.heap.PlainList l items)(hi:YT items.toList zs)(hlen:zs.length<=63)(hn:n<=300)
  (hlaw:aO (yX fns cs) n f [.lst (zs.map V.int)] [] (λv _=>v=.bool Z5) (λ_ _=>False))
  (hR:∀s',(∀b o,s.heap.get? b=Z o->s'.heap.get? b=Z o)->s'.os=s.os->s'.gens= #[]->Q (.bool Z5) s') :
  ZS (model prog w) callerA (call (.ref fa) [.ref l]) Q E s:=by
 have hP:s7 (hM p loose) (j7 p loose csts bis) mu fz cs=yX fns cs:=by
  unfold s7 yX;congr 1;funext i;haveI h:=Z4 (·[i]?) hfns;simp only [aV]at h;cases h1:(hM p loose)[i]? with
  |none=>
   rw [h1]at h;cases h2:fns[i]? with
   |none=>rfl
   |some fn=>replace h:=h2▸h;exact eU h
  |some d=>
   rw [h1]at h;cases h2:fns[i]? with
   |none=>replace h:=h2▸h;cases h
   |some fn=>rw [h2]at h;exact ai h
 refine ao (jB hnm) λd hd hdn=>?_;have hall:∀d∈hM p loose,∃fn,tK (j7 p loose csts bis) mu fz d=Z fn:=λd hd=>by haveI h:=bx (f:=tK (j7 p loose csts bis) mu fz) hd;rw [hfns]at h;replace h:=cL h;refine ao h λfn _ h=>?_;exact⟨fn,h.symm⟩
 clear hnm;subst hdn;exact Fi T TC hko ok Y hcs hg hd hfa (hall d (aR _ (aI hd))) hall hl hi hlen hn (hP▸hlaw) hR
end Mine
end
noncomputable section
namespace Mine
open PySem
theorem un{F:V->Fm->AH->KS->Prop}{ok:AH->Prop}(Inv:List V->Fm->AH->Prop)(step:∀v vs ρ H,Inv (v::vs) ρ H->ok H/\∀K':KS,(∀ρ' H',Inv vs ρ' H'->K' ρ' H')->F v ρ H K')(fin:∀ρ H,Inv [] ρ H->ok H/\K ρ H) :
  ∀{ρ:Fm} {H:AH},Inv items ρ H->ri F ok items ρ H K:=by
 induction items with
 |nil=>exact λi=>fin _ _ i
 |cons v vs ih=>exact λi=>⟨(step v vs _ _ i).1,(step v vs _ _ i).2 _ λ_ _ i'=>ih i'⟩
theorem gO:bj P J (.bop .add) [.int a,.int b] H=Z (.int (a+b),H):=rfl
theorem tv:bj P J (.bop .sub) [.int a,.int b] H=Z (.int (a-b),H):=rfl
theorem Dn(ha:-10 ^ 12<=a/\a<=10 ^ 12)(hb:-10 ^ 12<=b/\b<=10 ^ 12):bj P J (.bop (.mul 0)) [.int a,.int b] H=Z (.int (a*b),H):=by show(rz La (.int a) (.int b)).map _=_;have h1:bY a=Z5:=decide_eq_true ha;haveI h2:bY b=Z5:=decide_eq_true hb;refine(?_:bX _ (bX V.int (if(bY a&&bY b)=Z5 then Z (a*b)else Z6))=_);exact YP h1 (YP h2 U)
theorem eT(hb:0<b):bj P J (.bop .mod) [.int a,.int b] H=Z (.int (a%b),H):=by show bX _ (bX V.int (if 0<b then Z (a%b)else Z6))=_;exact YP (Z3 hb) U
theorem pI(hb:0<b)(hb':b<=10 ^ 12):bj P J (.bop .f) [.int a,.int b] H=Z (.int (a/b),H):=by show bX _ (bX V.int (if 0<b/\b<=10 ^ 12 then Z (a/b)else Z6))=_;exact YP (Z3 ⟨hb,hb'⟩) U
theorem yV:bj P J (.bop .pow) [.int 10,.int 9] H=Z (.int 1000000000,H):=rfl
theorem kJ(h:x.length+y.length<=aB):bj P J (.bop .add) [.str x,.str y] H=Z (.str (x++y),H):=by show bX _ (if x.length+y.length<=aB then Z (V.str (x++y))else Z6)=_;exact YP (Z3 h) U
theorem xL(h:x.length+y.length<=aB):bj P J (.bop .add) [.tup x,.tup y] H=Z (.tup (x++y),H):=by show bX _ (if x.length+y.length<=aB then Z (V.tup (x++y))else Z6)=_;exact YP (Z3 h) U
theorem i8(h:x.length+y.length<=aB):bj P J (.bop .add) [.lst x,.lst y] H=Z (.lst (x++y),H):=by show bX _ (if x.length+y.length<=aB then Z (V.lst (x++y))else Z6)=_;exact YP (Z3 h) U
theorem nH:bj P J (.cop .lt) [.int a,.int b] H=Z (.bool (decide (a<b)),H):=rfl
theorem M6:bj P J (.cop .le) [.int a,.int b] H=Z (.bool (decide (a<=b)),H):=rfl
theorem oP:bj P J (.cop .gt) [.int a,.int b] H=Z (.bool (decide (b<a)),H):=rfl
theorem gq(hx:rd H x=Z x')(hy:rd H y=Z y'):bj P J (.cop .eq) [x,y] H=Z (.bool (fZ x' y'),H):=by show((((rd H x).bind λx=>(rd H y).map λy=>fZ x y).or _).map λb=>(V.bool b,H))=_;exact YP hx (YP hy U)
theorem lJ(hx:rd H x=Z x')(hy:rd H y=Z y'):bj P J (.cop .ne) [x,y] H=Z (.bool (!fZ x' y'),H):=by show(((((rd H x).bind λx=>(rd H y).map λy=>fZ x y).or _).map (!·)).map λb=>(V.bool b,H))=_;exact YP hx (YP hy U)
theorem d0:rd H (.int a)=Z (.int a):=rfl
theorem ik:rd H (.str s)=Z (.str s):=rfl
theorem FY(h1:V.datas vs=Z5)(h2:V.depths vs=0):rd H (.lst vs)=Z (.lst vs):=by show(if(V.datas vs&&decide (V.depths vs+1<=50))=Z5 then Z (V.lst vs)else Z6)=_;exact YP h1 (YP h2 U)
theorem jQ:rd H (.lst [])=Z (.lst []):=rfl
theorem HO:bj P J .not [.bool t] H=Z (.bool !t,H):=rfl
theorem pT:bj P J .neg [.int a] H=Z (.int (-a),H):=rfl
theorem pG:bj P J .len [.lst xs] H=Z (.int xs.length,H):=rfl
theorem tm:bj P J .len [.str xs] H=Z (.int xs.length,H):=rfl
theorem kB:bj P J .len [.tup xs] H=Z (.int xs.length,H):=rfl
theorem Km:bj P J .min [.int a,.int b] H=Z (.int (min a b),H):=rfl
theorem gc(h:-10 ^ 12<=b/\b<=10 ^ 12):bj P J .range1 [.int b] H=Z (.rng 0 b,H):=by exact Z3 (decide_eq_true h:bY b=Z5)
theorem rN(ha:-10 ^ 12<=a/\a<=10 ^ 12)(h:-10 ^ 12<=b/\b<=10 ^ 12):bj P J .range2 [.int a,.int b] H=Z (.rng a b,H):=by haveI h1:bY b=Z5:=decide_eq_true h;haveI h2:bY a=Z5:=decide_eq_true ha;refine(?_:(if(bY a&&bY b)=Z5 then Z (V.rng a b,H)else Z6)=_);exact YP h1 (YP h2 U)
theorem uo(h:(b-a).toNat<=aB):bj P J .list [.rng a b] H=Z (.lst (jP a b),H):=by show bX _ (if(b-a).toNat<=aB then Z (V.lst (jP a b))else Z6)=_;exact YP (Z3 h) U
theorem gm(h:vs.length<=aB):bj P J .l vs H=Z (.lst vs,H):=by exact Z3 h
theorem pO(h:vs.length<=aB):bj P Z5 .l vs H=Z (.ref H.length,H++[.list vs]):=by show(if vs.length<=aB then Z (V.lst vs,H)else Z6).bind _=_;exact YP (Z3 h) U
theorem fB(h:vs.length<=aB):bj P J .t vs H=Z (.tup vs,H):=by exact Z3 h
theorem fL(h:H[i]? =Z (.list vs))(hl:vs.length<=aB):bj P J .append [.ref i,x] H=Z (.none,H.set i (.list (vs++[x]))):=by show((H[i]?.bind O.lst).bind _).bind _=_;exact YP h (Z3 hl)
theorem Dh(h:H[i]? =Z (.list (vs++[x])))(hl:vs.length+1<=aB):bj P J .pop [.ref i] H=Z (x,H.set i (.list vs)):=by show((H[i]?.bind O.lst).bind _).bind _=_;refine YP h ?_;show(if(vs++[x]).length<=aB then _ else _)=_;exact YP af (YP HI (YP (Z3 hl) (YP (List.getLast?_append) (YP (List.dropLast_concat) U))))
theorem fo(h:H[i]? =Z (.list vs)):lF H (.ref i) .list=Z5:=by show(H[i]?.bind O.lst).isSome=_;exact YP h U
theorem hE(e:p=Z (v,H'))(q:Q v H'):iT p Q:=by subst e;exact q
theorem hB{K:Bool->Prop}(q:K t):o9 (gF (.bool t)) K:=q
theorem sz(n:Nat)(h:n<=1000):n<=aB:=aa h (by decide)
theorem eR(h:cW P C e ρ H (λv H'=>i<ρ.length/\bk P C ss (ρ.set i (Z v)) H' K R X) X):bk P C (.a i e::ss) ρ H K R X:=h
theorem d8(h:cW P C e ρ H (λ_ H'=>bk P C ss ρ H' K R X) X):bk P C (.e e::ss) ρ H K R X:=h
theorem xg(h:cW P C c ρ H (λv H'=>o9 (gF v) λt=>if t then bk P C a ρ H' (λρ' H'=>bk P C ss ρ' H' K R X) R X else bk P C b ρ H' (λρ' H'=>bk P C ss ρ' H' K R X) R X) X):bk P C (.ite c a b::ss) ρ H K R X:=h
theorem g7(h:cW P C e ρ H R X):bk P C (.ret e::ss) ρ H K R X:=h
theorem fA(h:K ρ H):bk P C [] ρ H K R X:=h
theorem sK(h:cW P C e ρ H (λv H₁=>∃items,j2 rev H₁ v=Z items/\items.length<=aB/\
   ri (λx ρ' H' K'=>match gz ρ' tgt x with|some ρ''=>bk P C body ρ'' H' K' R (λ_ _=>False)|none=>False)
    (λH'=>j2 rev H' v=Z items) items ρ H₁ (λρ' H'=>bk P C ss ρ' H' K R X)) X):bk P C (.f rev tgt e body::ss) ρ H K R X:=h
theorem QD{p q:Prop}(h:p):if Z5=Z5 then p else q:=by exact h
theorem PN{p q:Prop}(h:q):if J=Z5 then p else q:=by exact h
theorem HG{K:Bool->Prop}(q:K (decide (a<=b))):o9 (ny .le (.int a) (.int b) H) K:=q
theorem Gj:bj P J .int [.bool t] H=Z (.int (if t then 1 else 0),H):=rfl
theorem zQ(bs:List Bool):p1 (bs.map V.bool)=Z bs:=by
 induction bs with
 |nil=>rfl
 |cons b bs ih=>exact Z4 (bX (b::·)) ih
theorem wv{bs:List Bool}:bj P J .all [.lst (bs.map V.bool)] H=Z (.bool (bs.all id),H):=by show(p1 (bs.map V.bool)).map _=_;rw [zQ];rfl
theorem nq(h0:0<=i)(h1:i<xs.length):∃v,v∈xs/\bj P J .i [.lst xs,.int i] H=Z (v,H):=by haveI h2:i.toNat<xs.length:=(ft h0).mpr h1;refine(aG (xs[i.toNat]) (jw h2) ?_);refine(?_:((vZ xs.length i).bind _).map _=_);simp only [vE,vZ,h0,h1,if_true,az h2,ky]
theorem ye(h:j<n):vZ n (j:Int)=Z j:=(Z3 (bp j)).trans (Z3 (b9.mpr h))
theorem jS{j:Nat}(hj:vs[j]? =Z v):bj P J .i [.lst vs,.int j] H=Z (v,H):=by show((vZ vs.length j).bind λj=>vs[j]?).map _=_;refine YP (ye (cq hj)) ?_;exact Z4 (bX _) hj
theorem g8{j:Nat}(hj:vs[j]? =Z v):bj P J .i [.tup vs,.int j] H=Z (v,H):=jS (P:=P) hj
def zl:V->Prop
 |.none|.bool _|.int _|.str _=>True
 |_=>False
theorem fS{vs:List V}:(∀v∈vs,zl v)->V.datas vs=Z5/\V.depths vs=0:=by
 induction vs with
 |nil=>exact λ_=>⟨rfl,rfl⟩
 |cons v vs ih=>
  intro h;haveI i:=ih λw hw=>h w (.tail _ hw);haveI ha:V.data v=Z5/\V.depth v=0:=haveI z:=h v (.head _);by cases v<;>first|exact z.elim|exact⟨rfl,rfl⟩
  exact⟨cn.mpr ⟨ha.1,i.1⟩,congr (Z4 max ha.2) i.2⟩
theorem JT(h:∀v∈vs,zl v):rd H (.lst vs)=Z (.lst vs):=by exact FY (fS h).1 (fS h).2
theorem GI:bj P J .i [.lst (v::vs),.int 0] H=Z (v,H):=jS (j:=0) U
theorem sV(h:s.length<=aB):bj P J .slice [.str s,.none,.int b] H=Z (.str (bE s 0 (g9 s.length b)),H):=by show bX _ (if s.length<=aB then _ else _)=_;exact YP (Z3 h) U
theorem p4(h:s.length<=aB):bj P J .slice [.str s,.int a,.none] H=Z (.str (bE s (g9 s.length a) s.length),H):=by show bX _ (if s.length<=aB then _ else _)=_;exact YP (Z3 h) U
theorem EA(h:s.length<=aB):bj P J .slice [.lst s,.none,.int b] H=Z (.lst (bE s 0 (g9 s.length b)),H):=by show bX _ (if s.length<=aB then _ else _)=_;exact YP (Z3 h) U
theorem nD(h:s.length<=aB):bj P J .slice [.lst s,.int a,.none] H=Z (.lst (bE s (g9 s.length a) s.length),H):=by show bX _ (if s.length<=aB then _ else _)=_;exact YP (Z3 h) U
theorem fJ(h:H[i]? =Z (.list vs)):bj P J .len [.ref i] H=Z (.int vs.length,H):=by show(ET _ (H[i]?.bind O.lst)).map _=_;exact YP h U
theorem lj(h2:V.datas vs=Z5)(h3:V.depths vs<=50):re vs=Z5:=by show(V.datas vs&&decide (V.depths vs<=50))=Z5;simp only [h2,decide_eq_true h3];rfl
theorem gT(v:V):v.data=Z5->fZ v v=Z5:=
 V.rec (motive_1:=λv=>v.data=Z5->fZ v v=Z5) (motive_2:=λvs=>V.datas vs=Z5->p2 vs vs=Z5) (λ_=>rfl) (λb _=>beq_self_eq_true b) (λi _=>beq_self_eq_true i) (λs _=>beq_self_eq_true s) (λ_ ih=>ih) (λ_ ih=>ih) (λ_ _ _ h=>Z1 h ae) (λ_ _ h=>Z1 h ae) (λ_ h=>Z1 h ae) (λ_ h=>Z1 h ae) (λ_=>rfl) (λ_ _ i1 i2 h=>haveI h':=cP h;cn.mpr ⟨i1 h'.1,i2 h'.2⟩) v
def Ev(P:Prog)(C:Calls)(ρ:Fm)(H:AH)(X:XE)(e:Ex)(v:V):Prop:=∀Q:QE,Q v H->cW P C e ρ H Q X
theorem cc(h:Ev P C ρ H X e v)(q:v=x):Ev P C ρ H X e x:=q▸h
theorem am:Ev P C ρ H X (.c v) v:=λ_ q=>q
theorem ah(h:ρ[i]? =Z (Z v)):Ev P C ρ H X (.v i) v:=λQ q=>by simp only [yh,h];exact q
theorem bK(h:Ev P C ρ H X a x)(e:bj P J p [x] H=Z (z,H)):Ev P C ρ H X (.p J p [a]) z:=λ_ q=>h _ (hE e q)
theorem ay(h:Ev P C ρ H X a x)(h2:Ev P C ρ H X b y)(e:bj P J p [x,y] H=Z (z,H)):Ev P C ρ H X (.p J p [a,b]) z:=λ_ q=>h _ (h2 _ (hE e q))
theorem fR(h:Ev P C ρ H X a x)(h2:Ev P C ρ H X b y)(h3:Ev P C ρ H X c u)(e:bj P J p [x,y,u] H=Z (z,H)):Ev P C ρ H X (.p J p [a,b,c]) z:=λ_ q=>h _ (h2 _ (h3 _ (hE e q)))
theorem bZ(h:Ev P C ρ H X a (.bool s)):Ev P C ρ H X (.p J .not [a]) (.bool !s):=bK h HO
theorem dB(h:Ev P C ρ H X a (.bool s))(h2:s=J->Ev P C ρ H X b (.bool t)):Ev P C ρ H X (.or a b) (.bool (s||t)):=λQ q=>h _ (by
 cases s with
 |true=>exact q
 |false=>exact h2 U Q q)
theorem cg(h:Ev P C ρ H X a (.bool s))(h2:s=Z5->Ev P C ρ H X b (.bool t)):Ev P C ρ H X (.and a b) (.bool (s&&t)):=λQ q=>h _ (by
 cases s with
 |false=>exact q
 |true=>exact h2 U Q q)
theorem rS(h:Ev P C ρ H X a (.int i))(h2:Ev P C ρ H X b (.int j))(h3:Ev P C ρ H X c (.int k)):Ev P C ρ H X (.cmp2 a .le b .le c) (.bool (decide (i<=j)&&decide (j<=k))):=λQ q=>h _ (h2 _ (HG (by
 cases hd:decide (i<=j)with
 |false=>rw [hd]at q;exact PN q
 |true=>rw [hd]at q;exact QD (h3 _ (HG q)))))
theorem cJ(h:Ev P C ρ H X a x)(hc:∀Q:QE,Q v H->C f [x] H Q X):Ev P C ρ H X (.call f [a]) v:=λQ q=>h _ (hc Q q)
theorem gb(h:Ev P C ρ H X a x)(h2:Ev P C ρ H X b y)(hc:∀Q:QE,Q v H->C f [x,y] H Q X):Ev P C ρ H X (.call f [a,b]) v:=λQ q=>h _ (h2 _ (hc Q q))
theorem io(h:Ev P C ρ H X a x)(h2:Ev P C ρ H X b y)(h3:Ev P C ρ H X c z)(hc:∀Q:QE,Q v H->C f [x,y,z] H Q X):Ev P C ρ H X (.call f [a,b,c]) v:=λQ q=>h _ (h2 _ (h3 _ (hc Q q)))
theorem bg(h:Ev P C ρ H E e v)(q:R v H):bk P C (.ret e::ss) ρ H K R E:=h _ q
theorem br(h:Ev P C ρ H E e v)(hi:i<ρ.length)(k:bk P C ss (ρ.set i (Z v)) H K R E):bk P C (.a i e::ss) ρ H K R E:=h _ ⟨hi,k⟩
theorem bS(h:Ev P C ρ H E c (.bool s))(yes:s=Z5->bk P C as ρ H (λρ' H'=>bk P C ss ρ' H' K R E) R E)(no:s=J->bk P C bs ρ H (λρ' H'=>bk P C ss ρ' H' K R E) R E):bk P C (.ite c as bs::ss) ρ H K R E:=h _ (by
 cases s with
 |false=>exact no U
 |true=>exact yes U)
noncomputable def fn0:Fn:=⟨1,0,[.while_ (.c (.bool Z5)) [.pass]]⟩
noncomputable def fn1:Fn:=letI q:=Ex.p J;⟨3,0,[.ret (.and (q (.s .int) [.v 0]) (.and (q .not [q (.s .bool) [.v 0]]) (.cmp2 (.v 1) .le (.v 0) .le (.v 2))))]⟩
noncomputable def fn2:Fn:=letI q:=Ex.p J;⟨1,0,[.ite (.or (q .not [q (.s .str) [.v 0]]) (q .not [.cmp2 (.c (.int 1)) .le (q .len [.v 0]) .le (.c (.int 8))])) [.ret (.c (.bool J))] [],.ret (q .all [.comp J (q (.cop .in_) [.v 1,.c (.str ['a','b','c','d','e','f','g','h','i','j','k','l','m','n','o','p','q','r','s','t','u','v','w','x','y','z'])]) (.v 0) Z6])]⟩
noncomputable def fn3:Fn:=letI q:=Ex.p J;letI a:=Ex.c (.int 1000000000);⟨1,0,[.ite (q .not [q (.s .tuple) [.v 0]]) [.ret (.c (.bool J))] [],.ite (q (.cop .eq) [q .len [.v 0],.c (.int 2)]) [.ret (.and (q (.cop .eq) [q .i [.v 0,.c (.int 0)],.c (.str ['a','d','d'])]) (.call 1 [q .i [.v 0,.c (.int 1)],q (.bop .sub) [.c (.int 0),a],a]))] [],.ret (.or (q (.cop .eq) [.v 0,q .t [.c (.str ['f','a','u','l','t'])]]) (q (.cop .eq) [.v 0,q .t [.c (.str ['l','e','a','v','e'])]]))]⟩
noncomputable def fn4:Fn:=letI q:=Ex.p J;⟨1,0,[.ite (.or (q .not [q (.s .tuple) [.v 0]]) (.or (q (.cop .ne) [q .len [.v 0],.c (.int 3)]) (q (.cop .ne) [q .i [.v 0,.c (.int 0)],.c (.str ['w','o','r','k','e','r'])]))) [.ret (.c (.bool J))] [],.ret (.and (.call 2 [q .i [.v 0,.c (.int 1)]]) (q (.cop .in_) [q .i [.v 0,.c (.int 2)],q .t [.c (.str ['a','l','w','a','y','s']),.c (.str ['f','a','u','l','t','e','d']),.c (.str ['n','e','v','e','r'])]]))]⟩
noncomputable def fn5:Fn:=letI q:=Ex.p J;letI a:=Ex.c (.bool J);letI b:=q .i [.v 0,.c (.int 5)];letI c:=Ex.c (.int 1);letI d:=Ex.c (.int 1000000000);⟨1,0,[.ite (.or (q .not [q (.s .tuple) [.v 0]]) (.or (q (.cop .ne) [q .len [.v 0],.c (.int 6)]) (q (.cop .ne) [q .i [.v 0,.c (.int 0)],.c (.str ['w','a','r','d','e','n'])]))) [.ret a] [],.ite (.or (q .not [.call 2 [q .i [.v 0,c]]]) (q (.cop .notin) [q .i [.v 0,.c (.int 2)],q .t [.c (.str ['o','n','e']),.c (.str ['r','e','s','t']),.c (.str ['a','l','l'])]])) [.ret a] [],.ite (.or (q .not [.call 1 [q .i [.v 0,.c (.int 3)],.c (.int 0),d]]) (q .not [.call 1 [q .i [.v 0,.c (.int 4)],c,d]])) [.ret a] [],.ret (.and (q (.s .tuple) [b]) (.cmp2 c .le (q .len [b]) .le (.c (.int 8))))]⟩
noncomputable def fn6:Fn:=letI q:=Ex.p J;letI a:=Ex.c (.bool J);letI b:=q .i [.v 3,.c (.int 1)];letI c:=Ex.c (.bool Z5);letI d:=Ex.call 5 [.v 3];⟨1,4,[.ite (q .not [.call 5 [.v 0]]) [.ret a] [],.a 1 (.p Z5 .l [q .t [.v 0,.c (.int 0)]]),.a 2 (.p Z5 (.d []) []),.while_ (q (.cop .gt) [q .len [.v 1],.c (.int 0)]) [.asgTup [3,4] (.n .list J .pop (.v 1) []),.ite (.or (q (.cop .gt) [.v 4,.c (.int 6)]) (.and (q .not [.call 4 [.v 3]]) (q .not [d]))) [.ret a] [],.ite (.or (q (.cop .in_) [b,.v 2]) (q (.cop .eq) [q .len [.v 2],.c (.int 60)])) [.ret a] [],.s (.v 2) b c,.ite d [.e (.n .list J .extend (.v 1) [.comp J (q .t [.v 5,q (.bop .add) [.v 4,.c (.int 1)]]) (q .i [.v 3,.c (.int 5)]) Z6])] []],.ret c]⟩
noncomputable def fn7:Fn:=letI q:=Ex.p J;⟨1,2,[.a 1 (.p Z5 .l [.v 0]),.ite (q (.cop .eq) [q .i [.v 0,.c (.int 0)],.c (.str ['w','a','r','d','e','n'])]) [.f J (.inl 2) (q .i [.v 0,.c (.int 5)]) [.e (.n .list J .extend (.v 1) [.call 7 [.v 2]])]] [],.ret (.v 1)]⟩
noncomputable def fn8:Fn:=letI q:=Ex.p J;⟨3,0,[.ret (.comp J (.v 3) (.v 0) (Z (q (.cop .gt) [.v 3,q (.bop .sub) [.v 1,.v 2]])))]⟩
noncomputable def fn9:Fn:=letI q:=Ex.p J;⟨3,0,[.ite (q (.cop .eq) [.v 0,.c (.str ['o','n','e'])]) [.ret (q .l [.v 2])] [],.ite (q (.cop .eq) [.v 0,.c (.str ['r','e','s','t'])]) [.ret (q .list [q .range2 [.v 2,.v 1]])] [],.ret (q .list [q .range1 [.v 1]])]⟩
noncomputable def PM:Fn:=letI q:=Ex.p J;letI a:=q (.cop .eq) [.v 0,.v 1];letI b:=q .len [.v 1];⟨2,0,[.ite (q (.s .tuple) [.v 1]) [.ite (.or (q .not [q (.s .tuple) [.v 0]]) (q (.cop .ne) [q .len [.v 0],b])) [.ret (.c (.bool J))] [],.ret (q .all [.comp J (.call 10 [q .i [.v 0,.v 2],q .i [.v 1,.v 2]]) (q .range1 [b]) Z6])] [],.ite (q (.s .str) [.v 1]) [.ret (.and (q (.s .str) [.v 0]) a)] [],.ret (.and (q (.s .int) [.v 0]) (.and (q .not [q (.s .bool) [.v 0]]) a))]⟩
noncomputable def OT:Fn:=letI q:=Ex.p J;letI a:=q .i [.v 1,.c (.int 0)];letI b:=q .i [.v 1,.c (.int 1)];letI c:=q .len [.v 1];⟨2,0,[.ite (.and (q (.cop .eq) [a,.c (.str ['s','e','n','t'])]) (q (.cop .eq) [c,.c (.int 4)])) [.e (.m 0 62 ['s','e','n','d'] (.v 0) [b,q .i [.v 1,.c (.int 3)]]),.ret (q .slice [q (.a ['e','v','e','n','t','s']) [.v 0],q .neg [.c (.int 1)],.c .none])] [],.ite (.and (q (.cop .eq) [a,.c (.str ['w','o','r','k','s'])]) (q (.cop .eq) [c,.c (.int 3)])) [.ret (.m 0 63 ['w','o','r','k'] (.v 0) [b])] [],.ite (.and (q (.cop .eq) [a,.c (.str ['f','a','i','l','s'])]) (q (.cop .eq) [c,.c (.int 2)])) [.ret (.m 0 64 ['f','a','i','l'] (.v 0) [b])] [],.ret (q .l [])]⟩
noncomputable def QV:Fn:=letI q:=Ex.p J;⟨2,0,[.ite (.or (q .not [q (.s .tuple) [.v 1]]) (q (.cop .eq) [q .len [.v 1],.c (.int 0)])) [.ret (q .l [])] [],.try_ [.ret (.call 11 [.v 0,.v 1])] 0 Z5]⟩
noncomputable def OW:Fn:=letI q:=Ex.p J;letI a:=q (.cop .eq) [.v 4,q .len [.v 1]];letI b:=q .t [.v 2,.v 4];letI c:=q .i [.v 1,.v 4];⟨2,4,[.a 2 (.new 0 51 [.v 0]),.a 3 (.m 0 68 ['h','i','s','t','o','r','y'] (.v 2) []),.a 4 (.c (.int 0)),.while_ (.c (.bool Z5)) [.f J (.inl 5) (.v 3) [.ite (.or a (q .not [.call 10 [c,.v 5]])) [.ret b] [],.a 4 (q (.bop .add) [.v 4,.c (.int 1)])],.ite a [.ret (q .t [.v 2,.c .none])] [],.a 3 (.call 12 [.v 2,c]),.ite (q (.cop .eq) [.v 3,q .l []]) [.ret b] []]]⟩
noncomputable def PQ:Fn:=letI q:=Ex.p J;⟨2,0,[.ret (q .i [.call 13 [.v 0,.v 1],.c (.int 1)])]⟩
noncomputable def Nl:Fn:=letI q:=Ex.p J;⟨2,2,[.asgTup [2,3] (.call 13 [.v 0,.v 1]),.ite (q (.cop .isnot) [.v 3,.c .none]) [.raise 7] [],.ret (.v 2)]⟩
noncomputable def PU:Fn:=letI q:=Ex.p J;⟨2,0,[.ite (q (.cop .lt) [.v 1,q .len [.v 0]]) [.ret (q .i [.v 0,.v 1])] [],.ret (.c (.int 0))]⟩
noncomputable def Oo:Fn:=letI q:=Ex.p J;⟨1,0,[.ret (.and (q (.s .int) [.v 0]) (q .not [q (.s .bool) [.v 0]]))]⟩
noncomputable def MZ:Fn:=letI q:=Ex.p J;letI a:=q .range1 [.v 1];letI b:=Ex.c (.int 26);letI c:=q (.cop .lt) [.v 1,.c (.int 9)];letI d:=Ex.c (.int 7);letI e:=Ex.c .none;letI g:=Ex.c (.int 1);⟨2,7,[.a 2 (.c (.str ['a','b','c','d','e','f','g','h','i','j','k','l','m','n','o','p','q','r','s','t','u','v','w','x','y','z'])),.a 3 (.c (.str [])),.a 4 (q (.bop .f) [.v 0,.c (.int 48)]),.f J (.inl 5) (q .range1 [.c (.int 8)]) [.a 3 (q (.bop .add) [.v 3,q .i [.v 2,q (.bop .mod) [.v 4,b]]]),.a 4 (q (.bop .f) [.v 4,b])],.a 6 (q (.bop .mod) [.v 0,.c (.int 6)]),.ite (.and (q (.cop .eq) [.v 6,.c (.int 0)]) c) [.ret (.comp J (q .slice [.v 3,e,q (.bop .add) [.v 9,g]]) a Z6)] [],.ite (.and (q (.cop .eq) [.v 6,g]) c) [.ret (.comp J (q .slice [.v 3,q (.bop .sub) [d,.v 9],e]) a Z6)] [],.a 3 (q .slice [.v 3,e,q (.bop .mod) [q (.bop .f) [.v 0,.c (.int 6)],d]]),.ite (.and (q (.cop .lt) [.v 6,.c (.int 4)]) (q (.cop .lt) [.v 1,.c (.int 27)])) [.a 7 (q .slice [.v 3,e,q (.bop .mod) [q (.bop .f) [.v 0,.c (.int 5)],q (.bop .add) [q .len [.v 3],g]]]),.a 8 (q .slice [.v 3,q .len [.v 7],e]),.ret (.comp J (q (.bop .add) [q (.bop .add) [.v 7,q .i [.v 2,q (.bop .mod) [q (.bop .add) [q (.bop .f) [.v 0,d],q (.bop (.mul 0)) [d,.v 9]],b]]],.v 8]) a Z6)] [],.ret (.comp J (q (.bop .add) [q (.bop .add) [.v 3,q .i [.v 2,q (.bop .f) [.v 9,b]]],q .i [.v 2,q (.bop .mod) [.v 9,b]]]) a Z6)]⟩
noncomputable def QH:Fn:=letI q:=Ex.p J;letI a:=q (.bop .mod) [.v 0,.c (.int 5)];letI b:=q (.bop .pow) [.c (.int 10),.c (.int 9)];letI c:=q (.bop .f) [.v 0,.c (.int 10)];letI d:=Ex.c (.int 2);⟨1,1,[.ite (q (.cop .gt) [a,d]) [.ret (q .i [q .l [q .t [.c (.str ['f','a','u','l','t'])],q .t [.c (.str ['l','e','a','v','e'])]],q (.bop .sub) [a,.c (.int 3)]])] [],.a 1 (q .i [q .l [q (.bop .sub) [q (.bop .mod) [c,.c (.int 9)],.c (.int 4)],q (.bop .sub) [q (.bop .mod) [c,q (.bop .add) [q (.bop (.mul 0)) [d,b],.c (.int 1)]],b]],q .int [q (.cop .eq) [a,d]]]),.ret (q .t [.c (.str ['a','d','d']),.v 1])]⟩
noncomputable def JR:Fn:=letI q:=Ex.p J;letI a:=Ex.c (.str ['i','n','n','e','r']);letI b:=q .i [.v 2,.v 3];letI c:=Ex.c (.str ['d','e','e','p']);letI d:=Ex.c (.int 1);letI e:=q .len [.v 2];letI g:=Ex.c (.str ['w','a','r','d','e','n']);letI h:=q .i [.v 2,.v 6];letI i:=q .range1 [e];letI j:=q .i [.v 2,.v 9];letI k:=q .i [b,a];⟨2,7,[.a 2 (.p Z5 .l [.p Z5 (.d [['u','p'],['w','a','r','d','e','n'],['d','e','e','p'],['i','n','n','e','r'],['c','e','l','l']]) [q .neg [d],.c (.bool Z5),d,.p Z5 .l [],.call 16 [.v 0,.c (.int 2)]]]),.f J (.inl 3) (q .range2 [d,.v 1]) [.a 4 (q (.bop .add) [.call 16 [.v 0,q (.bop .add) [.c (.int 3),q (.bop .mod) [.v 3,.c (.int 10)]]],q (.bop (.mul 0)) [.c (.int 11),q (.bop .f) [.v 3,.c (.int 10)]]]),.a 5 (.comp J (.v 9) i (Z (.and (q .i [j,g]) (q (.cop .lt) [q .len [q .i [j,a]],.c (.int 8)])))),.ite (q (.cop .ne) [.v 5,q .l []]) [.a 6 (q .i [.v 5,q (.bop .mod) [q (.bop .f) [.v 4,.c (.int 4)],q .len [.v 5]]]),.a 7 (.and (q (.cop .eq) [q (.bop .mod) [.v 4,.c (.int 4)],.c (.int 3)]) (q (.cop .lt) [q .i [h,c],.c (.int 6)])),.e (.n .list J .append (q .i [h,a]) [e]),.a 8 (q (.bop .add) [q .i [h,c],d]),.e (.n .list J .append (.v 2) [.p Z5 (.d [['u','p'],['w','a','r','d','e','n'],['d','e','e','p'],['i','n','n','e','r'],['c','e','l','l']]) [.v 6,.v 7,.v 8,.p Z5 .l [],q (.bop .f) [.v 4,.c (.int 32)]]])] []],.f J (.inl 3) i [.ite (.and (q .i [b,g]) (q (.cop .eq) [k,q .l []])) [.e (.n .list J .append k [e]),.a 8 (q (.bop .add) [q .i [b,c],d]),.e (.n .list J .append (.v 2) [.p Z5 (.d [['u','p'],['w','a','r','d','e','n'],['d','e','e','p'],['i','n','n','e','r'],['c','e','l','l']]) [.v 3,.c (.bool J),.v 8,.p Z5 .l [],q (.bop .f) [q .i [b,.c (.str ['c','e','l','l'])],.c (.int 7)]]])] []],.ret (.v 2)]⟩
noncomputable def OG:Fn:=letI q:=Ex.p J;⟨2,3,[.a 2 (.p Z5 .l []),.a 3 (q .l [.v 1]),.while_ (q (.cop .ne) [.v 3,q .l []]) [.a 4 (q .i [.v 3,.c (.int 0)]),.e (.n .list J .append (.v 2) [.v 4]),.a 3 (q (.bop .add) [q .i [q .i [.v 0,.v 4],.c (.str ['i','n','n','e','r'])],q .slice [.v 3,.c (.int 1),.c .none]])],.ret (.v 2)]⟩
noncomputable def QM:Fn:=letI q:=Ex.p J;letI a:=q (.bop .pow) [.c (.int 10),.c (.int 9)];letI b:=q (.bop .f) [.v 0,.c (.int 6)];letI c:=Ex.c (.int 1);⟨1,0,[.ret (q .i [q .l [.c (.int 0),c,.c (.int 2),c,.c (.int 3),a,q (.bop .mod) [b,.c (.int 9)],q (.bop .mod) [b,q (.bop .add) [a,c]]],q (.bop .mod) [.v 0,.c (.int 8)]])]⟩
noncomputable def Py:Fn:=letI q:=Ex.p J;letI a:=q (.bop .pow) [.c (.int 10),.c (.int 9)];letI b:=q (.bop .f) [.v 0,.c (.int 6)];letI c:=Ex.c (.int 1);⟨1,0,[.ret (q .i [q .l [.c (.int 3),c,a,.c (.int 2),q (.bop .add) [c,q (.bop .mod) [b,.c (.int 12)]],q (.bop .add) [c,q (.bop .mod) [b,a]]],q (.bop .mod) [.v 0,.c (.int 6)]])]⟩
noncomputable def Lj:Fn:=letI q:=Ex.p J;letI a:=Ex.c (.str ['f','a','u','l','t','e','d']);letI b:=Ex.c (.str ['w','a','r','d','e','n']);letI c:=q .i [.v 0,.v 2];letI d:=q (.bop .f) [.v 3,.c (.int 3)];letI e:=Ex.c (.int 4);letI g:=q .i [.v 1,.v 2];⟨3,5,[.a 3 (q .i [c,.c (.str ['c','e','l','l'])]),.ite (q .not [q .i [c,b]]) [.ret (q .t [.c (.str ['w','o','r','k','e','r']),g,q .i [q .l [.c (.str ['a','l','w','a','y','s']),a,.c (.str ['n','e','v','e','r']),a],q (.bop .mod) [.v 3,e]]])] [],.a 4 (q .i [q .l [.c (.str ['o','n','e']),.c (.str ['r','e','s','t']),.c (.str ['a','l','l'])],q (.bop .mod) [.v 3,.c (.int 3)]]),.a 5 (q .t []),.f J (.inl 6) (q .i [c,.c (.str ['i','n','n','e','r'])]) [.a 5 (q (.bop .add) [.v 5,q .t [.call 24 [.v 0,.v 1,.v 6]]])],.a 7 (.call 22 [d]),.ite (.and (q (.cop .eq) [.v 2,.c (.int 0)]) (q (.cop .gt) [q (.bop .mod) [d,e],.c (.int 0)])) [.a 7 (q .min [q (.bop .pow) [.c (.int 10),.c (.int 9)],q (.bop .add) [.v 7,e]])] [],.ret (q .t [b,g,.v 4,.v 7,.call 23 [q (.bop .f) [.v 3,.c (.int 24)]],.v 5])]⟩
noncomputable def Mx:Fn:=letI q:=Ex.p J;letI a:=Ex.c (.int 0);letI b:=q .len [.v 3];⟨1,5,[.a 1 (.call 16 [.v 0,a]),.a 2 (q (.bop .add) [.c (.int 2),q (.bop .mod) [.v 1,.c (.int 9)]]),.ite (q (.cop .eq) [q (.bop .mod) [q (.bop .f) [.v 1,.c (.int 9)],.c (.int 12)],.c (.int 1)]) [.a 2 (.c (.int 30))] [],.a 3 (.call 20 [.v 0,.v 2]),.a 4 (.call 18 [.call 16 [.v 0,.c (.int 1)],b]),.a 5 (.comp J (.call 24 [.v 3,.v 4,.v 6]) (q .range1 [b]) Z6),.ret (q (.d [['n','o','d','e','s'],['n','a','m','e','s'],['p','a','r','t','s'],['p','l','a','n'],['o','r','d','e','r']]) [.v 3,.v 4,.v 5,q .i [.v 5,a],.call 21 [.v 3,a]])]⟩
noncomputable def PT:Fn:=letI q:=Ex.p J;⟨1,0,[.ret (.comp J (q .i [q .i [.v 0,.c (.str ['n','a','m','e','s'])],.v 1]) (q .i [.v 0,.c (.str ['o','r','d','e','r'])]) (Z (q .not [q .i [q .i [q .i [.v 0,.c (.str ['n','o','d','e','s'])],.v 1],.c (.str ['w','a','r','d','e','n'])]])))]⟩
noncomputable def Pw:Fn:=letI q:=Ex.p J;letI a:=Ex.comp Z5 (q .l []) (q .range1 [.v 1]) Z6;letI b:=Ex.c (.int 0);⟨1,2,[.a 1 (q .len [q .i [.v 0,.c (.str ['n','o','d','e','s'])]]),.a 2 (.p Z5 (.d [['h','e','r','e'],['s','u','m'],['m','a','i','l'],['h','o','u','r'],['s','e','n','t']]) [.p Z5 .rep [q .l [.c (.bool J)],.v 1],.p Z5 .rep [q .l [b],.v 1],a,b,b]),.s (.v 2) (.c (.str ['k','e','p','t'])) a,.s (.v 2) (.c (.str ['r','o','w','s'])) (.p Z5 .l []),.e (.call 28 [.v 0,.v 2,b]),.ret (.v 2)]⟩
noncomputable def Pm:Fn:=letI q:=Ex.p J;⟨3,1,[.f J (.inl 3) (.call 21 [q .i [.v 0,.c (.str ['n','o','d','e','s'])],.v 2]) [.s (q .i [.v 1,.c (.str ['h','e','r','e'])]) (.v 3) (.c (.bool Z5)),.s (q .i [.v 1,.c (.str ['s','u','m'])]) (.v 3) (.c (.int 0)),.s (q .i [.v 1,.c (.str ['k','e','p','t'])]) (.v 3) (q .l []),.e (.n .list J .append (q .i [.v 1,.c (.str ['r','o','w','s'])]) [q .t [.c (.str ['b','e','g','i','n','s']),q .i [q .i [.v 0,.c (.str ['n','a','m','e','s'])],.v 3]]])]]⟩
noncomputable def Qb:Fn:=letI q:=Ex.p J;letI a:=q .i [.v 1,.c (.str ['h','e','r','e'])];⟨3,1,[.f J (.inl 3) (q .rev [.v 2,q .neg [.c (.int 1)]]) [.ite (q .i [a,.v 3]) [.s a (.v 3) (.c (.bool J)),.e (.n .list J .append (q .i [.v 1,.c (.str ['r','o','w','s'])]) [q .t [.c (.str ['e','n','d','s']),q .i [q .i [.v 0,.c (.str ['n','a','m','e','s'])],.v 3]]])] []]]⟩
noncomputable def Qp:Fn:=letI q:=Ex.p J;⟨2,0,[.ret (.and (q (.cop .eq) [q .i [q .i [q .i [.v 0,.c (.str ['p','a','r','t','s'])],.v 1],.c (.int 2)],.c (.str ['n','e','v','e','r'])]) (q .not [q .i [q .i [q .i [.v 0,.c (.str ['n','o','d','e','s'])],.v 1],.c (.str ['w','a','r','d','e','n'])]]))]⟩
noncomputable def Pj:Fn:=letI q:=Ex.p J;letI a:=q .i [.v 0,.c (.str ['n','o','d','e','s'])];⟨4,6,[.a 4 (q .i [q .i [a,.v 2],.c (.str ['i','n','n','e','r'])]),.a 5 (.n .list J .lindex (.v 4) [.v 3]),.a 6 (q .i [q .i [q .i [.v 0,.c (.str ['p','a','r','t','s'])],.v 2],.c (.int 2)]),.a 7 (q .i [q (.d [['o','n','e'],['r','e','s','t'],['a','l','l']]) [q .l [.v 3],q .slice [.v 4,.v 5,.c .none],.v 4],.v 6]),.a 9 (.comp J (.v 10) (.v 7) (Z (.or (q (.cop .eq) [.v 10,.v 3]) (.and (q .i [q .i [.v 1,.c (.str ['h','e','r','e'])],.v 10]) (q .not [.call 30 [.v 0,.v 10]]))))),.f J (.inl 8) (q .rev [.v 7,q .neg [.c (.int 1)]]) [.e (.call 29 [.v 0,.v 1,.call 21 [a,.v 8]])],.f J (.inl 8) (.v 9) [.e (.call 28 [.v 0,.v 1,.v 8])]]⟩
noncomputable def A9:Fn:=letI q:=Ex.p J;letI a:=q .i [.v 1,.c (.str ['k','e','p','t'])];letI b:=q .i [.v 0,.c (.str ['p','a','r','t','s'])];letI c:=q .i [.v 0,.c (.str ['n','o','d','e','s'])];letI d:=q .i [.v 1,.c (.str ['h','o','u','r'])];letI e:=Ex.c .none;letI g:=q .i [a,.v 5];⟨4,3,[.a 4 (q .not [.call 30 [.v 0,.v 2]]),.ite (q (.cop .eq) [.v 3,.c (.str ['l','e','a','v','e','s'])]) [.a 4 (q (.cop .eq) [q .i [q .i [b,.v 2],.c (.int 2)],.c (.str ['a','l','w','a','y','s'])])] [],.while_ (.c (.bool Z5)) [.s (q .i [.v 1,.c (.str ['h','e','r','e'])]) (.v 2) (.c (.bool J)),.e (.n .list J .append (q .i [.v 1,.c (.str ['r','o','w','s'])]) [q .t [.v 3,q .i [q .i [.v 0,.c (.str ['n','a','m','e','s'])],.v 2]]]),.e (.call 29 [.v 0,.v 1,q .slice [.call 21 [c,.v 2],.c (.int 1),e]]),.a 5 (q .i [q .i [c,.v 2],.c (.str ['u','p'])]),.ite (.or (q .not [.v 4]) (q (.cop .lt) [.v 5,.c (.int 0)])) [.ret e] [],.a 6 (q .i [b,.v 5]),.s a (.v 5) (q (.bop .add) [.comp J (.v 7) g (Z (q (.cop .gt) [q (.bop .add) [.v 7,q .i [.v 6,.c (.int 4)]],d])),q .l [d]]),.ite (q (.cop .le) [q .len [g],q .i [.v 6,.c (.int 3)]]) [.e (.call 31 [.v 0,.v 1,.v 5,.v 2]),.ret e] [],.a 2 (.v 5),.a 3 (.c (.str ['f','a','i','l','s']))]]⟩
noncomputable def Pb:Fn:=letI q:=Ex.p J;letI a:=q .i [.v 1,.c (.str ['m','a','i','l'])];letI b:=Ex.c (.int 0);letI c:=q .i [.v 1,.c (.str ['s','u','m'])];letI d:=q .i [a,.v 2];letI e:=Ex.c (.int 1);letI g:=q .i [.v 4,b];⟨3,2,[.a 3 (q .i [q .i [d,b],b]),.a 4 (q .i [q .i [d,b],e]),.s a (.v 2) (q .slice [d,e,.c .none]),.e (.n .list J .append (q .i [.v 1,.c (.str ['r','o','w','s'])]) [q .t [.c (.str ['w','o','r','k','s']),q .i [q .i [.v 0,.c (.str ['n','a','m','e','s'])],.v 2],.v 3]]),.ite (q (.cop .eq) [g,.c (.str ['a','d','d'])]) [.s c (.v 2) (q (.bop .add) [q .i [c,.v 2],q .i [.v 4,e]])] [.e (.call 32 [.v 0,.v 1,.v 2,q .i [q (.d [['f','a','u','l','t'],['l','e','a','v','e']]) [.c (.str ['f','a','i','l','s']),.c (.str ['l','e','a','v','e','s'])],g]])]]⟩
noncomputable def Qr:Fn:=letI q:=Ex.p J;letI a:=q .i [.v 1,.c (.str ['m','a','i','l'])];⟨2,2,[.f J (.inl 2) (q .i [.v 0,.c (.str ['o','r','d','e','r'])]) [.ite (q .not [q .i [q .i [.v 1,.c (.str ['h','e','r','e'])],.v 2]]) [.f J (.inl 3) (q .i [a,.v 2]) [.e (.n .list J .append (q .i [.v 1,.c (.str ['r','o','w','s'])]) [q .t [.c (.str ['l','o','s','t']),q .i [q .i [.v 0,.c (.str ['n','a','m','e','s'])],.v 2],q .i [.v 3,.c (.int 0)]]])],.s a (.v 2) (q .l [])] []]]⟩
noncomputable def Qi:Fn:=letI q:=Ex.p J;letI a:=q .i [.v 0,.c (.str ['n','a','m','e','s'])];letI b:=q .i [.v 1,.c (.str ['h','e','r','e'])];letI c:=q .i [.v 2,.c (.int 1)];letI d:=q .i [.v 2,.c (.int 0)];letI e:=Ex.c (.bool J);⟨3,1,[.ite (.or (q .not [q .i [b,.c (.int 0)]]) (q (.cop .notin) [c,a])) [.ret e] [],.a 3 (.n .list J .lindex a [c]),.ite (.or (q .not [q .i [b,.v 3]]) (.and (q (.cop .ne) [d,.c (.str ['f','a','i','l'])]) (q .i [q .i [q .i [.v 0,.c (.str ['n','o','d','e','s'])],.v 3],.c (.str ['w','a','r','d','e','n'])]))) [.ret e] [],.ret (.or (q (.cop .ne) [d,.c (.str ['w','o','r','k'])]) (q (.cop .ne) [q .i [q .i [.v 1,.c (.str ['m','a','i','l'])],.v 3],q .l []]))]⟩
noncomputable def QS:Fn:=letI q:=Ex.p J;letI a:=Ex.c (.str ['s','e','n','t']);letI b:=q .i [.v 1,.c (.str ['m','a','i','l'])];letI c:=Ex.c (.int 1);letI d:=Ex.c (.str ['h','o','u','r']);letI e:=q .i [.v 1,a];letI g:=q .i [.v 2,.c (.int 0)];letI h:=q .i [.v 2,.c (.int 2)];letI i:=q .i [.v 2,c];⟨3,1,[.a 3 (.n .list J .lindex (q .i [.v 0,.c (.str ['n','a','m','e','s'])]) [i]),.ite (q (.cop .eq) [g,.c (.str ['s','e','n','d'])]) [.s (.v 1) a (q (.bop .add) [e,c]),.s b (.v 3) (q (.bop .add) [q .i [b,.v 3],q .l [q .t [e,h]]]),.e (.n .list J .append (q .i [.v 1,.c (.str ['r','o','w','s'])]) [q .t [a,i,e,h]]),.ret (.c .none)] [],.s (.v 1) d (q (.bop .add) [q .i [.v 1,d],c]),.ite (q (.cop .eq) [g,.c (.str ['w','o','r','k'])]) [.e (.call 33 [.v 0,.v 1,.v 3])] [.e (.call 32 [.v 0,.v 1,.v 3,.c (.str ['f','a','i','l','s'])])],.e (.call 34 [.v 0,.v 1])]⟩
noncomputable def Oz:Fn:=letI q:=Ex.p J;⟨2,0,[.ret (.comp J (q .i [q .i [.v 0,.c (.str ['n','a','m','e','s'])],.v 2]) (q .i [.v 0,.c (.str ['o','r','d','e','r'])]) (Z (q .i [q .i [.v 1,.c (.str ['h','e','r','e'])],.v 2])))]⟩
noncomputable def QK:Fn:=letI q:=Ex.p J;⟨2,0,[.ret (.comp J (q .i [q .i [.v 0,.c (.str ['n','a','m','e','s'])],.v 2]) (q .i [.v 0,.c (.str ['o','r','d','e','r'])]) (Z (.and (q .i [q .i [.v 1,.c (.str ['h','e','r','e'])],.v 2]) (q (.cop .ne) [q .i [q .i [.v 1,.c (.str ['m','a','i','l'])],.v 2],q .l []]))))]⟩
noncomputable def ME:Fn:=letI q:=Ex.p J;letI a:=q .t [.c (.str ['s','e','n','d']),.v 5,.call 19 [q (.bop .f) [.v 4,.c (.int 8)]]];letI b:=q (.bop .mod) [.v 0,.c (.int 10)];letI c:=Ex.c (.str ['w','o','r','k']);letI d:=Ex.c (.str ['f','a','i','l']);letI e:=q .l [];letI g:=q .t [c,.v 5];⟨4,3,[.a 4 (q (.bop .f) [.v 0,.c (.int 10)]),.a 5 (q .i [.v 1,q (.bop .mod) [.v 4,q .len [.v 1]]]),.a 6 (.comp J (.v 7) (.v 1) (Z (q (.cop .in_) [.v 7,.v 2]))),.ite (.and (q (.cop .ne) [.v 6,e]) (q (.cop .lt) [b,.c (.int 9)])) [.a 5 (q .i [.v 6,q (.bop .mod) [.v 4,q .len [.v 6]]])] [],.ite (q (.cop .lt) [b,.c (.int 3)]) [.ret (q .l [a])] [],.ite (q (.cop .lt) [b,.c (.int 6)]) [.ret (q .l [a,g])] [],.ite (.and (q (.cop .lt) [b,.c (.int 8)]) (q (.cop .ne) [.v 3,e])) [.ret (q .l [q .t [c,q .i [.v 3,q (.bop .mod) [.v 4,q .len [.v 3]]]]])] [],.ite (.and (q (.cop .eq) [b,.c (.int 8)]) (q (.cop .ne) [.v 2,e])) [.ret (q .l [q .t [d,q .i [.v 2,q (.bop .mod) [.v 4,q .len [.v 2]]]]])] [],.ret (q .i [q .l [q .l [g],q .l [q .t [d,.v 5]],q .l [a]],q (.bop .mod) [q (.bop .f) [.v 4,.c (.int 5)],.c (.int 3)]])]⟩
noncomputable def Qx:Fn:=letI q:=Ex.p J;⟨2,4,[.a 2 (.call 27 [.v 1]),.a 3 (.call 26 [.v 1]),.f J (.inl 4) (q .slice [.v 0,.c (.int 16),.c .none]) [.f J (.inl 5) (.call 39 [.v 4,.v 3,.call 37 [.v 1,.v 2],.call 38 [.v 1,.v 2]]) [.ite (.call 35 [.v 1,.v 2,.v 5]) [.e (.call 36 [.v 1,.v 2,.v 5])] []]],.ret (.v 2)]⟩
noncomputable def PS:Fn:=letI q:=Ex.p J;⟨1,2,[.a 1 (q .l [q (.isX (Z 1)) [.v 0],q (.isX (Z 2)) [.v 0],q (.isX (Z 3)) [.v 0],q (.isX (Z 4)) [.v 0]]),.a 1 (q (.bop .add) [.v 1,q .l [q (.isX (Z 5)) [.v 0],q (.isX (Z 6)) [.v 0],q (.isX (Z 7)) [.v 0],q (.isX (Z 8)) [.v 0]]]),.a 2 (.comp J (.v 3) (q .range1 [.c (.int 8)]) (Z (q .i [.v 1,.v 3]))),.ite (q .not [q (.isX Z6) [.v 0]]) [.ret (q .l [])] [],.ret (.v 2)]⟩
noncomputable def QU:Fn:=letI q:=Ex.p J;letI a:=q .i [.v 0,.c (.int 0)];letI b:=q (.bop .pow) [.c (.int 10),.c (.int 9)];letI c:=Ex.c (.int 1);letI d:=q .len [.v 0];letI e:=q .i [.v 0,c];⟨1,0,[.ite (.or (q .not [q (.s .tuple) [.v 0]]) (.or (q (.cop .lt) [d,c]) (q .not [q (.s .str) [a]]))) [.ret (.c (.bool J))] [],.ite (.and (q (.cop .eq) [a,.c (.str ['a','d','d'])]) (q (.cop .eq) [d,.c (.int 2)])) [.ret (.and (.call 17 [e]) (.cmp2 (q .neg [b]) .le e .le b))] [],.ret (.and (.or (q (.cop .eq) [a,.c (.str ['f','a','u','l','t'])]) (q (.cop .eq) [a,.c (.str ['l','e','a','v','e'])])) (q (.cop .eq) [d,c]))]⟩
noncomputable def Pp:Fn:=letI q:=Ex.p J;letI a:=Ex.c (.int 1);letI b:=Ex.c (.str ['s','e','n','t']);letI c:=Ex.c (.str ['e','n','d','s']);letI d:=Ex.c .none;letI e:=Ex.c (.int 2);letI g:=Ex.c (.str ['w','o','r','k','s']);letI h:=Ex.c (.str ['f','a','u','l','t']);letI i:=Ex.c (.int 5);letI j:=Ex.c (.str ['f','a','i','l','s']);letI k:=q .i [.v 0,a];letI l:=Ex.c (.bool Z5);letI m:=q .i [.v 0,.c (.int 0)];letI n:=q .i [.v 0,e];letI o:=Ex.c (.str ['a','d','d']);⟨3,2,[.ite (q (.cop .eq) [.v 1,.c (.int 4)]) [.ret (q (.bop .add) [q .t [m,q .i [q .l [.c (.str ['a']),.c (.str ['z','z']),q (.bop .add) [k,.c (.str ['x'])],q .slice [k,a,d],.c (.str ['A']),.c (.str [])],q (.bop .mod) [.v 2,.c (.int 6)]]],q .slice [.v 0,e,d]])] [],.ite (.and (q (.cop .eq) [.v 1,i]) (q (.cop .gt) [q .len [.v 0],e])) [.ret (q (.bop .add) [q (.bop .add) [q .slice [.v 0,d,e],q .t [q .i [q .l [q (.bop .add) [n,a],q (.bop .sub) [n,a],l,q .str [n],a],q (.bop .mod) [.v 2,i]]]],q .slice [.v 0,.c (.int 3),d]])] [],.a 3 k,.a 4 (q .l [d,i,q (.bop .add) [.c (.str ['e','n','d','s',' ']),.v 3],q .l [c,.v 3],q .t [c],q .t [c,.v 3,a],q .t [.c (.str ['b','e','g','i','n','s']),.v 3],q .t [c,.v 3]]),.a 4 (q (.bop .add) [.v 4,q .l [q .t [j,.v 3],q .t [.c (.str ['l','e','a','v','e','s']),.v 3],q .t [g,.v 3,a],q .t [g,.v 3],q .t [.c (.str ['l','o','s','t']),.v 3,a],q .t [],q (.d []) []]]),.a 4 (q (.bop .add) [.v 4,q .l [q .t [b,.v 3,a,q .t [o,a]],q .t [b,.v 3,a],q .t [b,.v 3,a,h],q .t [.c (.str ['f','a','i','l']),.v 3]]]),.a 4 (.p Z5 (.bop .add) [.v 4,q .l [q .t [b,.v 3,e,q .t [.c (.str ['l','e','a','v','e'])]],q .t [b,.v 3,a,q .l [h]],q .t [i,.v 3],q .t [c,d]]]),.e (.n .list J .append (.v 4) [q .t [j,q .l [.v 3]]]),.a 4 (.p Z5 (.bop .add) [.v 4,q .l [q (.bop .add) [.v 0,q .t [d]],q .slice [.v 0,d,a],q (.bop .add) [q .t [.n .str J .upper m []],q .slice [.v 0,a,d]],q .t [g,.v 3,a,a]]]),.e (.n .list J .append (.v 4) [q .t [b,.v 3,l,q .t [h]]]),.e (.n .list J .append (.v 4) [q (.bop .add) [q .slice [.v 0,d,.c (.int 3)],q .t [q .t [o,l]]]]),.ret (q .i [.v 4,q (.bop .mod) [.v 2,.c (.int 30)]])]⟩
noncomputable def QN:Fn:=letI q:=Ex.p J;letI a:=q .slice [.v 0,.c .none,.v 4];letI b:=Ex.c (.int 1);letI c:=Ex.c .none;letI d:=q .i [.v 0,.v 4];letI e:=q (.bop .add) [.v 4,b];letI g:=q .slice [.v 0,.v 4,c];⟨3,3,[.a 3 (q (.bop .mod) [.v 1,.c (.int 12)]),.ite (.or (q (.cop .eq) [.v 0,q .l []]) (.or (q (.cop .eq) [.v 3,.c (.int 0)]) (q (.cop .gt) [.v 3,.c (.int 8)]))) [.ret (.v 0)] [],.a 4 (q (.bop .mod) [q (.bop .f) [.v 1,.c (.int 12)],q .len [.v 0]]),.a 5 (q .slice [.v 0,e,c]),.ite (q (.cop .eq) [.v 3,b]) [.ret (q (.bop .add) [a,.v 5])] [],.ite (q (.cop .eq) [.v 3,.c (.int 2)]) [.ret (q (.bop .add) [q .slice [.v 0,c,e],g])] [],.ite (q (.cop .eq) [.v 3,.c (.int 3)]) [.ret (q (.bop .add) [q (.bop .add) [q (.bop .add) [a,q .slice [.v 5,c,b]],q .l [d]],q .slice [.v 5,b,c]])] [],.ite (q (.cop .eq) [.v 3,.c (.int 7)]) [.ret a] [],.ite (q (.cop .eq) [.v 3,.c (.int 8)]) [.ret (q (.bop .add) [q (.bop .add) [a,q .l [.call 43 [d,.c (.int 6),.v 2]]],g])] [],.ret (q (.bop .add) [q (.bop .add) [a,q .l [.call 43 [d,.v 3,.v 2]]],.v 5])]⟩
noncomputable def QO:Fn:=letI q:=Ex.p J;letI a:=q .i [.v 0,.c (.int 0)];letI b:=q .i [.v 0,.c (.int 1)];letI c:=q .len [.v 0];letI d:=Ex.call 17 [q .i [.v 0,.c (.int 2)]];letI e:=q .i [.v 0,.c (.int 3)];⟨1,0,[.ite (.or (q .not [q (.s .tuple) [.v 0]]) (.or (q (.cop .lt) [c,.c (.int 2)]) (.or (q .not [q (.s .str) [a]]) (q .not [q (.s .str) [b]])))) [.ret (.c .none)] [],.ite (.and (q (.cop .eq) [a,.c (.str ['s','e','n','t'])]) (.and (q (.cop .eq) [c,.c (.int 4)]) (.and d (.call 42 [e])))) [.ret (q .t [.c (.str ['s','e','n','d']),b,e])] [],.ite (.and (q (.cop .eq) [a,.c (.str ['w','o','r','k','s'])]) (.and (q (.cop .eq) [c,.c (.int 3)]) d)) [.ret (q .t [.c (.str ['w','o','r','k']),b])] [],.ite (.and (q (.cop .eq) [a,.c (.str ['f','a','i','l','s'])]) (q (.cop .eq) [c,.c (.int 2)])) [.ret (q .t [.c (.str ['f','a','i','l']),b])] [],.ret (.c .none)]⟩
noncomputable def QT:Fn:=letI q:=Ex.p J;letI a:=q .i [.v 2,.c (.str ['r','o','w','s'])];letI b:=q .i [.v 1,.v 4];letI c:=q .len [.v 1];⟨2,4,[.a 2 (.call 27 [.v 0]),.a 3 (.c (.int 0)),.f J (.inl 4) (q .range1 [c]) [.ite (q (.cop .eq) [.v 3,q .len [a]]) [.a 5 (.call 45 [b]),.ite (.or (q (.cop (.is 0)) [.v 5,.c .none]) (q .not [.call 35 [.v 0,.v 2,.v 5]])) [.ret (.v 4)] [],.e (.call 36 [.v 0,.v 2,.v 5])] [],.ite (q .not [.call 47 [b,q .i [a,.v 3]]]) [.ret (.v 4)] [],.a 3 (q (.bop .add) [.v 3,.c (.int 1)])],.ite (q (.cop .lt) [.v 3,q .len [a]]) [.ret c] [],.ret (.c .none)]⟩
noncomputable def FO:Fn:=letI q:=Ex.p J;letI a:=Ex.c (.bool J);letI b:=q .len [.v 0];⟨2,0,[.ite (.or (q .not [q (.s .tuple) [.v 0]]) (q (.cop .ne) [.v 0,.v 1])) [.ret a] [],.ite (.and (q (.cop .eq) [b,.c (.int 4)]) (q .not [.call 42 [q .i [.v 0,.c (.int 3)]]])) [.ret a] [],.ret (.or (q (.cop .eq) [b,.c (.int 2)]) (.call 17 [q .i [.v 0,.c (.int 2)]]))]⟩
noncomputable def OP:Fn:=letI q:=Ex.p J;⟨2,0,[.ite (q (.cop (.is 0)) [.v 1,.c .none]) [.ret (q (.cop (.is 0)) [.v 0,.c .none])] [],.ret (.and (.call 17 [.v 0]) (q (.cop .eq) [.v 0,.v 1]))]⟩
noncomputable def QB:Fn:=letI q:=Ex.p J;⟨2,1,[.tryE (.call 15 [.v 0,.v 1]) 0 2 (q (.cop .eq) [.call 41 [.v 2],q .l [.c (.int 6)]]),.ret (.c (.bool J))]⟩
noncomputable def QJ:Fn:=letI q:=Ex.p J;letI a:=q .i [.v 1,.c (.str ['p','l','a','n'])];letI b:=q .t [.c (.str ['f','a','i','l','s']),q .i [q .i [.v 1,.c (.str ['n','a','m','e','s'])],.c (.int 0)]];letI c:=q .not [.call 48 [.call 14 [a,.v 4],.v 3]];letI d:=Ex.c (.bool J);⟨1,4,[.a 1 (.call 25 [.v 0]),.a 2 (.call 44 [q .i [.call 40 [.v 0,.v 1],.c (.str ['r','o','w','s'])],.call 16 [.v 0,.c (.int 13)],.call 16 [.v 0,.c (.int 14)]]),.a 3 (.call 46 [.v 1,.v 2]),.a 4 (.p Z5 .list [.v 2]),.ite (.or c (q (.cop .ne) [.v 4,.v 2])) [.ret d] [],.e (.n .list J .append (.v 4) [b]),.ite (q .not [.call 48 [.call 14 [a,.v 4],.call 46 [.v 1,q (.bop .add) [.v 2,q .l [b]]]]]) [.ret d] [],.e (.n .list J .pop (.v 4) []),.ite c [.ret d] [],.ret (.or (q (.cop (.is 0)) [.v 3,.c .none]) (.and (.call 49 [a,.v 4]) (q (.cop .eq) [.v 4,.v 2])))]⟩
noncomputable def qg:Fn:=letI q:=Ex.p J;letI a:=Ex.c (.int 0);⟨2,1,[.ite (q .not [.call 6 [.v 1]]) [.raise 1] [],.setAttr (.v 0) ['p','l','a','n'] (.v 1),.setAttr (.v 0) ['r','o','w'] (.p Z5 .l []),.setAttr (.v 0) ['p','a','r','t','s'] (.p Z5 (.d []) []),.setAttr (.v 0) ['c','h','i','e','f'] (.p Z5 .mkdict1 [q .i [.v 1,.c (.int 1)],.c .none]),.setAttr (.v 0) ['p','r','e','s','e','n','t'] (.p Z5 (.d []) []),.setAttr (.v 0) ['s','u','m','s'] (.p Z5 (.d []) []),.setAttr (.v 0) ['k','e','p','t'] (.p Z5 (.d []) []),.setAttr (.v 0) ['q','u','e','u','e','s'] (.p Z5 (.d []) []),.f J (.inl 2) (.call 7 [.v 1]) [.e (.m 0 52 ['n','o','t','e'] (.v 0) [.v 2])],.setAttr (.v 0) ['c','l','o','c','k'] a,.setAttr (.v 0) ['l','e','t','t','e','r','s'] a,.setAttr (.v 0) ['e','v','e','n','t','s'] (.p Z5 .l []),.e (.m 0 53 ['b','e','g','i','n'] (.v 0) [.v 1])]⟩
noncomputable def Os:Fn:=letI q:=Ex.p J;letI a:=q .i [.v 1,.c (.int 1)];⟨2,1,[.e (.n .list J .append (q (.a ['r','o','w']) [.v 0]) [a]),.s (q (.a ['p','a','r','t','s']) [.v 0]) a (.v 1),.ite (q (.cop .eq) [q .i [.v 1,.c (.int 0)],.c (.str ['w','o','r','k','e','r'])]) [.s (q (.a ['q','u','e','u','e','s']) [.v 0]) a (.p Z5 .l [])] [.f J (.inl 2) (q .i [.v 1,.c (.int 5)]) [.s (q (.a ['c','h','i','e','f']) [.v 0]) (q .i [.v 2,.c (.int 1)]) (.v 1)]]]⟩
noncomputable def Qm:Fn:=letI q:=Ex.p J;letI a:=q .i [.v 1,.c (.int 1)];⟨2,1,[.s (q (.a ['p','r','e','s','e','n','t']) [.v 0]) a (.c (.bool Z5)),.e (.n .list J .append (q (.a ['e','v','e','n','t','s']) [.v 0]) [q .t [.c (.str ['b','e','g','i','n','s']),a]]),.ite (q (.cop .eq) [q .i [.v 1,.c (.int 0)],.c (.str ['w','o','r','k','e','r'])]) [.s (q (.a ['s','u','m','s']) [.v 0]) a (.c (.int 0))] [.s (q (.a ['k','e','p','t']) [.v 0]) a (.p Z5 .l []),.f J (.inl 2) (q .i [.v 1,.c (.int 5)]) [.e (.m 0 53 ['b','e','g','i','n'] (.v 0) [.v 2])]]]⟩
noncomputable def Oq:Fn:=letI q:=Ex.p J;⟨2,1,[.ite (q (.cop .eq) [q .i [.v 1,.c (.int 0)],.c (.str ['w','a','r','d','e','n'])]) [.f Z5 (.inl 2) (q .i [.v 1,.c (.int 5)]) [.ite (q (.cop .in_) [q .i [.v 2,.c (.int 1)],q (.a ['p','r','e','s','e','n','t']) [.v 0]]) [.e (.m 0 55 ['e','n','d'] (.v 0) [.v 2])] []]] []]⟩
noncomputable def PC:Fn:=letI q:=Ex.p J;letI a:=q .i [.v 1,.c (.int 1)];⟨2,0,[.e (.m 0 54 ['e','n','d','_','p','a','r','t','s'] (.v 0) [.v 1]),.e (.n .dict J .dpop (q (.a ['p','r','e','s','e','n','t']) [.v 0]) [a]),.e (.n .list J .append (q (.a ['e','v','e','n','t','s']) [.v 0]) [q .t [.c (.str ['e','n','d','s']),a]])]⟩
noncomputable def O9:Fn:=letI q:=Ex.p J;letI a:=q .i [.v 1,.c (.int 1)];letI b:=q .i [q (.a ['c','h','i','e','f']) [.v 0],a];⟨2,0,[.e (.n .list J .append (q (.a ['e','v','e','n','t','s']) [.v 0]) [q .t [.c (.str ['f','a','i','l','s']),a]]),.e (.n .dict J .dpop (q (.a ['p','r','e','s','e','n','t']) [.v 0]) [a]),.e (.m 0 54 ['e','n','d','_','p','a','r','t','s'] (.v 0) [.v 1]),.ite (.and (q (.cop .eq) [q .i [.v 1,.c (.int 0)],.c (.str ['w','o','r','k','e','r'])]) (q (.cop .eq) [q .i [.v 1,.c (.int 2)],.c (.str ['n','e','v','e','r'])])) [.ret (.c .none)] [],.ite (q (.cop .isnot) [b,.c .none]) [.e (.m 0 57 ['f','o','l','l','o','w'] (.v 0) [b,.v 1])] []]⟩
noncomputable def OZ:Fn:=letI q:=Ex.p J;letI a:=q .i [.v 1,.c (.int 5)];letI b:=q (.a ['c','l','o','c','k']) [.v 0];letI c:=q .i [a,.v 6];⟨3,6,[.a 3 (q .i [q (.a ['k','e','p','t']) [.v 0],q .i [.v 1,.c (.int 1)]]),.e (.n .list J .append (.v 3) [b]),.ite (q (.cop .gt) [q .len [.call 8 [.v 3,b,q .i [.v 1,.c (.int 4)]]],q .i [.v 1,.c (.int 3)]]) [.e (.m 0 56 ['f','a','l','l'] (.v 0) [.v 1]),.ret (.c .none)] [],.a 4 (.n (.tup 0) J .index a [.v 2]),.a 5 (.call 9 [q .i [.v 1,.c (.int 2)],q .len [a],.v 4]),.a 7 (.comp J (.v 9) (.v 5) (Z (q (.cop .in_) [q .i [q .i [a,.v 9],.c (.int 1)],q (.a ['p','r','e','s','e','n','t']) [.v 0]]))),.f Z5 (.inl 6) (.v 7) [.e (.m 0 55 ['e','n','d'] (.v 0) [c])],.f J (.inl 6) (.v 5) [.a 8 c,.ite (.or (q (.cop .eq) [.v 6,.v 4]) (.and (q (.cop .in_) [.v 6,.v 7]) (q .not [.and (q (.cop .eq) [q .i [.v 8,.c (.int 0)],.c (.str ['w','o','r','k','e','r'])]) (q (.cop .eq) [q .i [.v 8,.c (.int 2)],.c (.str ['n','e','v','e','r'])])]))) [.e (.m 0 53 ['b','e','g','i','n'] (.v 0) [.v 8])] []]]⟩
noncomputable def OX:Fn:=letI q:=Ex.p J;letI a:=q (.a ['q','u','e','u','e','s']) [.v 0];⟨1,3,[.f J (.inl 1) (q (.a ['r','o','w']) [.v 0]) [.ite (.and (q (.cop .in_) [.v 1,a]) (q (.cop .notin) [.v 1,q (.a ['p','r','e','s','e','n','t']) [.v 0]])) [.f J (.inr [2,3]) (q .i [a,.v 1]) [.e (.n .list J .append (q (.a ['e','v','e','n','t','s']) [.v 0]) [q .t [.c (.str ['l','o','s','t']),.v 1,.v 2]])],.s a (.v 1) (.p Z5 .l [])] []]]⟩
noncomputable def Ox:Fn:=letI q:=Ex.p J;⟨1,0,[.ite (q .not [.m 0 65 ['i','s','_','o','p','e','n'] (.v 0) []]) [.raise 6] []]⟩
noncomputable def Qq:Fn:=letI q:=Ex.p J;⟨2,0,[.ite (.or (q .not [.call 2 [.v 1]]) (q (.cop .notin) [.v 1,q (.a ['q','u','e','u','e','s']) [.v 0]])) [.raise 3] []]⟩
noncomputable def Ps:Fn:=letI q:=Ex.p J;⟨2,0,[.ite (q (.cop .notin) [.v 1,q (.a ['p','r','e','s','e','n','t']) [.v 0]]) [.raise 4] []]⟩
noncomputable def PV:Fn:=letI q:=Ex.p J;letI a:=q (.a ['l','e','t','t','e','r','s']) [.v 0];⟨3,0,[.e (.m 0 59 ['n','e','e','d','_','o','p','e','n'] (.v 0) []),.ite (q .not [.call 3 [.v 2]]) [.raise 2] [],.e (.m 0 60 ['n','e','e','d','_','w','o','r','k','e','r'] (.v 0) [.v 1]),.e (.m 0 61 ['n','e','e','d','_','h','e','r','e'] (.v 0) [.v 1]),.setAttr (.v 0) ['l','e','t','t','e','r','s'] (q (.bop .add) [a,.c (.int 1)]),.e (.n .list J .append (q .i [q (.a ['q','u','e','u','e','s']) [.v 0],.v 1]) [q .t [a,.v 2]]),.e (.n .list J .append (q (.a ['e','v','e','n','t','s']) [.v 0]) [q .t [.c (.str ['s','e','n','t']),.v 1,a,.v 2]]),.ret a]⟩
noncomputable def Pn:Fn:=letI q:=Ex.p J;letI a:=q (.a ['e','v','e','n','t','s']) [.v 0];letI b:=q .i [q (.a ['q','u','e','u','e','s']) [.v 0],.v 1];letI c:=q (.a ['s','u','m','s']) [.v 0];letI d:=Ex.c (.int 0);letI e:=q .i [.v 4,d];⟨2,4,[.e (.m 0 59 ['n','e','e','d','_','o','p','e','n'] (.v 0) []),.e (.m 0 60 ['n','e','e','d','_','w','o','r','k','e','r'] (.v 0) [.v 1]),.e (.m 0 61 ['n','e','e','d','_','h','e','r','e'] (.v 0) [.v 1]),.ite (q (.cop .eq) [q .len [b],d]) [.raise 5] [],.a 2 (q .len [a]),.setAttr (.v 0) ['c','l','o','c','k'] (q (.bop .add) [q (.a ['c','l','o','c','k']) [.v 0],.c (.int 1)]),.asgTup [3,4] (.n .list J .pop0 b [d]),.e (.n .list J .append a [q .t [.c (.str ['w','o','r','k','s']),.v 1,.v 3]]),.a 5 (q .i [q (.a ['p','a','r','t','s']) [.v 0],.v 1]),.ite (q (.cop .eq) [e,.c (.str ['a','d','d'])]) [.s c (.v 1) (q (.bop .add) [q .i [c,.v 1],q .i [.v 4,.c (.int 1)]])] [.ite (q (.cop .eq) [e,.c (.str ['f','a','u','l','t'])]) [.e (.m 0 56 ['f','a','l','l'] (.v 0) [.v 5])] [.e (.n .list J .append a [q .t [.c (.str ['l','e','a','v','e','s']),.v 1]]),.e (.n .dict J .dpop (q (.a ['p','r','e','s','e','n','t']) [.v 0]) [.v 1]),.ite (q (.cop .eq) [q .i [.v 5,.c (.int 2)],.c (.str ['a','l','w','a','y','s'])]) [.e (.m 0 57 ['f','o','l','l','o','w'] (.v 0) [q .i [q (.a ['c','h','i','e','f']) [.v 0],.v 1],.v 5])] []]],.e (.m 0 58 ['l','o','s','e'] (.v 0) []),.ret (q .slice [a,.v 2,.c .none])]⟩
noncomputable def Qv:Fn:=letI q:=Ex.p J;letI a:=q (.a ['e','v','e','n','t','s']) [.v 0];letI b:=q (.a ['p','a','r','t','s']) [.v 0];⟨2,1,[.e (.m 0 59 ['n','e','e','d','_','o','p','e','n'] (.v 0) []),.ite (.or (q .not [.call 2 [.v 1]]) (q (.cop .notin) [.v 1,b])) [.raise 3] [],.e (.m 0 61 ['n','e','e','d','_','h','e','r','e'] (.v 0) [.v 1]),.a 2 (q .len [a]),.setAttr (.v 0) ['c','l','o','c','k'] (q (.bop .add) [q (.a ['c','l','o','c','k']) [.v 0],.c (.int 1)]),.e (.m 0 56 ['f','a','l','l'] (.v 0) [q .i [b,.v 1]]),.e (.m 0 58 ['l','o','s','e'] (.v 0) []),.ret (q .slice [a,.v 2,.c .none])]⟩
noncomputable def PP:Fn:=letI q:=Ex.p J;⟨1,0,[.ret (q (.cop .in_) [q .i [q (.a ['p','l','a','n']) [.v 0],.c (.int 1)],q (.a ['p','r','e','s','e','n','t']) [.v 0]])]⟩
noncomputable def Pk:Fn:=letI q:=Ex.p J;⟨1,0,[.ret (q (.a ['c','l','o','c','k']) [.v 0])]⟩
noncomputable def ON:Fn:=letI q:=Ex.p J;⟨1,0,[.ret (.comp J (.v 1) (q (.a ['r','o','w']) [.v 0]) (Z (q (.cop .in_) [.v 1,q (.a ['p','r','e','s','e','n','t']) [.v 0]])))]⟩
noncomputable def Ql:Fn:=letI q:=Ex.p J;⟨1,0,[.ret (q .list [q (.a ['e','v','e','n','t','s']) [.v 0]])]⟩
noncomputable def Pv:Fn:=letI q:=Ex.p J;⟨2,0,[.e (.m 0 60 ['n','e','e','d','_','w','o','r','k','e','r'] (.v 0) [.v 1]),.ret (.comp J (q .i [.v 2,.c (.int 0)]) (q .i [q (.a ['q','u','e','u','e','s']) [.v 0],.v 1]) Z6)]⟩
noncomputable def Qn:Fn:=⟨2,0,[.e (.call 0 [.c (.int 0)])]⟩
noncomputable def QA:Fn:=letI q:=Ex.p J;letI a:=q (.a ['p','a','r','t','s']) [.v 0];letI b:=q .i [a,.v 1];⟨2,0,[.ite (.or (q .not [.call 2 [.v 1]]) (.or (q (.cop .notin) [.v 1,a]) (q (.cop .ne) [q .i [b,.c (.int 0)],.c (.str ['w','a','r','d','e','n'])]))) [.raise 3] [],.e (.m 0 61 ['n','e','e','d','_','h','e','r','e'] (.v 0) [.v 1]),.ret (.call 8 [q .i [q (.a ['k','e','p','t']) [.v 0],.v 1],q (.a ['c','l','o','c','k']) [.v 0],q .i [b,.c (.int 4)]])]⟩
noncomputable def L5:List Fn:=[fn0,fn1,fn2,fn3,fn4,fn5,fn6,fn7,fn8,fn9,PM,OT,QV,OW,PQ,Nl,PU,Oo,MZ,QH,JR,OG,QM,Py,Lj,Mx,PT,Pw,Pm,Qb,Qp,Pj,A9,Pb,Qr,Qi,QS,Oz,QK,ME,Qx,PS,QU,Pp,QN,QO,QT,FO,OP,QB,QJ,qg,Os,Qm,Oq,PC,O9,OZ,OX,Ox,Qq,Ps,PV,Pn,Qv,PP,Pk,ON,Ql,Pv,Qn,QA]
noncomputable def CF:List (List Nat):=[[0],[1,0],[2,0],[3,0],[4,0],[5,0],[6,0],[7,0],[8,0]]
noncomputable def PL:Prog:=yX L5 CF
noncomputable def Prim.pure:Prim->Bool
 |.bop _|.cop _|.not|.s _|.len|.i|.t|.l=>Z5
 |_=>J
mutual
noncomputable def pe(P:Prog)(ρ:Fm)(H:AH):Ex->Option V
 |.c v=>Z v
 |.v i=>(ρ[i]?).join
 |.p mu p args=>if mu=Z5 then Z6 else(O5 P ρ H args).bind λvs=>if p.pure=Z5 then(prim P p vs H).map (·.1)else Z6
 |.and a b=>(pe P ρ H a).bind λx=>(gF x).bind λt=>if t=Z5 then pe P ρ H b else Z (.bool J)
 |.or a b=>(pe P ρ H a).bind λx=>(gF x).bind λt=>if t=Z5 then Z (.bool Z5)else pe P ρ H b
 |.cmp2 a o b o' c=>(pe P ρ H a).bind λx=>(pe P ρ H b).bind λy=>(ny o x y H).bind λt=>if t=Z5 then(pe P ρ H c).bind λz=>(ny o' y z H).map V.bool else Z (.bool J)
 |_=>Z6
noncomputable def O5(P:Prog)(ρ:Fm)(H:AH):List Ex->Option (List V)
 |[]=>Z []
 |e::es=>(pe P ρ H e).bind λv=>(O5 P ρ H es).map (v::·)
end
theorem zM(h:p.pure=Z5):Is (prim P p vs H) λr=>prim P p vs H=Z (r.1,H):=by refine Is.imp (R:=λr=>prim P p vs H=Z r/\r.2=H) (Is.to λr e=>⟨e,?_⟩) λr q=>q.1.trans (Z4 Z (Z4 (Prod.mk r.1) q.2));refine Is.of (R:=λr=>r.2=H) ?_ e;cases p<;>first|exact Z1 h ae|(rcases vs with _|⟨a,_|⟨b,_|_⟩⟩<;>first|exact Z0|exact Is.self.map λ_ _=>rfl)|exact Is.ite λ_=>rfl
theorem O0(e:Ex):Is (pe P ρ H e) (Ev P C ρ H X e):=
 Ex.rec (motive_2:=λes=>Is (O5 P ρ H es) λvs=>∀Q:List V->AH->Prop,Q vs H->iE P C es ρ H Q X) (motive_3:=λ_=>True)
  (λv=>am)
  (λi=>Is.to λv h=>ah (eG (λhi=>eU ((Z4 Option.join hi).symm.trans h)) λo hi=>hi.trans (Z4 Z ((Z4 Option.join hi).symm.trans h))))
  (λmu p args ih=>by
   induction mu with
   |true=>exact Z0
   |false=>exact ih.bind λvs h=>Is.ite λhp=>(zM hp).map λr e Q q=>h _ (hE e q))
  (λa b iha ihb=>iha.bind λx h1=>Is.self.bind λt ht=>Is.ite2 (λe=>ihb.imp λv h2 Q q=>h1 _ (by refine YP ht ?_;refine YP e ?_;exact h2 Q q)) λe Q q=>h1 _ (by refine YP ht ?_;induction t with|true=>exact Z1 U e|false=>exact q))
  (λa b iha ihb=>iha.bind λx h1=>Is.self.bind λt ht=>Is.ite2 (λe Q q=>h1 _ (by refine YP ht ?_;refine YP e ?_;exact q)) λe=>ihb.imp λv h2 Q q=>h1 _ (by refine YP ht ?_;induction t with|true=>exact Z1 U e|false=>exact h2 Q q))
  (λa o b o' c iha ihb ihc=>iha.bind λx h1=>ihb.bind λy h2=>Is.self.bind λt ht=>Is.ite2 (λe=>ihc.bind λz h3=>Is.self.map λt' ht' Q q=>h1 _ (h2 _ (by refine YP ht ?_;refine YP e ?_;exact h3 _ (YP ht' q)))) λe Q q=>h1 _ (h2 _ (by refine YP ht ?_;clear ht;induction t with|true=>exact Z1 U e|false=>exact q)))
  (λ_ _ _=>Z0) (λ_ _ _ _ _ _ _=>Z0) (λ_ _ _ _ _ _ _=>Z0) (λ_ _ _ _=>Z0) (λ_ _ _ _ _ _ _=>Z0)
  (λ_ q=>q) (λe es h1 h2=>h1.bind λv h1=>h2.map λvs h2 Q q=>h1 _ (h2 _ q)) Z0 (λ_ _=>Z0) e
theorem av(h:pe P ρ H e=Z v):Ev P C ρ H X e v:=(O0 e).of h
theorem r9{α:Type}{F:V->AH->(Option V->AH->Prop)->Prop}{ok:AH->Prop}{f g:α->V}(hok:ok H){l:List α}:∀{acc:List V} {Q:List V->AH->Prop},
  (∀a∈l,∀K:Option V->AH->Prop,K (Z (g a)) H->F (f a) H K)->Q (acc++l.map g) H->lE F ok (l.map f) acc H Q:=by
 induction l with
 |nil=>exact λ{acc _} _ q=>⟨hok,aJ acc▸q⟩
 |cons a l ih=>exact λ{acc _} hF q=>⟨hok,hF a (.head _) _ (ih (λb hb=>hF b (.tail _ hb)) ((au acc [g a] (l.map g)).symm▸q))⟩
theorem zw{α:Type}{F:V->AH->(Option V->AH->Prop)->Prop}{ok:AH->Prop}{f g:α->V}{p:α->Bool}(hok:ok H){l:List α}:∀{acc:List V} {Q:List V->AH->Prop},
  (∀a∈l,∀K:Option V->AH->Prop,K (if p a=Z5 then Z (g a)else Z6) H->F (f a) H K)->Q (acc++(l.filter p).map g) H->lE F ok (l.map f) acc H Q:=by
 induction l with
 |nil=>exact λ{acc _} _ q=>⟨hok,aJ acc▸q⟩
 |cons a l ih=>
  refine λ{acc _} hF q=>⟨hok,hF a (.head _) _ (ih (λb hb=>hF b (.tail _ hb)) ?_)⟩;cases hp:p a with
  |false=>rw [eZ (by exact YP hp ae)]at q;exact q
  |true=>rw [dt hp]at q;exact(au acc [g a] _).symm▸q
section
variable {α:Type}{l:List α}
theorem oB(hit:Ev P C ρ H X it w)(hs:rE H w=Z (l.map f))(hl:l.length<=aB)(he:∀a∈l,Ev P C (ρ++[Z (f a)]) H X elt (g a)):Ev P C ρ H X (.comp J elt it Z6) (.lst (l.map g)):=λQ q=>hit _ (bQ (l.map f) hs ((aj f).symm▸hl) (r9 hs (λa ha K hK=>he a ha _ hK) (hE U q)))
theorem jU(hit:Ev P C ρ H X it w)(hs:rE H w=Z (l.map f))(hl:l.length<=aB)(hc:∀a∈l,Ev P C (ρ++[Z (f a)]) H X c (.bool (p a)))(he:∀a∈l,p a=Z5->Ev P C (ρ++[Z (f a)]) H X elt (g a)):Ev P C ρ H X (.comp J elt it (Z c)) (.lst ((l.filter p).map g)):=λQ q=>by
 refine hit _ (bQ (l.map f) hs ((aj f).symm▸hl) (zw hs (λa ha K hK=>hc a ha _ ?_) (hE U q)));cases hp:p a with
 |true=>rw [hp]at hK;exact he a ha hp _ hK
 |false=>rw [hp]at hK;exact hK
end
theorem sN(Inv:List V->Fm->AH->Prop)(h:Ev P C ρ H X e v)(hs:∀its ρ' H',Inv its ρ' H'->j2 rev H' v=Z items)(hl:items.length<=aB)(h0:Inv items ρ H)
  (step:∀x xs ρ' H',Inv (x::xs) ρ' H'->∀K':KS,(∀ρ'' H'',Inv xs ρ'' H''->K' ρ'' H'')->bk P C body (ρ'.set i (Z x)) H' K' R (λ_ _=>False))
  (fin:∀ρ' H',Inv [] ρ' H'->bk P C ss ρ' H' K R X):bk P C (.f rev (.inl i) e body::ss) ρ H K R X:=
 h _ (bQ items (hs _ _ _ h0) hl (un Inv (λx xs ρ' H' hI=>⟨hs _ _ _ hI,step x xs ρ' H' hI⟩) (λρ' H' hI=>⟨hs _ _ _ hI,fin ρ' H' hI⟩) h0))
theorem iJ{o i e:Ex}(h:cW P C e ρ H (λx H₁=>cW P C o ρ H₁ (λov H₂=>cW P C i ρ H₂ (λiv H₃=>match eX ov iv x H₃ with|some H'=>bk P C ss ρ H' K R X|none=>False) X) X) X):bk P C (.s o i e::ss) ρ H K R X:=h
theorem BH(k:Nat)(h:mU (λρ' H' K₁ K₂=>cW P C c ρ' H' (λv H''=>o9 (gF v) λt=>if t then bk P C body ρ' H'' K₁ R (λ_ _=>False)else K₂ ρ' H'') (λ_ _=>False)) k ρ H (λρ' H'=>bk P C ss ρ' H' K R X)):bk P C (.while_ c body::ss) ρ H K R X:=⟨k,h⟩
theorem bT(h:Ev P C ρ H X c (.bool Z5))(k:bk P C as ρ H (λρ' H'=>bk P C ss ρ' H' K R X) R X):bk P C (.ite c as bs::ss) ρ H K R X:=h _ k
theorem cj(h:Ev P C ρ H X c (.bool J))(k:bk P C bs ρ H (λρ' H'=>bk P C ss ρ' H' K R X) R X):bk P C (.ite c as bs::ss) ρ H K R X:=h _ k
theorem cf(hf:P.fns f=Z fn)(ha:args.length=fn.arity)(w:bk P (aO P n) fn.body (args.map Z++bW fn.extra Z6) H (λ_ H'=>Q .none H') Q X):aO P (n+1) f args H Q X:=by exact YP mZ (YP hf (⟨ha,w⟩))
abbrev Nm:=List Char
abbrev AL(α:Type):=List (Nm×α)
noncomputable def fb{α:Type}(n:Nm):AL α->Option α
 |[]=>Z6
 |p::l=>if n=p.1 then Z p.2 else fb n l
noncomputable def dE{α:Type}(n:Nm)(x:α):AL α->AL α
 |[]=>[(n,x)]
 |p::l=>if n=p.1 then(p.1,x)::l else p::dE n x l
noncomputable def mr{α:Type}(n:Nm):AL α->AL α
 |[]=>[]
 |p::l=>if n=p.1 then l else p::mr n l
section
variable {val:α->V}{l:AL α}
theorem nt:gx n (l.map (·.1)) (l.map λp=>val p.2)=(fb n l).map val:=by
 induction l with
 |nil=>rfl
 |cons p l ih=>
  refine(?_:(if n=p.1 then Z (val p.2)else gx n _ _)=(if n=p.1 then Z p.2 else fb n l).map val);by_cases h:n=p.1
  ·exact YP (Z3 h) (YP (Z3 h) U)
  ·exact YP (Z2 h) (YP (Z2 h) ih)
theorem Fw:eQ n (val x) (l.map (·.1)) (l.map λp=>val p.2)=((dE n x l).map (·.1),(dE n x l).map λp=>val p.2):=by
 induction l with
 |nil=>rfl
 |cons p l ih=>
  refine(?_:(if n=p.1 then(p.1::l.map (·.1),val x::l.map λp=>val p.2)else(p.1::(eQ n (val x) _ _).1,val p.2::(eQ n (val x) _ _).2))=((if n=p.1 then(p.1,x)::l else p::dE n x l).map (·.1),(if n=p.1 then(p.1,x)::l else p::dE n x l).map λp=>val p.2));by_cases h:n=p.1
  ·exact YP (Z3 h) (YP (Z3 h) U)
  ·exact YP (Z2 h) (YP (Z2 h) (YP ih U))
theorem DZ:mw n (l.map (·.1)) (l.map λp=>val p.2)=((mr n l).map (·.1),(mr n l).map λp=>val p.2):=by
 induction l with
 |nil=>rfl
 |cons p l ih=>
  refine(?_:(if n=p.1 then(l.map (·.1),l.map λp=>val p.2)else(p.1::(mw n _ _).1,val p.2::(mw n _ _).2))=((if n=p.1 then l else p::mr n l).map (·.1),(if n=p.1 then l else p::mr n l).map λp=>val p.2));by_cases h:n=p.1
  ·exact YP (Z3 h) (YP (Z3 h) U)
  ·exact YP (Z2 h) (YP (Z2 h) (YP ih U))
noncomputable def eO(n:Nm)(l:AL α):Bool:=(l.map (·.1)).contains n
theorem fk:eO n l=Z5↔∃x,(n,x)∈l:=by unfold eO;rw [bn,cQ];exact⟨λq=>ao q λp h e=>⟨p.2,e▸h⟩,λq=>q.elim λ_ h=>(aG _ h U)⟩
theorem cM(h:fb n l=Z x):(n,x)∈l:=by
 induction l with
 |nil=>exact nomatch h
 |cons p l ih=>
  haveI h:(if n=p.1 then Z p.2 else fb n l)=Z x:=h;by_cases e:n=p.1
  ·rw [Z3 e]at h;exact e▸ai h▸.head _
  ·rw [Z2 e]at h;exact .tail _ (ih h)
theorem j1(h:eO n l=Z5):∃x,fb n l=Z x:=by
 induction l with
 |nil=>exact nomatch h
 |cons p l ih=>
  refine(?_:∃x,(if n=p.1 then Z p.2 else fb n l)=Z x);by_cases e:n=p.1
  ·exact YP (Z3 e) (⟨_,rfl⟩)
  ·exact YP (Z2 e) (ih (fk.mpr ((fk.mp h).imp λx q=>eV q (λq=>Z1 (Z4 pg q) e) id)))
theorem lL{p:Nm×α}(h:p∈dE n x l):p=(n,x)\/p∈l:=by
 induction l with
 |nil=>exact .inl (in1 h)
 |cons q l ih=>
  haveI h:p∈(if n=q.1 then(q.1,x)::l else q::dE n x l):=h;by_cases e:n=q.1
  ·rw [Z3 e]at h;exact eV h (λh=>.inl (e▸h)) λh=>.inr (.tail _ h)
  ·rw [Z2 e]at h;exact eV h (λh=>.inr (h▸.head _)) λh=>(ih h).imp id λh=>.tail _ h
theorem uO{p:Nm×α}(h:p∈mr n l):p∈l:=by
 induction l with
 |nil=>exact h
 |cons q l ih=>
  haveI h:p∈(if n=q.1 then l else q::mr n l):=h;by_cases e:n=q.1
  ·rw [Z3 e]at h;exact .tail _ h
  ·rw [Z2 e]at h;exact eV h (λh=>h▸.head _) λh=>.tail _ (ih h)
theorem lW:(dE n x l).map (·.1)=if eO n l=Z5 then l.map (·.1)else l.map (·.1)++[n]:=by
 induction l with
 |nil=>rfl
 |cons q l ih=>
  refine(?_:((if n=q.1 then(q.1,x)::l else q::dE n x l).map (·.1))=_);by_cases e:n=q.1
  ·exact YP (Z3 e) (YP (Z3 (fk.mpr ⟨q.2,e▸.head _⟩)) U)
  ·rw [Z2 e,dI,ih,show eO n (q::l)=eO n l from by unfold eO;rw [dI,iV,beq_eq_false_iff_ne.mpr e,DG]];by_cases h:eO n l=Z5
   ·exact YP (Z3 h) (YP (Z3 h) U)
   ·exact YP (Z2 h) (YP (Z2 h) U)
theorem oF:(mr n l).map (·.1)=(l.map (·.1)).erase n:=by
 induction l with
 |nil=>rfl
 |cons q l ih=>
  refine(?_:((if n=q.1 then l else q::mr n l).map (·.1))=(q.1::l.map (·.1)).erase n);by_cases e:n=q.1
  ·rw [Z3 e,e,List.erase_cons_head]
  ·rw [Z2 e,List.erase_cons_tail (by rw [beq_iff_eq];exact Ne.symm e),dI,ih]
theorem nO(h:(l.map (·.1)).Nodup):((dE n x l).map (·.1)).Nodup:=by
 refine YP lW ?_;by_cases e:eO n l=Z5
 ·exact YP (Z3 e) h
 ·exact YP (Z2 e) (bv.mpr (bu h (fc.mpr ⟨nofun,dA⟩) (λa ha b hb q=>e (bn.mpr (in1 hb▸q▸ha)))))
theorem DV(h:(l.map (·.1)).Nodup):((mr n l).map (·.1)).Nodup:=by exact YP oF (h.erase n)
theorem lG:eO m (dE n x l)=(decide (m=n)||eO m l):=by
 haveI h:eO m (dE n x l)=((dE n x l).map (·.1)).contains m:=rfl;refine YP h (YP lW ?_);by_cases e:eO n l=Z5
 ·refine YP (Z3 e) ?_;by_cases q:m=n
  ·exact YP q (YP (decide_eq_true U) e)
  ·exact YP (decide_eq_false q) U
 ·rw [Z2 e,cD,bn,ol,ku,decide_eq_true_iff];exact⟨λh=>h.elim (λh=>.inr (bn.mpr h)) λh=>.inl (in1 h),λh=>h.elim (λh=>.inr (h▸.head _)) λh=>.inl (bn.mp h)⟩
theorem im(h:(l.map (·.1)).Nodup):eO m (mr n l)=(!decide (m=n)&&eO m l):=by unfold eO;rw [oF,cD,bn,h.mem_erase_iff,dP,cH,decide_eq_false_iff_not,bn]
theorem lK:fb m (dE n x l)=if m=n then Z x else fb m l:=by
 induction l with
 |nil=>rfl
 |cons q l ih=>
  refine(?_:fb m (if n=q.1 then(q.1,x)::l else q::dE n x l)=if m=n then Z x else if m=q.1 then Z q.2 else fb m l);by_cases e:n=q.1
  ·refine YP (Z3 e) ?_;show(if m=q.1 then Z x else fb m l)=_;refine YP (YO e) ?_;by_cases h:m=n
   ·exact YP (Z3 h) (YP (Z3 h) U)
   ·exact YP (Z2 h) (YP (Z2 h) (YP (Z2 h) U))
  ·refine YP (Z2 e) ?_;show(if m=q.1 then Z q.2 else fb m (dE n x l))=_;refine YP ih ?_;by_cases h:m=q.1
   ·exact YP (Z3 h) (YP (Z3 h) (YP (Z2 λz:m=n=>e (z▸h)) U))
   ·exact YP (Z2 h) (YP (Z2 h) U)
end
set_option genCtorIdx false in
inductive Evt where
 |beg (n:Nm)|end_ (n:Nm)|fail (n:Nm)|leave (n:Nm)|sent (n:Nm) (k:Nat) (l:V)|works (n:Nm) (k:Nat)|lost (n:Nm) (k:Nat)
noncomputable def Evt.v:Evt->V
 |.beg n=>.tup [.str ['b','e','g','i','n','s'],.str n]
 |.end_ n=>.tup [.str ['e','n','d','s'],.str n]
 |.fail n=>.tup [.str ['f','a','i','l','s'],.str n]
 |.leave n=>.tup [.str ['l','e','a','v','e','s'],.str n]
 |.sent n k l=>.tup [.str ['s','e','n','t'],.str n,.int k,l]
 |.works n k=>.tup [.str ['w','o','r','k','s'],.str n,.int k]
 |.lost n k=>.tup [.str ['l','o','s','t'],.str n,.int k]
noncomputable def tb(p:Nat×V):V:=.tup [.int p.1,p.2]
structure Hst where
 pres:AL Unit
 sums:AL Int
 kept:AL (Nat×List Int)
 qu:AL (Nat×List (Nat×V))
 clock:Int
 letters:Nat
 ev:List Evt
 kl:Nat
 own:Nat->Option (Bool×Nm)
structure Ad where
 d:Nat
 i:Nat
 row:Nat
 parts:Nat
 chief:Nat
 pres:Nat
 sums:Nat
 kept:Nat
 qu:Nat
 ev:Nat
 plan:V
 names:List Nm
 partVs:List V
 chk:List Nm
 chv:List V
 G:List (Nat×O)
noncomputable def dO{α:Type}(val:α->V)(l:AL α):O:=.dict (l.map (·.1)) (l.map λp=>val p.2)
noncomputable def hk:List Nm:=[['p','l','a','n'],['r','o','w'],['p','a','r','t','s'],['c','h','i','e','f'],['p','r','e','s','e','n','t'],['s','u','m','s'],['k','e','p','t'],['q','u','e','u','e','s'],['c','l','o','c','k'],['l','e','t','t','e','r','s'],['e','v','e','n','t','s']]
noncomputable def hv(σ:Ad)(S:Hst):List V:=[σ.plan,.ref σ.row,.ref σ.parts,.ref σ.chief,.ref σ.pres,.ref σ.sums,.ref σ.kept,.ref σ.qu,.int S.clock,.int S.letters,.ref σ.ev]
noncomputable def L3(p:Nat×List (Nat×V)):V:=.ref p.1
noncomputable def keR(p:Nat×List Int):V:=.ref p.1
noncomputable def kX(σ:Ad)(S:Hst):List (Nat×O):=
 (σ.d,.ns hk (hv σ S))::(σ.i,.inst 0 σ.d)::(σ.row,.list (σ.names.map V.str))::(σ.parts,.dict σ.names σ.partVs)::(σ.chief,.dict σ.chk σ.chv)::(σ.pres,dO (λ_=>.bool Z5) S.pres)::(σ.sums,dO V.int S.sums)::
 (σ.kept,dO keR S.kept)::(σ.qu,dO L3 S.qu)::(σ.ev,.list (S.ev.map Evt.v))::σ.G
noncomputable def pP(S:Hst)(n:Nm):Hst:={S with pres:=dE n () S.pres}
noncomputable def pD(S:Hst)(n:Nm):Hst:={S with pres:=mr n S.pres}
noncomputable def pE(S:Hst)(t:Evt):Hst:={S with ev:=S.ev++[t]}
noncomputable def pS(S:Hst)(n:Nm)(i:Int):Hst:={S with sums:=dE n i S.sums}
noncomputable def pK(S:Hst)(n:Nm)(x:Nat×List Int)(f:Nat->Option (Bool×Nm)):Hst:={S with kept:=dE n x S.kept,own:=f}
noncomputable def pQ(S:Hst)(n:Nm)(x:Nat×List (Nat×V))(f:Nat->Option (Bool×Nm)):Hst:={S with qu:=dE n x S.qu,own:=f}
def KP(S:Hst)(H:AH):Prop:=∀p∈S.kept,S.own p.2.1=Z (Z5,p.1)/\H[p.2.1]? =Z (.list (p.2.2.map V.int))/\p.2.2.length<=S.kl
def QP(S:Hst)(H:AH):Prop:=∀p∈S.qu,S.own p.2.1=Z (J,p.1)/\H[p.2.1]? =Z (.list (p.2.2.map tb))/\p.2.2.length<=S.letters
structure Hs(σ:Ad)(S:Hst)(H:AH):Prop where
 nd:((kX σ S).map (·.1)).Nodup
 fix:∀p∈kX σ S,H[p.1]? =Z p.2/\S.own p.1=Z6
 kp:KP S H
 qp:QP S H
 qn:(S.qu.map (·.1)).Nodup
 pn:(S.pres.map (·.1)).Nodup
 kn:(S.kept.map (·.1)).Nodup
 fr:∀a,H.length<=a->S.own a=Z6
section
variable {S S':Hst}{H:AH}
theorem Hs.get(h:Hs σ S H)(k:Nat)(hk:(kX σ S)[k]? =Z p):H[p.1]? =Z p.2:=(h.fix p (aI hk)).1
theorem AQ{L:List (Nat×O)}{k a:Nat}{o o':O}(nd:(L.map (·.1)).Nodup)(sS:∀p∈L,H[p.1]? =Z p.2)(hk:L[k]? =Z (a,o)):(L.set k (a,o')).map (·.1)=L.map (·.1)/\∀p∈L.set k (a,o'),(H.set a o')[p.1]? =Z p.2:=by
 have h1:(L.map (·.1))[k]? =Z a:=YP aV (YP hk U);have hl:=(cq h1);refine⟨?_,λp hp=>?_⟩
 ·refine YP Gy (fX λj=>(YP fY ?_));by_cases q:k=j
  ·subst q;exact YP (Z3 U) (YP (Z3 hl) h1.symm)
  ·exact YP (Z2 q) U
 ·refine (c6 hp).elim λj hj=>?_;rw [fY]at hj;by_cases q:k=j
  ·subst q;rw [Z3 U,Z3 (aj (f:=pg)▸hl)]at hj;haveI hp:=ai hj;exact YP (YO hp) (bM (cq (sS _ (aI hk))))
  ·rw [Z2 q]at hj;refine(bt λz=>?_).trans (sS p (aI hj));haveI h2:(L.map (·.1))[j]? =Z a:=YP aV (YP hj (YP z U));exact q ((gX hl nd).mp (h1.trans h2.symm))
theorem Hs.set'(h:Hs σ S H)(k:Nat){a:Nat}{o o' o'':O}(hk:(kX σ S)[k]? =Z (a,o))(e:kX σ' S'=(kX σ S).set k (a,o''))(z:o''=o')(eo:S'.own=S.own)(kp:KP S' H)(qp:QP S' H)(qn:(S'.qu.map (·.1)).Nodup)(pn:(S'.pres.map (·.1)).Nodup)(kn:(S'.kept.map (·.1)).Nodup):Hs σ' S' (H.set a o'):=by
 subst z;have ha:=h.fix _ (aI hk);haveI hne:∀{b:Nat} {x:Bool×Nm},S'.own b=Z x->a≠b:=λhb q=>eU (ha.2.symm.trans (eo▸q▸hb));have c:=AQ (o':=o'') h.nd (λp hp=>(h.fix p hp).1) hk;rw [<-e]at c;refine⟨c.1▸h.nd,λp hp=>⟨c.2 p hp,?_⟩,λp hp=>?_,λp hp=>?_,qn,pn,kn,λb hb=>eo▸h.fr b (aa (ak aY.symm) hb)⟩
 ·haveI z:=c.1▸bx hp;exact ao (cL z) λq hq e=>eo▸e▸(h.fix q hq).2
 ·exact (bu ((kp p hp).1) ((bt (hne (kp p hp).1)).trans (kp p hp).2.1) ((kp p hp).2.2))
 ·exact (bu ((qp p hp).1) ((bt (hne (qp p hp).1)).trans (qp p hp).2.1) ((qp p hp).2.2))
theorem Hs.set(h:Hs σ S H)(k:Nat)(hk:(kX σ S)[k]? =Z (a,o))(e:kX σ S'=(kX σ S).set k (a,o''))(z:o''=o')(ek:S'.kept=S.kept)(eq:S'.qu=S.qu)(eo:S'.own=S.own)(el:S.kl<=S'.kl/\S.letters<=S'.letters)(pn:(S'.pres.map (·.1)).Nodup):Hs σ S' (H.set a o'):=
 h.set' k hk e z eo (λp hp=>haveI q:=h.kp p (ek▸hp);(bu (eo▸q.1) q.2.1 (aa q.2.2 el.1))) (λp hp=>haveI q:=h.qp p (eq▸hp);(bu (eo▸q.1) q.2.1 (aa q.2.2 el.2))) (eq▸h.qn) pn (ek▸h.kn)
theorem Hs.alloc(h:Hs σ S H)(o:O)(x:Option (Bool×Nm)):Hs σ {S with own:=λa=>if a=H.length then x else S.own a} (H++[o]):=by
 haveI lt:∀{b:Nat} {o:O},H[b]? =Z o->(if b=H.length then x else S.own b)=S.own b:=λe=>Z2 λq=>cZ _ (q▸(cq e));exact⟨h.nd,λp hp=>⟨dT (h.fix p hp).1,(lt (h.fix p hp).1).trans (h.fix p hp).2⟩,λp hp=>(bu ((lt (h.kp p hp).2.1).trans (h.kp p hp).1) (dT (h.kp p hp).2.1) ((h.kp p hp).2.2)),
  λp hp=>(bu ((lt (h.qp p hp).2.1).trans (h.qp p hp).1) (dT (h.qp p hp).2.1) ((h.qp p hp).2.2)),h.qn,h.pn,h.kn,λb hb=>by rw [af]at hb;exact(Z2 λe:b=H.length=>Nat.not_succ_le_self H.length (e▸hb)).trans (h.fr b (aa (bh _) hb))⟩
noncomputable def pL(S:Hst)(n:Nat):Hst:={S with kl:=n}
theorem fU:(H++[o])[H.length]? =Z o:=dU
theorem yO:(if H.length=H.length then x else S.own H.length)=x:=Z3 U
end
noncomputable abbrev sS(nm:Nm):Ex:=.p J (.a nm) [.v 0]
theorem BM(h:Hs σ S H):gU H (.ref σ.i)=Z (σ.d,hk,hv σ S):=by show(H[σ.i]?.bind O.ins).bind _=_;refine YP (h.get 1 rfl) ?_;show(H[σ.d]?.bind O.nms).map _=_;refine YP (h.get 0 rfl) ?_;rfl
theorem dW(h:Hs σ S H)(h0:ρ[0]? =Z (Z (.ref σ.i)))(e:gx nm hk (hv σ S)=Z v):Ev P C ρ H X (sS nm) v:=bK (ah h0) (by refine(?_:((gU H (.ref σ.i)).bind λq=>(gx nm q.2.1 q.2.2).map (·,H))=_);refine YP (BM h) ?_;exact Z4 (bX (·,H)) e)
theorem pZ(h:Hs σ S H)(hn:hk.contains nm=J):iI H 0 nm (.ref σ.i)=Z5:=by show(gU H (.ref σ.i)).any _=Z5;refine YP (BM h) ?_;show(!hk.contains nm)=Z5;exact YP hn U
theorem fi(h:Hs σ S H)(h0:ρ[0]? =Z (Z (.ref σ.i)))(hn:hk.contains nm=J)(ha:Ev P C ρ H X a x)(k:C f [.ref σ.i,x] H (λ_ H'=>bk P C ss ρ H' K R X) X):bk P C (.e (.m 0 f nm (.v 0) [a])::ss) ρ H K R X:=
 ah (P:=P) (C:=C) (X:=X) h0 (λv H₁=>iI H₁ 0 nm v=Z5/\iE P C [a] ρ H₁ (λvs H'=>C f (v::vs) H' (λ_ H'=>bk P C ss ρ H' K R X) X) X) ⟨pZ h hn,ha _ k⟩
theorem iM(h:Hs σ S H)(h0:ρ[0]? =Z (Z (.ref σ.i)))(hn:hk.contains nm=J)(k:C f [.ref σ.i] H (λ_ H'=>bk P C ss ρ H' K R X) X):bk P C (.e (.m 0 f nm (.v 0) [])::ss) ρ H K R X:=
 ah (P:=P) (C:=C) (X:=X) h0 (λv H₁=>iI H₁ 0 nm v=Z5/\iE P C [] ρ H₁ (λvs H'=>C f (v::vs) H' (λ_ H'=>bk P C ss ρ H' K R X) X) X) ⟨pZ h hn,k⟩
theorem Jk(h:H[i]? =Z (.dict ks vs)):lF H (.ref i) .dict=Z5:=by show(H[i]?.bind O.dct).isSome=_;exact YP h U
theorem gW{α:Type}{l:List α}{a:α}:l.length<=(l++[a]).length:=by exact YP af (ax _ _)
theorem oW(h:Hs σ S H)(h0:ρ[0]? =Z (Z (.ref σ.i)))(t:Evt)(he:Ev P C ρ H X e t.v)(hl:S.ev.length<=aB)(k:∀H',Hs σ (pE S t) H'->bk P C ss ρ H' K R X) :
  bk P C (.e (.n .list J .append (sS ['e','v','e','n','t','s']) [e])::ss) ρ H K R X:=
 d8 (dW h h0 U _ ⟨fo (h.get 9 rfl),he _ (hE (fL (h.get 9 rfl) (aa (ak (aj _)) hl)) (k _ (h.set 9 rfl U (Z4 O.list aN) U U U ⟨aM _,aM _⟩ h.pn)))⟩)
theorem lz{α:Type}{val:α->V}{l:AL α}{x:α}(h:H[a]? =Z (dO val l))(hl:l.length<=aB):eX (.ref a) (.str n) (val x) H=Z (H.set a (dO val (dE n x l))):=by show CQ a n (val x) H H[a]? =_;refine YP h ?_;show(if(l.map (·.1)).length<=aB then Z (H.set a (.dict (eQ n (val x) _ _).1 (eQ n (val x) _ _).2))else Z6)=_;refine YP (Z3 (aa (ak (aj _)) hl)) (YP Fw ?_);rfl
theorem Cq{α:Type}{val:α->V}{l:AL α}{x:α}(h:Hs σ S H)(h0:ρ[0]? =Z (Z (.ref σ.i)))(ea:gx nm hk (hv σ S)=Z (.ref a))(hd:H[a]? =Z (dO val l))(he:Ev P C ρ H X e (val x))(hi:Ev P C ρ H X ei (.str n))(hl:l.length<=aB)(k:bk P C ss ρ (H.set a (dO val (dE n x l))) K R X) :
  bk P C (.s (sS nm) ei e::ss) ρ H K R X:=iJ (he _ (dW h h0 ea _ (hi _ (by exact YP (lz hd hl) k))))
theorem xT(h:Hs σ S H)(h0:ρ[0]? =Z (Z (.ref σ.i)))(hi:Ev P C ρ H X e (.str n))(hl:S.pres.length<=aB)(k:∀H',Hs σ (pP S n) H'->bk P C ss ρ H' K R X) :
  bk P C (.s (sS ['p','r','e','s','e','n','t']) e (.c (.bool Z5))::ss) ρ H K R X:=
 Cq (x:=()) h h0 U (h.get 5 rfl) am hi hl (k _ (h.set 5 rfl U U U U U ⟨aM _,aM _⟩ (nO h.pn)))
theorem y0(h:Hs σ S H)(h0:ρ[0]? =Z (Z (.ref σ.i)))(he:Ev P C ρ H X e (.int i))(hi:Ev P C ρ H X ei (.str n))(hl:S.sums.length<=aB)(k:∀H',Hs σ (pS S n i) H'->bk P C ss ρ H' K R X) :
  bk P C (.s (sS ['s','u','m','s']) ei e::ss) ρ H K R X:=
 Cq h h0 U (h.get 6 rfl) he hi hl (k _ (h.set 6 rfl U U U U U ⟨aM _,aM _⟩ h.pn))
theorem tj(h:Hs σ S H)(h0:ρ[0]? =Z (Z (.ref σ.i)))(hi:Ev P C ρ H X e (.str n))(hn:eO n S.pres=Z5)(hl:S.pres.length<=aB)(k:∀H',Hs σ (pD S n) H'->bk P C ss ρ H' K R X) :
  bk P C (.e (.n .dict J .dpop (sS ['p','r','e','s','e','n','t']) [e])::ss) ρ H K R X:=by
 haveI hp:=h.get 5 rfl;obtain⟨x,hx⟩:=j1 hn;refine d8 (dW h h0 U _ ⟨Jk hp,hi _ (hE (v:=.bool Z5) (H':=H.set σ.pres (dO (λ_=>.bool Z5) (mr n S.pres))) ?_ (k _ (h.set 5 rfl U U U U U ⟨aM _,aM _⟩ (DV h.pn))))⟩);refine(?_:((H[σ.pres]?.bind O.dct).bind _).bind _=_);refine YP hp ?_;show(if(S.pres.map (·.1)).length<=aB then(gx n _ _).map λx=>(x,H.set σ.pres (.dict (mw n _ _).1 (mw n _ _).2))else Z6)=_;refine YP (Z3 (aa (ak (aj _)) hl)) (YP (nt (val:=λ_=>V.bool Z5)) (YP hx (YP (DZ (val:=λ_=>V.bool Z5)) ?_)));rfl
theorem lH(q:Q (.ref H.length) (H++[.list []])):cW P C (.p Z5 .l []) ρ H Q X:=show iT (bj P Z5 .l [] H) Q from hE (pO (aU _)) q
theorem Fy(h:Hs σ S H)(h0:ρ[0]? =Z (Z (.ref σ.i)))(hi:∀H,Ev P C ρ H X e (.str n))(hl:S.kept.length<=aB)(k:∀r f H',Hs σ (pK S n (r,[]) f) H'->bk P C ss ρ H' K R X) :
  bk P C (.s (sS ['k','e','p','t']) e (.p Z5 .l [])::ss) ρ H K R X:=by
 haveI h1:=h.alloc (.list []) (Z (Z5,n));refine iJ (lH (dW h1 h0 U _ (hi _ _ ?_)));exact YP (show V.ref H.length=keR (H.length,[])from U) (YP (lz (h1.get 7 rfl) hl) (k H.length _ _ (h1.set' 7 rfl U U U (λp hp=>(lL hp).elim (λq=>q▸(bu yO fU (aU _))) (h1.kp p)) h1.qp h.qn h.pn (nO h.kn))))
theorem Cr(h:Hs σ S H)(h0:ρ[0]? =Z (Z (.ref σ.i)))(hi:∀H,Ev P C ρ H X e (.str n))(hl:S.qu.length<=aB)(k:∀r f H',Hs σ (pQ S n (r,[]) f) H'->bk P C ss ρ H' K R X) :
  bk P C (.s (sS ['q','u','e','u','e','s']) e (.p Z5 .l [])::ss) ρ H K R X:=by
 haveI h1:=h.alloc (.list []) (Z (J,n));refine iJ (lH (dW h1 h0 U _ (hi _ _ ?_)));exact YP (show V.ref H.length=L3 (H.length,[])from U) (YP (lz (h1.get 8 rfl) hl) (k H.length _ _ (h1.set' 8 rfl U U U h1.kp (λp hp=>(lL hp).elim (λq=>q▸(bu yO fU (aU _))) (h1.qp p)) (nO h.qn) h.pn h.kn)))
noncomputable def wk:List Char:=['w','o','r','k','e','r']
noncomputable def wd:List Char:=['w','a','r','d','e','n']
noncomputable def lN:List (List Char):=[['a','l','w','a','y','s'],['f','a','u','l','t','e','d'],['n','e','v','e','r']]
noncomputable def iC:List (List Char):=[['o','n','e'],['r','e','s','t'],['a','l','l']]
noncomputable def tE:List Char:=['a','b','c','d','e','f','g','h','i','j','k','l','m','n','o','p','q','r','s','t','u','v','w','x','y','z']
def pY(s:List Char):Prop:=1<=s.length/\s.length<=8/\∀c∈s,c∈tE
noncomputable abbrev vG(nm md:Nm):V:=.tup [.str wk,.str nm,.str md]
noncomputable abbrev mm(nm r:Nm)(m s:Int)(ps:List V):V:=.tup [.str wd,.str nm,.str r,.int m,.int s,.tup ps]
noncomputable def Lm:List V->Nm
 |_::v::_=>v.txt.getD []
 |_=>[]
noncomputable def NF:List V->List V
 |[_,_,_,_,_,v]=>v.tpl.getD []
 |_=>[]
noncomputable def aq(v:V):Nm:=Lm (v.tpl.getD [])
noncomputable def kids(v:V):List V:=NF (v.tpl.getD [])
noncomputable def nms:Nat->V->List Nm
 |0,_=>[]
 |k+1,v=>aq v::(kids v).flatMap (nms k)
structure PI where
 isW:Nm->Option Bool
 ch:Nm->Option Nm
 al:Nm->Bool
 nv:Nm->Bool
 sp:Nm->Int
 mn:Nm->Int
 sb:Nm->List Nm
 kd:Nm->List Nm
 ru:Nm->Nm
inductive Pt(π:PI):Nat->V->Prop
 |wk {k:Nat} {nm md:Nm}:pY nm->md∈lN->π.isW nm=Z J->(∀c,π.ch c≠Z nm)->Pt π (k+1) (vG nm md)
 |wd {k:Nat} {nm r:Nm} {m s:Int} {ps:List V}:pY nm->r∈iC->(0<=m/\m<=1000000000)->(1<=s/\s<=1000000000)->(1<=ps.length/\ps.length<=8)->π.isW nm=Z Z5->(∀c,π.ch c=Z nm↔∃p∈ps,aq p=c)->(∀p∈ps,Pt π k p)->Pt π (k+1) (mm nm r m s ps)
noncomputable def hr(h:Nm->Bool):Evt->Nm->Bool
 |.beg n=>λm=>decide (m=n)||h m
 |.end_ n|.fail n|.leave n=>λm=>!decide (m=n)&&h m
 |_=>h
noncomputable def Evt.nm:Evt->Nm
 |.beg n|.end_ n|.fail n|.leave n|.sent n _ _|.works n _|.lost n _=>n
def Evt.plain(π:PI):Evt->Prop
 |.beg n|.end_ n|.fail n|.leave n=>(π.isW n).isSome=Z5
 |_=>False
noncomputable abbrev here(S:Hst):Nm->Bool:=λm=>eO m S.pres
noncomputable def jt(S:Hst)(c:Nm):List Int:=((fb c S.kept).map (·.2)).getD []
noncomputable def lM(c:Nm)(l:List Int):Evt->List Int
 |.beg n=>if n=c then []else l
 |_=>l
theorem yv:jt (pK S n x f) c=if n=c then x.2 else jt S c:=by
 show((fb c (dE n x S.kept)).map (·.2)).getD []=_;refine YP lK ?_;by_cases e:c=n
 ·exact YP (Z3 e) (YP (Z3 e.symm) U)
 ·exact YP (Z2 e) (YP (Z2 λq=>e q.symm) U)
noncomputable def pq(S:Hst)(c:Nm):Int:=(fb c S.sums).getD 0
noncomputable def pJ(c:Nm)(s:Int):Evt->Int
 |.beg n=>if n=c then 0 else s
 |_=>s
theorem yx:pq (pS S n i) c=if n=c then i else pq S c:=by
 show(fb c (dE n i S.sums)).getD 0=_;refine YP lK ?_;by_cases e:c=n
 ·exact YP (Z3 e) (YP (Z3 e.symm) U)
 ·exact YP (Z2 e) (YP (Z2 λq=>e q.symm) U)
structure Sp(π:PI)(k0:Nm->List Int)(S S':Hst)(es:List Evt):Prop where
 ev:S'.ev=S.ev++es
 qu:S'.qu=S.qu
 ck:S'.clock=S.clock
 lt:S'.letters=S.letters
 kl:S'.kl<=S.kl+es.length
 hr:here S'=es.foldl hr (here S)
 nm:∀e∈es,e.plain π
 kp:∀c,jt S' c=es.foldl (lM c) (k0 c)
 sm:∀c,pq S' c=es.foldl (pJ c) (pq S c)
structure Gd(π:PI)(S:Hst):Prop where
 kw:∀m,eO m S.pres=Z5->π.isW m=Z Z5->eO m S.kept=Z5
 ks:∀m,eO m S.pres=Z5->π.isW m=Z J->eO m S.sums=Z5
 lp:S.pres.length<=S.ev.length
 lk:S.kept.length<=S.ev.length
 ls:S.sums.length<=S.ev.length
 ll:S.kl<=S.ev.length
 ko:∀m,eO m S.kept=Z5->π.isW m=Z Z5
 so:∀m,eO m S.sums=Z5->π.isW m=Z J
theorem LZ(g:Gd π S)(hw:π.isW n=Z Z5):pq S c=pJ c (pq S c) (.beg n):=by
 show _=if n=c then 0 else pq S c;by_cases e:n=c
 ·refine YP (Z3 e) ?_;unfold pq;refine eG (o:=fb c S.sums) (λh=>YP h U) λx h=>?_;exact Z1 (ai ((e▸g.so c (fk.mpr ⟨x,cM h⟩)).symm.trans hw)) ae
 ·exact YP (Z2 e) U
theorem M3(g:Gd π S)(hw:π.isW n=Z J):jt S c=lM c (jt S c) (.beg n):=by
 show _=if n=c then []else jt S c;by_cases e:n=c
 ·refine YP (Z3 e) ?_;unfold jt;refine eG (o:=fb c S.kept) (λh=>YP h U) λx h=>?_;exact Z1 (ai (hw.symm.trans (e▸g.ko c (fk.mpr ⟨x,cM h⟩)))) ae
 ·exact YP (Z2 e) U
theorem Sp.refl(S:Hst):Sp π (jt S) S S []:=⟨(aJ _).symm,rfl,rfl,rfl,aM _,rfl,qY,λ_=>rfl,λ_=>rfl⟩
theorem Sp.trans(a:Sp π k0 S S₁ es)(b:Sp π (jt S₁) S₁ S₂ es'):Sp π k0 S S₂ (es++es'):=
 ⟨by rw [b.ev,a.ev,au],b.qu.trans a.qu,b.ck.trans a.ck,b.lt.trans a.lt,by rw [af,<-bL];exact aa b.kl (aK a.kl _),by rw [b.hr,a.hr,bN],bR a.nm b.nm,λc=>by rw [b.kp c,a.kp c,bN],λc=>by rw [b.sm c,a.sm c,bN]⟩
theorem j9{α:Type}{x:α}{l:AL α}:(dE n x l).length<=l.length+1:=by
 refine YP (YO (aj (f:=(·.1)))) (YP lW ?_);by_cases h:eO n l=Z5
 ·rw [Z3 h,aj];exact bh _
 ·rw [Z2 h,af,aj];exact aM _
theorem j8{α:Type}{l:List α}{a:α}:l.length+1<=(l++[a]).length:=ak (af (bs:=[a])).symm
theorem p0{α:Type}{x:α}{l:AL α}(h:eO m l=Z5):eO m (dE n x l)=Z5:=by rw [lG,h,kP]
theorem um{α:Type}{x:α}{l:AL α}:eO n (dE n x l)=Z5:=by exact YP lG (YP (decide_eq_true U) U)
theorem i7{α:Type}{x:α}{l:AL α}(h:eO m (dE n x l)=Z5):m=n\/eO m l=Z5:=by rw [lG,ku,decide_eq_true_iff]at h;exact h
theorem O7(g:Gd π S)(hw:π.isW n=Z J):Gd π (pS (pE (pP S n) (.beg n)) n 0) where
 kw:=λm hm hW=>(i7 hm).elim (λe=>Z1 (ai (hw.symm.trans ((Z4 π.isW e).symm.trans hW))) ae) λh=>g.kw m h hW
 ks:=λm hm hW=>(i7 hm).elim (λe=>e▸um) λh=>p0 (g.ks m h hW)
 lp:=aa j9 (aa (aA g.lp) j8)
 lk:=aa g.lk gW
 ls:=aa j9 (aa (aA g.ls) j8)
 ll:=aa g.ll gW
 ko:=g.ko
 so:=λm hm=>(i7 hm).elim (λe=>e▸hw) (g.so m)
theorem QI(g:Gd π S)(hw:π.isW n=Z Z5):Gd π (pK (pE (pP S n) (.beg n)) n r f) where
 kw:=λm hm hW=>(i7 hm).elim (λe=>e▸um) λh=>p0 (g.kw m h hW)
 ks:=λm hm hW=>(i7 hm).elim (λe=>Z1 (ai (hW.symm.trans ((Z4 π.isW e).trans hw))) ae) λh=>g.ks m h hW
 lp:=aa j9 (aa (aA g.lp) j8)
 lk:=aa j9 (aa (aA g.lk) j8)
 ls:=aa g.ls gW
 ll:=aa g.ll gW
 ko:=λm hm=>(i7 hm).elim (λe=>e▸hw) (g.ko m)
 so:=g.so
def BI(π:PI)(σ:Ad)(S:Hst)(v:V)(k:Nat)(ps:List V)(total:List Evt)(its:List V)(ρ:Fm)(H:AH):Prop:=
 ∃o S' es,ρ=[Z (.ref σ.i),Z v,o]/\Hs σ S' H/\Gd π S'/\Sp π (jt S) S S' es/\es++(its.flatMap (nms k)).map .beg=total/\∀p∈its,p∈ps
theorem Pa(sp:Sp π k0 S S' es)(he:es++es'=total)(hb:S.ev.length+total.length<=b):S'.ev.length+es'.length<=b:=by rw [sp.ev,af,bL,<-af,he];exact hb
theorem Nq(h:m+(((x::xs).flatMap (nms k)).map Evt.beg).length<=b):m+(nms k x).length<=b:=by rw [aj,cI,af]at h;exact aa (aH (ax _ _) _) h
theorem yT(hP:Pt π k v):∀{n:Nat} {S:Hst} {H:AH} {Q:QE} {X:XE},Hs σ S H->Gd π S->S.ev.length+(nms k v).length<=900000->(∀S' H',Hs σ S' H'->Gd π S'->Sp π (jt S) S S' ((nms k v).map .beg)->Q .none H')->aO PL (n+k) 53 [.ref σ.i,v] H Q X:=by
 induction hP with
 |@wk k nm md h1 h2 h3 h4=>intro n S H Q X h g hb q;have hs:S.ev.length<=aB:=aa (ax _ _) (aa hb (by decide));exact cf U U (xT h U (av U) (aa g.lp hs) λH1 h1=>oW h1 U (.beg nm) (av U) hs λH2 h2=>bT (av U) (y0 h2 U (av U) (av U) (aa g.ls hs) λH3 h5=>q _ _ h5 (O7 g h3) ⟨rfl,rfl,rfl,rfl,bh _,funext λm=>lG,c8 (Z4 c5 h3),λc=>show jt S c=lM c (jt S c) (.beg nm)from M3 g h3,λ_=>yx⟩))
 |@wd k nm rl m s ps h1 h2 h3 h4 h5 h6 h7 _ ih=>
  intro n S H Q X h g hb q;have hs:S.ev.length<=aB:=aa (ax _ _) (aa hb (by decide));refine cf U U (xT h U (av U) (aa g.lp hs) λH1 h1=>oW h1 U (.beg nm) (av U) hs λH2 h2=>cj (av U) (Fy h2 U (λ_=>av U) (aa g.lk hs) λr f H3 h8=>?_));refine sN (BI π σ S (mm nm rl m s ps) k ps ((nms (k+1) (mm nm rl m s ps)).map .beg)) (av U) (λ_ _ _ _=>rfl) (aa h5.2 (by decide)) (fM Z6 _ [.beg nm] U h8 (QI g h6) ⟨rfl,rfl,rfl,rfl,bh _,funext λm=>lG,c8 (Z4 c5 h6),λ_=>yv,λc=>show pq S c=pJ c (pq S c) (.beg nm)from LZ g h6⟩ U (λ_ h=>h))
   (λx xs ρ' H' hI K' hK=>hU hI λo S' es e hS gS sp he hp=>?_) λρ' H' hI=>hU hI λo S' es _ hS gS sp he _=>q _ _ hS gS (he▸(aJ es).symm▸sp)
  exact YP e (fi hS U U (ah U) (ih x (hp x (.head _)) hS gS (Nq (Pa sp he ((aj _).symm▸hb))) λS'' H'' h' g' sp'=>hK _ _ (fM _ S'' _ U h' g' (sp.trans sp') (by rw [<-he,au,<-aN];rfl) (λp hp'=>hp p (.tail _ hp')))))
theorem Do{α0 α1 α2 α3:Type}{A0 A1 A2 A3 A4 A5 A6:α0->α1->α2->α3->Prop}{G:Prop}(h:∃a0 a1 a2 a3,A0 a0 a1 a2 a3/\A1 a0 a1 a2 a3/\A2 a0 a1 a2 a3/\A3 a0 a1 a2 a3/\A4 a0 a1 a2 a3/\A5 a0 a1 a2 a3/\A6 a0 a1 a2 a3)(k:∀a0 a1 a2 a3,A0 a0 a1 a2 a3->A1 a0 a1 a2 a3->A2 a0 a1 a2 a3->A3 a0 a1 a2 a3->A4 a0 a1 a2 a3->A5 a0 a1 a2 a3->A6 a0 a1 a2 a3->G):G:=h.elim λa0 h=>h.elim λa1 h=>h.elim λa2 h=>h.elim λa3 h=>k a0 a1 a2 a3 h.1 h.2.1 h.2.2.1 h.2.2.2.1 h.2.2.2.2.1 h.2.2.2.2.2.1 h.2.2.2.2.2.2
def Iw(π:PI)(x:Nm)(h:Nm->Bool):Prop:=∀c m,π.ch c=Z m->m≠x->h c=Z5->h m=Z5
noncomputable def vr(ns:List Nm)(h:Nm->Bool):Nm->Bool:=λm=>!ns.contains m&&h m
theorem jD:vr ns h m=Z5↔m∉ns/\h m=Z5:=by show(!ns.contains m&&h m)=Z5↔_;rw [dP,cH,<-Bool.not_eq_true,bn]
theorem yb:vr b (vr a h)=vr (a++b) h:=funext λm=>by refine(?_:(!b.contains m&&(!a.contains m&&h m))=(!(a++b).contains m&&h m));rw [List.contains_append];cases a.contains m<;>cases b.contains m<;>rfl
theorem Ga(q:∀m∈ns,h m=J):vr ns h=h:=funext λm=>by rw [cD,jD];exact⟨λq=>q.2,λr=>⟨λhm=>ae ((q m hm).symm.trans r),r⟩⟩
theorem zn(p:a.Perm b):vr a h=vr b h:=funext λm=>by refine(?_:(!a.contains m&&h m)=(!b.contains m&&h m));rw [show a.contains m=b.contains m from by rw [cD,bn,bn];exact p.mem_iff]
theorem yM(hP:Pt π k v):aq v∈nms k v:=by
 induction hP with
 |wk=>exact .head _
 |wd=>exact .head _
theorem GM(hP:Pt π k v):∀{m c:Nm},m∈nms k v->π.ch c=Z m->c∈nms k v:=by
 induction hP with
 |wk _ _ _ h4=>exact λhm hc=>Z1 (in1 hm▸hc) (h4 _)
 |@wd k nm _ _ _ ps _ _ _ _ _ _ h7 h8 ih=>exact λ{m c} hm hc=>.tail _ (eV hm (λe:m=nm=>ao ((h7 c).mp (e▸hc)) λp hp q=>b0.mpr (aG p hp (q▸yM (h8 p hp)))) λhm=>ao (kT hm) λp hp hm=>b0.mpr (aG p hp (ih p hp hm hc)))
theorem CC(hP:Pt π k v)(up:Iw π x h):x∉nms k v->h (aq v)=J->∀m∈nms k v,h m=J:=by
 induction hP with
 |wk=>exact λ_ h0=>c8 h0
 |@wd k nm _ _ _ ps _ _ _ _ _ _ h7 h8 ih=>intro hx h0;refine eD h0 λm hm=>ao (kT hm) λp hp hm=>ih p hp (λq=>hx (.tail _ (b0.mpr (aG p hp q)))) (cr.mpr λq=>?_) m hm;exact ae (h0.symm.trans (up _ _ ((h7 _).mpr (aG p hp U)) (λe=>hx (e▸.head _)) q))
theorem I7(hP:Pt π k v)(up:Iw π x h):Iw π x (vr (nms k v) h):=λc m hc hx hh=>jD.mpr ⟨λhm=>(jD.mp hh).1 (GM hP hm hc),up c m hc hx (jD.mp hh).2⟩
theorem Ax{α:Type}{l:AL α}:(mr n l).length<=l.length:=by exact YP (YO (aj (f:=(·.1)))) (YP oF (YP (YO (aj (f:=(·.1)) (as:=l))) List.length_erase_le))
noncomputable def eE(h:Nm->Bool)(ns:List Nm):List Evt:=(ns.reverse.filter h).map .end_
theorem wG:eE h (a++b)=eE h b++eE h a:=by unfold eE;rw [KV,fH,aN]
theorem pV:(eE h a).length<=a.length:=by unfold eE;rw [aj];exact aa (dH _ _) (ak cC)
theorem Dx(q:∀m∈a,h m=J):eE h a=[]:=by unfold eE;rw [og.mpr λm hm=>by rw [q m (fF.mp hm)];exact ae];rfl
theorem Bc(q:∀m∈a,h' m=h m):eE h' a=eE h a:=by exact Z4 (m9 Evt.end_) (tR λm hm=>q m (fF.mp hm))
theorem Nv:(∀c l,(eE h a).foldl (lM c) l=l)/\∀c s,(eE h a).foldl (pJ c) s=s:=by
 unfold eE
 induction a.reverse.filter h with
 |nil=>exact⟨λ_ _=>rfl,λ_ _=>rfl⟩
 |cons x l ih=>exact ih
def HR(π:PI)(σ:Ad)(k:Nat)(v:V):Prop:=∀{n:Nat} {S:Hst} {H:AH} {Q:QE} {X:XE} (x:Nm),x∉nms k v->Hs σ S H->Gd π S->Iw π x (here S)->here S (aq v)=Z5->S.ev.length+(nms k v).length<=900000->
 (∀S' H',Hs σ S' H'->Gd π S'->Sp π (jt S) S S' (eE (here S) (nms k v))->here S'=vr (nms k v) (here S)->Q .none H')->aO PL (n+2*k) 55 [.ref σ.i,v] H Q X
theorem Co(hP:Pt π k v):bj P J .i [v,.int 1] H=Z (.str (aq v),H):=by
 induction hP with
 |wk=>exact U
 |wd=>exact U
theorem mI(hP:Pt π k v)(h:ρ[i]? =Z (Z v)):Ev P C ρ H X (.p J .i [.v i,.c (.int 1)]) (.str (aq v)):=ay (ah h) am (Co hP)
theorem vX(h:H[a]? =Z (.dict ks vs)):bj P J (.cop .in_) [.str n,.ref a] H=Z (.bool (ks.contains n),H):=by show((N6 H (.str n) (.ref a) (H[a]?.bind O.lst))).map _=_;refine YP h ?_;show((H[a]?.bind O.dct).bind _).map _=_;exact YP h U
theorem tA(hs:Hs σ S H)(h0:ρ[0]? =Z (Z (.ref σ.i)))(he:Ev P C ρ H X e (.str n)):Ev P C ρ H X (.p J (.cop .in_) [e,sS ['p','r','e','s','e','n','t']]) (.bool (here S n)):=ay he (dW hs h0 U) (vX (hs.get 5 rfl))
def EI6(π:PI)(σ:Ad)(S:Hst)(v:V)(k:Nat)(x:Nm)(ps:List V)(its:List V)(ρ:Fm)(H:AH):Prop:=
 ∃o S' dn,ρ=[Z (.ref σ.i),Z v,o]/\(Hs σ S' H/\Gd π S')/\Sp π (jt S) S S' (eE (here S) (dn.reverse.flatMap (nms k)))/\ps=dn++its/\here S'=vr (dn.flatMap (nms k)) (here S)/\Iw π x (here S')
def EV(π:PI)(σ:Ad)(k:Nat)(v:V):Prop:=∀{n:Nat} {S:Hst} {H:AH} {Q:QE} {X:XE} (x:Nm),x∉(kids v).flatMap (nms k)->((kids v).flatMap (nms k)).Nodup->Hs σ S H->Gd π S->Iw π x (here S)->S.ev.length+((kids v).flatMap (nms k)).length<=900000->
 (∀S' H',Hs σ S' H'->Gd π S'->Sp π (jt S) S S' (eE (here S) ((kids v).flatMap (nms k)))->here S'=vr ((kids v).flatMap (nms k)) (here S)->Iw π x (here S')->Q .none H')->aO PL (n+2*k+1) 54 [.ref σ.i,v] H Q X
theorem Bg:EV π σ k (vG nm md):=λ{_ S H _ _} _ _ _ h g up _ q=>cf U U (cj (av U) (q S H h g (Sp.refl S) U up))
theorem CD(h5:ps.length<=8)(h8:∀p∈ps,Pt π k p)(ih:∀p∈ps,HR π σ k p):EV π σ k (mm nm rl m s ps):=λ{n S H Q X} x hx hnd h g up hb q=>by
 have pm:(ps.reverse.flatMap (nms k)).Perm (ps.flatMap (nms k)):=(ml ps).flatMap_right _;have hnd:=pm.nodup_iff.mpr hnd;refine cf U U (bT (av U) ?_);refine sN (EI6 π σ S (mm nm rl m s ps) k x ps.reverse) (av U) (λ_ _ _ _=>rfl) (aa (ak cC) (aa h5 (by decide))) (fM Z6 S [] U ⟨h,g⟩ (Sp.refl S) U U up)
  (λp xs ρ' H' hI K' hK=>hU hI λo S' dn e hS sp hd hh hu=>?_) λρ' H' hI=>hU hI λo S' dn _ hS sp hd hh hu=>?_
 ·refine YP e ?_;have hm:=fF.mp (hd▸aC dn (.head _));haveI hpx:=λq=>hx (b0.mpr (aG p hm q));have ed:(dn++[p]).flatMap (nms k)=dn.flatMap (nms k)++nms k p:=by rw [bz,cI,jx,aJ]
  have er:(dn++[p]).reverse.flatMap (nms k)=nms k p++dn.reverse.flatMap (nms k):=YP KV cI;have ec:=hd.trans (au dn [p] xs).symm;haveI ln:(eE (here S) (dn.reverse.flatMap (nms k))).length+(nms k p).length<=(ps.flatMap (nms k)).length:=by exact YP (YO (pm.length_eq)) (YP ec (YP bz (YP ed (YP af (YP af (aa (aK (aa pV (ak ((ml dn).flatMap_right _).length_eq)) _) (ax _ _)))))))
  refine bS (tA hS.1 rfl (mI (h8 p hm) U)) (λhp=>?_) λhp=>?_
  ·refine fi hS.1 rfl U (ah U) (ih p hm x hpx hS.1 hS.2 hu hp ?_ λS'' H'' hS' gS' sp' hh'=>hK _ _ (fM _ S'' (dn++[p]) U ⟨hS',gS'⟩ ?_ ec ?_ (hh'▸I7 (h8 p hm) hu)))
   ·rw [sp.ev,af,bL];exact aa (aH ln _) hb
   ·haveI e:eE (here S') (nms k p)=eE (here S) (nms k p):=Bc λm hm=>by refine YP hh (cD.mpr ⟨λz=>(jD.mp z).2,λz=>jD.mpr ⟨λy=>?_,z⟩⟩);rw [ec,bz,ed]at hnd;exact(bv.mp (bv.mp hnd).1).2.2 m y m hm U
    exact YP er (YP wG (YP (YO e) (sp.trans sp')))
   ·exact YP hh' (YP hh (YP yb (YP ed U)))
  ·haveI off:=CC (h8 p hm) hu hpx hp;refine hK _ _ (fM _ S' (dn++[p]) U hS ?_ ec ?_ hu)
   ·haveI e:eE (here S) (nms k p)=[]:=Dx λm hm=>by have y:=off m hm;rw [hh]at y;refine cr.mpr λz=>ae (y.symm.trans (jD.mpr ⟨λw=>?_,z⟩));rw [ec,bz,ed]at hnd;exact(bv.mp (bv.mp hnd).1).2.2 m w m hm U
    rw [er,wG,e,aJ];exact sp
   ·exact YP ed (YP (YO yb) (YP (YO hh) (YP (Ga off) U)))
 ·haveI e:=((aJ dn).symm.trans hd.symm);clear hd;subst e;rw [List.reverse_reverse]at sp;exact q S' H' hS.1 hS.2 sp (hh.trans (zn pm)) hu
theorem wC(g:Gd π S):Gd π (pE (pD S n) t) where
 kw:=λm hm=>g.kw m (fk.mpr ((fk.mp hm).imp λ_ h=>uO h))
 ks:=λm hm=>g.ks m (fk.mpr ((fk.mp hm).imp λ_ h=>uO h))
 lp:=aa Ax (aa g.lp gW)
 lk:=aa g.lk gW
 ls:=aa g.ls gW
 ll:=aa g.ll gW
 ko:=g.ko
 so:=g.so
theorem yI{a b:Nm}:(a==b)=decide (a=b):=by rw [cD,beq_iff_eq,decide_eq_true_iff]
theorem gZ:[a,b].length<=aB:=show 2<=aB by decide
theorem GJ(hP:Pt π k v):(π.isW (aq v)).isSome=Z5:=by
 induction hP with
 |wk _ _ h=>exact Z4 c5 h
 |wd _ _ _ _ _ h=>exact Z4 c5 h
theorem wo(hn:(nms (k+1) v).Nodup)(hp:p∈kids v):(nms k p).Nodup:=
 (kQ (bx hp)).nodup (dS▸(kC hn).2)
theorem ug{k:Nat}(hP:Pt π (k+1) v)(hn:(nms (k+1) v).Nodup)(ep:EV π σ k v):HR π σ (k+1) v:=λ{n S H Q X} x hx h g up hh hb q=>by
 have nd:=kC hn;refine cf U U (fi h U U (ah U) (ep x (λq=>hx (.tail _ q)) nd.2 h g up (aa (aH (bh _) _) hb) λS1 H1 hS gS sp hh1 _=>?_));have hs:S1.ev.length<=aB:=by exact YP (sp.ev) (YP af (aa (aH (aa pV (bh _)) _) (aa hb (by decide))))
 haveI e:eE (here S) (nms (k+1) v)=eE (here S) ((kids v).flatMap (nms k))++[.end_ (aq v)]:=by refine(wG (a:=[aq v])).trans (Z4 _ ?_);exact Z4 (m9 Evt.end_) (dt hh)
 refine tj hS U (mI hP U) ((congrFun hh1 _).trans (jD.mpr ⟨nd.1,hh⟩)) (aa gS.lp hs) λH2 hS2=>oW hS2 U (.end_ (aq v)) (ay am (mI hP U) (fB gZ)) hs λH3 hS3=>q _ _ hS3 (wC gS) (e▸sp.trans ⟨rfl,rfl,rfl,rfl,bh _,funext λm=>im hS.pn,c8 (GJ hP),λ_=>rfl,λ_=>rfl⟩) (funext λm=>(im hS.pn).trans ?_);refine YP (show eO m S1.pres=vr ((kids v).flatMap (nms k)) (here S) m from congrFun hh1 m) ?_;show(!decide (m=aq v)&&(!((kids v).flatMap (nms k)).contains m&&here S m))=(!(aq v::(kids v).flatMap (nms k)).contains m&&here S m);rw [iV,Bool.not_or,Bool.and_assoc,yI]
theorem Hu(hP:Pt π k v):(nms k v).Nodup->HR π σ k v:=by
 induction hP with
 |wk h1 h2 h3 h4=>exact λhn=>ug (.wk h1 h2 h3 h4) hn Bg
 |wd h1 h2 h3 h4 h5 h6 h7 h8 ih=>exact λhn=>ug (.wd h1 h2 h3 h4 h5 h6 h7 h8) hn (CD h5.2 h8 λp hp=>ih p hp (wo hn hp))
theorem p7(k:cW P C a ρ H (λu H'=>iT (bj P J p [u] H') Q) X):cW P C (.p J p [a]) ρ H Q X:=k
theorem mB(k:cW P C a ρ H (λu H'=>cW P C b ρ H' (λw H''=>iT (bj P J p [u,w] H'') Q) X) X):cW P C (.p J p [a,b]) ρ H Q X:=k
theorem Hq(ha:Ev P C ρ H X a x)(hb:Ev P C ρ H X b y)(k:cW P C c ρ H (λu H'=>iT (bj P J p [x,y,u] H') Q) X):cW P C (.p J p [a,b,c]) ρ H Q X:=ha _ (hb _ k)
theorem gV(ha:Ev P C ρ H X a x)(k:C f [x] H Q X):cW P C (.call f [a]) ρ H Q X:=ha _ k
theorem dm(ha:Ev P C ρ H X a x)(hb:Ev P C ρ H X b y)(k:C f [x,y] H Q X):cW P C (.call f [a,b]) ρ H Q X:=ha _ (hb _ k)
theorem lO(ha:Ev P C ρ H X a x)(hb:Ev P C ρ H X b y)(hc:Ev P C ρ H X c z)(k:cW P C d ρ H (λu H'=>C f [x,y,z,u] H' Q X) X):cW P C (.call f [a,b,c,d]) ρ H Q X:=ha _ (hb _ (hc _ k))
theorem kj(ha:Ev P C ρ H X a x)(hb:Ev P C ρ H X b y)(hc:Ev P C ρ H X c z)(k:C f [x,y,z] H Q X):cW P C (.call f [a,b,c]) ρ H Q X:=ha _ (hb _ (hc _ k))
section
variable {α:Type}{l:List α}
theorem Ey(hit:Ev P C ρ H X it w)(hs:rE H w=Z (l.map f))(hl:l.length<=aB)(he:∀a∈l,Ev P C (ρ++[Z (f a)]) H X elt (g a))(q:Q (.ref H.length) (H++[.list (l.map g)])):cW P C (.comp Z5 elt it Z6) ρ H Q X:=
 hit _ (bQ (l.map f) hs ((aj f).symm▸hl) (r9 hs (λa ha K hK=>he a ha _ hK) (hE U q)))
end
theorem f8{n r:Nat}{hrs:List Int}{a b:Int}{Q:QE}{X:XE}(h:H[r]? =Z (.list (hrs.map V.int)))(hl:hrs.length<=aB)(q:Q (.lst ((hrs.filter λz=>decide (a-b<z)).map V.int)) H):aO PL (n+1) 8 [.ref r,.int a,.int b] H Q X:=
 cf U U (bg (jU (f:=V.int) (g:=V.int) (p:=λz=>decide (a-b<z)) (ah U) (show H[r]?.bind O.lst=_ by exact YP h U) hl (λ_ _=>av U) λ_ _ _=>ah U) q)
theorem l9{a b:Nat}:jP a b=((aX (b-a)).map (a+·)).map λj:Nat=>V.int j:=by unfold jP;rw [bO,Int.toNat_sub];rfl
noncomputable def rj{α:Type}(rl:Nm)(l:List α)(i:Nat)(x:α):List α:=if rl=['o','n','e']then [x]else if rl=['r','e','s','t']then l.drop i else l
theorem uv:(aX (s-i)).map (i+·)=(aX s).drop i:=by
 refine fX λj=>?_;refine YP aV (YP N0 ?_);by_cases h:j<s-i
 ·exact YP (cT h) (YP (cT (dC i j▸Nat.add_lt_of_lt_sub h)) U)
 ·haveI h:=dR h;rw [fK (by rw [aZ];exact h),fK (by rw [aZ];exact Nat.sub_le_iff_le_add'.mp h)];rfl
theorem f9{Q:QE}{X:XE}(hr:rl∈iC)(hi:i<s)(hs:s<=8)(q:Q (.lst ((rj rl (aX s) i i).map λj:Nat=>V.int j)) H):aO PL (n+1) 9 [.str rl,.int s,.int i] H Q X:=by
 haveI hs':s<=1000:=aa hs (by decide);refine eV hr (λe=>?_) λhr=>eV hr (λe=>?_) λhr=>?_
 ·subst e;exact cf U U (bT (av U) (bg (av U) q))
 ·subst e;refine cf U U (cj (av U) (bT (av U) (bg (bK (ay (ah U) (ah U) (rN (zN (aa (fW hi) hs')) (zN hs'))) (uo (smt hs'))) ?_)));exact YP l9 (YP uv q)
 ·haveI e:=in1 hr;clear hr;subst e;refine cf U U (cj (av U) (cj (av U) (bg (bK (bK (av U) (gc (zN hs'))) (uo (smt (b:=0) hs'))) ?_)));exact YP (show jP 0 s=jP (0:Nat) s from U) (YP l9 (YP uv q))
theorem tI{α:Type}{l:List α}{x:α}(h:l[i]? =Z x):∀y∈rj rl l i x,y∈l:=λy hy=>by
 unfold rj at hy;by_cases e:rl=['o','n','e']
 ·rw [Z3 e]at hy;exact in1 hy▸aI h
 ·rw [Z2 e]at hy;by_cases e:rl=['r','e','s','t']
  ·rw [Z3 e]at hy;exact ig hy
  ·rw [Z2 e]at hy;exact hy
theorem Jn{α:Type}{l:List α}{x:α}(nd:l.Nodup):(rj rl l i x).Nodup:=by
 unfold rj;by_cases e:rl=['o','n','e']
 ·exact YP (Z3 e) (fc.mpr ⟨ba,dA⟩)
 ·refine YP (Z2 e) ?_;by_cases e:rl=['r','e','s','t']
  ·exact YP (Z3 e) (nd.sublist (List.drop_sublist i l))
  ·exact YP (Z2 e) nd
theorem yE{α β:Type}{f:α->β}{l:List α}{x:α}:(rj rl l i x).map f=rj rl (l.map f) i (f x):=by
 unfold rj;by_cases e:rl=['o','n','e']
 ·exact YP (Z3 e) (YP (Z3 e) U)
 ·refine YP (Z2 e) (YP (Z2 e) ?_);by_cases e:rl=['r','e','s','t']
  ·exact YP (Z3 e) (YP (Z3 e) (YP q7 U))
  ·exact YP (Z2 e) (YP (Z2 e) U)
theorem yC{α:Type}{l:List α}{x:α}(h:i<l.length):(rj rl l i x).length<=l.length:=by
 unfold rj;by_cases e:rl=['o','n','e']
 ·exact YP (Z3 e) (ce (aU _) h)
 ·refine YP (Z2 e) ?_;by_cases e:rl=['r','e','s','t']
  ·exact YP (Z3 e) (YP dg (dy _ _))
  ·exact YP (Z2 e) (aM _)
def Up(π:PI)(h:Nm->Bool):Prop:=∀c m,π.ch c=Z m->h c=Z5->h m=Z5
theorem jM(h:H[d]? =Z (.dict ks vs))(e:gx n ks vs=Z x):bj P J .i [.ref d,.str n] H=Z (x,H):=by show((H[d]?.bind O.dct).bind λd=>gx n d.1 d.2).map _=_;refine YP h ?_;show(gx n ks vs).map _=_;exact YP e U
theorem sE{α:Type}{val:α->V}{l:AL α}{x:α}(h:H[d]? =Z (dO val l))(e:fb n l=Z x):bj P J .i [.ref d,.str n] H=Z (val x,H):=jM h (nt.trans (Z4 (bX val) e))
theorem CN{i:Nat}(h:vs[i]? =Z x):bj P J .i [.tup vs,.int i] H=Z (x,H):=by show((vZ vs.length i).bind λj=>vs[j]?).map _=_;haveI e:vZ vs.length i=Z i:=(Z3 (bp i)).trans (Z3 (b9.mpr (cq h)));refine YP e ?_;show(vs[i]?).map _=_;exact YP h U
theorem mY(ho:Ev P C ρ H X a x)(ht:lF H x t=Z5)(hb:Ev P C ρ H X b y)(e:bj P mu p [x,y] H=Z (z,H)):Ev P C ρ H X (.n t mu p a [b]) z:=λ_ q=>ho _ ⟨ht,hb _ (hE e q)⟩
theorem kG(ho:Ev P C ρ H X a x)(ht:lF H x t=Z5)(hb:Ev P C ρ H X b y)(k:iT (bj P mu p [x,y] H) λ_ H'=>bk P C ss ρ H' K R X):bk P C (.e (.n t mu p a [b])::ss) ρ H K R X:=d8 (ho _ ⟨ht,hb _ k⟩)
theorem Av(ha:Ev P C ρ H X a x)(hb:Ev P C ρ H X b y)(hc:Ev P C ρ H X c u)(k:C f [x,y,u] H (λv H'=>i<ρ.length/\bk P C ss (ρ.set i (Z v)) H' K R X) X):bk P C (.a i (.call f [a,b,c])::ss) ρ H K R X:=eR (ha _ (hb _ (hc _ k)))
theorem sw{α:Type}{x:α}{l:AL α}{p:Nm×α}(nd:(l.map (·.1)).Nodup)(h:p∈dE n x l):p=(n,x)\/p∈l/\p.1≠n:=by
 induction l with
 |nil=>exact .inl (in1 h)
 |cons q l ih=>
  haveI h:p∈(if n=q.1 then(q.1,x)::l else q::dE n x l):=h;haveI nd:=kC nd;by_cases e:n=q.1
  ·rw [Z3 e]at h;exact eV h (λh=>.inl (e▸h)) λh=>.inr ⟨.tail _ h,λz=>nd.1 (cQ.mpr (aG p h (z.trans e)))⟩
  ·rw [Z2 e]at h;exact eV h (λh=>.inr ⟨h▸.head _,h▸Ne.symm e⟩) λh=>(ih nd.2 h).imp id λh=>⟨.tail _ h.1,h.2⟩
theorem y9{α:Type}{val:α->V}{l:AL α}{x y:α}(h:fb n l=Z x)(e:val x=val y):dO val (dE n y l)=dO val l:=by
 haveI q:(dE n y l).map (·.1)=l.map (·.1)/\((dE n y l).map λp=>val p.2)=l.map λp=>val p.2:=by
  induction l with
  |nil=>exact nomatch h
  |cons q l ih=>
   haveI h:(if n=q.1 then Z q.2 else fb n l)=Z x:=h;refine(?_:((if n=q.1 then(q.1,y)::l else q::dE n y l).map (·.1))=_/\((if n=q.1 then(q.1,y)::l else q::dE n y l).map λp=>val p.2)=_);by_cases z:n=q.1
   ·rw [Z3 z]at h ⊢;exact⟨rfl,Z4 (·::_) (e.symm.trans (Z4 val (ai h).symm))⟩
   ·rw [Z2 z]at h ⊢;exact⟨Z4 (q.1::·) (ih h).1,Z4 (val q.2::·) (ih h).2⟩
 unfold dO;exact YP (q.1) (YP (q.2) U)
noncomputable def pA(S:Hst)(n:Nm)(r:Nat)(q:List Int):Hst:={S with kept:=dE n (r,q) S.kept,kl:=S.kl+1}
theorem Ji:jt (pA S n r q) c=if n=c then q else jt S c:=yv (f:=S.own)
theorem Hs.keptSet(h:Hs σ S H)(e:fb n S.kept=Z (r,q))(hl:q'.length<=S.kl+1):Hs σ (pA S n r q') (H.set r (.list (q'.map V.int))):=by
 haveI hp:=h.kp _ (cM e);have ho:=hp.1;haveI hlt:=(cq hp.2.1);haveI ef:kX σ (pA S n r q')=kX σ S:=by unfold kX;exact YP (show(pA S n r q').kept=dE n (r,q') S.kept from U) (YP (y9 (y:=(r,q')) e U) U)
 refine⟨ef▸h.nd,ef▸λp hp=>⟨(bt λz=>eU ((h.fix p hp).2.symm.trans (z▸ho))).trans (h.fix p hp).1,(h.fix p hp).2⟩,λp hp=>(sw h.kn hp).elim (λz=>z▸(bu ho (bM hlt) hl)) λz=>haveI y:=h.kp p z.1;(bu y.1 ((bt λw=>z.2 ?_).trans y.2.1) (aa y.2.2 (bh _))),λp hp=>(bu ((h.qp p hp).1) ((bt λz=>?_).trans (h.qp p hp).2.1) ((h.qp p hp).2.2)),h.qn,h.pn,nO h.kn,λb hb=>h.fr b (aa (ak aY.symm) hb)⟩
 ·exact Z4 lc (ai (y.1.symm.trans (w▸ho)))
 ·exact Z1 (Z4 pg (ai ((h.qp p hp).1.symm.trans ((Z4 S.own z).symm.trans ho)))) ae
theorem xe(h:Hs σ S H)(h0:ρ[0]? =Z (Z (.ref σ.i)))(hi:ρ[i]? =Z (Z (.ref r)))(e:fb n S.kept=Z (r,hrs))(hl:S.kl<=aB)(k:∀H',Hs σ (pA S n r (hrs++[S.clock])) H'->bk P C ss ρ H' K R X) :
  bk P C (.e (.n .list J .append (.v i) [sS ['c','l','o','c','k']])::ss) ρ H K R X:=
 haveI q:=(h.kp _ (cM e)).2
 kG (ah hi) (fo q.1) (dW h h0 U) (hE (fL q.1 (aa (ak (aj _)) (aa q.2 hl))) (k _ (aN (l₂:=[S.clock])▸h.keptSet e (aa (ak af) (aA q.2)))))
theorem lQ(h:∀v∈vs,v.data=Z5/\v.depth<=d):V.datas vs=Z5/\V.depths vs<=d:=by
 induction vs with
 |nil=>exact⟨rfl,aU _⟩
 |cons w vs ih=>exact⟨cn.mpr ⟨(h w (.head _)).1,(ih λv hv=>h v (.tail _ hv)).1⟩,ii.mpr ⟨(h w (.head _)).2,(ih λv hv=>h v (.tail _ hv)).2⟩⟩
theorem wm(hP:Pt π k v):v.data=Z5/\v.depth<=2*k:=by
 induction hP with
 |@wk k=>exact⟨rfl,aa (by decide:1<=2) (bG 2 (2*k))⟩
 |@wd k _ _ _ _ ps _ _ _ _ _ _ _ _ ih=>
  haveI q:=lQ ih;refine⟨?_,?_⟩
  ·show (V.datas ps&&Z5)=Z5;exact YP (q.1) U
  ·haveI z:∀{a:Nat},a<=2*k+1->max 0 a<=2*k+1:=λh=>ii.mpr ⟨aU _,h⟩;exact aA (z (z (z (z (z (ii.mpr ⟨aA q.2,aU _⟩))))))
theorem NM(ha:Pt π k a)(hb:Pt π k' b)(h:fZ a b=Z5):aq a=aq b:=by
 induction ha with
 |@wk _ n1=>
  induction hb with
  |@wk _ n2=>haveI h:(wk==wk&&(n1==n2&&_))=Z5:=h;exact beq_iff_eq.mp (cP (cP h).2).1
  |wd=>exact Z1 (show J=Z5 from h) ae
 |@wd _ n1=>
  induction hb with
  |wk=>exact Z1 (show J=Z5 from h) ae
  |@wd _ n2=>haveI h:(wd==wd&&(n1==n2&&_))=Z5:=h;exact beq_iff_eq.mp (cP (cP h).2).1
theorem Ir(hk:k<=7)(h8:∀p∈ps,Pt π k p)(hv:v∈ps):∃(i:Nat) (q:V),ps[i]? =Z q/\aq q=aq v/\bj P J .index [.tup ps,v] H=Z (.int i,H):=by
 have hk:2*k<=50:=aa (bH 2 hk) (by decide);have hx:∃x,x∈ps/\fZ x v=Z5:=(aG v hv (gT v (wm (h8 v hv)).1));haveI hd:=lQ λp hp=>wm (h8 p hp);haveI e1:rd H v=Z v:=by have q:=wm (h8 v hv);have:(v.data&&decide (v.depth<=50))=Z5:=YP (q.1) (YP (decide_eq_true (aa q.2 hk)) U);cases v<;>first|exact Z1 q.1 ae|exact Z3 this|rfl
 haveI hl:=List.findIdx_lt_length_of_exists hx;haveI hq:=KA (w:=hl);refine(eK (ps.findIdx λy=>fZ y v) _ (az hl) (NM (h8 _ (jw hl)) (h8 v hv) hq) ?_);show((rd H v).bind λx'=>if re ps=Z5 then(ps.findIdx? λy=>fZ y x').map λ(k:Nat)=>(V.int k,H)else Z6)=_;refine YP e1 ?_;show(if re ps=Z5 then(ps.findIdx? λy=>fZ y v).map λ(k:Nat)=>(V.int k,H)else Z6)=_;refine YP (Z3 (lj hd.1 (aa hd.2 hk))) (YP (List.findIdx?_eq_some_of_exists hx) ?_);rfl
theorem tf{α:Type}{f:α->V}{st:α->Fm->Fm}(ht:∀x ρ,gz ρ tgt (f x)=Z (st x ρ)){l:List α}(Inv:List α->Fm->AH->Prop)
  (hs:∀its ρ' H',Inv its ρ' H'->j2 rev H' v=Z (l.map f))(hl:l.length<=aB)(h0:Inv l ρ H)
  (step:∀x xs ρ' H',Inv (x::xs) ρ' H'->∀K':KS,(∀ρ'' H'',Inv xs ρ'' H''->K' ρ'' H'')->bk P C body (st x ρ') H' K' R (λ_ _=>False))
  (fin:∀ρ' H',Inv [] ρ' H'->bk P C ss ρ' H' K R X):∃items,j2 rev H v=Z items/\items.length<=aB/\
   ri (λx ρ' H' K'=>match gz ρ' tgt x with|some ρ''=>bk P C body ρ'' H' K' R (λ_ _=>False)|none=>False) (λH'=>j2 rev H' v=Z items) items ρ H (λρ' H'=>bk P C ss ρ' H' K R X):=by
 refine(bQ (l.map f) (hs _ _ _ h0) ((aj f).symm▸hl) (un (λits ρ H=>∃js,js.map f=its/\Inv js ρ H) (λx xs ρ' H' q=>ao q λjs e q=>⟨hs _ _ _ q,λK' hK=>?_⟩) (λρ' H' q=>ao q λjs e q=>⟨hs _ _ _ q,fin _ _ (qV.mp e▸q)⟩) (aG l U h0)))
 induction js with
 |nil=>exact Z1 e.symm (jy _ _)
 |cons j js=>haveI e:=iG e;rw [<-e.1,ht];exact step j js ρ' H' q K' λρ'' H'' q=>hK _ _ (aG js e.2 q)
theorem yW{α:Type}{f:α->V}{st:α->Fm->Fm}(ht:∀x ρ,gz ρ tgt (f x)=Z (st x ρ)){l:List α}(Inv:List α->Fm->AH->Prop)(h:Ev P C ρ H X e v)
  (hs:∀its ρ' H',Inv its ρ' H'->j2 rev H' v=Z (l.map f))(hl:l.length<=aB)(h0:Inv l ρ H)
  (step:∀x xs ρ' H',Inv (x::xs) ρ' H'->∀K':KS,(∀ρ'' H'',Inv xs ρ'' H''->K' ρ'' H'')->bk P C body (st x ρ') H' K' R (λ_ _=>False))
  (fin:∀ρ' H',Inv [] ρ' H'->bk P C ss ρ' H' K R X):bk P C (.f rev tgt e body::ss) ρ H K R X:=sK (h _ (tf ht Inv hs hl h0 step fin))
theorem fV{α:Type}{f:α->V}{l:List α}(Inv:List α->Fm->AH->Prop)(h:Ev P C ρ H X e v)
  (hs:∀its ρ' H',Inv its ρ' H'->j2 rev H' v=Z (l.map f))(hl:l.length<=aB)(h0:Inv l ρ H)
  (step:∀x xs ρ' H',Inv (x::xs) ρ' H'->∀K':KS,(∀ρ'' H'',Inv xs ρ'' H''->K' ρ'' H'')->bk P C body (ρ'.set i (Z (f x))) H' K' R (λ_ _=>False))
  (fin:∀ρ' H',Inv [] ρ' H'->bk P C ss ρ' H' K R X):bk P C (.f rev (.inl i) e body::ss) ρ H K R X:=yW (st:=λx ρ=>ρ.set i (Z (f x))) (λ_ _=>rfl) Inv h hs hl h0 step fin
theorem xm(h:m<=N)(k:aO PL (N-m+m) f args H Q X):aO PL N f args H Q X:=by rw [gL h]at k;exact k
theorem ym(hP:Pt π k v)(up:Up π h):Up π (vr (nms k v) h):=λc m hc hh=>jD.mpr ⟨λhm=>(jD.mp hh).1 (GM hP hm hc),up c m hc (jD.mp hh).2⟩
theorem CT:vr ns (λm=>!decide (m=n)&&h m)=vr (n::ns) h:=funext λm=>by refine(?_:(!ns.contains m&&(!decide (m=n)&&h m))=(!(n::ns).contains m&&h m));rw [iV,Bool.not_or,<-yI];cases ns.contains m<;>cases m==n<;>rfl
theorem nV(hP:Pt π k v):nms k v=aq v::(kids v).flatMap (nms (k-1)):=by
 induction hP with
 |wk=>exact U
 |wd=>exact U
theorem JK(hP:Pt π k v):(nms k v).Nodup->EV π σ (k-1) v:=by
 induction hP with
 |wk=>exact λ_=>Bg
 |wd h1 h2 h3 h4 h5 h6 h7 h8=>exact λhn=>CD h5.2 h8 λp hp=>Hu (h8 p hp) (wo hn hp)
theorem Md(hP:Pt π k v):∀{c m:Nm},c∈nms k v->π.ch c=Z m->m∈nms k v\/c=aq v:=by
 induction hP with
 |wk=>exact λhc _=>.inr (in1 hc)
 |@wd k nm _ _ _ ps _ _ _ _ _ _ h7 _ ih=>exact λ{c m} hc hm=>eV hc .inr λhc=>ao (kT hc) λp hp hc=>.inl ((ih p hp hc hm).elim (λh=>.tail _ (b0.mpr (aG p hp h))) λe=>ai (hm.symm.trans ((h7 c).mpr (aG p hp e.symm)))▸.head _)
theorem xX{ns:List Nm}{m:Nm}:∀{h:Nm->Bool},(ns.map Evt.beg).foldl hr h m=Z5↔m∈ns\/h m=Z5:=by
 induction ns with
 |nil=>exact⟨.inr,λq=>q.elim (λq=>Z1 q ba) id⟩
 |cons a ns ih=>intro h;refine ih.trans ((?_:m∈ns\/(decide (m=a)||h m)=Z5↔_));rw [ku,decide_eq_true_iff,qZ,or_assoc,or_left_comm]
theorem Kh(hP:Pt π k v)(hc:π.ch (aq v)=Z n)(hn:h n=Z5)(up:Up π h):Up π (((nms k v).map Evt.beg).foldl hr h):=λc m e hh=>xX.mpr ((xX.mp hh).elim (λq=>(Md hP q e).elim .inl λz=>.inr (ai (hc.symm.trans (z▸e))▸hn)) λhh=>.inr (up c m e hh))
theorem dj{ps:List V}{a b:Nat}{p q:V}{x:Nm}(nd:(ps.flatMap (nms k)).Nodup)(ha:ps[a]? =Z p)(hb:ps[b]? =Z q)(hn:a≠b)(hx:x∈nms k p):x∉nms k q:=λhq=>by
 have w:=List.pairwise_iff_getElem.mp (oK.mp nd).2;obtain⟨la,ea⟩:=c7.mp ha;obtain⟨lb,eb⟩:=c7.mp hb;rcases Nat.lt_or_gt_of_ne hn with l|l
 ·exact w a b la lb l x (ea▸hx) x (eb▸hq) U
 ·exact w b a lb la l x (eb▸hq) x (ea▸hx) U
theorem yH{G:V->Nat->Prop}(hP:Pt π k w)(hp:p∈kids w)(g:∀k nm rl m s ps,rl∈iC->ps.length<=8->π.isW nm=Z Z5->(∀c,π.ch c=Z nm↔∃p∈ps,aq p=c)->(∀p∈ps,Pt π k p)->p∈ps->G (mm nm rl m s ps) (k+1)):G w k:=by
 induction hP with
 |wk=>exact Z1 hp ba
 |wd _ h2 _ _ h5 h6 h7 h8=>exact g _ _ _ _ _ _ h2 h5.2 h6 h7 h8 hp
noncomputable def QF:List V->Nm
 |_::_::v::_=>v.txt.getD []
 |_=>[]
noncomputable def Nw(v:V):Nm:=QF (v.tpl.getD [])
noncomputable def Fb(v:V):Bool:=Nw v==['n','e','v','e','r']
noncomputable def N7(v:V):Bool:=!(Nw v==['f','a','u','l','t','e','d']||Fb v)
noncomputable def Ln(k:Nat)(vs:List V):Int:=((vs[k]?).bind V.num).getD 0
noncomputable def spV(v:V):Int:=Ln 4 (v.tpl.getD [])
noncomputable def mnV(v:V):Int:=Ln 3 (v.tpl.getD [])
noncomputable def jv:Nat->V->List V
 |0,_=>[]
 |k+1,v=>v::(kids v).flatMap (jv k)
structure mdOk(π:PI)(x:V):Prop where
 nv:π.nv (aq x)=Fb x
 al:π.al (aq x)=N7 x
 sp:π.sp (aq x)=spV x
 mn:π.mn (aq x)=mnV x
 sb:π.sb (aq x)=nms 8 x
 kd:π.kd (aq x)=(kids x).map aq
 ru:π.ru (aq x)=Nw x
theorem Ce(hP:Pt π k v):∀{j:Nat},k<=j->nms j v=nms k v:=by
 induction hP with
 |wk=>intro j hj;induction j with
  |zero=>exact Z1 hj (eP _)
  |succ j=>exact U
 |@wd k nm _ _ _ ps _ _ _ _ _ _ _ _ ih=>intro j hj;induction j with
  |zero=>exact Z1 hj (eP _)
  |succ j=>refine(?_:nm::ps.flatMap (nms j)=nm::ps.flatMap (nms k));exact YP dS (YP dS (Z4 (λl=>nm::tS l) (cR λp hp=>ih p hp (jf hj))))
theorem uI(hP:Pt π k v)(h:ρ[i]? =Z (Z v)):Ev P C ρ H X (.and (.p J (.cop .eq) [.p J .i [.v i,.c (.int 0)],.c (.str wk)]) (.p J (.cop .eq) [.p J .i [.v i,.c (.int 2)],.c (.str ['n','e','v','e','r'])])) (.bool (Fb v)):=by
 induction hP with
 |wk=>exact cg (s:=Z5) (ay (ay (ah h) am U) am U) λ_=>ay (ay (ah h) am U) am (gq ik ik)
 |@wd _ _ r _ _ _ _ h2=>exact cc (cg (t:=J) (ay (ay (ah h) am U) am U) λe=>Z1 e ae) (Z4 V.bool ((by decide:∀r∈iC,J=(r==['n','e','v','e','r'])) r h2))
noncomputable def Fh(t s:Int)(l:List Int):List Int:=l.filter λz=>decide (t-s<z)
noncomputable def G3(k:Nm->List Int)(w:Nm)(x:List Int):Nm->List Int:=λc=>if w=c then x else k c
noncomputable def cF(π:PI)(n:Nm):Bool:=!π.nv n&&(π.ch n).isSome
noncomputable def pre(π:PI)(h:Nm->Bool)(e:Evt):List Evt:=e::eE (hr h e) (π.sb e.nm).tail
noncomputable def fj(π:PI)(h:Nm->Bool):List Nm->List Evt
 |[]=>[]
 |m::ms=>eE h (π.sb m)++fj π ((eE h (π.sb m)).foldl hr h) ms
noncomputable def FV(π:PI)(h:Nm->Bool)(w:Nm)(i:Nat)(n:Nm):List Evt:=
 fj π h ((rj (π.ru w) (π.kd w) i n).filter h).reverse++(((rj (π.ru w) (π.kd w) i n).filter λm=>m==n||(h m&& !π.nv m)).flatMap π.sb).map .beg
inductive Fe(π:PI)(t:Int):Bool->(Nm->Bool)->(Nm->List Int)->Evt->List Evt->(Nm->List Int)->Prop
 |stop {c:Bool} {h:Nm->Bool} {k k':Nm->List Int} {e:Evt} {es:List Evt}:c=J->es=pre π h e->k'=k->Fe π t c h k e es k'
 |here {c:Bool} {h:Nm->Bool} {k k':Nm->List Int} {e:Evt} {es:List Evt} {w:Nm} {i:Nat}:c=Z5->π.ch e.nm=Z w->es=pre π h e++FV π ((pre π h e).foldl hr h) w i e.nm->k'=G3 k w (k w++[t])->((Fh t (π.sp w) (k w++[t])).length:Int)<=π.mn w->(π.kd w)[i]? =Z e.nm->(∀m∈π.kd w,(pre π h e).foldl hr h m=J->∀x∈π.sb m,(pre π h e).foldl hr h x=J)->Fe π t c h k e es k'
 |go {c:Bool} {h:Nm->Bool} {k k':Nm->List Int} {e:Evt} {w:Nm} {es es2:List Evt}:c=Z5->π.ch e.nm=Z w->es=pre π h e++es2->π.mn w<((Fh t (π.sp w) (k w++[t])).length:Int)->Fe π t (cF π w) ((pre π h e).foldl hr h) (G3 k w (k w++[t])) (.fail w) es2 k'->Fe π t c h k e es k'
structure Rd(π:PI)(k:Nat)(v:V):Prop where
 pt:Pt π k v
 nd:(nms k v).Nodup
 k7:k<=7
 len:(nms k v).length<=60
 md:∀x∈jv k v,mdOk π x
def Rt(π:PI)(σ:Ad):Nat->Nat->V->Prop
 |0,k,v=>Rd π k v/\gx (aq v) σ.chk σ.chv=Z .none/\∀m,π.ch (aq v)≠Z m
 |d+1,k,v=>Rd π k v/\∃w,Rt π σ d (k+1) w/\v∈kids w/\gx (aq v) σ.chk σ.chv=Z w
theorem Rt.rd(h:Rt π σ d k v):Rd π k v:=by
 induction d with
 |zero=>exact h.1
 |succ d=>exact h.1
def MT(π:PI)(σ:Ad)(S:Hst)(c:Bool)(m:Nm)(b:Nat)(Q:QE):Prop:=∀S' H' es k',Hs σ S' H'->Gd π S'->Sp π k' S S' es->es.length<=b->Up π (here S')->Fe π S.clock c (here S) (jt S) (.fail m) es k'->Q .none H'
def Qw(π:PI)(σ:Ad)(S:Hst)(m:Nm)(b:Nat)(Q:QE):Prop:=∀S' H' es k',Hs σ S' H'->Gd π S'->Sp π k' (pL S (S.kl+1)) S' es->es.length<=b->Up π (here S')->(∀(e:Evt) (h:Nm->Bool),e.nm=m->(pre π h e).foldl hr h=here S->Fe π S.clock Z5 h (jt S) e (pre π h e++es) k')->Q .none H'
noncomputable def bF(d:Nat):Nat:=60*(d+1)+960
def x9(π:PI)(σ:Ad)(d:Nat):Prop:=∀{k n:Nat} {v:V} {S:Hst} {H:AH} {Q:QE} {X:XE},Rt π σ d k v->Hs σ S H->Gd π S->Up π (here S)->here S (aq v)=Z5->S.ev.length+bF d<=900000->MT π σ S (cF π (aq v)) (aq v) (bF d) Q->aO PL (n+(2*d+20)) 56 [.ref σ.i,v] H Q X
def J8(π:PI)(σ:Ad)(d:Nat):Prop:=∀{k n:Nat} {w p:V} {S:Hst} {H:AH} {Q:QE} {X:XE},Rt π σ d k w->p∈kids w->Hs σ S H->Gd π S->S.kl<S.ev.length->Up π (here S)->here S (aq w)=Z5->S.ev.length+bF d<=900000->Qw π σ S (aq p) (bF d) Q->aO PL (n+(2*d+21)) 57 [.ref σ.i,w,p] H Q X
theorem m0{α:Type}{f:α->V}{l:List α}(h:∀a,zl (f a)):∀v∈l.map f,zl v:=λ_ hv=>ao (cL hv) λa _ e=>e▸h a
theorem CZ{α:Type}{f:α->V}{l:List α}(hx:rd H x=Z x)(h:∀a,zl (f a)):bj P J (.cop .in_) [x,.lst (l.map f)] H=Z (.bool ((l.map f).any λy=>fZ y x),H):=by haveI q:=fS (m0 (l:=l) h);refine(?_:((rd H x).bind λx'=>if re _=Z5 then Z _ else Z6:Option Bool).map _=_);refine YP hx ?_;show(if re _=Z5 then Z _ else Z6).map _=_;refine YP (Z3 (lj q.1 (aa (ak q.2) (by decide)))) ?_;rfl
theorem Ou(h:j<=19):j<=n+(2*d+19):=aa h (aa (bG 19 (2*d)) (bG _ n))
theorem Sp.trans'(a:Sp π k0 S S₁ es)(b:Sp π k' (pL S₁ (S₁.kl+1)) S₂ es')(hk:S₁.kl+1<=S.kl+es.length)(kf:∀c l,es.foldl (lM c) l=l):Sp π k' S S₂ (es++es'):=
 ⟨b.ev.trans ((Z4 (·++es') a.ev).trans (au ..)),b.qu.trans a.qu,b.ck.trans a.ck,b.lt.trans a.lt,by rw [af,<-bL];exact aa b.kl (aK hk _),b.hr.trans (by rw [bN,<-a.hr];rfl),bR a.nm b.nm,λc=>by rw [b.kp,bN,kf],λc=>(b.sm c).trans (by rw [bN,<-a.sm];rfl)⟩
theorem wQ(he:∀c l,lM c l e=l):∀c l,(pre π h e).foldl (lM c) l=l:=λc l=>(Z4 (λx=>List.foldl (lM c) x _) (he c l)).trans (Nv.1 c l)
theorem nG(hP:Pt π k v):v∈jv k v:=by
 induction hP with
 |wk=>exact .head _
 |wd=>exact .head _
theorem nU(h:Hs σ S H)(h0:ρ[0]? =Z (Z (.ref σ.i)))(hn:hk.contains nm=J)(ha:Ev P C ρ H X a x)(hb:Ev P C ρ H X b y)(k:C f [.ref σ.i,x,y] H (λ_ H'=>bk P C ss ρ H' K R X) X):bk P C (.e (.m 0 f nm (.v 0) [a,b])::ss) ρ H K R X:=
 ah (P:=P) (C:=C) (X:=X) h0 (λv H₁=>iI H₁ 0 nm v=Z5/\iE P C [a,b] ρ H₁ (λvs H'=>C f (v::vs) H' (λ_ H'=>bk P C ss ρ H' K R X) X) X) ⟨pZ h hn,ha _ (hb _ k)⟩
theorem rQ(r:Rd π k v)(h:Hs σ S H)(g:Gd π S)(up:Up π (here S))(hh:here S (aq v)=Z5)(hb:S.ev.length+60<=900000)
  (q:MT π σ S (cF π (aq v)) (aq v) 60 Q)
  (kk:∀S' H',Hs σ S' H'->Gd π S'->Sp π (jt S) S S' (pre π (here S) (.fail (aq v)))->S'.kl+1<=S.kl+(pre π (here S) (.fail (aq v))).length->(pre π (here S) (.fail (aq v))).length<=60->Up π (here S')->here S'=vr (nms k v) (here S)->jt S'=jt S->π.nv (aq v)=J->bk PL (aO PL (n+(2*d+19))) [(.ite (.p J (.cop .isnot) [(.p J .i [(sS ['c','h','i','e','f']),(.p J .i [.v 1,.c (.int 1)])]),.c .none]) [(.e (.m 0 57 ['f','o','l','l','o','w'] (.v 0) [(.p J .i [(sS ['c','h','i','e','f']),(.p J .i [.v 1,.c (.int 1)])]),.v 1]))] [])] [Z (.ref σ.i),Z v] H' (λ_ H'=>Q .none H') Q X) :
  aO PL (n+(2*d+20)) 56 [.ref σ.i,v] H Q X:=by
 have hs:S.ev.length<=aB:=aa (ax _ _) (aa hb (by decide));have ec:=nV r.pt;have hl0:=aa (ak (Z4 dQ ec).symm) r.len;haveI nd:=kC (ec▸r.nd);have md:=r.md v (nG r.pt);have esb:π.sb (aq v)=aq v::(kids v).flatMap (nms (k-1)):=YP (md.sb) (YP (Ce r.pt (aa r.k7 (by decide))) (YP ec U));refine cf U U (oW h U (.fail (aq v)) (ay am (mI r.pt U) (fB gZ)) hs λH1 h1=>tj h1 U (mI r.pt U) hh (aa g.lp hs) λH2 h2=>fi h2 U U (ah U) (xm (m:=2*(k-1)+1) (Ou ?_) (JK r.pt r.nd (aq v) nd.1 nd.2 h2 (wC g) ?_ ?_ λS3 H3 h3 g3 sp3 hh3 _=>?_)))
 ·exact aa (aA (bH 2 (aa (dy _ _) r.k7))) (by decide)
 ·intro c m hc hm hhc;haveI q:=(cP ((im h.pn).symm.trans hhc)).2;exact(im h.pn).trans (cn.mpr ⟨by exact YP (decide_eq_false hm) U,up c m hc q⟩)
 ·refine aa (ak ?_) (aa (aH hl0 _) hb);refine(?_:(S.ev++[Evt.fail (aq v)]).length+_=_);rw [af,bL];exact Z4 _ (dC 1 _)
 ·have e2:here (pD (pE S (.fail (aq v))) (aq v))=hr (here S) (.fail (aq v)):=funext λm=>im h.pn;have sp:Sp π (jt S) S S3 (pre π (here S) (.fail (aq v))):=by unfold pre;exact YP (show(Evt.fail (aq v)).nm=aq v from U) (YP esb (YP (YO e2) (Sp.trans (S₁:=pD (pE S (.fail (aq v))) (aq v)) ⟨rfl,rfl,rfl,rfl,bh _,e2,c8 (GJ r.pt),λ_=>rfl,λ_=>rfl⟩ sp3)))
  haveI lp:(pre π (here S) (.fail (aq v))).length<=60:=by unfold pre;exact YP (show(Evt.fail (aq v)).nm=aq v from U) (YP esb (aa (aA pV) hl0))
  have hd:here S3=vr (nms k v) (here S):=YP hh3 (YP ec (YP (YO CT) (Z4 _ e2)));haveI ek:=funext λc=>(sp.kp c).trans (wQ (λ_ _=>rfl) c _);haveI hu:=hd▸ym r.pt up;haveI hk:S3.kl+1<=S.kl+(pre π (here S) (.fail (aq v))).length:=by unfold pre;exact YP (show(Evt.fail (aq v)).nm=aq v from U) (YP esb (YP (YO e2) (aA sp3.kl)))
  refine bS (uI r.pt U) (λt=>bg am (q S3 H3 _ _ h3 g3 sp lp hu ?_)) λt=>kk S3 H3 h3 g3 sp hk lp hu hd ek (md.nv.trans t);rw [show cF π (aq v)=J from by unfold cF;rw [md.nv,t];rfl];exact .stop U U U
theorem qH(h:Hs σ S H)(hP:Pt π k v)(e:gx (aq v) σ.chk σ.chv=Z x):Ev P C [Z (.ref σ.i),Z v] H X (.p J .i [(sS ['c','h','i','e','f']),(.p J .i [.v 1,.c (.int 1)])]) x:=ay (dW h U U) (mI hP U) (jM (h.get 4 rfl) e)
theorem b60(h:a+bF d<=900000):a+60<=900000:=aa (aH (aa (bG 60 (60*d)) (ax _ 960)) a) h
theorem Ah(h:b<=60):b<=bF d:=aa h (aa (bG 60 (60*d)) (ax _ 960))
theorem Bx:x9 π σ 0:=λ{k n v S H Q X} rt h g up hh hb q=>rQ rt.1 h g up hh (b60 hb) (λS' H' es k' a b c e=>q S' H' es k' a b c (Ah e)) λS' H' a b c _ e f _ _ _=>cj (ay (qH a rt.1.pt rt.2.1) am U) (q S' H' _ _ a b c (Ah e) f (by
 rw [show cF π (aq v)=J from by unfold cF;rw [show(π.ch (aq v)).isSome=J from Option.isSome_eq_false_iff.mpr (fP.mpr (Option.eq_none_iff_forall_ne_some.mpr rt.2.2)),jc]]
 exact .stop U U U))
theorem B9(ih:J8 π σ d):x9 π σ (d+1):=λ{k n v S H Q X} rt h g up hh hb q=>cu rt.2 λw rw hv ec=>by
 haveI hb':S.ev.length+60+bF d<=900000:=aa (ak (by unfold bF;simp+arith only)) hb;have hP:=rw.rd.pt;haveI eh:=nV hP;have cw:=yH (G:=λw _=>π.ch (aq v)=Z (aq w)) hP hv λk nm rl m s ps _ _ _ h7 _ hp=>(h7 _).mpr (aG v hp U);refine rQ rt.1 h g up hh (b60 hb) (λS' H' es k' a b c e=>q S' H' es k' a b c (Ah e)) λS' H' a b c hk e f hd ek nv=>bT (ay (qH a rt.1.pt ec) am ?_) ?_
 ·exact yH (G:=λw _=>bj PL J (.cop .isnot) [w,.none] H'=Z (.bool Z5,H')) hP hv λk nm rl m s ps _ _ _ _ _ _=>rfl
 ·haveI hl:S'.ev.length<=S.ev.length+60:=YP (c.ev) (YP af (aH e _));haveI hn:=λz=>(kC (eh▸rw.rd.nd)).1 (b0.mpr (aG v hv z));refine nU a U U (qH a rt.1.pt ec) (ah U) (ih rw hv a b ?_ f ?_ (aa (aK hl _) hb') λS₂ H₂ es₂ k₂ a₂ b₂ c₂ e₂ f₂ ch=>q S₂ H₂ _ k₂ a₂ b₂ (c.trans' c₂ hk (wQ λ_ _=>rfl)) ?_ f₂ ?_)
  ·exact YP (c.ev) (YP af (aa hk (aK g.ll _)))
  ·exact YP hd (jD.mpr ⟨hn,up _ _ cw hh⟩)
  ·rw [af];exact aa (bD e e₂) (ak (by unfold bF;simp+arith only))
  ·haveI ch:=ch (.fail (aq v)) (here S) U c.hr.symm;rw [c.ck,ek]at ch;rw [show cF π (aq v)=Z5 from by unfold cF;rw [nv,cw];rfl];exact ch
noncomputable def pj(ps:List V)(j:Nat):V:=(ps[j]?).getD .none
theorem mF(h:j<ps.length):ps[j]? =Z (pj ps j):=by unfold pj;exact YP (az h) U
theorem qG(h:j<ps.length):pj ps j∈ps:=aI (mF h)
theorem bV(h:Nat.ble (a+1) b=Z5):a<b:=aQ h
noncomputable abbrev ni(j:Nat):V:=.int j
theorem AG:fj π h (a++b)=fj π h a++fj π ((fj π h a).foldl hr h) b:=by
 induction a generalizing h with
 |nil=>rfl
 |cons m a ih=>refine(?_:eE h (π.sb m)++fj π _ (a++b)=(eE h (π.sb m)++fj π _ a)++fj π _ b);rw [ih,au,show fj π h (m::a)=eE h (π.sb m)++fj π ((eE h (π.sb m)).foldl hr h) a from U,bN]
theorem BK:fj π h (a++[m])=fj π h a++eE ((fj π h a).foldl hr h) (π.sb m):=YP AG (Z4 _ (aJ _))
noncomputable abbrev nj(ps:List V)(j:Nat):Nm:=aq (pj ps j)
def FI7(π:PI)(σ:Ad)(S:Hst)(w p kp:V)(i:Nat)(l wr:List Nat)(ps:List V)(nm:Nm)(js:List Nat)(ρ:Fm)(H:AH):Prop:=
 ∃o S' dn,ρ=[Z (.ref σ.i),Z w,Z p,Z kp,Z (.int i),Z (.lst (l.map ni)),o,Z (.lst (wr.map ni)),Z6]/\(Hs σ S' H/\Gd π S'/\Up π (here S'))/\Sp π (jt S) S S' (fj π (here S) (dn.map (nj ps)))/\((fj π (here S) (dn.map (nj ps))).length+60*js.length<=480/\dn++js=wr.reverse)/\(js.Nodup/\∀j∈js,j<ps.length/\here S' (nj ps j)=Z5)/\here S' nm=Z5
def FI8(π:PI)(σ:Ad)(S:Hst)(w p kp:V)(i:Nat)(l wr:List Nat)(ps:List V)(nm:Nm)(E0:List Evt)(cd:Nat->Bool)(js:List Nat)(ρ:Fm)(H:AH):Prop:=
 ∃o o' S' dn,ρ=[Z (.ref σ.i),Z w,Z p,Z kp,Z (.int i),Z (.lst (l.map ni)),o,Z (.lst (wr.map ni)),o']/\(Hs σ S' H/\Gd π S')/\Up π (here S')/\Sp π (jt S) S S' (E0++((dn.filter cd).flatMap λj=>π.sb (nj ps j)).map .beg)/\(E0++((dn.filter cd).flatMap λj=>π.sb (nj ps j)).map .beg).length+60*js.length<=960/\(dn++js=l/\∀j∈js,j<ps.length)/\here S' nm=Z5
theorem Nu(h:a+60*(m+1)<=c)(hb:b<=60):a+b+60*m<=c:=gQ h (gQ hb (by simp+arith only))
theorem Hn(h:a+60*(m+1)<=c)(hb:b+c<=900000):b+a+60<=900000:=gQ h (gQ hb (by simp+arith only))
theorem nh{α:Type}{x:α}{l:AL α}(h:eO n l=Z5):(dE n x l).length=l.length:=by rw [<-aj,lW,Z3 h,aj]
theorem I0{l:List Nat}{j:Nat}:((l.map ni).any λy=>fZ y (ni j))=Z5↔j∈l:=by rw [List.any_map,m8];exact⟨λq=>ao q λx hx e=>dX (beq_iff_eq.mp (e:((x:Int)==j)=Z5))▸hx,λh=>(aG j h (beq_iff_eq.mpr U))⟩
theorem yp:fZ (ni j) (ni i)=Z5↔j=i:=⟨λe=>dX (beq_iff_eq.mp (show((j:Int)==i)=Z5 from e)),λe=>beq_iff_eq.mpr (Z4 Int.ofNat e)⟩
theorem Jg:(aX ps.length).map (nj ps)=ps.map aq:=by
 refine fX λj=>(YP aV (YP aV ?_));by_cases h:j<ps.length
 ·exact YP (cT h) (YP (mF h) U)
 ·haveI h:=dR h;rw [fK h,fK (by rw [aZ];exact h)];rfl
theorem JM{i:Nat}{nm n rl:Nm}{h:Nm->Bool}{wr:List Nat}(hru:π.ru nm=rl)(hkd:π.kd nm=ps.map aq)(hi:i<ps.length)(hn:nj ps i=n)(nd:(ps.map aq).Nodup)(hmd:∀p∈ps,mdOk π p)(hwr:wr=(rj rl (aX ps.length) i i).filter λj=>h (nj ps j)) :
  fj π h (wr.reverse.map (nj ps))++(((rj rl (aX ps.length) i i).filter λj=>fZ (ni j) (ni i)||(((wr.map ni).any λy=>fZ y (ni j))&& !Fb (pj ps j))).flatMap λj=>π.sb (nj ps j)).map .beg=FV π h nm i n:=by
 haveI el:(rj rl (aX ps.length) i i).map (nj ps)=rj (π.ru nm) (π.kd nm) i n:=YP yE (YP Jg (YP hn (YP hru (YP hkd U))));unfold FV;refine YP (YO el) (congr (Z4 HAppend.hAppend ?_) ?_)
 ·exact YP hwr (YP iq (Z4 (λt=>fj π h (List.reverse t)) (kz (f:=nj ps)).symm))
 ·refine Z4 (m9 Evt.beg) ?_;rw [kz,ir];refine Z4 (λt:List Nat=>t.flatMap λj=>π.sb (nj ps j)) (tR λj hj=>?_);haveI hjr:=tI (cT hi) j hj;have hjl:=jK hjr;haveI hm:=qG hjl;refine congr (Z4 or ?_) (congr (Z4 and ?_) ?_)
  ·rw [cD,yp,beq_iff_eq];refine⟨λe=>e▸hn,λe=>?_⟩;haveI g:∀{x},x<ps.length->(ps.map aq)[x]? =Z (nj ps x):=λh=>by rw [aV,mF h];rfl
   exact(gX (aj (f:=aq)▸hjl) nd).mp ((g hjl).trans ((Z4 Z (e.trans hn.symm)).trans (g hi).symm))
  ·rw [cD,I0,hwr,kt];exact⟨λq=>q.2,λq=>⟨hj,q⟩⟩
  ·exact YP ((hmd _ hm).nv) U
theorem BN(ih:x9 π σ d):J8 π σ d:=λ{k n w p S H Q X} rt hp h g hkl up hh hb q=>yH (G:=λw k=>Rt π σ d k w->here S (aq w)=Z5->aO PL (n+(2*d+21)) 57 [.ref σ.i,w,p] H Q X) rt.rd.pt hp (λk nm rl m s ps h2 h5 h6 h7 h8 hp rt hh=>by
 haveI hs:S.ev.length<=aB:=aa (ax _ _) (aa hb (by decide));have hkl':=aa hkl hs;have nd:=kC rt.rd.nd;have k7:=aa (bh _) rt.rd.k7;have hln:∀{v:V},v∈ps->(nms k v).length<=60:=λ{v} hv=>aa (aa (kQ (bx hv)).length_le (aa (ak (Z4 dQ dS.symm)) (bh _))) rt.rd.len;have hx:=λ{v} hv q=>nd.1 (b0.mpr (aG v hv q));have hmd:=λ{v} hv=>rt.rd.md v (.tail _ (b0.mpr (aG v hv (nG (h8 v hv)))));have esb:∀{v:V},v∈ps->π.sb (aq v)=nms k v:=λ{v} hv=>YP ((hmd hv).sb) (YP (Ce (h8 v hv) (aa k7 (by decide))) U);have hb9:=aa (aH (bG _ _) _) hb;refine(j1 (g.kw nm hh h6)).elim λrq er=>?_;obtain⟨r,hrs⟩:=rq;refine cf U U (br (ay (dW h U U) (av U) (sE (h.get 7 rfl) er)) (bV U) (xe h U U er (aa (bh _) hkl') λH1 h1=>?_));have md:=rt.rd.md _ (nG rt.rd.pt);haveI esp:=md.sp;haveI emn:=md.mn;have ek:jt S nm=hrs:=by unfold jt;exact YP er U
 have eA:jt (pA S nm r (hrs++[S.clock]))=G3 (jt S) nm (jt S nm++[S.clock]):=funext λc=>Ji.trans (YP ek U);have cp:=(h7 _).mpr (aG p hp U);have eF:∀{l:List Int},(l.filter λz=>decide (S.clock-s<z))=Fh S.clock (π.sp nm) l:=λ{l}=>YP esp U;have g1:Gd π (pA S nm r (hrs++[S.clock])):=⟨λm a b=>p0 (g.kw m a b),g.ks,g.lp,aa (ak (nh (fk.mpr ⟨_,cM er⟩))) g.lk,g.ls,hkl,λm hm=>(i7 hm).elim (λe=>e▸h6) (g.ko m),g.so⟩;haveI hA:=h1.kp _ (cM (lK.trans (Z3 U)));have qS:∀{S' H' es k'},Hs σ S' H'->Gd π S'->Sp π k' (pA S nm r (hrs++[S.clock])) S' es->es.length<=bF d->Up π (here S')->(∀e h,e.nm=aq p->(pre π h e).foldl hr h=here S->Fe π S.clock Z5 h (jt S) e (pre π h e++es) k')->Q .none H':=λ{S' H' es k'} a b c e f ch=>q S' H' es k' a b ⟨c.ev,c.qu,c.ck,c.lt,c.kl,c.hr,c.nm,c.kp,c.sm⟩ e f ch;refine bS (ay (bK (io (ah U) (dW h1 U U) (av U) λQ q=>f8 hA.2.1 (aa hA.2.2 hkl') q) pG) (av U) oP) (λhc=>fi h1 U U (ah U) (ih rt h1 g1 up hh hb λS' H' es k' a b c e f ch=>bg am (qS a b c e f λt h et eh=>.go U (et.symm▸cp) U ?_ (eh.symm▸eA▸ch)))) λhc=>?_
 ·refine YP emn (YP ek (YP (YO eF) ?_));haveI hc:=of_decide_eq_true hc;rw [aj]at hc;exact hc
 have hle:((Fh S.clock (π.sp nm) (jt S nm++[S.clock])).length:Int)<=π.mn nm:=by refine YP emn (YP ek (YP (YO eF) ?_));haveI hc:=cU.mp (of_decide_eq_false hc);rw [aj]at hc;exact hc
 refine dG (Ir (P:=PL) (H:=H1) k7 h8 hp) λi qi hqi nqi ei=>?_;have hi:=(cq hqi);haveI npi:=(Z4 aq (ai ((mF hi).symm.trans hqi))).trans nqi;refine br (mY (av U) U (av U) ei) (bV U) (Av (av U) (av U) (av U) (f9 h2 hi h5 ⟨bV U,?_⟩));generalize hl:rj rl (aX ps.length) i i=l;have lb:∀j∈l,j<ps.length:=λj hj=>jK (tI (cT hi) j (hl▸hj));have ll:=hl▸aa (yC (YP aZ hi)) (ak aZ);haveI ln:=hl▸Jn Q0;refine br (jU (p:=λj=>here S (nj ps j)) (ah U) U (aa ll (aa h5 (by decide))) (λj hj=>tA (S:=pA S nm r (hrs++[S.clock])) h1 U (ay (ay (av U) (ah U) (CN (mF (lb j hj)))) am (Co (h8 _ (qG (lb j hj)))))) λ_ _ _=>ah U) (bV U) ?_;generalize hwr:(l.filter λj=>here S (nj ps j))=wr;haveI wrm:∀{j},j∈wr↔j∈l/\here S (nj ps j)=Z5:=λ{j}=>hwr▸kt;haveI wl:wr.reverse.length<=8:=YP cC (YP (YO hwr) (aa (dH _ _) (aa ll h5)));haveI ndn:(ps.map aq).Nodup:=by refine List.pairwise_map.mpr (iH (λ{a b} ha hb hab e=>?_) (oK.mp nd.2).2);exact hab (aq a) (yM (h8 a ha)) (aq a) (e▸yM (h8 b hb)) U
 refine fV (FI7 π σ (pA S nm r (hrs++[S.clock])) (mm nm rl m s ps) p (.ref r) i l wr ps nm) (ah U) (λ_ _ _ _=>Z4 Z iq.symm) (aa wl (by decide))
  (fM Z6 _ [] U (bu h1 g1 up) (Sp.refl _) ⟨aa (ak (fw _)) (bH 60 wl),rfl⟩ ⟨(ml _).nodup_iff.mpr (hwr▸List.filter_sublist.nodup ln),λj hj=>haveI hj:=wrm.mp (fF.mp hj);⟨lb j hj.1,hj.2⟩⟩ hh)
  (λj js ρ' H' hI K' hK=>hU hI λo S' dn e hS sp hl hj hn=>?_) λρ' H' hI=>hU hI λo S' dn e hS sp hld _ hn=>?_
 ·refine YP e ?_;have lt:=hj.2 j (.head _);have hm:=qG lt.1;have nj':=kC hj.1;haveI ee:fj π (here (pA S nm r (hrs++[S.clock]))) ((dn++[j]).map (nj ps))=fj π (here (pA S nm r (hrs++[S.clock]))) (dn.map (nj ps))++eE (here S') (nms k (pj ps j)):=by rw [aN];refine BK.trans ?_;rw [<-sp.hr,esb hm]
  refine fi hS.1 rfl U (ay (av U) (ah U) (CN (mF lt.1))) (xm (aa (bH 2 k7) (aa (Ou (by decide)) (bh _))) (Hu (h8 _ hm) (wo rt.rd.nd hm) nm (hx hm) hS.1 hS.2.1 (λc m hc _=>hS.2.2 c m hc) lt.2 ?_ λS'' H'' hS' gS' sp' hh'=>hK _ _ (fM _ S'' (dn++[j]) U (bu hS' gS' (hh'▸ym (h8 _ hm) hS.2.2)) ?_ ⟨?_,(au dn [j] js).trans hl.2⟩ ⟨nj'.2,λt ht=>⟨(hj.2 t (.tail _ ht)).1,?_⟩⟩ ?_)))
  ·exact YP (sp.ev) (YP af (aa (aH (hln hm) _) (Hn hl.1 (aa (aH (by decide) _) hb9))))
  ·exact YP ee (sp.trans sp')
  ·exact YP ee (YP af (Nu hl.1 (aa pV (hln hm))))
  ·exact YP hh' (jD.mpr ⟨dj nd.2 (mF (hj.2 t (.tail _ ht)).1) (mF lt.1) (λz=>nj'.1 (z▸ht)) (yM (h8 _ (qG (hj.2 t (.tail _ ht)).1))),(hj.2 t (.tail _ ht)).2⟩)
  ·exact YP hh' (jD.mpr ⟨hx hm,hn⟩)
 ·refine YP e ?_;have edn:=(aJ dn).symm.trans hld.2;subst edn;generalize hcd:(λj=>fZ (ni j) (ni i)||(((wr.map ni).any λy=>fZ y (ni j))&& !Fb (pj ps j)))=cd;refine fV (FI8 π σ (pA S nm r (hrs++[S.clock])) (mm nm rl m s ps) p (.ref r) i l wr ps nm (fj π (here (pA S nm r (hrs++[S.clock]))) (wr.reverse.map (nj ps))) cd) (ah U) (λ_ _ _ _=>rfl) (aa ll (aa h5 (by decide)))
   (uE o Z6 S' [] U ⟨hS.1,hS.2.1⟩ hS.2.2 ((aJ _).symm▸sp) (by rw [show(([]).filter cd).flatMap (λj=>π.sb (nj ps j))=[]from U,Gx,aJ];exact bD hld.1 (bH 60 (aa ll h5))) ⟨rfl,lb⟩ hn)
   (λj js ρ' H' hI K' hK=>Do hI λo o' S' dn e hS hu sp hl' hj hn=>?_) λρ' H' hI=>Do hI λo o' S' dn _ hS hu sp hl' hj _=>qS hS.1 hS.2 sp (aa hl' (bG _ _)) hu λt h et eh=>?_
  case refine_2=>
   haveI edl:=(aJ dn).symm.trans hj.1;haveI z:fj π (here (pA S nm r (hrs++[S.clock]))) (wr.reverse.map (nj ps))++((dn.filter cd).flatMap λj=>π.sb (nj ps j)).map .beg=FV π (here S) nm i (aq p):=by exact YP edl (YP (YO hl) (YP (YO hcd) (JM md.ru (md.kd.trans U) hi npi ndn (λp hp=>hmd hp) (YP (YO hwr) (YP (YO hl) U)))))
   haveI ekd:=md.kd;refine YP z (YP eA (YP (YO eh) (YP (YO et) (.here U (et.symm▸cp) U U hle ?_ ?_))))
   ·refine YP ekd (YP et (YP (YO npi) ?_));exact YP aV (YP (mF hi) U)
   ·refine YP eh (YP ekd ?_);exact λm hm h0=>ao (cL hm) λv hv ev=>by subst ev;exact YP (esb hv) (CC (h8 v hv) (λc m hc _=>up c m hc) (hx hv) h0)
  refine YP e ?_;haveI lt:=hj.2 j (.head _);haveI hm:=qG lt;have ec:∀dn,(dn++[j]).filter cd=dn.filter cd++if cd j=Z5 then [j]else []:=λdn=>by
   rw [fH];refine Z4 _ ?_;cases z:cd j with
   |true=>exact dt z
   |false=>exact eZ (YP z ae)
  haveI es:cd j=J->fj π (here (pA S nm r (hrs++[S.clock]))) (wr.reverse.map (nj ps))++(((dn++[j]).filter cd).flatMap λj=>π.sb (nj ps j)).map .beg=fj π (here (pA S nm r (hrs++[S.clock]))) (wr.reverse.map (nj ps))++((dn.filter cd).flatMap λj=>π.sb (nj ps j)).map .beg:=λz=>by rw [ec,z,Z2 ae,aJ]
  haveI et:cd j=Z5->fj π (here (pA S nm r (hrs++[S.clock]))) (wr.reverse.map (nj ps))++(((dn++[j]).filter cd).flatMap λj=>π.sb (nj ps j)).map .beg=(fj π (here (pA S nm r (hrs++[S.clock]))) (wr.reverse.map (nj ps))++((dn.filter cd).flatMap λj=>π.sb (nj ps j)).map .beg)++(nms k (pj ps j)).map .beg:=λz=>by rw [ec,z,Z3 U,bz,aN,au,<-esb hm];exact Z4 (λt=>_++(_++m9 Evt.beg t)) (aJ _)
  refine br (ay (av U) (av U) (CN (mF lt))) (bV U) (bS (hcd▸dB (av U) λ_=>cg (ay (ah U) (ah U) (CZ U λ_=>Z0)) λ_=>bZ (uI (h8 _ hm) U)) (λhc=>?_) λhc=>hK _ _ (uE _ _ S' (dn++[j]) U hS hu ((es hc).symm▸sp) ((es hc).symm▸aa (aH (bH 60 (bh _)) _) hl') ⟨(au dn [j] js).trans hj.1,λt ht=>hj.2 t (.tail _ ht)⟩ hn));refine fi hS.1 rfl U (ah U) (xm (aa k7 (aa (Ou (by decide)) (bh _))) (yT (h8 _ hm) hS.1 hS.2 ?_ λS'' H'' hS' gS' sp'=>hK _ _ (uE _ _ S'' (dn++[j]) U ⟨hS',gS'⟩ ?_ ((et hc).symm▸sp.trans sp') ?_ ⟨(au dn [j] js).trans hj.1,λt ht=>hj.2 t (.tail _ ht)⟩ ?_)))
  ·exact YP (sp.ev) (YP af (aa (aH (hln hm) _) (Hn hl' hb9)))
  ·exact YP (sp'.hr) (Kh (h8 _ hm) ((h7 _).mpr (aG _ hm U)) hn hu)
  ·rw [et hc,af,aj];exact Nu hl' (hln hm)
  ·exact YP (sp'.hr) (xX.mpr (.inr hn))) rt hh
theorem wx:x9 π σ d/\J8 π σ d:=by
 induction d with
 |zero=>exact⟨Bx,BN Bx⟩
 |succ d ih=>exact⟨B9 ih.2,BN (B9 ih.2)⟩
inductive LV:V->Prop
 |add {i:Int}:-1000000000<=i/\i<=1000000000->LV (.tup [.str ['a','d','d'],.int i])
 |fault:LV (.tup [.str ['f','a','u','l','t']])
 |leave:LV (.tup [.str ['l','e','a','v','e']])
def Evt.ok(π:PI):Evt->Prop
 |.sent n _ l=>π.isW n=Z J/\LV l
 |.works n _|.lost n _=>π.isW n=Z J
 |.beg n|.end_ n|.fail n|.leave n=>(π.isW n).isSome=Z5
noncomputable def qS(S:Hst)(n:Nm):List (Nat×V):=((fb n S.qu).map (·.2)).getD []
structure Iv(π:PI)(S:Hst):Prop where
 gd:Gd π S
 up:Up π (here S)
 nm:∀e∈S.ev,e.ok π
 qk:∀n,eO n S.qu=Z5↔π.isW n=Z J
 lv:∀p∈S.qu,∀q∈p.2.2,LV q.2
 lq:S.qu.length<=60
section
variable {es:List Evt}
theorem CH(nm:∀e∈es,e.plain π):∀e∈es,e.ok π:=λe he=>by
 have p:=nm e he;clear he;induction e with
 |beg _|end_ _|fail _|leave _=>exact p
 |sent _ _ _|works _ _|lost _ _=>exact p.elim
theorem Iv.plain(iv:Iv π S)(sp:Sp π k0 S S' es)(gd:Gd π S')(up:Up π (here S')):Iv π S':=⟨gd,up,sp.ev▸bR iv.nm (CH sp.nm),sp.qu▸iv.qk,sp.qu▸iv.lv,sp.qu▸iv.lq⟩
theorem tx{α:Type}{x:α}{l:AL α}(h:eO n l=Z5):eO m (dE n x l)=Z5↔eO m l=Z5:=⟨λq=>(i7 q).elim (λe=>e▸h) id,p0⟩
theorem pi(e:fb n S.qu=Z x):qS S n=x.2:=by unfold qS;exact YP e U
theorem xr:qS (pQ S n x f)=λm=>if m=n then x.2 else qS S m:=funext λm=>by
 refine(?_:((fb m (dE n x S.qu)).map (·.2)).getD []=_);refine YP lK ?_;by_cases h:m=n
 ·exact YP (Z3 h) (YP (Z3 h) U)
 ·exact YP (Z2 h) (YP (Z2 h) U)
structure Pl(π:PI)(σ:Ad):Prop where
 nm:∀m,(π.isW m).isSome=Z5->m∈σ.names
 ok:∀m∈σ.names,pY m
 le:σ.names.length<=60
 pt:∀m∈σ.names,∃d k v,(d<=6/\(d=0->π.isW m=Z Z5))/\Rt π σ d k v/\aq v=m/\gx m σ.names σ.partVs=Z v
 top:Pt π 7 σ.plan
 nd:σ.names.Nodup
end
structure Ab where
 h:Nm->Bool
 k:Nm->List Int
 s:Nm->Int
 q:Nm->List (Nat×V)
 ev:List Evt
 t:Int
 lt:Nat
noncomputable def jY(S:Hst):Ab:=⟨here S,jt S,pq S,qS S,S.ev,S.clock,S.letters⟩
noncomputable def kH{α:Type}(f:Nm->α)(n:Nm)(x:α):Nm->α:=λm=>if m=n then x else f m
noncomputable def aF(es:List Evt)(k':Nm->List Int)(A:Ab):Ab:={A with h:=es.foldl hr A.h,k:=λc=>es.foldl (lM c) (k' c),s:=λc=>es.foldl (pJ c) (A.s c),ev:=A.ev++es}
noncomputable def qX(h:Nm->Bool)(q:Nm->List (Nat×V))(ns:List Nm):List Evt:=ns.flatMap λn=>if h n=Z5 then []else(q n).map λp=>.lost n p.1
noncomputable def aL(ns:List Nm)(A:Ab):Ab:={A with q:=λn=>if A.h n=Z5 then A.q n else [],ev:=A.ev++qX A.h A.q ns}
noncomputable def aS(m:Nm)(l:V)(A:Ab):Ab:={A with q:=kH A.q m (A.q m++[(A.lt+1,l)]),ev:=A.ev++[.sent m (A.lt+1) l],lt:=A.lt+1}
noncomputable def aT(A:Ab):Ab:={A with t:=A.t+1}
noncomputable def aW(m:Nm)(k0:Nat)(ps:List (Nat×V))(A:Ab):Ab:={A with t:=A.t+1,q:=kH A.q m ps,ev:=A.ev++[.works m k0]}
noncomputable def aD(m:Nm)(i:Int)(A:Ab):Ab:={A with s:=kH A.s m (A.s m+i)}
inductive Wk(π:PI)(m:Nm)(k0:Nat)(ps:List (Nat×V))(A:Ab):V->Ab->Prop
 |add {i:Int}:Wk π m k0 ps A (.tup [.str ['a','d','d'],.int i]) (aD m i (aW m k0 ps A))
 |fault {es:List Evt} {k':Nm->List Int}:Fe π (A.t+1) (cF π m) A.h A.k (.fail m) es k'->Wk π m k0 ps A (.tup [.str ['f','a','u','l','t']]) (aF es k' (aW m k0 ps A))
 |leave {es:List Evt} {k':Nm->List Int}:Fe π (A.t+1) (π.al m) A.h A.k (.leave m) es k'->Wk π m k0 ps A (.tup [.str ['l','e','a','v','e']]) (aF es k' (aW m k0 ps A))
inductive De(π:PI)(ns:List Nm)(A:Ab):V->Ab->Prop
 |send {m:Nm} {l:V}:De π ns A (.tup [.str ['s','e','n','d'],.str m,l]) (aS m l A)
 |work {m:Nm} {k0:Nat} {l:V} {ps:List (Nat×V)} {A2:Ab}:A.q m=(k0,l)::ps->Wk π m k0 ps A l A2->De π ns A (.tup [.str ['w','o','r','k'],.str m]) (aL ns A2)
 |fail {m:Nm} {es:List Evt} {k':Nm->List Int}:Fe π (A.t+1) (cF π m) A.h A.k (.fail m) es k'->De π ns A (.tup [.str ['f','a','i','l'],.str m]) (aL ns (aF es k' (aT A)))
noncomputable def Oc(S:Hst)(es:List Evt):Hst:={S with ev:=S.ev++es}
theorem jh(h:H[a]? =Z (.dict ks vs)):bj P J (.cop .notin) [.str n,.ref a] H=Z (.bool (!ks.contains n),H):=by show(((N6 H (.str n) (.ref a) (H[a]?.bind O.lst))).map _).map _=_;refine YP h ?_;show(((H[a]?.bind O.dct).bind _).map _).map _=_;exact YP h U
theorem i6(h:H[r]? =Z (.list vs)):j2 J H (.ref r)=Z vs:=by show H[r]?.bind O.lst=_;exact YP h U
structure Lz(S S':Hst):Prop where
 lt:S'.letters=S.letters
 pr:S'.pres=S.pres
 sm:S'.sums=S.sums
 kp:S'.kept=S.kept
 ck:S'.clock=S.clock
def LI(π:PI)(σ:Ad)(S:Hst)(its:List Nm)(ρ:Fm)(H:AH):Prop:=
 ∃a b c S' dn,ρ=[Z (.ref σ.i),a,b,c]/\Hs σ S' H/\Iv π S'/\Lz S S'/\S'.ev.length+its.length*S.letters<=S.ev.length+60*S.letters/\(dn++its=σ.names/\S'.ev=S.ev++qX (here S) (qS S) dn/\∀n,qS S' n=if here S n=J/\n∈dn then []else qS S n)
def LJ(σ:Ad)(S:Hst)(n:Nm)(q its:List (Nat×V))(ρ:Fm)(H:AH):Prop:=
 ∃b c dn,ρ=[Z (.ref σ.i),Z (.str n),b,c]/\dn++its=q/\Hs σ (Oc S (dn.map λp=>.lost n p.1)) H
theorem Gd.mono(g:Gd π S)(e1:S'.pres=S.pres)(e2:S'.kept=S.kept)(e3:S'.sums=S.sums)(e4:S'.kl=S.kl)(le:S.ev.length<=S'.ev.length):Gd π S':=by
 refine⟨?_,?_,?_,?_,?_,?_,?_,?_⟩
 ·exact YP e1 (YP e2 g.kw)
 ·exact YP e1 (YP e3 g.ks)
 ·exact YP e1 (aa g.lp le)
 ·exact YP e2 (aa g.lk le)
 ·exact YP e3 (aa g.ls le)
 ·exact YP e4 (aa g.ll le)
 ·exact YP e2 g.ko
 ·exact YP e3 g.so
theorem fx{α:Type}{a b:List α}:a.length<=(a++b).length:=aa (ax _ _) (ak af.symm)
theorem CX(h:a+(m+1)*l<=c)(hb:b<=l):a+b+m*l<=c:=by rw [Nat.succ_mul,dC (m*l),<-bL]at h;exact aa (aK (aH hb a) _) h
theorem qt(pl:Pl π σ)(h:π.isW n=Z J):n∈σ.names:=pl.nm n (Z4 c5 h)
theorem tV:qX h q (dn++[n])=qX h q dn++if h n=Z5 then []else(q n).map λp=>.lost n p.1:=by unfold qX;exact YP bz (Z4 _ (aJ _))
theorem Jb(pl:Pl π σ)(h:Hs σ S H)(iv:Iv π S)(hb:S.ev.length+60*S.letters<=900000)
  (q:∀S' H',Hs σ S' H'->Iv π S'->S'.letters=S.letters->S'.ev.length<=S.ev.length+60*S.letters->jY S'=aL σ.names (jY S)->Q .none H'):aO PL (n+1) 58 [.ref σ.i] H Q X:=by
 refine cf U U (fV (LI π σ S) (f:=V.str) (l:=σ.names) (dW h U U) (λ_ _ _ q=>DB q λa b c S' dn _ hS _ _ _ _=>i6 (hS.get 2 rfl)) (aa pl.le (by decide))
  (BS Z6 Z6 Z6 S [] U h iv ⟨rfl,rfl,rfl,rfl,rfl⟩ (aH (KB _ pl.le) _) U ((aJ _).symm) (λn=>(Z2 λz=>ba z.2).symm))
  (λx xs ρ' H' hI K' hK=>DB hI λa b c S' dn e hS iS hl hn he=>?_) λρ' H' hI=>DB hI λa b c S' dn _ hS iS hl hn he=>q S' H' hS iS hl.lt (aa (ax _ _) hn) ?_)
 case refine_2=>
  have ed:dn=σ.names:=(aJ dn).symm.trans he.1;have eh:here S'=here S:=Z4 (λl m=>eO m l) hl.pr;have eq:qS S'=λn=>if here S n=Z5 then qS S n else []:=funext λn=>by
   refine YP (he.2.2 n) ?_;by_cases z:here S n=Z5
   ·exact YP (Z2 λy=>ae (y.1.symm.trans z)) (YP (Z3 z) U)
   ·refine YP (Z2 z) ?_;by_cases y:n∈dn
    ·exact YP (Z3 ⟨cr.mpr z,y⟩) U
    ·refine YP (Z2 λw=>y w.2) ?_;unfold qS;refine eG (o:=fb n S.qu) (λe=>by exact YP e U) λx e=>Z1 (qt pl ((iv.qk n).mp (fk.mpr ⟨x,cM e⟩))) (ed▸y)
  refine(?_:(⟨here S',jt S',pq S',qS S',S'.ev,S'.clock,S'.letters⟩:Ab)=⟨here S,jt S,pq S,λn=>if here S n=Z5 then qS S n else [],S.ev++qX (here S) (qS S) σ.names,S.clock,S.letters⟩);exact YP eh (YP eq (YP (he.2.1) (YP ed (YP (hl.ck) (YP (hl.lt) (YP (show jt S'=jt S from Z4 (λl c=>((fb c l).map lc).getD []) hl.kp) (YP (show pq S'=pq S from Z4 (λ(l:AL Int) c=>(fb c l).getD 0) hl.sm) U)))))))
 clear hI;subst e;have hs:S'.ev.length+S'.letters<=900000:=by exact YP (hl.lt) (aa (ax _ _) (aa (CX hn (aM _)) hb))
 have eh:here S'=here S:=Z4 (λl m=>eO m l) hl.pr;have xd:x∉dn:=λz=>(bv.mp (he.1▸pl.nd)).2.2 x z x (.head _) U;have ed:=(au dn [x] xs).trans he.1;have qx:qS S' x=qS S x:=(he.2.2 x).trans (Z2 λz=>xd z.2);refine bS (cg (ay (ah U) (dW hS U U) (vX (hS.get 8 rfl))) λ_=>ay (ah U) (dW hS U U) (jh (hS.get 5 rfl))) (λhc=>?_) λhc=>hK _ _ (BS _ b c S' (dn++[x]) U hS iS hl (aa (aH (KB _ (bh _)) _) hn) ed ?_ (λn=>?_))
 ·have hc:=cP hc;have hx:here S x=J:=eh▸(cH _▸hc.2);haveI hw:=(iS.qk x).mp hc.1;refine(j1 hc.1).elim λrq er=>?_;haveI hq:=hS.qp _ (cM er);haveI le:rq.2.length<=aB:=aa hq.2.2 (aa (bG _ _) (aa hs (by decide)));refine yW (f:=tb) (λ_ _=>rfl) (LJ σ S' x rq.2) (l:=rq.2) (v:=.ref rq.1) (ay (dW hS U U) (ah U) (sE (val:=L3) (hS.get 8 rfl) er)) (λ_ _ _ q=>jF q λb c dn _ _ hD=>i6 (hD.qp _ (cM er)).2.1) le
   (oU b c [] U U (by unfold Oc;rw [Gx,aJ];exact hS)) (λp ps ρ' H' q K' hK=>jF q λb c dn e ed hD=>?_) λρ' H' q=>jF q λb c dn' e ed' hD=>?_
  ·refine YP e ?_;refine oW hD U (.lost x p.1) (av U) ?_ λH3 h3=>hK _ _ (oU _ _ (dn++[p]) U ((au dn [p] ps).trans ed) ?_)
   ·refine (?_:(S'.ev++dn.map _).length<=_);rw [af,aj];refine aa (aH (aa ?_ hq.2.2) _) (aa hs (by decide));exact YP (YO ed) (YP af (ax _ _))
   ·unfold Oc;rw [aN,<-au];exact h3
  ·refine YP e ?_;haveI ed':dn'=rq.2:=(aJ dn').symm.trans ed';subst ed';refine Cr hD U (λ_=>ah U) (aa iS.lq (by decide)) λr f H' h'=>hK _ _ (BS _ _ _ _ (dn++[x]) U h' ⟨iS.gd.mono U U U U fx,iS.up,bR iS.nm λe he=>ao (cL he) λ_ _ z=>z▸hw,λm=>(tx hc.1).trans (iS.qk m),λp hp=>(lL hp).elim (λe=>e▸qY) (iS.lv p),aa (ak (nh hc.1)) iS.lq⟩ ⟨hl.lt,hl.pr,hl.sm,hl.kp,hl.ck⟩ ?_ ed ?_ (λn=>?_))
   ·show (S'.ev++_).length+_<=_;rw [af,aj];exact CX hn (hl.lt▸hq.2.2)
   ·show S'.ev++_=_;rw [he.2.1,tV,hx,Z2 ae,au,<-qx,pi er]
   ·refine (congrFun (xr (S:=Oc S' _) (n:=x) (x:=(r,[])) (f:=f)) n).trans ?_;by_cases z:n=x
    ·exact YP (Z3 z) (YP (Z3 ⟨z▸hx,z▸aC _ (.head _)⟩) U)
    ·refine YP (Z2 z) (YP (he.2.2 n) ?_);by_cases y:here S n=J/\n∈dn
     ·exact YP (Z3 y) (YP (Z3 ⟨y.1,aR _ y.2⟩) U)
     ·exact YP (Z2 y) (YP (Z2 λw=>y ⟨w.1,(jZ w.2).elim id λw=>Z1 (in1 w) z⟩) U)
 ·have e0:(if here S x=Z5 then []else(qS S x).map λp=>Evt.lost x p.1)=[]:=by
   by_cases z:here S x=Z5
   ·exact YP (Z3 z) U
   ·refine YP (Z2 z) (YP (YO qx) ?_);haveI hc:(eO x S'.qu&& !here S' x)=J:=hc;rw [eh,cr.mpr z]at hc;have hc:eO x S'.qu=J:=by
     cases y:eO x S'.qu with
     |false=>rfl
     |true=>rw [y]at hc;exact Z1 hc ca
    unfold qS;refine eG (λe=>by exact YP e U) λy e=>Z1 (fk.mpr ⟨y,cM e⟩) (by exact YP hc ae)
  rw [he.2.1,tV,e0,aJ]
 ·refine YP (he.2.2 n) ?_;by_cases y:here S n=J/\n∈dn
  ·exact YP (Z3 y) (YP (Z3 ⟨y.1,aR _ y.2⟩) U)
  ·refine YP (Z2 y) ?_;by_cases w:here S n=J/\n∈dn++[x]
   ·refine YP (Z3 w) ?_;haveI ex:n=x:=(jZ w.2).elim (λz=>Z1 ⟨w.1,z⟩ y) in1;clear xd hn he ed;subst ex;haveI hc:(eO n S'.qu&& !here S' n)=J:=hc;rw [eh,w.1]at hc;refine YP (YO qx) ?_;unfold qS;refine eG (λe=>by exact YP e U) λy e=>Z1 (show eO n S'.qu=Z5 from fk.mpr ⟨y,cM e⟩) (λz=>by rw [z]at hc;exact Z1 hc ca)
   ·exact YP (Z2 w) U
theorem f1(h:a<=i/\i<=b)(q:Q (.bool Z5) H):aO PL (n+1) 1 [.int i,.int a,.int b] H Q X:=
 cf U U (bg (cg (s:=Z5) (t:=Z5) (av U) λ_=>cg (s:=Z5) (t:=Z5) (av U) λ_=>cc (rS (ah U) (ah U) (ah U)) (by exact YP (decide_eq_true h.1) (YP (decide_eq_true h.2) U))) q)
theorem f2(h:pY s)(q:Q (.bool Z5) H):aO PL (n+1) 2 [.str s] H Q X:=by
 refine cf U U (cj (dB (s:=J) (t:=J) (av U) λ_=>bZ (s:=Z5) (cc (rS (i:=1) (j:=s.length) (k:=8) am (av U) am) ?_)) (bg (bK (oB (l:=s) (f:=λc=>.str [c]) (g:=λc=>.bool (tE.contains c)) (av U) U (aa h.2.1 (by decide)) λ_ _=>av U) ?_) q))
 ·exact YP (decide_eq_true (show(1:Int)<=s.length from b7.mpr h.1)) (YP (decide_eq_true (show(s.length:Int)<=8 from b7.mpr h.2.1)) U)
 ·exact YP (show(s.map λc=>V.bool (tE.contains c))=(s.map λc=>tE.contains c).map V.bool from bO.symm) (YP wv (YP (List.all_map) (Z4 (λt=>Z (V.bool t,H)) (bw.mpr λc hc=>bn.mpr (h.2.2 c hc)))))
theorem f3(h:LV v)(q:Q (.bool Z5) H):aO PL (n+2) 3 [v] H Q X:=by
 induction h with
 |add h=>exact cf U U (cj (av U) (bT (av U) (bg (cg (s:=Z5) (t:=Z5) (av U) λ_=>io (av U) (av U) (av U) λQ q=>f1 h q) q)))
 |fault=>exact cf U U (cj (av U) (cj (av U) (bg (av U) q)))
 |leave=>exact cf U U (cj (av U) (cj (av U) (bg (av U) q)))
theorem uZ(h:Hs σ S H)(h0:ρ[i]? =Z (Z (.ref σ.i)))(hn:hk.contains nm=J)(hc:∀Q:QE,Q x H->C f [.ref σ.i] H Q X):Ev P C ρ H X (.m 0 f nm (.v i) []) x:=λQ q=>ah (P:=P) (C:=C) (X:=X) h0 (λv H₁=>iI H₁ 0 nm v=Z5/\iE P C [] ρ H₁ (λvs H'=>C f (v::vs) H' Q X) X) ⟨pZ h hn,hc Q q⟩
theorem sT(h:Hs σ S H)(h0:ρ[0]? =Z (Z (.ref σ.i)))(he:Ev P C ρ H X e x)(ed:eQ nm x hk (hv σ S)=(hk,hv σ S'))(ef:kX σ S'=(kX σ S).set 0 (σ.d,.ns hk (hv σ S')))(ek:S'.kept=S.kept)(eq:S'.qu=S.qu)(eo:S'.own=S.own)(el:S.kl<=S'.kl/\S.letters<=S'.letters)(ep:S'.pres=S.pres)(k:∀H',Hs σ S' H'->bk P C ss ρ H' K R X) :
  bk P C (.setAttr (.v 0) nm e::ss) ρ H K R X:=by
 haveI z:iQ (.ref σ.i) nm x H=Z (H.set σ.d (.ns hk (hv σ S'))):=by show(gU H (.ref σ.i)).bind _=_;refine YP (BM h) ?_;show Z (H.set σ.d (.ns (eQ nm x hk (hv σ S)).1 (eQ nm x hk (hv σ S)).2))=_;exact YP ed U
 exact he _ (ah (P:=P) (C:=C) (X:=X) h0 _ (by exact YP z (k _ (h.set 0 rfl ef U ek eq eo el (ep▸h.pn)))))
noncomputable def pC(S:Hst)(c:Int):Hst:={S with clock:=c}
noncomputable def pN(S:Hst)(c:Nat):Hst:={S with letters:=c}
theorem Hs.quSet(h:Hs σ S H)(e:fb n S.qu=Z (r,q))(hl:q'.length<=S.letters):Hs σ (pQ S n (r,q') S.own) (H.set r (.list (q'.map tb))):=by
 haveI hp:=h.qp _ (cM e);have ho:=hp.1;haveI hlt:r<H.length:=(cq hp.2.1);haveI ef:kX σ (pQ S n (r,q') S.own)=kX σ S:=by unfold kX;exact YP (show(pQ S n (r,q') S.own).qu=dE n (r,q') S.qu from U) (YP (y9 (val:=L3) (y:=(r,q')) e U) U)
 refine⟨ef▸h.nd,ef▸λp hp=>⟨(bt λz=>eU ((h.fix p hp).2.symm.trans (z▸ho))).trans (h.fix p hp).1,(h.fix p hp).2⟩,λp hp=>(bu ((h.kp p hp).1) ((bt λz=>?_).trans (h.kp p hp).2.1) ((h.kp p hp).2.2)),λp hp=>(sw h.qn hp).elim (λz=>z▸(bu ho (bM hlt) hl)) λz=>haveI y:=h.qp p z.1;(bu y.1 ((bt λw=>z.2 ?_).trans y.2.1) y.2.2),nO h.qn,h.pn,h.kn,λb hb=>h.fr b (aa (ak aY.symm) hb)⟩
 ·exact Z1 (Z4 pg (ai (ho.symm.trans ((Z4 S.own z).trans (h.kp p hp).1)))) ae
 ·exact Z4 lc (ai (y.1.symm.trans (w▸ho)))
theorem yK{i:Nat}{x:Nat×List (Nat×V)}(h:Hs σ S H)(h0:ρ[0]? =Z (Z (.ref σ.i)))(hi:ρ[i]? =Z (Z (.str n)))(e:fb n S.qu=Z x):Ev P C ρ H X (.p J .i [sS ['q','u','e','u','e','s'],.v i]) (.ref x.1):=ay (dW h h0 U) (ah hi) (sE (val:=L3) (h.get 8 rfl) e)
theorem jo(h:j<=n):g9 n (j:Int)=j:=by
 unfold g9;refine YP (Z2 (cU.mpr (bp j))) ?_;by_cases q:(j:Int)<n
 ·exact YP (Z3 q) U
 ·exact YP (Z2 q) (fT (b7.mp (cU.mp q)) h)
theorem zW{α:Type}{a b:List α}:bE (a++b) (g9 (a++b).length (a.length:Int)) (a++b).length=b:=by refine YP (jo (fx (a:=a) (b:=b))) ?_;unfold bE;exact YP gy (YP (List.drop_left) U)
structure At(π:PI)(σ:Ad)(S:Hst)(H:AH):Prop where
 hs:Hs σ S H
 iv:Iv π S
def MH(π:PI)(σ:Ad)(S:Hst)(dv:V)(b:Nat)(Q:QE):Prop:=∀S' H' es,At π σ S' H'->S'.letters<=S.letters+1->S'.ev.length<=S.ev.length+b->De π σ.names (jY S) dv (jY S')->S'.ev=S.ev++es->Q (.lst (es.map Evt.v)) H'
theorem Im(pl:Pl π σ)(h:Hs σ S H)(no:here S (aq σ.plan)=J->X 6 H)(q:here S (aq σ.plan)=Z5->Q .none H):aO PL (n+2) 59 [.ref σ.i] H Q X:=
 cf U U (bS (bZ (uZ h U U λQ q=>cf U U (bg (tA h U (ay (dW h U U) am (Co pl.top))) q))) (λz=>no (cH _▸z)) λz=>q (dz _▸z))
theorem f38(h:Hs σ S H)(hn:pY m)(hq:eO m S.qu=Z5)(q:Q .none H):aO PL (n+2) 60 [.ref σ.i,.str m] H Q X:=
 cf U U (cj (dB (s:=J) (t:=J) (bZ (s:=Z5) (cJ (ah U) λQ q=>f2 hn q)) λ_=>cc (ay (ah U) (dW h U U) (jh (h.get 8 rfl))) (Z4 (λt=>V.bool (!t)) hq)) q)
theorem PK(h:Hs σ S H)(no:here S m=J->X 4 H)(q:here S m=Z5->Q .none H):aO PL (n+1) 61 [.ref σ.i,.str m] H Q X:=
 cf U U (bS (ay (ah U) (dW h U U) (jh (h.get 5 rfl))) (λz=>no (cH _▸z)) λz=>q (dz _▸z))
theorem xC(h:H[i]? =Z (.list vs))(hl:vs.length<=aB):bj P J .slice [.ref i,.int z,.none] H=Z (.lst (bE vs (g9 vs.length z) vs.length),H):=by show((H[i]?.bind O.lst).bind _).map _=_;refine YP h ?_;show(if vs.length<=aB then Z _ else Z6:Option V).map _=_;exact YP (Z3 hl) U
theorem tT(pl:Pl π σ)(h:Hs σ S₂ H)(iv:Iv π S₂)(ev:S₂.ev=S.ev++es)(lt:S₂.letters=S.letters)(hl:es.length<=1382)(de:De π σ.names (jY S) dv (aL σ.names (jY S₂)))(h0:ρ[0]? =Z (Z (.ref σ.i)))(h2:ρ[2]? =Z (Z (.int (S.ev.map Evt.v).length)))(hL:S.letters<=110)(hb:S.ev.length+8000<=900000)(q:MH π σ S dv 8000 Q) :
  bk PL (aO PL (n+1)) [(.e (.m 0 58 ['l','o','s','e'] (.v 0) [])),(.ret (.p J .slice [(sS ['e','v','e','n','t','s']),.v 2,.c .none]))] ρ H K Q X:=by
 have le:S₂.ev.length+6600<=S.ev.length+8000:=by rw [ev,af,bL];exact aH (aa (aK hl 6600) (by decide)) _
 have hL2:60*S₂.letters<=6600:=bH 60 (lt.symm▸hL);refine iM h h0 U (Jb pl h iv (aa (aH hL2 _) (aa le hb)) λS₃ H₃ h3 iv3 l3 DJ ab=>?_);haveI DJ:S₃.ev.length<=S.ev.length+8000:=aa DJ (aa (aH hL2 _) le);have e3:S₃.ev=S.ev++(es++qX (here S₂) (qS S₂) σ.names):=(Z4 Ab.ev ab).trans ((Z4 (·++qX (here S₂) (qS S₂) σ.names) ev).trans (au ..));refine bg (fR (dW h3 h0 U) (ah h2) am (xC (h3.get 9 rfl) (aa (ak (aj _)) (aa DJ (aa hb (by decide)))))) ?_;haveI z:=q S₃ H₃ _ ⟨h3,iv3⟩ (by exact YP l3 (YP lt (bh _))) DJ (ab▸de) e3;exact YP e3 (YP aN (YP zW z))
theorem b6(h:d<=6):bF d<=1380:=aK (bH 60 (aA h)) 960
theorem fu(h:d<=6):2*d+20<=N+33:=aa (aK (bH 2 h) 20) (bG 32 (N+1))
theorem uw(sp:Sp π k' S S₂ es):jY S₂=aF es k' (jY S):=by show(⟨here S₂,jt S₂,pq S₂,qS S₂,S₂.ev,S₂.clock,S₂.letters⟩:Ab)=⟨es.foldl hr (here S),λc=>es.foldl (lM c) (k' c),λc=>es.foldl (pJ c) (pq S c),qS S,S.ev++es,S.clock,S.letters⟩;exact YP (sp.hr) (YP (sp.ev) (YP (sp.ck) (YP (sp.lt) (YP (show jt S₂=_ from funext sp.kp) (YP (show pq S₂=_ from funext sp.sm) (YP (show qS S₂=qS S from Z4 (λ(l:AL (Nat×List (Nat×V))) n=>((fb n l).map lc).getD []) sp.qu) U))))))
theorem f42(pl:Pl π σ)(A:At π σ S H)(hm:m∈σ.names)(hL:S.letters<=110)(hb:S.ev.length+8000<=900000)(x4:here S m=J->X 4 H)(x6:here S (aq σ.plan)=J->X 6 H)(q:here S (aq σ.plan)=Z5->here S m=Z5->MH π σ S (.tup [.str ['f','a','i','l'],.str m]) 8000 Q):aO PL (n+34) 64 [.ref σ.i,.str m] H Q X:=by haveI h:=A.hs;refine yd (pl.pt m hm) λd k v hd rt en ed=>cf U U (iM h U U (Im pl h x6 λhr0=>cj (dB (s:=J) (t:=J) (bZ (s:=Z5) (cJ (ah U) λQ q=>f2 (pl.ok m hm) q)) λ_=>cc (ay (ah U) (dW h U U) (jh (h.get 3 rfl))) (Z4 (λt=>V.bool (!t)) (bn.mpr hm))) (fi h U U (ah U) (PK h x4 λhh=>?_))));refine br (bK (dW h U U) (fJ (h.get 9 rfl))) (bV U) (sT (S':=pC S (S.clock+1)) h U (ay (dW h U U) am gO) U U U U U ⟨aM _,aM _⟩ U λH1 h1=>?_);have i1:Iv π (pC S (S.clock+1)):=⟨A.iv.gd.mono U U U U (aM _),A.iv.up,A.iv.nm,A.iv.qk,A.iv.lv,A.iv.lq⟩;refine fi h1 U U (x:=v) (ay (dW h1 U U) (ah U) (jM (h1.get 3 rfl) ed)) (xm (fu hd.1) (wx.1 rt h1 i1.gd i1.up (en▸hh) (aa (aH (aa (b6 hd.1) (by decide)) _) hb) λS2 H2 es k' h2 g2 sp hl up ch=>tT (S:=S) pl h2 (i1.plain sp g2 up) sp.ev sp.lt (aa hl (aa (b6 hd.1) (by decide))) ?_ U U hL hb (q hr0 hh)));refine YP (uw sp) ?_;rw [en]at ch;exact .fail ch
theorem yL(h:Ev P C ρ H X a x)(h2:Ev P C ρ H X b y)(h3:Ev P C ρ H X c u)(h4:Ev P C ρ H X d w)(e:bj P J p [x,y,u,w] H=Z (z,H)):Ev P C ρ H X (.p J p [a,b,c,d]) z:=λ_ q=>h _ (h2 _ (h3 _ (h4 _ (hE e q))))
def MS(π:PI)(σ:Ad)(S:Hst)(m:Nm)(l:V)(b:Nat)(Q:QE):Prop:=∀S' H',At π σ S' H'->S'.letters<=S.letters+1->S'.ev.length<=S.ev.length+b->jY S'=aS m l (jY S)->Q (ni S'.letters) H'
theorem f40(pl:Pl π σ)(A:At π σ S H)(hm:π.isW m=Z J)(lv:LV l)(hL:S.letters<=109)(hb:S.ev.length+8000<=900000)(x4:here S m=J->X 4 H)(x6:here S (aq σ.plan)=J->X 6 H)(q:here S (aq σ.plan)=Z5->here S m=Z5->MS π σ S m l 8000 Q):aO PL (n+34) 62 [.ref σ.i,.str m,l] H Q X:=by
 have h:=A.hs;have hq:=(A.iv.qk m).mpr hm;haveI hs:S.ev.length<=aB:=aa (ax _ _) (aa hb (by decide));refine cf U U (iM h U U (Im pl h x6 λhr0=>cj (bZ (s:=Z5) (cJ (ah U) λQ q=>f3 lv q)) (fi h U U (ah U) (f38 h (pl.ok m (qt pl hm)) hq (fi h U U (ah U) (PK h x4 λhh=>?_))))));refine sT (S':=pN S (S.letters+1)) h U (ay (dW h U U) am gO) U U U U U ⟨aM _,bh _⟩ U λH1 h1=>(j1 hq).elim λx ex=>?_;haveI hx:=h1.qp _ (cM ex);haveI hx':x.2.length<=S.letters:=(h.qp _ (cM ex)).2.2;refine kG (yK h1 U U ex) (fo hx.2.1) (ay (dW h1 U U) (ah U) (fB gZ)) (hE (fL hx.2.1 ?_) ?_)
 ·rw [aj];exact aa hx' (aa hL (by decide))
 haveI h2:=h1.quSet (q':=x.2++[(S.letters+1,l)]) ex (aa (ak af) (aA hx'));rw [aN]at h2;refine oW h2 U (.sent m (S.letters+1) l) (yL am (ah U) (dW h2 U U) (ah U) U) hs λH3 h3=>bg (dW h3 U U) (q hr0 hh _ _ ⟨h3,⟨A.iv.gd.mono U U U U gW,A.iv.up,bR A.iv.nm (c8 ⟨hm,lv⟩),λk=>(tx hq).trans (A.iv.qk k),λp hp=>(lL hp).elim (λe=>e▸bR (A.iv.lv _ (cM ex)) (c8 lv)) (A.iv.lv p),aa (ak (nh hq)) A.iv.lq⟩⟩ (aM _) (aa (ak af) (aH (aQ U) _)) ?_);exact Z4 (λq=>(⟨here S,jt S,pq S,q,S.ev++[.sent m (S.letters+1) l],S.clock,S.letters+1⟩:Ab)) ((xr (S:=pN S (S.letters+1)) (n:=m) (x:=(x.1,x.2++[(S.letters+1,l)])) (f:=S.own)).trans (show _=kH (qS S) m (qS S m++[(S.letters+1,l)]) by exact YP (pi ex) U))
theorem BA(h:H[i]? =Z (.list vs))(hl:vs.length<=aB):bj P J .list [.ref i] H=Z (.lst vs,H):=by show((H[i]?.bind O.lst).bind _).map _=_;refine YP h ?_;show(if vs.length<=aB then Z _ else Z6:Option V).map _=_;exact YP (Z3 hl) U
theorem f46(h:Hs σ S H)(hb:S.ev.length<=900000)(q:Q (.lst (S.ev.map Evt.v)) H):aO PL (n+1) 68 [.ref σ.i] H Q X:=
 cf U U (bg (bK (dW h U U) (BA (h.get 9 rfl) (aa (ak (aj _)) (aa hb (by decide))))) q)
theorem sQ(h:cW P C e ρ H (λv H'=>match gz ρ (.inr is) v with|some ρ'=>bk P C ss ρ' H' K R X|none=>False) X):bk P C (.asgTup is e::ss) ρ H K R X:=h
theorem FJ(h:H[r]? =Z (.list (x::xs)))(hl:(x::xs).length<=aB):bj P J .pop0 [.ref r,.int 0] H=Z (x,H.set r (.list xs)):=by show((H[r]?.bind O.lst).bind λvs=>Z (r,vs)).bind _=_;exact YP h (Z3 ⟨rfl,hl⟩)
theorem AU{G:V->Prop}(hP:Pt π k v)(hw:π.isW (aq v)=Z J)(g:∀nm md,md∈lN->(∀c,π.ch c≠Z nm)->G (vG nm md)):G v:=by
 induction hP with
 |wk _ h2 _ h4=>exact g _ _ h2 h4
 |wd _ _ _ _ _ h6=>exact Z1 (ai (hw.symm.trans h6)) ae
theorem f41(pl:Pl π σ)(A:At π σ S H)(hm:π.isW m=Z J)(hL:S.letters<=110)(hb:S.ev.length+8000<=900000)(x4:here S m=J->X 4 H)(x5:qS S m=[]->X 5 H)(x6:here S (aq σ.plan)=J->X 6 H)(q:here S (aq σ.plan)=Z5->here S m=Z5->qS S m≠[]->MH π σ S (.tup [.str ['w','o','r','k'],.str m]) 8000 Q):aO PL (n+34) 63 [.ref σ.i,.str m] H Q X:=by
 have h:=A.hs;have hq:=(A.iv.qk m).mpr hm;haveI hn:=qt pl hm;refine yd (pl.pt m hn) λd k v hd rt en ed=>(j1 hq).elim λx ex=>cf U U (iM h U U (Im pl h x6 λhr0=>fi h U U (ah U) (f38 h (pl.ok m hn) hq (fi h U U (ah U) (PK h x4 λhh=>?_)))));haveI hx:=h.qp _ (cM ex);have hs:∀{j:Nat},j<=8000->S.ev.length+j<=900000:=λz=>aa (aH z _) hb;obtain⟨r,_|⟨⟨k0,l⟩,ps⟩⟩:=x
 ·exact bT (ay (bK (yK h U U ex) (fJ hx.2.1)) am U) (x5 (pi ex))
 have eq:=pi ex;refine cj (cc (ay (bK (yK h U U ex) (fJ hx.2.1)) am (gq d0 d0)) U) (br (bK (dW h U U) (fJ (h.get 9 rfl))) (bV U) (sT (S':=pC S (S.clock+1)) h U (ay (dW h U U) am gO) U U U U U ⟨aM _,aM _⟩ U λH1 h1=>?_));have hx1:=h1.qp _ (cM ex);haveI h2:=h1.quSet ex (aa (bh _) hx.2.2);have lp:LV l:=A.iv.lv _ (cM ex) (k0,l) (.head _);refine sQ (yK h1 U U ex _ ⟨fo hx1.2.1,am _ (hE (FJ hx1.2.1 ?_) (show bk PL (aO PL (n+33)) _ [Z (.ref σ.i),Z (.str m),Z (.int (S.ev.map Evt.v).length),Z (.int k0),Z l,Z6] _ _ Q X from oW h2 U (.works m k0) (av U) (aa (hs (aU _)) (by decide)) λH3 h3=>br (ay (dW h3 U U) (ah U) (jM (h3.get 3 rfl) ed)) (bV U) ?_))⟩)
 ·exact aa (ak (Z4 pf (aj _))) (aa hx.2.2 (aa hL (by decide)))
 have i3:Iv π (pE (pQ (pC S (S.clock+1)) m (r,ps) S.own) (.works m k0)):=⟨A.iv.gd.mono U U U U gW,A.iv.up,bR A.iv.nm (c8 hm),λk=>(tx hq).trans (A.iv.qk k),λp hp=>(lL hp).elim (λe=>e▸λx hx=>A.iv.lv _ (cM ex) x (.tail _ hx)) (A.iv.lv p),aa (ak (nh hq)) A.iv.lq⟩;have a3:jY (pE (pQ (pC S (S.clock+1)) m (r,ps) S.own) (.works m k0))=aW m k0 ps (jY S):=Z4 (λq=>(⟨here S,jt S,pq S,q,S.ev++[Evt.works m k0],S.clock+1,S.letters⟩:Ab)) (xr (f:=S.own));have hl3:∀{j:Nat},j+1<=8000->(S.ev++[Evt.works m k0]).length+j<=900000:=λ{j} z=>by rw [af,bL];exact hs (dC 1 j▸z)
 have bd:=b6 hd.1;have q:=q hr0 hh (YP eq (jy _ _))
 induction lp with
 |@add i5 hi=>
  refine bT (av U) ((j1 (A.iv.gd.ks m hh hm)).elim λi ei=>y0 h3 U (ay (ay (dW h3 U U) (ah U) (sE (h3.get 6 rfl) ei)) (av U) gO) (ah U) (aa A.iv.gd.ls (aa (hs (aU _)) (by decide))) λH4 h4=>?_);haveI g4:Gd π (pS (pE (pQ (pC S (S.clock+1)) m (r,ps) S.own) (.works m k0)) m (i+i5)):=⟨i3.gd.kw,λk hk hw=>p0 (i3.gd.ks k hk hw),i3.gd.lp,i3.gd.lk,aa (ak (nh (A.iv.gd.ks m hh hm))) i3.gd.ls,i3.gd.ll,i3.gd.ko,λk hk=>(i7 hk).elim (λe=>e▸hm) (i3.gd.so k)⟩;refine tT (S:=S) pl h4 ⟨g4,i3.up,i3.nm,i3.qk,i3.lv,i3.lq⟩ U U (aQ U) ?_ U U hL hb q;haveI a4:jY (pS (pE (pQ (pC S (S.clock+1)) m (r,ps) S.own) (.works m k0)) m (i+i5))=aD m i5 (aW m k0 ps (jY S)):=by
   refine YP (YO a3) (Z4 (λs=>(⟨here S,jt S,s,qS (pE (pQ (pC S (S.clock+1)) m (r,ps) S.own) (.works m k0)),S.ev++[Evt.works m k0],S.clock+1,S.letters⟩:Ab)) (funext λc=>yx.trans ((?_:_=if c=m then pq S m+i5 else pq S c))));haveI em:pq S m=i:=by unfold pq;exact YP ei U
   by_cases z:c=m
   ·exact YP (Z3 z) (YP (Z3 z.symm) (YP em U))
   ·exact YP (Z2 z) (YP (Z2 λy=>z y.symm) U)
  exact YP a4 (.work eq .add)
 |fault=>refine cj (av U) (bT (av U) (fi h3 U U (ah U) (xm (fu hd.1) (wx.1 rt h3 i3.gd i3.up (en▸hh) (hl3 (aa (aA bd) (by decide))) λS4 H4 es k' h4 g4 sp hl up ch=>fA<|tT (S:=S) pl h4 (i3.plain sp g4 up) (sp.ev.trans (au ..)) sp.lt (aA (aa hl (aa bd (by decide)))) ?_ U U hL hb q))));refine YP (uw sp) (YP a3 ?_);rw [en]at ch;exact .work eq (.fault ch)
 |leave=>
  refine cj (av U) (cj (av U) (oW h3 U (.leave m) (av U) (aa (hl3 (j:=0) (by decide)) (by decide)) λH4 h4=>tj h4 U (ah U) hh (aa A.iv.gd.lp (aa (hs (aU _)) (by decide))) λH5 h5=>?_));have hw:=en▸hm;haveI nk:=en▸AU (G:=λv=>∀c,π.ch c≠Z (aq v)) rt.rd.pt hw λ_ _ _ z=>z;have dl:∀{k:Nm},k≠m->here S k=Z5->eO k (mr m S.pres)=Z5:=λa b=>(im h.pn).trans (cn.mpr ⟨by exact YP (decide_eq_false a) U,b⟩);have up5:Up π λk=>eO k (mr m S.pres):=λc k hc hhc=>dl (λz=>nk c (z▸hc)) (A.iv.up c k hc (cP ((im h.pn).symm.trans hhc)).2);haveI g5:=wC (n:=m) (t:=.leave m) i3.gd;haveI md:=rt.rd.md v (nG rt.rd.pt);haveI esb:=en▸md.sb.trans (AU (G:=λv=>nms 8 v=[aq v]) rt.rd.pt hw λ_ _ _ _=>rfl);have ep:pre π (here S) (.leave m)=[.leave m]:=by unfold pre;exact YP (show(Evt.leave m).nm=m from U) (YP esb U)
  have i5:Iv π (pD (pE (pE (pQ (pC S (S.clock+1)) m (r,ps) S.own) (.works m k0)) (.leave m)) m):=⟨g5,up5,bR i3.nm (c8 (Z4 c5 hm)),i3.qk,i3.lv,i3.lq⟩;have sp5:Sp π (jt S) (pE (pQ (pC S (S.clock+1)) m (r,ps) S.own) (.works m k0)) (pD (pE (pE (pQ (pC S (S.clock+1)) m (r,ps) S.own) (.works m k0)) (.leave m)) m) [.leave m]:=⟨rfl,rfl,rfl,rfl,bh _,funext λ_=>im h.pn,c8 (Z4 c5 hm),λ_=>rfl,λ_=>rfl⟩;refine cu (AU (G:=λv=>∃md,bj PL J .i [v,.int 2] H5=Z (.str md,H5)/\Nw v=md/\md∈lN) rt.rd.pt hw λ_ md h _=>(bQ md U U h)) λmo emd et hmo=>?_;haveI al:=en▸md.al;refine bS (ay (ay (ah U) am emd) am (gq ik ik)) (λha=>?_) λha=>fA<|fA<|tT (S:=S) pl h5 i5 (au ..) U (aQ U) ?_ U U hL hb q
  case refine_2=>
   haveI hal:π.al m=J:=by refine YP al ?_;unfold N7 Fb;exact YP et (eV hmo (λe=>Z1 (show fZ (.str mo) (.str ['a','l','w','a','y','s'])=Z5 from by exact YP e U) (YP ha ae)) λh=>eV h (λe=>YP e U) λh=>YP (in1 h) U)
   haveI z:Fe π ((jY S).t+1) (π.al m) (jY S).h (jY S).k (.leave m) (pre π (here S) (.leave m)) (jt S):=YP hal (.stop U U U);rw [ep]at z;exact YP (uw sp5) (YP a3 (.work eq (.leave z)))
  have hal:π.al m=Z5:=by refine YP al ?_;unfold N7 Fb;exact YP et (YP (beq_iff_eq.mp (show(mo==['a','l','w','a','y','s'])=Z5 from ha)) U)
  induction d with
  |zero=>exact Z1 (ai (hm.symm.trans (hd.2 rfl))) ae
  |succ d=>
   have bd:=b6 (aa (bh _) hd.1);refine cu rt.2 λw rw hv ec=>nU h5 U U (ay (dW h5 U U) (ah U) (jM (h5.get 4 rfl) (en▸ec))) (ah U) (xm (aa (bh (2*d+21)) (fu hd.1)) (wx.2 rw hv h5 g5 ?_ up5 ?_ ?_ λS6 H6 es k' h6 g6 sp hl up ch=>fA<|fA<|tT (S:=S) pl h6 ⟨g6,up,sp.ev▸bR i5.nm (CH sp.nm),sp.qu▸i5.qk,sp.qu▸i5.lv,sp.qu▸i5.lq⟩ (sp.ev.trans ((Z4 (·++es) (au ..)).trans (au ..))) sp.lt (aA (aA (aa hl bd))) ?_ U U hL hb q))
   ·exact ce i3.gd.ll j8
   ·have cw:=yH (G:=λw _=>π.ch (aq v)=Z (aq w)/\π.isW (aq w)=Z Z5) rw.rd.pt hv λk nm rl m s ps _ _ h6 h7 _ hp=>⟨(h7 _).mpr (aG v hp U),h6⟩;exact dl (λz=>ae (ai (hm.symm.trans (z▸cw.2)))) (A.iv.up _ _ cw.1 (en▸hh))
   ·refine (?_:(_++[Evt.leave m]).length+_<=_);rw [af,bL];exact hl3 (aa (aA (aH bd 1)) (by decide))
   ·haveI z:=ch (.leave m) (here S) en.symm (YP ep ((funext λ_=>im h.pn).symm));rw [ep]at z;exact YP (uw (sp5.trans' sp (aM _) λ_ _=>rfl)) (YP a3 (.work eq (.leave (hal.symm▸z))))
theorem pM{α:Type}{f:α->V}{l:List α}(h:∀a,zl (f a)):rd H (.lst (l.map f))=Z (.lst (l.map f)):=JT (m0 h)
theorem ju{a b:Int}(hb:0<b):0<=a%b/\a%b<b:=⟨on _ (n5 hb),lf _ hb⟩
theorem Ar(h:0<=a/\a<b)(hc:b<=1000000000+1+c)(hc':c<=1000000000)(h0:0<=c):LV (.tup [.str ['a','d','d'],.int (a-c)]):=.add ⟨j5 h.1 (j5 hc' (by simp+arith only)),j5 h.2 (j5 hc (by simp+arith only))⟩
theorem f13{z:Int}(q:∀v,LV v->Q v H):aO PL (n+1) 19 [.int z] H Q X:=by
 refine cf U U (bS (ay (ay (ah U) am (eT (by decide))) am oP) (λh=>?_) λh=>?_)
 ·haveI h:=of_decide_eq_true h;haveI h5:=(ju (a:=z) (b:=5) (by decide)).2;exact ao (nq (P:=PL) (H:=H) (xs:=[.tup [.str ['f','a','u','l','t']],.tup [.str ['l','e','a','v','e']]]) (i:=z%5-3) (Kv h) (Int.sub_lt_sub_right h5 3)) λv hv e=>bg (ay (av U) (ay (ay (ah U) am (eT (by decide))) am tv) e) (q v (eV hv (λe=>e▸.fault) λh=>in1 h▸.leave))
 ·refine ao (nq (P:=PL) (H:=H) (xs:=[.int (z/10%9-4),.int (z/10%2000000001-1000000000)]) (i:=if fZ (.int (z%5)) (.int 2)then 1 else 0) ?_ ?_) λv hv e=>br (ay (av U) (bK (ay (ay (ah U) am (eT (by decide))) am (gq d0 d0)) Gj) e) (bV U) (bg (ay am (ah U) (fB gZ)) (q _ (eV hv (λe=>e▸Ar (ju (by decide)) (by decide) (by decide) (by decide)) λh=>in1 h▸Ar (ju (by decide)) (by decide) (by decide) (by decide))))
  ·cases fZ (.int (z%5)) (.int 2)<;>decide
  ·induction fZ (.int (z%5)) (.int 2)with
   |true=>exact(by decide:(1:Int)<2)
   |false=>exact(by decide:(0:Int)<2)
noncomputable def kW:List V->Nm
 |v::_=>v.txt.getD []
 |_=>[]
noncomputable def sdV(v:V):Bool:=kW (v.tpl.getD [])==['s','e','n','d']
noncomputable def Lr(v:V):Bool:=kW (v.tpl.getD [])==['w','o','r','k']
noncomputable def iP(r:Nm)(A:Ab)(v:V):Bool:=A.h r&&(A.h (aq v)&&(!Lr v|| !(A.q (aq v)).isEmpty))
theorem rR(h:A.h r=J):iP r A v=J:=by unfold iP;exact YP h U
theorem rU(h:A.h (aq v)=J):iP r A v=J:=by unfold iP;rw [h,Bool.false_and,jc]
theorem C8(h:A.h r=Z5)(h':A.h (aq v)=Z5)(h2:(!Lr v|| !(A.q (aq v)).isEmpty)=Z5):iP r A v=Z5:=by unfold iP;exact YP h (YP h' (YP h2 U))
theorem HC(z:A.q m=[]):iP r A (.tup [.str ['w','o','r','k'],.str m])=J:=by unfold iP;exact YP (show A.q (aq (.tup [.str ['w','o','r','k'],.str m]))=[]from z) ((Z4 (A.h _&&·) (jc _)).trans (jc _))
theorem K8{m:Nm}{A:Ab}(w:A.q m≠[]):(!Lr (.tup [.str ['w','o','r','k'],.str m])|| !(A.q m).isEmpty)=Z5:=by
 cases e:A.q m with
 |nil=>exact Z1 e w
 |cons _ _=>rfl
inductive Dd(π:PI)(σ:Ad):V->Prop
 |send {m:Nm} {l:V}:π.isW m=Z J->LV l->Dd π σ (.tup [.str ['s','e','n','d'],.str m,l])
 |work {m:Nm}:π.isW m=Z J->Dd π σ (.tup [.str ['w','o','r','k'],.str m])
 |fail {m:Nm}:m∈σ.names->Dd π σ (.tup [.str ['f','a','i','l'],.str m])
theorem xB(h:Hs σ S H)(h0:ρ[0]? =Z (Z (.ref σ.i)))(hn:hk.contains nm=J)(ha:Ev P C ρ H X a x)(k:C f [.ref σ.i,x] H R X):bk P C (.ret (.m 0 f nm (.v 0) [a])::ss) ρ H K R X:=
 ah (P:=P) (C:=C) (X:=X) h0 (λv H₁=>iI H₁ 0 nm v=Z5/\iE P C [a] ρ H₁ (λvs H'=>C f (v::vs) H' R X) X) ⟨pZ h hn,ha _ k⟩
theorem tG(h:bk P C body ρ H (λρ' H'=>bk P C ss ρ' H' K R X) R (λc H'=>(P.sub c c&&P.sub c cls)=Z5/\R (hdV e) H')):bk P C (.try_ body cls e::ss) ρ H K R X:=h
theorem Ay(h:l≠[]):∃w,w∈l/\bj P J .i [.lst (l.map V.str),.int (z%((l.map V.str).length:Int))] H=Z (.str w,H):=by
 haveI hp:0<((l.map V.str).length:Int):=by rw [aj];exact b9.mpr (gw.mpr h)
 exact ao (nq (P:=P) (H:=H) (xs:=l.map V.str) (ju (a:=z) hp).1 (ju hp).2) λv hv e=>ao (cL hv) λw hw ew=>(aG w hw (ew▸e))
theorem Ew(h:l≠[]):0<((l.map V.str).length:Int):=by rw [aj];exact b9.mpr (gw.mpr h)
theorem pH(hi:ρ[i]? =Z (Z (.lst (l.map V.str))))(hj:ρ[j]? =Z (Z (.int z)))(h:l≠[]):∃w,w∈l/\Ev PL C ρ H X (.p J .i [.v i,.p J (.bop .mod) [.v j,.p J .len [.v i]]]) (.str w):=
 (Ay h).imp λw q=>⟨q.1,ay (ah hi) (ay (ah hj) (bK (ah hi) pG) (eT (Ew h))) q.2⟩
theorem wL(h:(!fZ (.lst (l.map V.str)) (.lst []))=Z5):l≠[]:=λe=>by subst e;exact ae h
theorem J5(hi:ρ[i]? =Z (Z (.int z)))(hb:0<b):Ev P C ρ H X (.p J (.bop .mod) [.v i,.c (.int b)]) (.int (z%b)):=ay (ah hi) am (eT hb)
theorem DJ:[a,b,c].length<=aB:=show 3<=aB by decide
theorem vP:[a].length<=aB:=show 1<=aB by decide
theorem sF(h4:ρ[4]? =Z (Z (.int z)))(h5:ρ[5]? =Z (Z w))(k:∀v,LV v->Q (.tup [.str ['s','e','n','d'],w,v]) H):cW PL (aO PL (n+1)) (.p J .t [.c (.str ['s','e','n','d']),.v 5,(.call 19 [(.p J (.bop .f) [.v 4,.c (.int 8)])])]) ρ H Q X:=
 Hq am (ah h5) (gV (ay (ah h4) am (pI (by decide) (by decide))) (f13 λv lv=>hE (fB DJ) (k v lv)))
theorem NV{z:Int}{w:Nm}{ws hs bs:List Nm}{so:Option V}{K:KS}(hw:π.isW w=Z J)(hh:∀m∈hs,m∈σ.names)(hb:∀m∈bs,π.isW m=Z J)(hn:w∈σ.names)
  (q:∀ds:List V,ds.length<=2->(∀v∈ds,Dd π σ v)->Q (.lst ds) H):bk PL (aO PL (n+1)) (ME.body.drop 4) [Z (.int z),Z (.lst (ws.map V.str)),Z (.lst (hs.map V.str)),Z (.lst (bs.map V.str)),Z (.int (z/10)),Z (.str w),so] H K Q X:=by
 have q1:∀{v:V},Dd π σ v->Q (.lst [v]) H:=λd=>q _ (by decide:1<=2) (c8 d);refine(?_:bk PL _ [_,_,_,_,_] _ _ _ _ _);refine bS (av U) (λ_=>g7 (p7 (sF U U λv lv=>hE (gm vP) (q1 (.send hw lv))))) λ_=>?_;refine bS (av U) (λ_=>g7 (mB (sF U U λv lv=>ay am (ah U) (fB gZ) _ (hE (gm gZ) (q _ (aM _) (eD (.send hw lv) (c8 (.work hw)))))))) λ_=>?_;refine bS (cg (av U) λ_=>ay (ah U) (av U) (lJ (pM λ_=>Z0) jQ)) (λhc=>ao (pH (i:=3) (j:=4) (z:=z/10) U U (wL (cP hc).2)) λb hb0 eb=>bg (bK (ay am eb (fB gZ)) (gm vP)) (q1 (.work (hb b hb0)))) λ_=>?_;refine bS (cg (av U) λ_=>ay (ah U) (av U) (lJ (pM λ_=>Z0) jQ)) (λhc=>ao (pH (i:=2) (j:=4) (z:=z/10) U U (wL (cP hc).2)) λb hb0 eb=>bg (bK (ay am eb (fB gZ)) (gm vP)) (q1 (.fail (hh b hb0)))) λ_=>?_;refine g7 (mB (Hq (av U) (av U) (p7 (sF U U λv lv=>hE (gm vP) (hE (gm DJ) ((ay (av U) am (eT (by decide))) _ ?_))))));exact ao (nq (P:=PL) (H:=H) (xs:=[.lst [.tup [.str ['w','o','r','k'],.str w]],.lst [.tup [.str ['f','a','i','l'],.str w]],.lst [.tup [.str ['s','e','n','d'],.str w,v]]]) (ju (a:=z/10/5) (b:=3) (by decide)).1 (ju (by decide)).2) λx hx e=>hE e (eV hx (λe=>e▸q1 (.work hw)) λhx=>eV hx (λe=>e▸q1 (.fail hn)) λhx=>in1 hx▸q1 (.send hw lv))
theorem f23{z:Int}{ws hs bs:List Nm}(hw:∀w∈ws,π.isW w=Z J)(hws:ws≠[])(hwl:ws.length<=aB)(hh:∀m∈hs,m∈σ.names)(hb:∀m∈bs,m∈ws)(hn:∀m,π.isW m=Z J->m∈σ.names)
  (q:∀ds:List V,ds.length<=2->(∀v∈ds,Dd π σ v)->Q (.lst ds) H):aO PL (n+2) 39 [.int z,.lst (ws.map V.str),.lst (hs.map V.str),.lst (bs.map V.str)] H Q X:=by
 refine cf U U (br (av U) (bV U) (ao (pH (i:=1) (j:=4) (z:=z/10) U U hws) λw hw0 ew=>br ew (bV U) (br (jU (l:=ws) (f:=V.str) (g:=V.str) (ah U) U hwl (λ_ _=>ay (ah U) (ah U) (CZ U λ_=>Z0)) λ_ _ _=>ah U) (bV U) ?_)));refine bS (cg (ay (av U) (av U) (lJ (pM λ_=>Z0) jQ)) λ_=>ay (J5 U (by decide)) am nH) (λhc=>ao (pH (i:=6) (j:=4) (z:=z/10) U U (wL (cP hc).1)) λw hw1 ew=>haveI hw1:=(oX hw1).1;br ew (bV U) (NV (hw w hw1) hh (λm hm=>hw m (hb m hm)) (hn w (hw w hw1)) q)) λ_=>NV (hw w hw0) hh (λm hm=>hw m (hb m hm)) (hn w (hw w hw0)) q
theorem zz{α β:Type}{f:α->β}{l:List α}:bE (l.map f) a b=(bE l a b).map f:=by unfold bE;exact YP (YO (List.map_take)) (YP (YO q7) U)
theorem Ff(hi:ρ[i]? =Z (Z (.ref j)))(he:Ev P C ρ H X e (.str n))(eq:eX (.ref j) (.str n) x H=Z H')(k:bk P C ss ρ H' K R X):bk P C (.s (.v i) e (.c x)::ss) ρ H K R X:=iJ (am (P:=P) (C:=C) (X:=X) _ (ah (P:=P) (C:=C) (X:=X) hi _ (he _ (by exact YP eq k))))
theorem Fg(ha:Ev P C ρ H X a (.bool J))(k:cW P C b ρ H R X):cW P C (.or a b) ρ H R X:=ha _ k
theorem FT{i:Nat}{l:List Nat}(h:H[i]? =Z (.list (l.map ni))):rd H (.ref i)=Z (.lst (l.map ni)):=by haveI q:=fS (m0 (f:=ni) (l:=l) λ_=>Z0);refine(?_:(H[i]?.bind O.lst).bind _=_);exact YP h (Z3 (lj q.1 (aa (ak q.2) (by decide))))
theorem qB{α:Type}{x:α}{l:AL α}(h:∀p∈l,p.1≠n):dE n x l=l++[(n,x)]:=by
 induction l with
 |nil=>rfl
 |cons q l ih=>refine(?_:(if n=q.1 then(q.1,x)::l else q::dE n x l)=_);exact YP (Z2 (h q (.head _)).symm) (YP (ih λp hp=>h p (.tail _ hp)) U)
theorem NB{e:Evt}(h:e.ok π):(π.isW e.nm).isSome=Z5:=by
 induction e with
 |beg _|end_ _|fail _|leave _=>exact h
 |works _ _|lost _ _=>exact Z4 c5 h
 |sent _ _ _=>exact Z4 c5 h.1
theorem gr:∀{v:V},(jv k v).map aq=nms k v:=by
 induction k with
 |zero=>exact U
 |succ k ih=>intro v;refine(?_:aq v::((kids v).flatMap (jv k)).map aq=aq v::(kids v).flatMap (nms k));exact YP vF (Z4 (aq v::·) (Z4 (λf=>List.flatMap f (kids v)) (funext λ_=>ih)))
theorem Df(ho:Ev P C ρ H X a x)(ht:lF H x t=Z5)(k:cW P C b ρ H (λy H'=>iT (bj P mu p [x,y] H') R) X):cW P C (.n t mu p a [b]) ρ H R X:=ho _ ⟨ht,k⟩
theorem zg(h:H[i]? =Z (.list vs))(h':H[j]? =Z (.list ws))(hl:vs.length+ws.length<=aB):bj P J .extend [.ref i,.ref j] H=Z (.none,H.set i (.list (vs++ws))):=by show((H[i]?.bind O.lst).bind λvs=>Z (i,vs)).bind _=_;refine YP h ?_;show(H[j]?.bind O.lst).bind _=_;exact YP h' (Z3 hl)
def Kp(H H':AH):Prop:=H.length<=H'.length/\∀a,a<H.length->H'[a]? =H[a]?
theorem Kp.trans(a:Kp H H₁)(b:Kp H₁ H₂):Kp H H₂:=⟨aa a.1 b.1,λi h=>(b.2 i (bl h a.1)).trans (a.2 i h)⟩
theorem Kp.new:Kp H (H++[o]):=⟨fx,λ_ h=>bB h⟩
theorem Kp.set(a:Kp H H₁)(h:H.length<=r):Kp H (H₁.set r o):=⟨aa a.1 (ak aY.symm),λi hi=>(bt (fq (bl hi h))).trans (a.2 i hi)⟩
theorem qe(k:cW P C a ρ H (λu H'=>iT (bj P Z5 p [u] H') Q) X):cW P C (.p Z5 p [a]) ρ H Q X:=k
theorem f7(hP:Pt π k v):∀{n:Nat} {H:AH} {Q:QE} {X:XE},(jv k v).length<=60->(∀r H',Kp H H'->H.length<=r->H'[r]? =Z (.list (jv k v))->Q (.ref r) H')->aO PL (n+k) 7 [v] H Q X:=by
 induction hP with
 |@wk k nm md=>exact λ{n H Q X} _ q=>cf U U (eR (qe (ah U _ (hE (pO vP) ⟨bV U,cj (av U) (bg (av U) (q _ _ Kp.new (aM _) fU))⟩))))
 |@wd k nm rl m s ps _ _ _ _ h5 _ _ _ ih=>
  intro n H Q X hl q;refine cf U U (eR (qe (ah U _ (hE (pO vP) ⟨bV U,bT (av U) ?_⟩))));refine sN (λits ρ H'=>∃o dn,ρ=[Z (mm nm rl m s ps),Z (.ref H.length),o]/\dn++its=ps/\Kp H H'/\H'[H.length]? =Z (.list (mm nm rl m s ps::dn.flatMap (jv k)))) (v:=.tup ps) (items:=ps) (av U) (λ_ _ _ _=>rfl) (aa h5.2 (by decide)) (iZ Z6 [] U U Kp.new fU) (λx xs ρ' H' hI K' hK=>kR hI λo dn e ed kp hg=>?_) λρ' H' hI=>kR hI λo dn e ed kp hg=>?_
  ·refine YP e ?_;haveI hm:x∈ps:=ed▸aC dn (.head _);haveI e2:(dn++[x]).flatMap (jv k)=dn.flatMap (jv k)++jv k x:=by rw [bz,cI,jx,aJ]
   have e3:(mm nm rl m s ps::dn.flatMap (jv k)).length+(jv k x).length<=60:=by refine aa ?_ hl;refine(?_:_<=(ps.flatMap (jv k)).length+1);rw [<-ed,bz,cI,af,af,dN,bJ];exact aA (aH (ax _ _) _)
   haveI hr:H.length<H'.length:=(cq hg);refine d8 (Df (ah U) (fo hg) (gV (ah U) (ih x hm (aa (bG _ _) e3) λr H'' kp' hr' hg'=>hE (zg ((kp'.2 _ hr).trans hg) hg' (aa e3 (by decide))) (hK _ _ (iZ _ (dn++[x]) U ((au dn [x] xs).trans ed) ((kp.trans kp').set (aM _)) ?_)))));exact YP (bM (bl hr kp'.1)) (YP e2 U)
  ·refine YP e ?_;exact bg (ah U) (q _ _ kp (aM _) ((aJ dn).symm.trans ed▸hg))
theorem nM(Inv:Nat->Fm->AH->Prop)
  (step:∀N ρ' H',Inv N ρ' H'->∃t,Ev P C ρ' H' (λ_ _=>False) c (.bool t)/\(t=Z5->∀K':KS,(∀ρ'' H'' N',N'<N->Inv N' ρ'' H''->K' ρ'' H'')->bk P C body ρ' H' K' R (λ_ _=>False))/\(t=J->bk P C ss ρ' H' K R X))
  (h0:Inv N ρ H):bk P C (.while_ c body::ss) ρ H K R X:=by
 refine BH (N+1) ?_;haveI g:∀M N ρ H,N<M->Inv N ρ H->mU (λρ' H' K₁ K₂=>cW P C c ρ' H' (λv H''=>o9 (gF v) λt=>if t then bk P C body ρ' H'' K₁ R (λ_ _=>False)else K₂ ρ' H'') (λ_ _=>False)) M ρ H (λρ' H'=>bk P C ss ρ' H' K R X):=by
  intro M
  induction M with
  |zero=>exact λN _ _ h=>Z1 h (Nat.not_lt_zero N)
  |succ M ih=>
   intro N ρ H hN hI;refine cu (step N ρ H hI) λt ht yes no=>ht _ ?_;clear ht;induction t with
   |true=>exact yes U _ λρ'' H'' N' hn hI'=>ih N' ρ'' H'' (bl hn (dZ hN)) hI'
   |false=>exact no U
 exact g _ _ _ _ (dc N) h0
theorem in3(h:md∈lN):bj P J (.cop .in_) [.str md,.tup [.str ['a','l','w','a','y','s'],.str ['f','a','u','l','t','e','d'],.str ['n','e','v','e','r']]] H=Z (.bool Z5,H):=
 eV h (λe=>by refine YP e ?_;rfl) λh=>eV h (λe=>by refine YP e ?_;rfl) λh=>by exact YP (in1 h) U
theorem HY(h:rl∈iC):bj P J (.cop .notin) [.str rl,.tup [.str ['o','n','e'],.str ['r','e','s','t'],.str ['a','l','l']]] H=Z (.bool J,H):=
 eV h (λe=>by refine YP e ?_;rfl) λh=>eV h (λe=>by refine YP e ?_;rfl) λh=>by exact YP (in1 h) U
theorem f4w(h1:pY nm)(h2:md∈lN)(q:Q (.bool Z5) H):aO PL (n+2) 4 [vG nm md] H Q X:=
 cf U U (cj (av U) (bg (cg (s:=Z5) (t:=Z5) (cJ (av U) λQ q=>f2 h1 q) λ_=>ay (av U) (av U) (in3 h2)) q))
theorem f4d(q:Q (.bool J) H):aO PL (n+2) 4 [mm nm rl m s ps] H Q X:=cf U U (bT (av U) (bg am q))
theorem f5w(q:Q (.bool J) H):aO PL (n+2) 5 [vG nm md] H Q X:=cf U U (bT (av U) (bg am q))
theorem f5d(h1:pY nm)(h2:rl∈iC)(h3:0<=m/\m<=1000000000)(h4:1<=s/\s<=1000000000)(h5:1<=ps.length/\ps.length<=8)(q:Q (.bool Z5) H):aO PL (n+2) 5 [mm nm rl m s ps] H Q X:=
 cf U U (cj (av U) (cj (dB (s:=J) (t:=J) (bZ (s:=Z5) (cJ (av U) λQ q=>f2 h1 q)) λ_=>ay (av U) (av U) (HY h2)) (cj (dB (s:=J) (t:=J) (bZ (s:=Z5) (io (av U) am am λQ q=>f1 h3 q)) λ_=>bZ (s:=Z5) (io (av U) am am λQ q=>f1 h4 q)) (bg (cg (s:=Z5) (t:=Z5) (av U) λ_=>cc (rS (i:=1) (j:=ps.length) (k:=8) am (av U) am) (by exact YP (decide_eq_true (show(1:Int)<=ps.length from b7.mpr h5.1)) (YP (decide_eq_true (show(ps.length:Int)<=8 from b7.mpr h5.2)) U))) q))))
noncomputable def Ai(v:V):Bool:=!(kids v).isEmpty
theorem Gg(hP:Pt π k v):(∀{n:Nat} {H:AH} {Q:QE} {X:XE},Q (.bool !(Ai v)) H->aO PL (n+2) 4 [v] H Q X)/\∀{n:Nat} {H:AH} {Q:QE} {X:XE},Q (.bool (Ai v)) H->aO PL (n+2) 5 [v] H Q X:=by
 induction hP with
 |wk h1 h2=>exact⟨λq=>f4w h1 h2 q,λq=>f5w q⟩
 |@wd _ _ _ _ _ ps h1 h2 h3 h4 h5=>
  induction ps with
  |nil=>exact Z1 h5.1 (eP 0)
  |cons p ps=>exact⟨λq=>f4d q,λq=>f5d h1 h2 h3 h4 h5 q⟩
abbrev Td:=Nat×Nat×V
noncomputable def Ak(x:Td):V:=.tup [x.2.2,.int x.2.1]
noncomputable abbrev zO(x:Td):List Nm:=nms x.1 x.2.2
theorem wR(hP:Pt π k v):1<=k:=by
 induction hP with
 |wk=>exact aA (aU _)
 |wd=>exact aA (aU _)
theorem wZ(hP:Pt π k v):∀p∈kids v,Pt π (k-1) p:=by
 induction hP with
 |wk=>exact qY
 |wd _ _ _ _ _ _ _ h8=>exact h8
theorem OU(hP:Pt π k v)(h:Ai v=Z5):bj P J .i [v,.int 5] H=Z (.tup (kids v),H):=by
 induction hP with
 |wk=>exact Z1 h ae
 |wd=>exact U
theorem sH(hP:Pt π k v):(kids v).length<=8:=by
 induction hP with
 |wk=>exact aU _
 |wd _ _ _ _ h5=>exact h5.2
theorem EW(h:H[i]? =Z (.dict ks vs)):bj P J .len [.ref i] H=Z (.int ks.length,H):=by show(ET _ (H[i]?.bind O.lst)).map _=_;refine YP h ?_;show((H[i]?.bind O.dct).map _).map _=_;exact YP h U
theorem vM(h:H[i]? =Z (.list vs))(hl:vs.length+ws.length<=aB):bj P J .extend [.ref i,.lst ws] H=Z (.none,H.set i (.list (vs++ws))):=by show((H[i]?.bind O.lst).bind λvs=>Z (i,vs)).bind _=_;exact YP h (Z3 hl)
theorem JD(ho:Ev P C ρ H X a x)(ht:lF H x t=Z5)(k:iT (bj P mu p [x] H) Q):cW P C (.n t mu p a []) ρ H Q X:=ho _ ⟨ht,k⟩
theorem l5(q:Q (.ref H.length) (H++[.dict [] []])):cW P C (.p Z5 (.d []) []) ρ H Q X:=show iT (bj P Z5 (.d []) [] H) Q from hE U q
def IP(π:PI)(v:V)(H:AH)(N:Nat)(ρ:Fm)(H':AH):Prop:=
 ∃(td:List Td) (dn:AL Unit) (o3 o4:Option V),ρ=[Z v,Z (.ref H.length),Z (.ref (H.length+1)),o3,o4]/\(Kp H H'/\H'.length=H.length+2)/\H'[H.length]? =Z (.list (td.map Ak))/\H'[H.length+1]? =Z (dO (λ_=>.bool Z5) dn)/\(dn.map (·.1)++td.flatMap zO).Nodup/\((dn.map (·.1)++td.flatMap zO).length<=60/\(td.flatMap zO).length=N)/\∀x∈td,Pt π x.1 x.2.2/\x.1+x.2.1<=7
theorem Jf{td:List Td}(h:∀x∈td,Pt π x.1 x.2.2/\x.1+x.2.1<=7):td.length<=(td.flatMap zO).length:=by
 induction td with
 |nil=>exact aM _
 |cons x td ih=>rw [cI,af,dN,dC];refine bD ?_ (ih λy hy=>h y (.tail _ hy));exact YP (show zO x=_ from nV (h x (.head _)).1) (aA (aU _))
theorem Iq(k:Kp H H')(h:H'.length=H.length+2):∃o₁ o₂,H'=H++[o₁,o₂]:=by
 have e:H'=H++H'.drop H.length:=by
  refine fX λa=>?_;by_cases ha:a<H.length
  ·refine YP (bB ha) ?_;exact k.2 a ha
  ·exact YP (cB (dR ha)) (YP N0 (YP (gu (dR ha)) U))
 have l:(H'.drop H.length).length=2:=by rw [dg,h,e9]
 cases hD:H'.drop H.length with
 |nil=>rw [hD]at l;exact Z1 l (by decide)
 |cons o₁ D=>
  rw [hD]at l e
  induction D with
  |nil=>exact Z1 l (by decide:¬1=2)
  |cons o₂ D=>exact⟨o₁,o₂,e.trans (Z4 (λt=>H++o₁::o₂::t) (iY.mp (b8 (b8 l))))⟩
theorem f6{k:Nat}(hP:Pt π k v)(hk:k<=7)(hw:Ai v=Z5)(nd:(nms k v).Nodup)(hl:(nms k v).length<=60)(q:∀o₁ o₂,Q (.bool Z5) (H++[o₁,o₂])):aO PL (n+3) 6 [v] H Q X:=by
 haveI e0:[(k,0,v)].flatMap zO=nms k v:=aJ _;refine cf U U (cj (bZ (cJ (ah U) λQ q=>(Gg hP).2 (YP hw q))) (eR (qe (ay (ah U) am (fB gZ) _ (hE (pO vP) ⟨bV U,eR (l5 ⟨bV U,?_⟩)⟩)))));haveI l1:(H++[O.list [V.tup [v,.int 0]]]).length=H.length+1:=af;refine YP l1 (nM (IP π v H) (λN ρ' H' hI=>Do hI λtd dn o3 o4 e kp ht hd hn hN hx=>?_) (uE [(k,0,v)] [] Z6 Z6 U ⟨Kp.new.trans Kp.new,by exact YP af (YP l1 U)⟩ (dT fU) (l1▸fU) (e0.symm▸nd) ⟨e0.symm▸hl,Z4 dQ e0⟩ (c8 ⟨hP,hk⟩)));refine YP e ((bQ _ (ay (bK (ah U) (fJ ht)) am oP) (λhc K' hK=>?_) (λ_=>bg am (j4 (Iq kp.1 kp.2) λo₁ o₂ e=>e▸q o₁ o₂))));rcases List.eq_nil_or_concat td with e|⟨ini,x,e⟩
 ·clear hx ht hn hN;subst e;exact Z1 hc (by decide)
 haveI e:=e.trans (List.concat_eq_append ..);subst e;have hP:=hx x (aC _ (.head _));have f1:(ini++[x]).flatMap zO=ini.flatMap zO++(aq x.2.2::(kids x.2.2).flatMap (nms (x.1-1))):=by rw [bz,cI,jx,aJ,show zO x=_ from nV hP.1]
 haveI f2:((kids x.2.2).map λc=>((x.1-1,x.2.1+1,c):Td)).flatMap zO=(kids x.2.2).flatMap (nms (x.1-1)):=ir ..;haveI f3:∀td',td'=(kids x.2.2).map (λc=>((x.1-1,x.2.1+1,c):Td))->((dn++[(aq x.2.2,())]).map (·.1)++(ini++td').flatMap zO).Perm (dn.map (·.1)++(ini++[x]).flatMap zO):=λtd' e=>by rw [e,f1,bz,f2,aN,au];exact List.Perm.append_left _ (QZ.symm:(aq x.2.2::(ini.flatMap zO++(kids x.2.2).flatMap (nms (x.1-1)))).Perm _)
 rw [aN]at ht;haveI hlt:=(cq ht);haveI hlt':=(cq hd);have h60:(ini.map Ak).length+1<=60:=by haveI:=aa (Jf hx) (aa (bG _ _) (aa (ak af.symm) hN.1));rw [af]at this;rw [aj];exact this
 have hin:=λz=>(bv.mp hn).2.2 _ z (aq x.2.2) (f1▸aC _ (.head _)) U;have hdl:dn.length+1<=60:=by haveI:=hN.1;rw [f1,af,af,aj,dN]at this;exact aa (aH (aa (aA (aU _)) (bG _ _)) _) this
 haveI ha:=jf (aa (ak (dC x.2.1 1)) (aa (aK (wR hP.1) _) hP.2));have fin:∀H3,(Kp H H3/\H3.length=H.length+2)->H3[H.length]? =Z (.list (ini.map Ak++(kids x.2.2).map λc=>Ak (x.1-1,x.2.1+1,c)))->H3[H.length+1]? =Z (dO (λ_=>.bool Z5) (dn++[(aq x.2.2,())]))->K' [Z v,Z (.ref H.length),Z (.ref (H.length+1)),Z x.2.2,Z (.int x.2.1)] H3:=λH3 k3 t3 d3=>by
  refine hK _ H3 _ ?_ (uE (ini++(kids x.2.2).map (λc=>((x.1-1,x.2.1+1,c):Td))) (dn++[(aq x.2.2,())]) _ _ U k3 ?_ d3 ((f3 _ U).nodup_iff.mpr hn) ⟨(f3 _ U).length_eq▸hN.1,rfl⟩ (bR (λy hy=>hx y (aR _ hy)) λy hy=>ao (cL hy) λc hc e=>e▸⟨wZ hP.1 c hc,?_⟩))
  ·exact YP (YO (hN.2)) (YP f1 (YP bz (YP f2 (YP af (YP af (dc _))))))
  ·exact YP t3 (YP aN (YP bO U))
  ·exact aa (ak ((bJ (x.1-1) x.2.1 1).trans (Z4 (·+x.2.1) (gL (wR hP.1))))) hP.2
 haveI ht1:(H'.set H.length (.list (ini.map Ak)))[H.length]? =Z (.list (ini.map Ak)):=bM hlt;haveI hd1:(H'.set H.length (.list (ini.map Ak)))[H.length+1]? =Z (dO (λ_=>.bool Z5) dn):=(bt (dk (dc _))).trans hd;haveI e2:=lz (n:=aq x.2.2) (x:=()) hd1 (aa (bh _) (aa hdl (by decide)));rw [qB λp hp z=>hin (cQ.mpr (aG p hp z))]at e2;haveI ht2:((H'.set H.length (.list (ini.map Ak))).set (H.length+1) (dO (λ_=>.bool Z5) (dn++[(aq x.2.2,())])))[H.length]? =Z (.list (ini.map Ak)):=(bt (fq (dc _))).trans ht1;haveI JH:((H'.set H.length (.list (ini.map Ak))).set (H.length+1) (dO (λ_=>.bool Z5) (dn++[(aq x.2.2,())])))[H.length+1]? =Z (dO (λ_=>.bool Z5) (dn++[(aq x.2.2,())])):=bM (aY.symm▸hlt');haveI k2:Kp H ((H'.set H.length (.list (ini.map Ak))).set (H.length+1) (dO (λ_=>.bool Z5) (dn++[(aq x.2.2,())]))):=(kp.1.set (aM _)).set (bh _);haveI l2:((H'.set H.length (.list (ini.map Ak))).set (H.length+1) (dO (λ_=>.bool Z5) (dn++[(aq x.2.2,())]))).length=H.length+2:=aY.trans (aY.trans kp.2);refine sQ (JD (ah U) (fo ht) (hE (Dh ht (aa h60 (by decide))) (?_:bk PL (aO PL (n+2)) [_,_,_,_] [Z v,Z (.ref H.length),Z (.ref (H.length+1)),Z x.2.2,Z (.int x.2.1)] _ _ Q _)));refine cj (dB (cc (ay (ah U) am oP) (Z4 V.bool (decide_eq_false (cU.mpr (b7.mpr ha))))) λ_=>cc (cg (bZ (cJ (ah U) λQ q=>(Gg hP.1).1 q)) λ_=>bZ (cJ (ah U) λQ q=>(Gg hP.1).2 q)) (by cases Ai x.2.2<;>rfl)) (cj (dB (cc (ay (mI hP.1 rfl) (ah U) (vX hd1)) (Z4 V.bool (cr.mpr λz=>hin (bn.mp z)))) λ_=>cc (ay (bK (ah U) (EW hd1)) am (gq d0 d0)) ?_) (Ff U (mI hP.1 rfl) e2 (bS (cJ (ah U) λQ q=>(Gg hP.1).2 q) (λhb=>?_) λhb=>?_)))
 ·refine Z4 V.bool (decide_eq_false λz:((dn.map (·.1)).length:Int)=60=>?_);rw [aj]at z;exact(by decide:¬60+1<=60) ((dX z)▸hdl)
 ·refine d8 (Df (ah U) (fo ht2) (oB (ay (ah U) am (OU hP.1 hb)) (Z4 Z (oh _).symm) (aa (sH hP.1) (by decide)) (λc _=>ay (ah U) (av U) (fB gZ)) _ (hE (vM ht2 ?_) (fin _ ⟨k2.set (aM _),aY.trans l2⟩ ?_ ?_))))
  ·rw [aj (as:=kids x.2.2)];exact aa (bD (aa (bh _) h60) (sH hP.1)) (by decide)
  ·exact bM (cq ht2)
  ·exact (bt (dk (dc _))).trans JH
 ·haveI ek:=vC.mp (dz _▸hb);refine fin _ ⟨k2,l2⟩ ?_ JH;exact YP ht2 (YP ek (Z4 (λt=>Z (O.list t)) (aJ _).symm))
section
variable {B Y:AH}
theorem sa:(B++Y)[B.length+j]? =Y[j]?:=by rw [cB (ax _ _),e9]
theorem LH:(B++Y).set (B.length+j) o=B++Y.set j o:=by rw [jr _ _ (ax _ _),e9]
end
theorem Nz(h0:Y[0]? =Z (.ns ks vs))(h1:Y[1]? =Z (.inst 0 B.length)):gU (B++Y) (.ref (B.length+1))=Z (B.length,ks,vs):=by show((B++Y)[B.length+1]?.bind O.ins).bind _=_;refine YP sa (YP h1 ?_);show((B++Y)[B.length+0]?.bind O.nms).map _=_;refine YP sa (YP h0 ?_);rfl
theorem MC(h0:Y[0]? =Z (.ns ks vs))(h1:Y[1]? =Z (.inst 0 B.length))(hl:ks.length<=1000):iQ (.ref (B.length+1)) nm x (B++Y)=Z (B++Y.set 0 (.ns (eQ nm x ks vs).1 (eQ nm x ks vs).2)):=by show(gU (B++Y) (.ref (B.length+1))).bind _=_;refine YP (Nz h0 h1) ?_;show(if ks.length<=1000 then Z ((B++Y).set (B.length+0) _)else Z6)=_;exact YP (Z3 hl) (YP LH U)
theorem Li(hρ:ρ[0]? =Z (Z (.ref (B.length+1))))(he:Ev P C ρ (B++Y) X e x)(h0:Y[0]? =Z (.ns ks vs))(h1:Y[1]? =Z (.inst 0 B.length))(hl:ks.length<=1000)(k:bk P C ss ρ (B++Y.set 0 (.ns (eQ nm x ks vs).1 (eQ nm x ks vs).2)) K R X):bk P C (.setAttr (.v 0) nm e::ss) ρ (B++Y) K R X:=
 he _ (ah (P:=P) (C:=C) (X:=X) hρ _ (by exact YP (MC h0 h1 hl) k))
theorem mM(hρ:ρ[0]? =Z (Z (.ref (B.length+1))))(he:∀Q:QE,Q (.ref (B++Y).length) (B++Y++[o])->cW P C e ρ (B++Y) Q X)(h0:(Y++[o])[0]? =Z (.ns ks vs))(h1:(Y++[o])[1]? =Z (.inst 0 B.length))(hl:ks.length<=1000)(k:bk P C ss ρ (B++(Y++[o]).set 0 (.ns (eQ nm (.ref (B.length+Y.length)) ks vs).1 (eQ nm (.ref (B.length+Y.length)) ks vs).2)) K R X):bk P C (.setAttr (.v 0) nm e::ss) ρ (B++Y) K R X:=
 he _ (ah (P:=P) (C:=C) (X:=X) hρ _ (by rw [au,af,MC h0 h1 hl];exact k))
theorem FQ(ha:Ev P C ρ H X a (.str n))(q:Q (.ref H.length) (H++[.dict [n] [.none]])):cW P C (.p Z5 .mkdict1 [a,.c .none]) ρ H Q X:=ha _ (hE U q:iT (bj P Z5 .mkdict1 [.str n,.none] H) Q)
noncomputable def Ag(b:Nat)(v:V):List V:=[v,.ref (b+4),.ref (b+5),.ref (b+6),.ref (b+7),.ref (b+8),.ref (b+9),.ref (b+10)]
noncomputable def objs(n:Nm):List O:=[.list [],.dict [] [],.dict [n] [.none],.dict [] [],.dict [] [],.dict [] [],.dict [] []]
noncomputable def yS(b:Nat)(v:V)(n:Nm)(o₁ o₂:O)(m:Nat):AH:=.ns (hk.take m) ((Ag b v).take m)::.inst 0 b::o₁::o₂::(objs n).take (m-1)
theorem M8(hP:Pt π k v)
  (w:bk PL C (qg.body.drop 9) [Z (.ref (B.length+1)),Z v,Z6] (B++yS B.length v (aq v) o₁ o₂ 8) K Q X) :
  bk PL C (qg.body.drop 1) [Z (.ref (B.length+1)),Z v,Z6] (B++[.ns [] [],.inst 0 B.length,o₁,o₂]) K Q X:=
 Li U (ah U) U U (aQ U) (show bk PL C (qg.body.drop 2) _ (B++yS B.length v (aq v) o₁ o₂ 1) K Q X from mM U (λQ q=>lH q) U U (aQ U) (show bk PL C (qg.body.drop 3) _ (B++yS B.length v (aq v) o₁ o₂ 2) K Q X from mM U (λQ q=>l5 q) U U (aQ U) (show bk PL C (qg.body.drop 4) _ (B++yS B.length v (aq v) o₁ o₂ 3) K Q X from mM U (λQ q=>FQ (mI hP U) q) U U (aQ U) (show bk PL C (qg.body.drop 5) _ (B++yS B.length v (aq v) o₁ o₂ 4) K Q X from mM U (λQ q=>l5 q) U U (aQ U) (show bk PL C (qg.body.drop 6) _ (B++yS B.length v (aq v) o₁ o₂ 5) K Q X from mM U (λQ q=>l5 q) U U (aQ U) (show bk PL C (qg.body.drop 7) _ (B++yS B.length v (aq v) o₁ o₂ 6) K Q X from mM U (λQ q=>l5 q) U U (aQ U) (mM U (λQ q=>l5 q) U U (aQ U) w:bk PL C (qg.body.drop 8) _ (B++yS B.length v (aq v) o₁ o₂ 7) K Q X)))))))
structure Cl(B:AH)(L:List (Nat×O))(H:AH):Prop where
 nd:(L.map (·.1)).Nodup
 cell:∀p∈L,H[p.1]? =Z p.2/\B.length<=p.1
 pre:∀a,a<B.length->H[a]? =B[a]?
theorem Cl.get(h:Cl B L H)(k:Nat)(hk:L[k]? =Z p):H[p.1]? =Z p.2:=(h.cell p (aI hk)).1
theorem Cl.set(h:Cl B L H)(k:Nat)(hk:L[k]? =Z (a,o)):Cl B (L.set k (a,o')) (H.set a o'):=by
 have ha:=h.cell _ (aI hk);haveI hlt:a<H.length:=(cq ha.1);have hkl:k<L.length:=(cq hk);haveI hm:(L.set k (a,o')).map (·.1)=L.map (·.1):=by
  refine YP Gy (fX λj=>(YP fY ?_));by_cases q:k=j
  ·subst q;refine YP (Z3 U) (YP aV (YP hk ?_));exact Z3 (by rw [aj];exact hkl)
  ·exact YP (Z2 q) U
 refine⟨hm▸h.nd,λp hp=>?_,λb hb=>(bt (fq (bl hb ha.2))).trans (h.pre b hb)⟩;obtain⟨j,hj⟩:=c6 hp;rw [fY]at hj;by_cases q:k=j
 ·subst q;rw [Z3 U,Z3 hkl]at hj;haveI hp:(a,o')=p:=ai hj;refine YP (YO hp) ?_;exact⟨bM hlt,ha.2⟩
 ·rw [Z2 q]at hj;haveI hp:=h.cell p (aI hj);refine⟨(bt λz=>?_).trans hp.1,hp.2⟩;haveI h1:(L.map (·.1))[k]? =Z a:=by exact YP aV (YP hk U)
  haveI h2:(L.map (·.1))[j]? =Z a:=by exact YP aV (YP hj (YP z U))
  exact q ((gX (cq h1) h.nd).mp (h1.trans h2.symm))
theorem Cl.lt(h:Cl B L H)(hp:p∈L):p.1<H.length:=(c7.mp (h.cell p hp).1).1
theorem Cl.new(h:Cl B L H)(o:O)(hb:B.length<=H.length):Cl B (L++[(H.length,o)]) (H++[o]):=by refine⟨?_,bR (λp hp=>⟨dT (h.cell p hp).1,(h.cell p hp).2⟩) (c8 ⟨fU,hb⟩),λa ha=>(bB (bl ha hb)).trans (h.pre a ha)⟩;refine YP aN (bv.mpr (bu h.nd (fc.mpr ⟨ba,dA⟩) (λa ha b hb=>?_)));exact YP (in1 hb) (ao (cL ha) λp hp e=>e▸dk (h.lt hp))
noncomputable def rk(x:V):V:=x
noncomputable def NL(b r:Nat)(v:V)(all:List V)(ns:List Nm)(pv ch:AL V)(qu:AL Nat):List (Nat×O):=
 [(b,.ns (hk.take 8) (Ag b v)),(b+1,.inst 0 b),(b+4,.list (ns.map V.str)),(b+5,dO rk pv),(b+6,dO rk ch),(b+7,.dict [] []),(b+8,.dict [] []),(b+9,.dict [] []),(b+10,dO V.ref qu),(r,.list all)]++qu.map λp=>(p.2,.list [])
section
variable {B H:AH}
theorem G9(g0:H[B.length]? =Z (.ns (hk.take 8) (Ag B.length v)))(g1:H[B.length+1]? =Z (.inst 0 B.length)):gU H (.ref (B.length+1))=Z (B.length,hk.take 8,Ag B.length v):=by show(H[B.length+1]?.bind O.ins).bind _=_;refine YP g1 ?_;show(H[B.length]?.bind O.nms).map _=_;refine YP g0 ?_;rfl
theorem ox(g0:H[B.length]? =Z (.ns (hk.take 8) (Ag B.length v)))(g1:H[B.length+1]? =Z (.inst 0 B.length))(h0:ρ[0]? =Z (Z (.ref (B.length+1))))(e:gx nm (hk.take 8) (Ag B.length v)=Z x):Ev P C ρ H X (sS nm) x:=bK (ah h0) (by refine(?_:((gU H (.ref (B.length+1))).bind λq=>(gx nm q.2.1 q.2.2).map (·,H))=_);refine YP (G9 g0 g1) ?_;exact Z4 (bX (·,H)) e)
end
noncomputable def Ac(w:V)(ps:List V)(ch:AL V):AL V:=ps.foldl (λc p=>dE (aq p) w c) ch
theorem xM:∀{ch:AL V},(Ac w ps ch).length<=ch.length+ps.length:=by
 induction ps with
 |nil=>exact λ{ch}=>aM _
 |cons p ps ih=>exact λ{ch}=>aa ih (aa (aK j9 _) (ak (by rw [bL,dC 1];rfl)))
theorem Om(h:Cl B (NL B.length r v all ns pv ch qu) H)(hb:B.length<=H.length)(h1:ns.length<=60)(h2:pv.length<=60)(h3:qu.length<=60)(hn:∀p∈qu,p.1≠nm)
  (q:∀a H',Cl B (NL B.length r v all (ns++[nm]) (dE nm (vG nm md) pv) ch (qu++[(nm,a)])) H'->B.length<=H'.length->Q .none H'):aO PL (n+1) 52 [.ref (B.length+1),vG nm md] H Q X:=by
 haveI sz:∀{j:Nat},j<=60->j<=aB:=λh=>aa h (by decide);refine cf U U (kG (ox (h.get 0 rfl) (h.get 1 rfl) U U) (fo (h.get 2 rfl)) (av U) (hE (fL (h.get 2 rfl) (aa (ak (aj _)) (sz h1))) ?_));have c1:Cl B (NL B.length r v all (ns++[nm]) pv ch qu) (H.set (B.length+4) (.list (ns.map V.str++[.str nm]))):=by haveI c:=h.set 2 (o':=.list (ns.map V.str++[.str nm])) U;rw [show ns.map V.str++[.str nm]=(ns++[nm]).map V.str from by exact YP aN U]at c ⊢;exact c
 refine iJ (ah U _ (ox (c1.get 0 rfl) (c1.get 1 rfl) U U _ (av (v:=.str nm) U _ ?_)));haveI e1:eX (.ref (B.length+5)) (.str nm) (vG nm md) _=_:=lz (val:=rk) (x:=vG nm md) (c1.get 3 rfl) (sz h2);refine YP e1 ?_;haveI c2:Cl B (NL B.length r v all (ns++[nm]) (dE nm (vG nm md) pv) ch qu) _:=c1.set 3 (o':=dO rk (dE nm (vG nm md) pv)) U;have l2:∀{a b:Nat} {o o':O},B.length<=((H.set a o).set b o').length:=λ{a b o o'}=>aa hb (ak (aY.trans aY).symm);refine bT (av U) (iJ (lH (ox ((c2.new (.list []) l2).get 0 rfl) ((c2.new (.list []) l2).get 1 rfl) U U _ (av (v:=.str nm) U _ ?_))));haveI e2:eX (.ref (B.length+10)) (.str nm) (.ref _) _=_:=lz (n:=nm) (val:=V.ref) (x:=((H.set (B.length+4) (.list (ns.map V.str++[.str nm]))).set (B.length+5) (dO rk (dE nm (vG nm md) pv))).length) ((c2.new (.list []) l2).get 8 rfl) (sz h3);refine YP e2 (YP (qB hn) ?_);haveI c3:=(c2.new (.list []) l2).set 8 (o':=dO V.ref (qu++[(nm,((H.set (B.length+4) (.list (ns.map V.str++[.str nm]))).set (B.length+5) (dO rk (dE nm (vG nm md) pv))).length)])) U;refine q ((H.set (B.length+4) (.list (ns.map V.str++[.str nm]))).set (B.length+5) (dO rk (dE nm (vG nm md) pv))).length _ ?_ (aa l2 (aa fx (ak aY.symm)));unfold NL;exact YP (aN (l₁:=qu)) c3
theorem OL(h8:∀p∈ps,Pt π k p)(h5:ps.length<=8)(h:Cl B (NL B.length r v all ns pv ch qu) H)(hb:B.length<=H.length)(h1:ns.length<=60)(h2:pv.length<=60)(h3:ch.length<=900)
  (q:∀H',Cl B (NL B.length r v all (ns++[nm]) (dE nm (mm nm rl m s ps) pv) (Ac (mm nm rl m s ps) ps ch) qu) H'->B.length<=H'.length->Q .none H'):aO PL (n+1) 52 [.ref (B.length+1),mm nm rl m s ps] H Q X:=by
 haveI sz:∀{j:Nat},j<=60->j<=aB:=λh=>aa h (by decide);refine cf U U (kG (ox (h.get 0 rfl) (h.get 1 rfl) U U) (fo (h.get 2 rfl)) (av U) (hE (fL (h.get 2 rfl) (aa (ak (aj _)) (sz h1))) ?_));have c1:Cl B (NL B.length r v all (ns++[nm]) pv ch qu) (H.set (B.length+4) (.list (ns.map V.str++[.str nm]))):=by haveI c:=h.set 2 (o':=.list (ns.map V.str++[.str nm])) U;rw [show ns.map V.str++[.str nm]=(ns++[nm]).map V.str from by exact YP aN U]at c ⊢;exact c
 refine iJ (ah U _ (ox (c1.get 0 rfl) (c1.get 1 rfl) U U _ (av (v:=.str nm) U _ ?_)));haveI e1:eX (.ref (B.length+5)) (.str nm) (mm nm rl m s ps) _=_:=lz (val:=rk) (x:=mm nm rl m s ps) (c1.get 3 rfl) (sz h2);refine YP e1 ?_;haveI c2:Cl B (NL B.length r v all (ns++[nm]) (dE nm (mm nm rl m s ps) pv) ch qu) _:=c1.set 3 (o':=dO rk (dE nm (mm nm rl m s ps) pv)) U;haveI l2:∀{a b:Nat} {o o':O},B.length<=((H.set a o).set b o').length:=λ{a b o o'}=>aa hb (ak (aY.trans aY).symm);refine cj (av U) (sN (λits ρ H'=>∃o dn,ρ=[Z (.ref (B.length+1)),Z (mm nm rl m s ps),o]/\dn++its=ps/\Cl B (NL B.length r v all (ns++[nm]) (dE nm (mm nm rl m s ps) pv) (Ac (mm nm rl m s ps) dn ch) qu) H'/\B.length<=H'.length) (v:=.tup ps) (items:=ps) (av U) (λ_ _ _ _=>rfl) (aa h5 (by decide)) (iZ Z6 [] U U c2 l2) (λx xs ρ' H' hI K' hK=>kR hI λo dn e ed c l=>?_) λρ' H' hI=>kR hI λo dn e ed c l=>q H' ((aJ dn).symm.trans ed▸c) l);refine YP e ?_;haveI hm:x∈ps:=ed▸aC dn (.head _);refine iJ (ah U _ (ox (c.get 0 rfl) (c.get 1 rfl) U U _ (mI (h8 x hm) U _ ?_)));haveI hl:(Ac (mm nm rl m s ps) dn ch).length<=aB:=aa xM (aa (bD h3 (aa (ed▸fx) h5)) (by decide));haveI e2:eX (.ref (B.length+6)) (.str (aq x)) (mm nm rl m s ps) _=_:=lz (val:=rk) (x:=mm nm rl m s ps) (c.get 4 rfl) hl;refine YP e2 (hK _ _ (iZ _ (dn++[x]) U ((au dn [x] xs).trans ed) ?_ (aa l (ak aY.symm))));exact YP (show Ac (mm nm rl m s ps) (dn++[x]) ch=dE (aq x) (mm nm rl m s ps) (Ac (mm nm rl m s ps) dn ch)from bN ..) (c.set 4 (o':=dO rk (dE (aq x) (mm nm rl m s ps) (Ac (mm nm rl m s ps) dn ch))) U)
noncomputable def vH(x:V):List Nm:=if Ai x then []else [aq x]
theorem f30(hP:Pt π k x)(h:Cl B (NL B.length r v all ns pv ch qu) H)(hb:B.length<=H.length)(h1:ns.length<=60)(h2:pv.length<=60)(h3:ch.length<=900)(h4:qu.length<=60)(hn:∀p∈qu,p.1≠aq x)
  (q:∀qu' H',Cl B (NL B.length r v all (ns++[aq x]) (dE (aq x) x pv) (Ac x (kids x) ch) qu') H'->B.length<=H'.length->qu'.map (·.1)=qu.map (·.1)++vH x->Q .none H'):aO PL (n+1) 52 [.ref (B.length+1),x] H Q X:=by
 induction hP with
 |@wk _ nm=>exact Om h hb h1 h2 h4 hn λa H' c l=>q (qu++[(nm,a)]) H' c l aN
 |@wd _ _ _ _ _ ps _ _ _ _ h5 _ _ h8=>
  refine OL h8 h5.2 h hb h1 h2 h3 λH' c l=>q qu H' c l ?_;clear q hn h8 c;induction ps with
  |nil=>exact Z1 h5.1 (eP 0)
  |cons p ps=>exact(aJ _).symm
noncomputable def Gf(dn:List V):AL V:=dn.foldl (λc p=>dE (aq p) p c) []
noncomputable def Ae(n0:Nm)(dn:List V):AL V:=dn.foldl (λc p=>Ac p (kids p) c) [(n0,.none)]
def NI(B:AH)(v:V)(r:Nat)(all:List V)(n0:Nm)(its:List V)(ρ:Fm)(H:AH):Prop:=
 ∃o dn qu,ρ=[Z (.ref (B.length+1)),Z v,o]/\dn++its=all/\Cl B (NL B.length r v all (dn.map aq) (Gf dn) (Ae n0 dn) qu) H/\qu.map (·.1)=dn.flatMap vH/\(B.length<=H.length/\(Gf dn).length<=dn.length/\(Ae n0 dn).length<=8*dn.length+1)
theorem Fz{dn:List V}{a:Nm}(h:a∈dn.flatMap vH):a∈dn.map aq:=ao (kT h) λx hx ha=>by
 unfold vH at ha;by_cases e:Ai x=Z5
 ·rw [Z3 e]at ha;exact Z1 ha ba
 ·rw [Z2 e]at ha;exact in1 ha▸bx hx
theorem xA{dn:List V}:(dn.flatMap vH).length<=dn.length:=by
 induction dn with
 |nil=>exact aM _
 |cons x dn ih=>
  rw [cI,af,dN,dC];refine bD ih ?_;unfold vH;by_cases e:Ai x=Z5
  ·exact YP (Z3 e) (aU _)
  ·exact YP (Z2 e) (aM _)
theorem Ll{n0:Nm}{ss:List St}{e:Ex}{H0:AH}(he:∀Q:QE,(∀r H,Cl B (NL B.length r v all [] [] [(n0,.none)] []) H->B.length<=H.length->Q (.ref r) H)->cW PL (aO PL (n+1)) e [Z (.ref (B.length+1)),Z v,Z6] H0 Q X)(hP:∀x∈all,∃k,Pt π k x)(nd:(all.map aq).Nodup)(hl:all.length<=60)
  (q:∀r o qu H',Cl B (NL B.length r v all (all.map aq) (Gf all) (Ae n0 all) qu) H'->qu.map (·.1)=all.flatMap vH->B.length<=H'.length->bk PL (aO PL (n+1)) ss [Z (.ref (B.length+1)),Z v,o] H' K Q X) :
  bk PL (aO PL (n+1)) (.f J (.inl 2) e [(.e (.m 0 52 ['n','o','t','e'] (.v 0) [.v 2]))]::ss) [Z (.ref (B.length+1)),Z v,Z6] H0 K Q X:=by
 refine sK (he _ λr H h hb=>tf (rev:=J) (tgt:=.inl 2) (v:=.ref r) (l:=all) (f:=λx=>x) (st:=λx ρ=>ρ.set 2 (Z x)) (λ_ _=>rfl) (NI B v r all n0) (λ_ _ _ q=>qj q λo dn qu _ _ c _ _=>(i6 (c.get 9 rfl)).trans (Z4 Z (oh all).symm)) (aa hl (by decide)) (Hg Z6 [] [] U U h U hb (aM _) (aM _)) (λx xs ρ' H' hI K' hK=>qj hI λo dn qu e ed c hq l=>?_) λρ' H' hI=>qj hI λo dn qu e ed c hq l=>?_)
 ·refine YP e ?_;haveI hd:dn.length+1<=60:=by rw [<-ed,af]at hl;exact aa (aH (aA (aU xs.length)) _) hl
  haveI nx:aq x∉dn.map aq:=λz=>by rw [<-ed,aN]at nd;exact(bv.mp nd).2.2 _ z _ (.head _) U
  haveI e1:Gf (dn++[x])=dE (aq x) x (Gf dn):=bN ..;haveI e2:Ae n0 (dn++[x])=Ac x (kids x) (Ae n0 dn):=bN ..;refine(hP x (ed▸aC dn (.head _))).elim λk hP=>?_;refine d8 (ah (P:=PL) (C:=aO PL (n+1)) (X:=λ_ _=>False) (ρ:=[Z (.ref (B.length+1)),Z v,Z x]) (i:=0) U (λv' H₁=>iI H₁ 0 ['n','o','t','e'] v'=Z5/\iE PL (aO PL (n+1)) [.v 2] [Z (.ref (B.length+1)),Z v,Z x] H₁ (λvs H'=>aO PL (n+1) 52 (v'::vs) H' (λ_ H'=>K' [Z (.ref (B.length+1)),Z v,Z x] H') (λ_ _=>False)) (λ_ _=>False)) ⟨?_,ah (P:=PL) (C:=aO PL (n+1)) (X:=λ_ _=>False) U _ (f30 hP c l.1 ?_ ?_ ?_ ?_ ?_ λqu' H'' c' l' hq'=>hK _ _ (Hg _ (dn++[x]) qu' U ((au dn [x] xs).trans ed) ?_ ?_ l' ?_ ?_))⟩)
  ·show (gU H' (.ref (B.length+1))).any _=Z5;exact YP (G9 (c.get 0 rfl) (c.get 1 rfl)) U
  ·rw [aj];exact aa (bh _) hd
  ·exact aa l.2.1 (aa (bh _) hd)
  ·exact aa l.2.2 (aa (aA (bH 8 (aa (bh _) hd))) (by decide))
  ·exact YP (YO (aj (f:=(·.1)))) (YP hq (aa xA (aa (bh _) hd)))
  ·exact λp hp z=>nx (z▸Fz (hq▸bx hp))
  ·exact YP aN (YP e1 (YP e2 c'))
  ·rw [hq',hq,bz,cI,jx,aJ]
  ·exact YP e1 (YP af (aa j9 (aA l.2.1)))
  ·exact YP e2 (YP af (aa xM (aa (bD l.2.2 (sH hP)) (ak (bJ _ _ _)))))
 ·clear hI;subst e;haveI ed:dn=all:=(aJ dn).symm.trans ed;clear nd hl he hP h;subst ed;exact q r o qu H' c hq l.1
theorem J1{l:List V}:∀{c:AL V},(c.map (·.1)++l.map aq).Nodup->l.foldl (λc p=>dE (aq p) p c) c=c++l.map λp=>(aq p,p):=by
 induction l with
 |nil=>exact λ{c} _=>(aJ c).symm
 |cons p l ih=>intro c nd;haveI e:dE (aq p) p c=c++[(aq p,p)]:=qB λq hq z=>(bv.mp nd).2.2 _ (bx hq) _ (.head _) z;refine(?_:l.foldl _ (dE (aq p) p c)=_);rw [e,ih (by rw [aN,au];exact nd),au];rfl
theorem Jd(nd:(l.map aq).Nodup):Gf l=l.map λp=>(aq p,p):=J1 nd
theorem Ee:∀{c:AL V},fb m (Ac w ps c)=if m∈ps.map aq then Z w else fb m c:=by
 induction ps with
 |nil=>exact λ{c}=>(Z2 ba).symm
 |cons p ps ih=>
  intro c;refine(ih (c:=dE (aq p) w c)).trans ?_;refine YP lK ?_;by_cases h:m∈ps.map aq
  ·exact YP (Z3 h) (YP (Z3 (.tail _ h)) U)
  ·refine YP (Z2 h) ?_;by_cases e:m=aq p
   ·exact YP (Z3 e) (YP (Z3 (e▸.head _)) U)
   ·exact YP (Z2 e) ((Z2 λz=>eV z e h).symm)
theorem BL{m:Nm}{w:V}{l:List V}(h:∀x∈l,m∈(kids x).map aq->x=w):∀{c:AL V},(fb m c=Z w\/∃x∈l,m∈(kids x).map aq)->fb m (l.foldl (λc p=>Ac p (kids p) c) c)=Z w:=by
 induction l with
 |nil=>exact λq=>q.elim id λq=>ao q λx hx _=>Z1 hx ba
 |cons p l ih=>
  intro c q;refine ih (λx hx=>h x (.tail _ hx)) ?_;refine YP Ee ?_;by_cases e:m∈(kids p).map aq
  ·exact YP (Z3 e) (.inl (Z4 Z (h p (.head _) e)))
  ·exact YP (Z2 e) (q.imp id λq=>ao q λx hx hm=>eV hx (λz=>Z1 (z▸hm) e) λhx=>(aG x hx hm))
theorem sU(hP:Pt π k w)(hp:p∈kids w):π.ch (aq p)=Z (aq w):=by
 induction hP with
 |wk=>exact Z1 hp ba
 |wd _ _ _ _ _ _ h7=>exact(h7 _).mpr (aG p hp U)
theorem Gn(hP:Pt π k w):π.isW (aq w)=Z (Ai w):=by
 induction hP with
 |wk _ _ h=>exact h
 |@wd _ _ _ _ _ ps _ _ _ _ h5 h6=>
  induction ps with
  |nil=>exact Z1 h5.1 (eP 0)
  |cons p ps=>exact h6
theorem Mn(hP:Pt π k w):pY (aq w):=by
 induction hP with
 |wk h=>exact h
 |wd h=>exact h
theorem ot:∀{k:Nat} {v:V},Pt π k v->∀x∈jv k v,∃k,Pt π k x:=by
 intro k
 induction k with
 |zero=>exact λ_=>qY
 |succ k ih=>exact λhP=>eD ⟨_,hP⟩ λx hx=>ao (kT hx) λp hp hx=>ih (wZ hP p hp) x hx
theorem A7{l:List V}(nd:(l.map aq).Nodup)(hx:x∈l)(hw:w∈l)(e:aq x=aq w):x=w:=by
 induction l with
 |nil=>exact Z1 hx ba
 |cons y l ih=>have n:=kC nd;exact eV hx (λe1=>eV hw (λe2=>e1.trans e2.symm) λh=>Z1 (bx h) λz=>n.1 (e1▸e.symm▸z)) λh=>eV hw (λe2=>Z1 (bx h) λz=>n.1 (e2▸e▸z)) λh'=>ih n.2 h h'
theorem FZ{l:List V}(hp:∀x∈l,∃k,Pt π k x){m:Nm}(hn:(π.isW m).isSome=Z5->m∈l.map aq):m∈l.flatMap vH↔π.isW m=Z J:=by
 refine⟨λh=>ao (kT h) λx hx hm=>(hp x hx).elim λk hk=>?_,λh=>ao (cL (hn (Z4 c5 h))) λx hx e=>(hp x hx).elim λk hk=>b0.mpr (aG x hx ?_)⟩
 ·unfold vH at hm;by_cases e:Ai x=Z5
  ·rw [Z3 e]at hm;exact Z1 hm ba
  ·rw [Z2 e]at hm;exact YP (in1 hm) (YP (Gn hk) (YP (cr.mpr e) U))
 ·unfold vH;have z:=(Gn hk).symm.trans (e.symm▸h);exact YP (ai z) (YP (YO e) (.head _))
theorem HW{l:List V}(nd:(l.map aq).Nodup):(l.flatMap vH).Nodup:=by
 refine List.Nodup.sublist (?_:(l.flatMap vH).Sublist (l.map aq)) nd;clear nd
 induction l with
 |nil=>exact .slnil
 |cons x l ih=>
  refine YP cI ?_;unfold vH;by_cases e:Ai x=Z5
  ·exact YP (Z3 e) (.cons _ ih)
  ·exact YP (Z2 e) (.cons_cons _ ih)
noncomputable def gB(B:AH):List (Nat×O):=B.zipIdx.map Prod.swap
theorem xf(h:p∈gB B):B[p.1]? =Z p.2:=ao (cL h) λ_ hx e=>e▸gP.mp hx
theorem m5(h:B[a]? =Z o):(a,o)∈gB B:=cQ.mpr (aG (o,a) (gP.mpr h) U)
theorem Hc:((gB B).map (·.1)).Nodup:=by unfold gB;refine YP bO ?_;show(B.zipIdx.map lc).Nodup;rw [List.zipIdx_map_snd];exact List.nodup_range'
noncomputable def DL(B:AH)(v:V)(all:List V)(n0:Nm)(e:Nat):Ad:=⟨B.length,B.length+1,B.length+4,B.length+5,B.length+6,B.length+7,B.length+8,B.length+9,B.length+10,e,v,all.map aq,all,(Ae n0 all).map (·.1),(Ae n0 all).map (·.2),gB B⟩
noncomputable def wU(qu:AL Nat)(a:Nat):Option (Bool×Nm):=(qu.find? λp=>p.2==a).map λp=>(J,p.1)
noncomputable def DW(qu:AL Nat):Hst:=⟨[],[],[],qu.map λp=>(p.1,p.2,[]),0,0,[],0,wU qu⟩
theorem EJ(nd:(qu.map (·.2)).Nodup)(hp:p∈qu):wU qu p.2=Z (J,p.1):=by
 unfold wU
 induction qu with
 |nil=>exact Z1 hp ba
 |cons x qu ih=>
  have n:=kC nd;refine YP (List.find?_cons) ?_;refine eV hp (λe=>?_) λh=>?_
  ·rw [e,beq_self_eq_true];rfl
  ·exact YP (show(x.2==p.2)=J from beq_eq_false_iff_ne.mpr λe=>n.1 (cQ.mpr (aG p h e.symm))) (ih n.2 h)
theorem nE(h:a∉qu.map (·.2)):wU qu a=Z6:=by unfold wU;exact YP (N1.mpr λ(x:Nm×Nat) hx (e:(x.2==a)=Z5)=>h (cQ.mpr (aG x hx (beq_iff_eq.mp e)))) U
theorem LD(hn:(all.map aq).Nodup)(hq:qu.map (·.1)=all.flatMap vH)
  (c:Cl B ([(B.length,.ns hk (Ag B.length v++[.int 0,.int 0,.ref e])),(B.length+1,.inst 0 B.length),(B.length+4,.list ((all.map aq).map V.str)),(B.length+5,dO rk (Gf all)),(B.length+6,dO rk (Ae n0 all)),(B.length+7,.dict [] []),(B.length+8,.dict [] []),(B.length+9,.dict [] []),(B.length+10,dO V.ref qu),(r,.list all)]++(qu.map λp=>(p.2,.list []))++[(e,.list [])]) H) :
  Hs (DL B v all n0 e) (DW qu) H:=by
 haveI nd:=c.nd;rw [aN,aN,au,bO (l:=qu)]at nd;have nd1:=bv.mp nd;have nd2:=bv.mp nd1.2.1;haveI hm:∀{k:Nat} {p:Nat×O},([(B.length,.ns hk (Ag B.length v++[.int 0,.int 0,.ref e])),(B.length+1,.inst 0 B.length),(B.length+4,.list ((all.map aq).map V.str)),(B.length+5,dO rk (Gf all)),(B.length+6,dO rk (Ae n0 all)),(B.length+7,.dict [] []),(B.length+8,.dict [] []),(B.length+9,.dict [] []),(B.length+10,dO V.ref qu),(r,.list all)]:List (Nat×O))[k]? =Z p->H[p.1]? =Z p.2/\wU qu p.1=Z6:=λ{k p} h=>by haveI m:=aI h;exact⟨(c.cell p (aR _ (aR _ m))).1,nE λz=>nd1.2.2 _ (bx m) _ (aR _ z) U⟩
 haveI he:H[e]? =Z (.list [])/\wU qu e=Z6:=⟨(c.cell _ (aC _ (.head _))).1,nE λz=>nd2.2.2 _ z _ (.head _) U⟩;have hge:∀{p:Nm×Nat},p∈qu->H[p.2]? =Z (.list [])/\B.length<=p.2:=λ{p} hp=>c.cell (p.2,.list []) (aR _ (aC _ (cQ.mpr (aG p hp U))));refine⟨?_,?_,qY,λp hp=>?_,?_,dA,dA,λb hb=>nE λz=>ao (cL z) λq hq e=>cZ _ (bl (c7.mp (hge hq).1).1 (e▸hb))⟩
 ·refine (?_:(([B.length,B.length+1,B.length+4,B.length+5,B.length+6,B.length+7,B.length+8,B.length+9,B.length+10]++[e])++(gB B).map (·.1)).Nodup);refine bv.mpr (bu (bv.mpr (bu ?_ (fc.mpr ⟨ba,dA⟩) ?_)) Hc ?_)
  ·exact (bv (l₁:=[B.length,B.length+1,B.length+4,B.length+5,B.length+6,B.length+7,B.length+8,B.length+9,B.length+10]) (l₂:=[r]).mp nd1.1).1
  ·exact λa ha b hb=>nd1.2.2 a (aR [r] ha) b (aC _ hb)
  ·intro a ha b hb;have h1:B.length<=a:=bR (p:=λa=>B.length<=a) (eD (aM _) (eD (ax _ _) (eD (ax _ _) (eD (ax _ _) (eD (ax _ _) (eD (ax _ _) (eD (ax _ _) (eD (ax _ _) (c8 (ax _ _)))))))))) (c8 (show B.length<=e from(c.cell _ (aC _ (.head _))).2)) a ha;exact ao (cL hb) λp hp e=>e▸fq (bl (cq (xf hp)) h1)
 ·refine eD (hm (k:=0) U) (eD (hm (k:=1) U) (eD (hm (k:=2) U) (eD ?_ (eD (hm (k:=4) U) (eD (hm (k:=5) U) (eD (hm (k:=6) U) (eD (hm (k:=7) U) (eD ?_ (eD he λp hp=>?_)))))))))
  ·haveI:=hm (k:=3) U;rw [Jd hn,dO,bO,bO]at this;exact⟨this.1.trans (Z4 (λt=>Z (O.dict _ t)) (oh all)),this.2⟩
  ·haveI:=hm (k:=8) U;refine⟨this.1.trans (Z4 Z ?_),this.2⟩;unfold dO DW;exact YP bO (YP bO U)
  ·have hb:=xf hp;have hl:=(cq hb);exact⟨(c.pre _ hl).trans hb,nE λz=>ao (cL z) λq hq e=>cZ _ (bl hl (e▸(hge hq).2))⟩
 ·refine ao (cL hp) λq hq e=>e▸(bu (EJ nd2.1 hq) ((hge hq).1) (aU _))
 ·refine (?_:((qu.map _).map _).Nodup);exact YP bO (hq.symm▸HW hn)
theorem QC:∀{k d:Nat} {w:V},Rt π σ d k w->d+k=7->(∀w'∈jv k w,∀p∈kids w',gx (aq p) σ.chk σ.chv=Z w')->∀x∈jv k w,∃d' k',d'+k'=7/\Rt π σ d' k' x/\(d'=0->x=w):=by
 intro k
 induction k with
 |zero=>exact λ_ _ _=>qY
 |succ k ih=>intro d w h e hc;refine eD (eK d (k+1) e h (λ_=>rfl)) λx hx=>ao (kT hx) λp hp hx=>?_;have r:=h.rd;have nd:((kids w).flatMap (nms k)).Nodup:=(kC r.nd).2;have sub:(nms k p).Sublist ((kids w).flatMap (nms k)):=kQ (bx hp);have hr:Rt π σ (d+1) k p:=⟨⟨wZ r.pt p hp,nd.sublist sub,aa (bh k) r.k7,aa sub.length_le (aa (bh _) r.len),λx hx=>r.md x (.tail _ (b0.mpr (aG p hp hx)))⟩,w,h,hp,hc w (.head _) p hp⟩;refine(ih hr ((bJ d 1 k).trans e) (λw' hw'=>hc w' (.tail _ (b0.mpr (aG p hp hw')))) x hx).imp λd' q=>q.imp λk' q=>(bu q.1 q.2.1 (λz=>?_));subst z;have z:=q.2.2 rfl;clear sub hx hr;subst z;haveI z:V.none=w:=ai (q.2.1.2.1.symm.trans (hc w (.head _) x hp));clear r nd hx hc h;subst z;exact Z1 hp ba
theorem IQ{l:List V}{x:V}(nd:(l.map aq).Nodup)(hx:x∈l):fb (aq x) (l.map λp=>(aq p,p))=Z x:=by
 induction l with
 |nil=>exact Z1 hx ba
 |cons y l ih=>
  haveI n:=kC nd;refine(?_:(if aq x=aq y then Z y else fb (aq x) (l.map λp=>(aq p,p)))=Z x);by_cases h:aq x=aq y
  ·exact YP (Z3 h) (YP (A7 nd hx (.head _) h) U)
  ·exact YP (Z2 h) (ih n.2 (eV hx (λe=>Z1 (Z4 aq e) h) id))
theorem HZ(hP:Pt π 7 v)(nd:(nms 7 v).Nodup):∀w∈jv 7 v,∀p∈kids w,gx (aq p) (DL B v (jv 7 v) n0 e).chk (DL B v (jv 7 v) n0 e).chv=Z w:=λw hw p hp=>by refine(nt (val:=rk)).trans (Z4 (bX rk) (?_:fb (aq p) (Ae n0 (jv 7 v))=Z w));refine BL (λx hx hm=>A7 (gr.symm▸nd) hx hw ?_) (.inr (aG w hw (bx hp)));exact ao (cL hm) λy hy e=>(ot hP x hx).elim λ_ hx=>(ot hP w hw).elim λ_ hw=>ai ((sU hx hy).symm.trans (e▸sU hw hp))
theorem I1(hP:Pt π 7 v)(hr:∀w,π.ch (aq v)≠Z w):gx (aq v) (DL B v (jv 7 v) (aq v) e).chk (DL B v (jv 7 v) (aq v) e).chv=Z .none:=by refine(nt (val:=rk)).trans (Z4 (bX rk) (?_:fb (aq v) (Ae (aq v) (jv 7 v))=Z .none));exact BL (λx hx hm=>ao (cL hm) λy hy e=>(ot hP x hx).elim λ_ hx=>Z1 (e▸sU hx hy) (hr _)) (.inl (Z3 U))
structure Plan(π:PI)(v:V):Prop where
 pt:Pt π 7 v
 w:Ai v=Z5
 nd:(nms 7 v).Nodup
 le:(nms 7 v).length<=60
 top:∀w,π.ch (aq v)≠Z w
 nm:∀m,(π.isW m).isSome=Z5->m∈nms 7 v
 md:∀x∈jv 7 v,mdOk π x
theorem Plan.rt(h:Plan π v):∀x∈jv 7 v,∃d k,d+k=7/\Rt π (DL B v (jv 7 v) (aq v) e) d k x/\(d=0->x=v):=QC (d:=0) (bu ⟨h.pt,h.nd,aM _,h.le,h.md⟩ (I1 h.pt h.top) h.top) U (HZ h.pt h.nd)
theorem Plan.pl(h:Plan π v):Pl π (DL B v (jv 7 v) (aq v) e) where
 nm:=λm hm=>show m∈(jv 7 v).map aq from gr.symm▸h.nm m hm
 ok:=λm hm=>ao (cL hm) λx hx e=>(ot h.pt x hx).elim λk hk=>e▸Mn hk
 le:=aa (ak (Z4 dQ (gr (k:=7)))) h.le
 pt:=λm hm=>ao (cL hm) λx hx ex=>dG (h.rt (B:=B) (e:=e) x hx) λd k q1 q2 q3=>⟨d,k,x,⟨dZ (bl (DQ (wR q2.rd.pt)) (ak q1)),λz=>by exact YP (YO ex) (YP (q3 z) (YP (Gn h.pt) (YP (h.w) U)))⟩,q2,ex,by
  have nd:((jv 7 v).map aq).Nodup:=gr.symm▸h.nd;haveI z:=nt (n:=m) (val:=rk) (l:=(jv 7 v).map λp=>(aq p,p));rw [bO,bO]at z;refine Eq.trans ?_ (z.trans (Z4 (bX rk) (?_:_=Z x)))
  ·exact Z4 (gx m _) (oh _).symm
  ·exact YP (YO ex) (IQ nd hx)⟩
 top:=h.pt
 nd:=show((jv 7 v).map aq).Nodup from gr.symm▸h.nd
theorem Me(g0:H[b]? =Z (.ns ks vs))(g1:H[b+1]? =Z (.inst 0 b)):gU H (.ref (b+1))=Z (b,ks,vs):=by show(H[b+1]?.bind O.ins).bind _=_;refine YP g1 ?_;show(H[b]?.bind O.nms).map _=_;refine YP g0 ?_;rfl
theorem OS(g0:H[b]? =Z (.ns ks vs))(g1:H[b+1]? =Z (.inst 0 b))(hl:ks.length<=1000):iQ (.ref (b+1)) nm x H=Z (H.set b (.ns (eQ nm x ks vs).1 (eQ nm x ks vs).2)):=by show(gU H (.ref (b+1))).bind _=_;exact YP (Me g0 g1) (Z3 hl)
theorem Cc(hρ:ρ[0]? =Z (Z (.ref (b+1))))(he:∀Q:QE,Q x H->cW P C e ρ B Q X)(g0:H[b]? =Z (.ns ks vs))(g1:H[b+1]? =Z (.inst 0 b))(hl:ks.length<=1000)(k:bk P C ss ρ (H.set b (.ns (eQ nm x ks vs).1 (eQ nm x ks vs).2)) K R X):bk P C (.setAttr (.v 0) nm e::ss) ρ B K R X:=
 he _ (ah (P:=P) (C:=C) (X:=X) hρ _ (by exact YP (OS g0 g1 hl) k))
theorem iv0(h:Plan π v)(hq:qu.map (·.1)=(jv 7 v).flatMap vH):Iv π (DW qu) where
 gd:=⟨λ_ z=>Z1 z ae,λ_ z=>Z1 z ae,aM _,aM _,aM _,aM _,λ_ z=>Z1 z ae,λ_ z=>Z1 z ae⟩
 up:=λ_ _ _ z=>Z1 z ae
 nm:=qY
 qk:=λm=>by refine(?_:((qu.map λp=>(p.1,(p.2,([]:List (Nat×V))))).map (·.1)).contains m=Z5↔_);rw [bO,show((·.1)∘λp:Nm×Nat=>(p.1,(p.2,([]:List (Nat×V)))))=(·.1)from U,hq,bn];exact FZ (ot h.pt) λz=>gr.symm▸h.nm m z
 lv:=λp hp=>ao (cL hp) λq _ e=>e▸qY
 lq:=by refine(?_:(qu.map _).length<=60);rw [aj,<-aj (f:=(·.1)),hq];exact aa xA (aa (ak ((aj aq).symm.trans (Z4 dQ gr))) h.le)
noncomputable def DM:Ab:=⟨λ_=>J,λ_=>[],λ_=>0,λ_=>[],[],0,0⟩
theorem OI:jY (DW qu)=DM:=by
 refine Z4 (λq=>(⟨λ_=>J,λ_=>[],λ_=>0,q,[],0,0⟩:Ab)) (funext λm=>?_);refine(?_:((fb m (qu.map λp=>(p.1,(p.2,([]:List (Nat×V)))))).map _).getD []=[])
 induction qu with
 |nil=>rfl
 |cons p qu ih=>
  refine(?_:((if m=p.1 then Z (p.2,[])else fb m (qu.map λp=>(p.1,(p.2,([]:List (Nat×V)))))).map _).getD []=[]);by_cases e:m=p.1
  ·exact YP (Z3 e) U
  ·exact YP (Z2 e) ih
theorem NU(h:Plan π v)(c:Cl B (NL B.length r v (jv 7 v) ((jv 7 v).map aq) (Gf (jv 7 v)) (Ae (aq v) (jv 7 v)) qu) H)(hq:qu.map (·.1)=(jv 7 v).flatMap vH)(hb:B.length<=H.length)
  (q:∀e S H',At π (DL B v (jv 7 v) (aq v) e) S H'->S.ev.length<=60->jY S=aF ((nms 7 v).map .beg) (λ_=>[]) DM->Q .none H') :
  bk PL (aO PL (n+8)) (qg.body.drop 10) [Z (.ref (B.length+1)),Z v,o] H (λ_ H'=>Q .none H') Q X:=by
 haveI nd:((jv 7 v).map aq).Nodup:=gr.symm▸h.nd;have ln:(nms 7 v).length<=60:=h.le;refine Cc (x:=.int 0) (H:=H) U (λQ q=>q) (c.get 0 rfl) (c.get 1 rfl) (aQ U) ?_;haveI c1:=c.set 0 (o':=.ns (eQ ['c','l','o','c','k'] (.int 0) (hk.take 8) (Ag B.length v)).1 (eQ ['c','l','o','c','k'] (.int 0) (hk.take 8) (Ag B.length v)).2) U;refine Cc (x:=.int 0) U (λQ q=>q) (c1.get 0 rfl) (c1.get 1 rfl) (aQ U) ?_;haveI c2:=c1.set 0 (o':=.ns (hk.take 10) (Ag B.length v++[.int 0,.int 0])) U;haveI c3:=c2.new (.list []) (aa hb (ak (aY.trans aY).symm));refine Cc (x:=.ref _) U (λQ q=>lH q) (c3.get 0 rfl) (c3.get 1 rfl) (aQ U) ?_;have hs:=LD nd hq (c3.set 0 (o':=.ns hk (Ag B.length v++[.int 0,.int 0,.ref _])) U);have iv:=iv0 h hq;refine fi hs U U (ah U) (yT (n:=n+1) h.pt hs iv.gd (aa (aH ln _) (aQ U)) λS' H' hs' gd' sp=>?_);have hh:∀m,here S' m=Z5↔m∈nms 7 v:=λm=>by exact YP (sp.hr) (xX.trans ⟨λz=>z.elim id λz=>Z1 z ae,.inl⟩)
 haveI up:Up π (here S'):=λa m e z=>by
  haveI z:=(hh a).mp z;rw [<-gr]at z;refine ao (cL z) λx hx ex=>dG (h.rt (B:=B) (e:=r) x hx) λd k q1 q2 q3=>?_;clear q1;induction d with
  |zero=>exact Z1 (q3 U▸ex▸e) (h.top m)
  |succ d=>exact cu q2.2 λw hw hx _=>(hh m).mpr (h.nm m (ai ((sU hw.rd.pt hx).symm.trans (ex▸e))▸Z4 c5 (Gn hw.rd.pt)))
 refine q _ S' H' ⟨hs',iv.plain sp gd' up⟩ ?_ ((uw sp).trans (Z4 (aF _ _) OI));exact YP (sp.ev) (aa (ak (aj _)) ln)
theorem cl0(kp:Kp (B++yS B.length v (aq v) o₁ o₂ 8) H)(hr:(B++yS B.length v (aq v) o₁ o₂ 8).length<=r)(hg:H[r]? =Z (.list all)):Cl B (NL B.length r v all [] [] [(aq v,.none)] []) H:=by rw [af]at hr;haveI g:∀{j:Nat} {o:O},(yS B.length v (aq v) o₁ o₂ 8)[j]? =Z o->H[B.length+j]? =Z o/\B.length<=B.length+j:=λ{j o} e=>⟨(kp.2 _ (by exact YP af (KW (cq e) _))).trans (sa.trans e),ax _ _⟩;refine⟨?_,eD (g (j:=0) U) (eD (g (j:=1) U) (eD (g (j:=4) U) (eD (g (j:=5) U) (eD (g (j:=6) U) (eD (g (j:=7) U) (eD (g (j:=8) U) (eD (g (j:=9) U) (eD (g (j:=10) U) (c8 ⟨hg,aa (ax _ _) hr⟩))))))))),λa ha=>(kp.2 a (bl ha fx)).trans (bB ha)⟩;refine(?_:([0,1,4,5,6,7,8,9,10].map (B.length+·)++[r]).Nodup);refine bv.mpr (bu (mz.map _ (λa b (h:a≠b) e=>h (qW e)) (by decide:([0,1,4,5,6,7,8,9,10]:List Nat).Nodup)) (fc.mpr ⟨ba,dA⟩) (λa ha b hb=>?_));refine ao (cL ha) λj hj e=>in1 hb▸e▸dk (bl (KW ?_ _) hr);exact(by decide:∀j∈([0,1,4,5,6,7,8,9,10]:List Nat),j<11) j hj
theorem f29(h:Plan π v)(q:∀e S H',At π (DL B v (jv 7 v) (aq v) e) S H'->S.ev.length<=60->jY S=aF ((nms 7 v).map .beg) (λ_=>[]) DM->Q .none H'):aO PL (n+9) 51 [.ref (B.length+1),v] (B++[.ns [] [],.inst 0 B.length]) Q X:=by have nl:(jv 7 v).length<=60:=aa (ak ((aj aq).symm.trans (Z4 dQ gr))) h.le;refine cf U U (p7 (gV (ah U) (f6 (n:=n+5) h.pt (aM _) h.w h.nd h.le λo₁ o₂=>hE U ?_)));rw [au];refine M8 h.pt ?_;refine Ll (n:=n+7) (n0:=aq v) (λQ q=>gV (ah U) (f7 (n:=n+1) h.pt nl λr H kp hr hg=>q r H (cl0 kp hr hg) (aa fx kp.1))) (ot h.pt) (gr.symm▸h.nd) nl λr o qu H' c hq hb=>NU h c hq hb q
noncomputable def cA(i:Int):Char:=tE.getD i.toNat 'a'
def yk(s:Nm):Prop:=∀c∈s,c∈tE
theorem sX(h:0<=i/\i<26):tE[i.toNat]? =Z (cA i):=by haveI l:i.toNat<tE.length:=show i.toNat<26 from(ft h.1).mpr h.2;unfold cA;exact YP cV (YP (az l) U)
theorem y4(h:0<=i/\i<26):yk [cA i]:=c8 (aI (sX h))
theorem wq(hi:0<=i/\i<26)(hj:0<=j/\j<26)(e:cA i=cA j):i=j:=by haveI l:i.toNat<tE.length:=show i.toNat<26 from(ft hi.1).mpr hi.2;haveI z:=(gX l (by decide:tE.Nodup)).mp ((sX hi).trans ((Z4 Z e).trans (sX hj).symm));exact YP (YO (bP hi.1)) (YP (YO (bP hj.1)) (YP z U))
theorem nr(h:yk s)(h':yk t):yk (s++t):=bR h h'
theorem p3(h:yk s):yk (bE s a b):=λc hc=>h c (jX (ig hc))
theorem xK(h:b<=s.length):(bE s 0 b).length=b:=by unfold bE;exact YP z9 (YP dh (YP (Nat.min_eq_left h) U))
theorem yR:(bE s a s.length).length=s.length-a:=by unfold bE;rw [dg,dh,tN]
theorem ti(h:0<=i/\i<26):bj P J .i [.str tE,.int i] H=Z (.str [cA i],H):=by show((vZ 26 i).bind λk=>(tE[k]?).map λc=>V.str [c]).map _=_;refine YP (show vZ 26 i=Z i.toNat from(Z3 h.1).trans (Z3 h.2)) ?_;show((tE[i.toNat]?).map _).map _=_;exact YP (sX h) U
structure Nms(m:Nat)(f:Nat->Nm):Prop where
 ok:∀k,k<m->pY (f k)
 inj:∀j k,j<m->k<m->f j=f k->j=k
theorem tu(hm:m<=60)(h1:ρ[1]? =Z (Z (.int m)))(he:∀k:Nat,k<m->Ev P C (ρ++[Z (.int k)]) H X elt (.str (f k)))(ok:Nms m f)(q:∀f,Nms m f->R (.lst ((aX m).map λk=>.str (f k))) H):bk P C (.ret (.comp J elt (.p J .range1 [.v 1]) Z6)::ss) ρ H K R X:=
 bg (oB (l:=aX m) (f:=λk:Nat=>V.int k) (g:=λk=>V.str (f k)) (bK (ah h1) (gc (zN (aa hm (by decide))))) (Z4 Z ((show jP 0 m=jP (0:Nat) m from U).trans (l9.trans (by rw [bO,n8];exact cR λk _=>Z4 (λj:Nat=>V.int j) (fw k))))) (by rw [aZ];exact aa hm (by decide)) λk hk=>he k (jK hk)) (q f ok)
theorem AE(h:yk s)(e:s.length=k+1)(hk:k<8):pY s:=(bu (e▸aA (aU k)) (e▸hk) h)
section
variable {m:Nat}
theorem PD(hl:yk l)(hr:yk r)(hx:yk [x])(h:l.length+r.length<=6):pY (l++[x]++r):=(bu (by rw [af,af];exact aa (bG 1 l.length) (ax _ _)) (by rw [af,af,bJ];exact aa (aA h) (by decide)) (nr (nr hl hx) hr))
theorem n7{a:Int}{j k:Nat}(hj:j<26)(hk:k<26)(h:(a+7*j)%26=(a+7*k)%26):j=k:=(by decide:∀j<26,∀k<26,7*j%26=7*k%26->j=k) j hj k hk (dX (Int.emod_add_cancel_left.mp h))
theorem n26{j k:Nat}(h1:(j:Int)/26=k/26)(h2:(j:Int)%26=k%26):j=k:=(Nat.div_add_mod j 26).symm.trans ((Z4 (26*·+j%26) (dX h1)).trans ((Z4 (26*(k/26)+·) (dX h2)).trans (Nat.div_add_mod k 26)))
theorem N8(h:k<m)(hm:m<=60):0<=(k:Int)/26/\(k:Int)/26<26:=⟨bp (k/26),(b9 (n:=k/26) (m:=26)).mpr (Nat.div_lt_of_lt_mul (bl h (aa hm (by decide))))⟩
theorem PB{r5 r7 r8:Option V}{w rs:Int}(hm:m<=60)(hh:hd.length<=6)(ha:yk hd)(q:∀f,Nms m f->R (.lst ((aX m).map λk=>.str (f k))) H) :
  bk PL (aO PL n) (MZ.body.drop 8) [Z (.int c),Z (.int m),Z (.str tE),Z (.str hd),Z (.int rs),r5,Z (.int w),r7,r8] H K R X:=by
 haveI hs:hd.length<=aB:=aa hh (by decide);refine bS (cg (av U) λ_=>ay (ah U) am nH) (λh=>?_) λ_=>?_
 ·haveI hm':m<27:=b9.mp (of_decide_eq_true (cP h).2);refine br (fR (ah U) am (ay (av U) (ay (bK (ah U) tm) am gO) (eT (Int.lt_add_one_of_le (bp _)))) (sV hs)) (bV U) ?_;refine br (fR (ah U) (bK (ah U) tm) am (p4 hs)) (bV U) ?_;generalize hL:bE hd 0 _=L;generalize hR:bE hd _ _=T;haveI hLT:L.length+T.length<=6:=by
   have e:L.length<=hd.length:=by refine YP (YO hL) ?_;unfold bE;refine YP z9 (YP dh ?_);exact fE _ _
   have e2:T.length=hd.length-L.length:=by refine YP (YO hR) (YP (jo e) ?_);exact yR
   exact aa (ak ((Z4 (L.length+·) e2).trans (gu e))) hh
  haveI hLa:yk L:=hL▸p3 ha;haveI hTa:yk T:=hR▸p3 ha;haveI h26:∀k:Nat,0<=(c/7+7*(k:Int))%26/\(c/7+7*(k:Int))%26<26:=λk=>ju (by decide);refine tu (f:=λk=>L++[cA ((c/7+7*(k:Int))%26)]++T) hm U (λk hk=>?_) ⟨λk _=>PD hLa hTa (y4 (h26 k)) hLT,λj k hj hk e=>n7 (bl hj (dZ hm')) (bl hk (dZ hm')) (wq (h26 j) (h26 k) (iG (na (List.append_cancel_right e))).1)⟩ q;refine ay (ay (ah U) (ay (ah U) (ay (ay (av U) (ay am (ah U) (Dn (by decide) (zN (aa (fW hk) (aa hm (by decide)))))) gO) am (eT (by decide))) (ti (h26 k))) (kJ ?_)) (ah U) (kJ ?_)
  ·exact aa (aA (aa (ax _ _) hLT)) (by decide)
  ·rw [af,bJ];exact aa (aA hLT) (by decide)
 ·haveI h26:∀k:Nat,0<=(k:Int)%26/\(k:Int)%26<26:=λk=>ju (by decide);refine tu (f:=λk=>hd++[cA ((k:Int)/26)]++[cA ((k:Int)%26)]) hm U (λk hk=>?_) ⟨λk hk=>?_,λj k hj hk e=>?_⟩ q
  ·refine ay (ay (ah U) (ay (ah U) (ay (ah U) am (pI (by decide) (by decide))) (ti (N8 hk hm))) (kJ ?_)) (ay (ah U) (ay (ah U) am (eT (by decide))) (ti (h26 k))) (kJ ?_)
   ·exact aa (aA hh) (by decide)
   ·refine YP af ?_;exact aa (aA (aA hh)) (by decide)
  ·exact (bu (by refine YP af ?_;exact bG 1 _) (by refine YP af (YP af ?_);exact aA (aA hh)) (nr (nr ha (y4 (N8 hk hm))) (y4 (h26 k))))
  ·haveI z:=List.append_inj' e U;exact n26 (wq (N8 hj hm) (N8 hk hm) (iG (na z.1)).1) (wq (h26 j) (h26 k) (iG z.2).1)
end
section
variable {m:Nat}
def NH(H0:AH)(c:Int)(m:Nat)(its:List Int)(ρ:Fm)(H:AH):Prop:=∃hd rs o,H=H0/\ρ=[Z (.int c),Z (.int m),Z (.str tE),Z (.str hd),Z (.int rs),o,Z6,Z6,Z6]/\hd.length+its.length=8/\yk hd
theorem n9(h:(fZ (.int c) (.int d)&&decide ((m:Int)<9))=Z5):m<=8:=dZ (b9.mp (of_decide_eq_true (cP h).2))
theorem f12(hm:m<=60)(q:∀f,Nms m f->Q (.lst ((aX m).map λk=>.str (f k))) H):aO PL (n+1) 18 [.int c,.int m] H Q X:=by
 refine cf U U (br am (bV U) (br am (bV U) (br (av U) (bV U) (fV (NH H c m) (f:=V.int) (l:=[0,1,2,3,4,5,6,7]) (v:=.rng 0 8) (bK am (gc ⟨by decide,by decide⟩)) (λ_ _ _ _=>rfl) (by decide) (yz [] _ Z6 U U U qY) (λx xs ρ' H' hI K' hK=>yd hI λhd rs o e0 e hl ha=>?_) λρ' H' hI=>yd hI λhd rs o e0 e hl ha=>?_))))
 ·subst e e0;haveI h:=ju (a:=rs) (b:=26) (by decide);refine br (ay (ah U) (ay (ah U) (ay (ah U) am (eT (by decide))) (ti h)) (kJ ?_)) (bV U) (br (av U) (bV U) (hK _ _ (yz _ _ _ U U ?_ (nr ha (y4 h)))))
  ·exact aa (aA (aa (ax _ _) (ak hl))) (by decide)
  ·rw [af,bL,dC _ xs.length];exact hl
 ·subst e e0;haveI hl:hd.length=8:=hl;haveI hs:hd.length<=aB:=aa (ak hl) (by decide);refine br (ay (ah U) am (eT (by decide))) (bV U) (bS (cg (av U) λ_=>ay (ah U) am nH) (λh=>?_) λ_=>bS (cg (av U) λ_=>ay (ah U) am nH) (λh=>?_) λ_=>?_)
  ·have h8:∀{k},k<m->k+1<=hd.length:=λhk=>hl▸aa hk (n9 h);have e:∀{k},k<m->(bE hd 0 (k+1)).length=k+1:=λhk=>xK (h8 hk);exact tu (f:=λk=>bE hd 0 (k+1)) hm U (λk hk=>fR (ah U) am (ay (ah U) am gO) ((sV hs).trans (Z4 (λt=>Z (V.str (bE hd 0 t),H')) (jo (j:=k+1) (h8 hk))))) ⟨λk hk=>AE (p3 ha) (e hk) (aa hk (n9 h)),λj k hj hk z=>b8 ((e hj).symm.trans ((Z4 dQ z).trans (e hk)))⟩ q
  ·have hk8:m<=8:=n9 h;have e0:∀{k},k<m->8-(7-k)=k+1:=λhk=>(Nat.succ_sub (dy 7 _)).trans (Z4 pf (Nat.sub_sub_self (dZ (aa hk hk8))));have e:∀{k},k<m->(bE hd (7-k) hd.length).length=k+1:=λhk=>yR.trans (hl.symm▸e0 hk);refine tu (f:=λk=>bE hd (7-k) hd.length) hm U (λk hk=>fR (ah U) (ay am (ah U) tv) am ((p4 hs).trans (Z4 (λt=>Z (V.str (bE hd t hd.length),H')) ?_))) ⟨λk hk=>AE (p3 ha) (e hk) (aa hk hk8),λj k hj hk z=>b8 ((e hj).symm.trans ((Z4 dQ z).trans (e hk)))⟩ q;exact YP (show(7:Int)-k=((7-k:Nat):Int)from(DF (dZ (aa hk hk8))).symm) (jo (hl▸aa (dy _ _) (by decide)))
  ·haveI h7:=ju (a:=c/6) (b:=7) (by decide);refine br (fR (ah U) am (ay (av U) am (eT (by decide))) (sV hs)) (bV U) (PB hm ?_ (p3 ha) q);haveI h6:(c/6%7).toNat<=6:=dZ ((ft h7.1).mpr h7.2);exact YP (YO (bP h7.1)) (YP (jo (hl.symm▸aa h6 (by decide))) (YP (xK (hl.symm▸aa h6 (by decide))) h6))
end
structure Nd where
 d:Nat
 a:Nat
 up:Int
 w:Bool
 deep:Nat
 inner:List Nat
 cell:Int
noncomputable def xn:List Nm:=[['u','p'],['w','a','r','d','e','n'],['d','e','e','p'],['i','n','n','e','r'],['c','e','l','l']]
noncomputable def wF(x:Nd):List V:=[.int x.up,.bool x.w,.int x.deep,.ref x.a,.int x.cell]
noncomputable def iN(x:Nd):O:=.list (x.inner.map ni)
noncomputable def I4(x:Nd):List (Nat×O):=[(x.a,iN x),(x.d,.dict xn (wF x))]
noncomputable def LN(r:Nat)(ns:List Nd):List (Nat×O):=(r,.list (ns.map λx=>.ref x.d))::ns.flatMap I4
def GN(r:Nat)(ns:List Nd)(H:AH):Prop:=∀p∈LN r ns,H[p.1]? =Z p.2
section
variable {r i j k:Nat}{ns:List Nd}
theorem Cl.gn(c:Cl B (LN r ns) H):GN r ns H:=λp hp=>(c.cell p hp).1
theorem GN.row(g:GN r ns H):H[r]? =Z (.list (ns.map λx=>.ref x.d)):=g _ (.head _)
theorem GN.inn(g:GN r ns H)(hj:ns[j]? =Z x):H[x.a]? =Z (iN x):=g _ (.tail _ (b0.mpr (aG x (aI hj) (.head _))))
theorem GN.dic(g:GN r ns H)(hj:ns[j]? =Z x):H[x.d]? =Z (.dict xn (wF x)):=g _ (.tail _ (b0.mpr (aG x (aI hj) (.tail _ (.head _)))))
theorem gY(h:H[r]? =Z (.list vs))(hj:vs[j]? =Z v):bj P J .i [.ref r,.int j] H=Z (v,H):=by show((H[r]?.bind O.lst).bind λvs=>(vZ vs.length j).bind λj=>vs[j]?).map _=_;refine YP h ?_;show((vZ vs.length j).bind λj=>vs[j]?).map _=_;exact YP (ye (cq hj)) (Z4 (bX _) hj)
theorem K6(g:GN r ns H)(hj:ns[j]? =Z x)(h:ρ[i]? =Z (Z (.ref r)))(hk:ρ[k]? =Z (Z (.int j))):Ev P C ρ H X (.p J .i [.v i,.v k]) (.ref x.d):=
 ay (ah h) (ah hk) (gY g.row (YP aV (YP hj U)))
theorem kU(g:GN r ns H)(hj:ns[j]? =Z x)(h:ρ[i]? =Z (Z (.ref r)))(hk:ρ[k]? =Z (Z (.int j)))(e:gx key xn (wF x)=Z v):Ev P C ρ H X (.p J .i [.p J .i [.v i,.v k],.c (.str key)]) v:=
 ay (K6 g hj h hk) am (jM (g.dic hj) e)
theorem qJ(g:GN r ns H)(h:ρ[i]? =Z (Z (.ref r))):Ev P C ρ H X (.p J .len [.v i]) (ni ns.length):=cc (bK (ah h) (fJ g.row)) (Z4 ni (aj _))
theorem yA{u z:Int}{t:Bool}{dp:Nat}(ha:Ev P C ρ H X a (.int u))(hb:Ev P C ρ H X b (.bool t))(hc:Ev P C ρ H X c (.int dp))(he:Ev P C ρ (H++[.list []]) X e (.int z))(q:R (.ref (H.length+1)) (H++[.list []]++[.dict xn (wF ⟨H.length+1,H.length,u,t,dp,[],z⟩)])) :
  cW P C (.p Z5 (.d xn) [a,b,c,.p Z5 .l [],e]) ρ H R X:=
 ha _ (hb _ (hc _ (lH (he _ (hE U ((Z4 V.ref af).symm▸q):iT (bj P Z5 (.d xn) (wF ⟨H.length+1,H.length,u,t,dp,[],z⟩) (H++[.list []])) R)))))
theorem HS:∀{ns:List Nd} {u:Nat} {x:Nd},ns[u]? =Z x->y.a=x.a/\y.d=x.d/\wF y=wF x->(ns.flatMap I4).set (2*u) (x.a,iN y)=(ns.set u y).flatMap I4:=by
 intro ns
 induction ns with
 |nil=>exact λh=>nomatch h
 |cons z ns ih=>
  intro u x h e
  induction u with
  |zero=>haveI h:=ai h;subst h;refine(?_:(z.a,iN y)::(z.d,.dict xn (wF z))::ns.flatMap I4=(y.a,iN y)::(y.d,.dict xn (wF y))::ns.flatMap I4);exact YP (e.1) (YP (e.2.1) (YP (e.2.2) U))
  |succ u=>exact Z4 (λt=>(z.a,iN z)::(z.d,O.dict xn (wF z))::t) (ih h e)
theorem IG:∀{ns:List Nd} {u:Nat} {x:Nd},ns[u]? =Z x->(ns.flatMap I4)[2*u]? =Z (x.a,iN x):=by
 intro ns
 induction ns with
 |nil=>exact λh=>nomatch h
 |cons z ns ih=>
  intro u x h
  induction u with
  |zero=>exact Z4 (λz=>Z (z.a,iN z)) (ai h)
  |succ u=>exact ih h
noncomputable def tW(y:Nd)(n:Nat):Nd:={y with inner:=y.inner++[n]}
theorem I2(h:ns[u]? =Z y):(ns.set u (tW y m)).map (λx=>V.ref x.d)=ns.map λx=>V.ref x.d:=by
 refine YP Gy (fX λl=>(YP fY ?_));by_cases q:u=l
 ·subst q;refine YP (Z3 U) (YP aV (YP h ?_));exact Z3 (by rw [aj];exact(cq h))
 ·exact YP (Z2 q) U
theorem Cl.push(c:Cl B (LN r ns) H)(h:ns[u]? =Z y)(m:Nat):Cl B (LN r (ns.set u (tW y m))) (H.set y.a (.list (y.inner.map ni++[ni m]))):=by haveI z:=c.set (2*u+1) (o':=iN (tW y m)) (IG h);unfold LN;exact YP (I2 h) (YP (YO (HS (y:=tW y m) h (bu U U U))) (YP (show O.list (y.inner.map ni++[ni m])=iN (tW y m)from Z4 O.list (aN (l₂:=[m])).symm) z))
theorem Cp{u:Nat}{y:Nd}{z:Int}{t:Bool}(c:Cl B (LN r ns) H)(hb:B.length<=H.length)(hu:ns[u]? =Z y)(hl:ns.length<=60)(hil:y.inner.length<=60)(h2:ρ[2]? =Z (Z (.ref r)))(hi:ρ[i]? =Z (Z (.int u)))(h8:8<ρ.length)(hi8:i≠8)
  (h1:∀H,Ev P C (ρ.set 8 (Z (ni (y.deep+1)))) H X e1 (.int u))(h3:∀H,Ev P C (ρ.set 8 (Z (ni (y.deep+1)))) H X e2 (.bool t))(h5:∀H,GN r (ns.set u (tW y ns.length)) H->Ev P C (ρ.set 8 (Z (ni (y.deep+1)))) H X e5 (.int z))
  (q:∀d a H',Cl B (LN r (ns.set u (tW y ns.length)++[⟨d,a,u,t,y.deep+1,[],z⟩])) H'->B.length<=H'.length->bk P C ss (ρ.set 8 (Z (ni (y.deep+1)))) H' K R X) :
  bk P C (.e (.n .list J .append (.p J .i [.p J .i [.v 2,.v i],.c (.str ['i','n','n','e','r'])]) [.p J .len [.v 2]])::
   .a 8 (.p J (.bop .add) [.p J .i [.p J .i [.v 2,.v i],.c (.str ['d','e','e','p'])],.c (.int 1)])::
   .e (.n .list J .append (.v 2) [.p Z5 (.d xn) [e1,e2,.v 8,.p Z5 .l [],e5]])::ss) ρ H K R X:=by
 have sz:∀{j:Nat},j<=60->j<=aB:=λh=>aa h (by decide);have g:=c.gn;refine kG (kU g hu h2 hi U) (fo (g.inn hu)) (qJ g h2) (hE (fL (g.inn hu) (aa (ak (aj _)) (sz hil))) ?_);have c1:=c.push hu ns.length;have hu1:(ns.set u (tW y ns.length))[u]? =Z (tW y ns.length):=bM (cq hu);refine br (v:=ni (y.deep+1)) (ay (kU c1.gn hu1 h2 hi U) am gO) h8 ?_;haveI h2':(ρ.set 8 (Z (ni (y.deep+1))))[2]? =Z (Z (.ref r)):=(bt (by decide)).trans h2;have hb1:=aa hb (ak (aY (i:=y.a) (a:=O.list (y.inner.map ni++[ni ns.length]))).symm);haveI c2:=c1.new (.list []) hb1;haveI c3:=c2.new (.dict xn (wF ⟨(H.set y.a (.list (y.inner.map ni++[ni ns.length]))).length+1,(H.set y.a (.list (y.inner.map ni++[ni ns.length]))).length,u,t,y.deep+1,[],z⟩)) (aa hb1 fx);refine d8 (Df (ah h2') (fo c1.gn.row) (yA (h1 _) (h3 _) (ah (bM h8)) (h5 _ λp hp=>dT (c1.gn p hp)) (hE (fL (c3.get 0 rfl) ?_) ?_)))
 ·rw [aj,aY];exact sz hl
 ·refine q ((H.set y.a (.list (y.inner.map ni++[ni ns.length]))).length+1) (H.set y.a (.list (y.inner.map ni++[ni ns.length]))).length _ ?_ (aa hb1 (aa fx (aa fx (ak aY.symm))));haveI c4:=c3.set 0 (o':=.list ((ns.set u (tW y ns.length)).map (λx=>.ref x.d)++[.ref ((H.set y.a (.list (y.inner.map ni++[ni ns.length]))).length+1)])) U;haveI e:∀{x:Nd} {l:List Nd} {o:O},LN r (l++[x])=(r,.list (l.map (λx=>.ref x.d)++[.ref x.d]))::(l.flatMap I4++[(x.a,iN x)]++[(x.d,.dict xn (wF x))]):=λ{x l o}=>by unfold LN;rw [aN,bz,au];rfl
  refine YP (e (o:=.list [])) ?_;rw [show(H.set y.a (.list (y.inner.map ni++[ni ns.length]))++[O.list []]).length=(H.set y.a (.list (y.inner.map ni++[ni ns.length]))).length+1 from af]at c4;exact c4
end
structure Lim(y:Nd):Prop where
 le:y.inner.length<=8
 nd:y.inner.Nodup
 dp:y.deep<=if y.w=Z5 then 6 else 7
 wk:y.w=J->y.inner=[]
structure Tr(ns:List Nd):Prop where
 top:∃x,ns[0]? =Z x/\x.w=Z5/\x.deep=1
 tup:∀(i:Nat) (x:Nd),ns[i]? =Z x->i=0->x.up=-1
 up:∀(i:Nat) (x:Nd),ns[i]? =Z x->0<i->∃(j:Nat) (y:Nd),ns[j]? =Z y/\j<i/\x.up=j/\i∈y.inner
 inn:∀(j:Nat) (y:Nd),ns[j]? =Z y->∀i∈y.inner,∃x,ns[i]? =Z x/\j<i/\x.up=j/\x.deep=y.deep+1
 lim:∀(j:Nat) (y:Nd),ns[j]? =Z y->Lim y
section
variable {ns:List Nd}{u i:Nat}{x y z:Nd}
noncomputable def vQ(u n i:Nat)(x:Nd):Nd:=if i=u then tW x n else x
theorem kM{F:Nd->Prop}(h:F x)(h':∀l,F {x with inner:=l}):F (vQ u n i x):=by
 unfold vQ;by_cases e:i=u
 ·exact YP (Z3 e) (h' _)
 ·exact YP (Z2 e) h
theorem yP(h:k∈x.inner):k∈(vQ u n i x).inner:=by
 unfold vQ;by_cases e:i=u
 ·exact YP (Z3 e) (aR _ h)
 ·exact YP (Z2 e) h
theorem nA(hu:ns[u]? =Z y)(h:ns[i]? =Z x):(ns.set u (tW y ns.length)++[z])[i]? =Z (vQ u ns.length i x):=by
 haveI l:=(cq h);refine YP (bB (aY.symm▸l)) (YP fY ?_);unfold vQ;by_cases e:u=i
 ·subst e;exact YP (Z3 U) (YP (Z3 l) (YP (Z3 U) (YP (ai (hu.symm.trans h)) U)))
 ·exact YP (Z2 e) (YP (Z2 (Ne.symm e)) h)
theorem yJ:(ns.set u (tW y ns.length)++[z])[ns.length]? =Z z:=by haveI:=dU (l:=ns.set u (tW y ns.length)) (a:=z);rw [aY]at this;exact this
theorem nW{F:Nat->Nd->Prop}(hu:ns[u]? =Z y)(hz:F ns.length z)(ho:∀(i:Nat) (x:Nd),ns[i]? =Z x->F i (vQ u ns.length i x)):∀(i:Nat) (x:Nd),(ns.set u (tW y ns.length)++[z])[i]? =Z x->F i x:=by
 intro i x h;haveI l:=(cq h);rw [af,aY]at l;by_cases e:i=ns.length
 ·subst e;exact ai (yJ.symm.trans h)▸hz
 ·have l:i<ns.length:=rG (dZ l) e;haveI h':=az l;exact ai ((nA hu h').symm.trans h)▸ho i _ h'
theorem Tr.add(T:Tr ns)(hu:ns[u]? =Z y)(hy:y.w=Z5)(hl:y.inner.length<8)(hz:z.up=u/\z.deep=y.deep+1/\z.inner=[]/\(z.w=Z5->y.deep<6)):Tr (ns.set u (tW y ns.length)++[z]) where
 top:=cu T.top λx h0 hw hd=>(bQ _ (nA hu h0) (kM (F:=λx=>x.w=Z5) hw λ_=>hw) (kM (F:=λx=>x.deep=1) hd λ_=>hd))
 tup:=nW hu (λz=>Z1 (z▸(cq hu)) (Nat.not_lt_zero u)) λi x h z=>kM (F:=λx=>x.up=-1) (T.tup i x h z) λ_=>T.tup i x h z
 up:=nW hu (λ_=>(iZ u _ (nA hu hu) (cq hu) hz.1 (by unfold vQ;refine YP (Z3 U) ?_;exact aC _ (.head _)))) λi x h hi=>kR (T.up i x h hi) λj w hj hji e hm=>(iZ j _ (nA hu hj) hji (kM (F:=λx=>x.up=j) e λ_=>e) (yP hm))
 inn:=nW hu (hz.2.2.1.symm▸qY) λj w h k hk=>by
  have old:k∈w.inner->∃x,(ns.set u (tW y ns.length)++[z])[k]? =Z x/\j<k/\x.up=j/\x.deep=(vQ u ns.length j w).deep+1:=λhk=>dM (T.inn j w h k hk) λx hx l e d=>⟨_,nA hu hx,l,kM (F:=λx=>x.up=j) e λ_=>e,kM (F:=λt=>(vQ u ns.length k x).deep=t.deep+1) (kM (F:=λx=>x.deep=w.deep+1) d λ_=>d) λ_=>kM (F:=λx=>x.deep=w.deep+1) d λ_=>d⟩;by_cases e:j=u
  ·subst e;haveI ew:=ai (hu.symm.trans h);clear h;subst ew;unfold vQ at hk;rw [Z3 U]at hk;refine(jZ hk).elim old λhk=>⟨z,by refine YP (in1 hk) ?_;exact yJ,in1 hk▸(cq hu),hz.1,?_⟩;unfold vQ;refine YP (Z3 U) ?_;exact hz.2.1
  ·unfold vQ at hk;rw [Z2 e]at hk;exact old hk
 lim:=nW hu ⟨hz.2.2.1.symm▸aU _,hz.2.2.1.symm▸dA,by
   haveI d:=(T.lim u y hu).dp;rw [hy,Z3 U]at d;refine YP (hz.2.1) ?_;by_cases e:z.w=Z5
   ·exact YP (Z3 e) (hz.2.2.2 e)
   ·refine YP (Z2 e) ?_;exact aA d,λ_=>hz.2.2.1⟩ λj w h=>by
  have L:=T.lim j w h;unfold vQ;by_cases e:j=u
  ·clear hz;subst e;have ew:=ai (hu.symm.trans h);clear h;subst ew;refine YP (Z3 U) ?_;refine⟨by show(y.inner++[ns.length]).length<=8;refine YP af ?_;exact hl,bv.mpr (bu L.nd (fc.mpr ⟨ba,dA⟩) (λa ha b hb=>?_)),L.dp,λq=>Z1 (hy.symm.trans q) ca⟩;exact in1 hb▸dM (T.inn _ _ hu a ha) λx hx _ _ _=>dk (cq hx)
  ·refine YP (Z2 e) ?_;exact L
end
noncomputable def K9:St->List St
 |.f _ _ _ b=>b
 |.while_ _ b=>b
 |.ite _ a _=>a
 |_=>[]
section
variable {zs:List Int}
theorem Ly(h:0<=i)(q:Q (.int (zs.getD i.toNat 0)) H):aO PL (n+1) 16 [.lst (zs.map V.int),.int i] H Q X:=by
 refine cf U U (bS (av U) (λhd=>?_) λhd=>?_)
 ·have hl:i.toNat<zs.length:=(ft h).mpr (aj V.int▸of_decide_eq_true hd);have e:(zs.map V.int)[i.toNat]? =Z (.int (zs.getD i.toNat 0)):=by exact YP aV (YP cV (YP (az hl) U))
  refine bg (ay (ah U) (ah U) ?_) q;haveI z:=jS (P:=PL) (H:=H) e;rw [bP h]at z;exact z
 ·haveI hd:=cU.mp (of_decide_eq_false hd);rw [aj,<-bP h]at hd;have hl:zs.length<=i.toNat:=b7.mp hd;rw [cV,fK hl]at q;exact bg am q
noncomputable def Mc(zs:List Int)(m r:Nat)(o:Nat->Option V):Fm:=[Z (.lst (zs.map V.int)),Z (ni m),Z (.ref r),o 3,o 4,o 5,o 6,o 7,o 8]
theorem ou:∃o,[Z (.lst (zs.map V.int)),Z (ni m),Z (.ref r),a,b,c,d,e,f]=Mc zs m r o:=⟨λi=>([a,b,c,d,e,f][i-3]?).join,rfl⟩
def NI1(B:AH)(zs:List Int)(m r:Nat)(its:List Nat)(ρ:Fm)(H:AH):Prop:=∃ns,(∃o,ρ=Mc zs m r o)/\Cl B (LN r ns) H/\Tr ns/\(ns.length+its.length<=m/\B.length<=H.length)/\∀j∈its,j<=60
noncomputable def Lv(ns:List Nd)(j:Nat):Bool:=(ns[j]?).any λx=>x.w&&decide ((x.inner.length:Int)<8)
theorem Io(h:u∈(aX ns.length).filter (Lv ns)):∃y,ns[u]? =Z y/\y.w=Z5/\y.inner.length<8:=by have h1:=oX h;haveI e:=az (jK h1.1);haveI h2:=h1.2;unfold Lv at h2;rw [e]at h2;haveI h2:=cP h2;exact(bQ _ e h2.1 (b9.mp (of_decide_eq_true h2.2)))
theorem Ge(h:l≠[]):∃w,w∈l/\bj P J .i [.lst (l.map ni),.int (z%((l.map ni).length:Int))] H=Z (ni w,H):=by
 haveI hp:0<((l.map ni).length:Int):=by rw [aj];exact b9.mpr (gw.mpr h)
 exact ao (nq (P:=P) (H:=H) (ju (a:=z) hp).1 (ju (a:=z) hp).2) λv hv e=>ao (cL hv) λw hw ew=>(aG w hw (ew▸e))
theorem GT:(!fZ (.lst (l.map ni)) (.lst []))=Z5->l≠[]:=λh e=>by subst e;exact Z1 h ae
theorem n12{k:Nat}(h:k<=60):-10 ^ 12<=(k:Int)/10/\(k:Int)/10<=10 ^ 12:=zN (m:=k/10) (aa (Nat.div_le_self _ _) (aa h (by decide)))
theorem n13(h:a+(b+1)<=m):a+1+b<=m/\a+b<=m/\a<=m:=(bu (bJ a b 1▸h) (tP h) (aa (ax a _) h))
theorem Ny{k:Nat}{its:List Nat}{o:Nat->Option V}{K':KS}(hm:m<=30)(c:Cl B (LN r ns) H)(T:Tr ns)(hl:ns.length+(its.length+1)<=m)(hb:B.length<=H.length)(hk:k<=60)(hj:∀j∈its,j<=60)(hK:∀ρ'' H'',NI1 B zs m r its ρ'' H''->K' ρ'' H'') :
  bk PL (aO PL (n+1)) (K9 (JR.body.getD 1 .pass)) ((Mc zs m r o).set 3 (Z (ni k))) H K' Q X:=by
 have g:=c.gn;haveI hl':=n13 hl;refine br (ay (gb (ah U) (av U) λQ q=>Ly (ph (by decide) (ju (by decide)).1) q) (ay am (av U) (Dn (by decide) (n12 hk))) gO) (bV U) ?_;generalize zs.getD _ 0+11*((k:Int)/10)=z;refine br (v:=.lst (((aX ns.length).filter (Lv ns)).map ni)) (jU (l:=aX ns.length) (f:=ni) (g:=ni) (p:=Lv ns) (bK (qJ g U) (gc (zN (aa hl'.2.2 (aa hm (by decide)))))) ?_ ?_ (λj hj=>?_) λj _ _=>ah U) (bV U) ?_
 ·exact Z4 Z ((U:jP 0 ns.length=jP (0:Nat) ns.length).trans (l9.trans (by rw [bO,n8];exact cR λk _=>Z4 ni (fw k))))
 ·exact YP aZ (aa hl'.2.2 (aa hm (by decide)))
 ·haveI e:=az (jK hj);refine cc (cg (kU g e U U U) λ_=>ay (bK (kU g e U U U) (fJ (g.inn e))) am nH) ?_;unfold Lv;rw [e,aj];rfl
 refine bS (ay (av U) (av U) (lJ (pM (f:=ni) λ_=>Z0) jQ)) (λhn=>?_) λ_=>hK _ _ (BV ns ou c T ⟨hl'.2.1,hb⟩ hj);refine ao (Ge (P:=PL) (H:=H) (z:=z/4) (GT hn)) λu hu eu=>cu (Io hu) λy hy hw h8=>?_;refine br (ay (ah U) (ay (av U) (bK (ah U) pG) (eT ?_)) eu) (bV U) ?_
 ·rw [aj];exact b9.mpr (gw.mpr (GT hn))
 refine br (cg (ay (av U) am (gq d0 d0)) λ_=>ay (kU g hy U U U) am nH) (bV U) ?_;refine Cp c hb hy (aa hl'.2.2 (aa hm (by decide))) (aa (fW h8) (by decide)) U U (bV U) (by decide) (λ_=>ah U) (λ_=>ah U) (λ_ _=>ay (ah U) am (pI (by decide) (by decide))) λd a H' c' hb'=>hK _ _ (BV _ ou c' (T.add hy hw h8 ⟨rfl,rfl,rfl,λht=>b9.mp (of_decide_eq_true (cP ht).2)⟩) ⟨?_,hb'⟩ hj);exact YP af (YP aY hl'.1)
end
theorem GC{α0:Type}{A0 A1 A2 A3 A4 A5:α0->Prop}{G:Prop}(h:∃a0,A0 a0/\A1 a0/\A2 a0/\A3 a0/\A4 a0/\A5 a0)(k:∀a0,A0 a0->A1 a0->A2 a0->A3 a0->A4 a0->A5 a0->G):G:=h.elim λa0 h=>k a0 h.1 h.2.1 h.2.2.1 h.2.2.2.1 h.2.2.2.2.1 h.2.2.2.2.2
theorem zh(h:fZ (.lst l) (.lst [])=Z5):l=[]:=by
 induction l with
 |nil=>rfl
 |cons _ _=>exact Z1 h ae
section
variable {zs:List Int}{m r:Nat}
theorem p5:jP 0 m=(aX m).map ni:=(show jP 0 m=jP (0:Nat) m from U).trans (l9.trans (by rw [bO,n8];exact cR λk _=>Z4 ni (fw k)))
def Emp(ns:List Nd)(its:List Nat):Prop:=∀(i:Nat) (x:Nd),ns[i]? =Z x->x.w=Z5->x.inner≠[]\/i∈its
def NI2(B:AH)(zs:List Int)(m r:Nat)(its:List Nat)(ρ:Fm)(H:AH):Prop:=∃ns,(∃o,ρ=Mc zs m r o)/\Cl B (LN r ns) H/\Tr ns/\(ns.length+its.length<=60/\B.length<=H.length)/\Emp ns its/\∀j∈its,j<ns.length
theorem Nn(c:Cl B (LN r ns) H)(T:Tr ns)(hl:ns.length+(its.length+1)<=60)(hb:B.length<=H.length)(he:Emp ns (k::its))(hj:∀j∈k::its,j<ns.length)(hK:∀ρ'' H'',NI2 B zs m r its ρ'' H''->K' ρ'' H'') :
  bk PL (aO PL (n+1)) (K9 (JR.body.getD 2 .pass)) ((Mc zs m r o).set 3 (Z (ni k))) H K' Q X:=by
 have g:=c.gn;haveI hl':=n13 hl;refine(⟨_,az (hj k (.head _))⟩:∃y,ns[k]? =Z y).elim λy e=>?_;have hj':∀j∈its,j<ns.length:=λj h=>hj j (.tail _ h);refine bS (cg (kU g e U U U) λ_=>ay (kU g e U U U) (av U) (gq (FT (g.inn e)) jQ)) (λh=>?_) λh=>hK _ _ (CP ns ou c T ⟨hl'.2.1,hb⟩ (λi x hx hw=>?_) hj')
 ·have h:=cP h;have h0:y.inner=[]:=qV.mp (zh h.2);refine Cp c hb e hl'.2.2 (h0.symm▸aU _) U U (bV U) (by decide) (λ_=>ah U) (λ_=>am) (λH' g'=>ay (kU g' (bM (hj k (.head _))) U U U) am (pI (by decide) (by decide))) λd a H' c' hb'=>hK _ _ (CP _ ou c' (T.add e h.1 (h0.symm▸(by decide:0<8)) ⟨rfl,rfl,rfl,λz=>Z1 z ae⟩) ⟨?_,hb'⟩ ?_ (λj hj=>?_))
  ·exact YP af (YP aY hl'.1)
  ·refine nW e (λz=>Z1 z ae) λi x hx hw=>?_;haveI hw:x.w=Z5:=kM (F:=λt=>t.w=Z5->x.w=Z5) id (λ_=>id) hw;refine(he i x hx hw).elim (λh=>.inl (λz=>?_)) λh=>eV h (λh=>.inl λz=>?_) .inr
   ·exact h (List.eq_nil_iff_forall_not_mem.mpr λk hk=>ba (z▸yP hk))
   ·clear hx hj he e c';subst h;unfold vQ at z;rw [Z3 U]at z;exact Z1 (List.append_eq_nil_iff.mp z).2 (jy _ _)
  ·exact YP af (YP aY (Nat.lt_succ_of_lt (hj' j hj)))
 ·refine (he i x hx hw).elim .inl λh'=>eV h' (λz=>.inl λz'=>?_) .inr;clear hj he h';subst z;haveI ex:=ai (e.symm.trans hx);rw [ex,hw,z']at h;exact Z1 h (ca:¬true=J)
structure Tree(ns:List Nd):Prop where
 tr:Tr ns
 le:ns.length<=60
 ne:∀(i:Nat) (x:Nd),ns[i]? =Z x->x.w=Z5->x.inner≠[]
theorem f14(h2:2<=m)(hm:m<=30)(q:∀ns H',Cl B (LN (B.length+2) ns) H'->Tree ns->Q (.ref (B.length+2)) H'):aO PL (n+2) 20 [.lst (zs.map V.int),ni m] B Q X:=by
 refine cf U U (eR (qe (yA (bK am pT) am (dp:=1) am (gb (ah U) am λQ q=>Ly (by decide) q) (hE (pO vP) ⟨bV U,?_⟩))));generalize zs.getD _ 0=z;haveI c0:Cl B (LN (B.length+2) [⟨B.length+1,B.length,-1,Z5,1,[],z⟩]) (B++[.list []]++[.dict xn (wF ⟨B.length+1,B.length,-1,Z5,1,[],z⟩)]++[.list [.ref (B.length+1)]]):=by rw [au,au];refine⟨?_,eD ⟨sa (j:=2),ax _ _⟩ (eD ⟨sa (j:=0),aM _⟩ (c8 ⟨sa (j:=1),ax _ _⟩)),λa ha=>bB ha⟩;exact mz.map (B.length+·) (λa b (h:a≠b) e=>h (qW e)) (by decide:([2,0,1]:List Nat).Nodup)
 haveI T0:Tr [⟨B.length+1,B.length,-1,Z5,1,[],z⟩]:=⟨(bQ _ U U U),λi x h z=>by subst z;exact ai h▸rfl,λi x h h0=>?_,λj y h=>?_,λj y h=>?_⟩
 ·haveI hl:(B++[O.list []]++[O.dict xn (wF ⟨B.length+1,B.length,-1,Z5,1,[],z⟩)]).length=B.length+2:=by exact YP af (YP af U)
  refine YP hl (fV (NI1 B zs m (B.length+2)) (f:=ni) (l:=(aX (m-1)).map (1+·)) (v:=.rng 1 m) (ay am (ah U) (rN (by decide) (zN (aa hm (by decide))))) (λ_ _ _ _=>Z4 Z (l9 (a:=1))) ?_ (BV _ ou c0 T0 ⟨?_,?_⟩ (λj hj=>?_)) (λk its ρ' H' hI K' hK=>Dl hI λns e c T l hj=>e.elim λo e=>?_) λρ' H' hI=>Dl hI λns e c T l hj=>e.elim λo e=>?_)
  ·rw [aj,aZ];exact aa (dy _ _) (aa hm (by decide))
  ·rw [aj,aZ];exact ak (gu (show 1<=m from aa (by decide) h2))
  ·exact aa fx (aa fx fx)
  ·refine ao (cL hj) λk hk e=>?_;exact e▸aa (ak (dC 1 k)) (aa (jK hk) (aa (dy _ _) (aa hm (by decide))))
  ·refine YP e ?_;exact Ny hm c T l.1 l.2 (hj k (.head _)) (λj h=>hj j (.tail _ h)) hK
  ·refine YP e ?_;haveI l0:ns.length<=30:=aa l.1 hm;refine fV (NI2 B zs m (B.length+2)) (f:=ni) (l:=aX ns.length) (v:=.rng 0 ns.length) (bK (qJ c.gn U) (gc (zN (aa l0 (by decide))))) (λ_ _ _ _=>Z4 Z p5) (by exact YP aZ (aa l0 (by decide))) (CP ns ou c T ⟨?_,l.2⟩ (λi x hx _=>.inr (dY.mpr (cq hx))) (λj hj=>jK hj)) (λk its ρ' H' hI K' hK=>GC hI λns e c T l he hj=>e.elim λo e=>?_) λρ' H' hI=>GC hI λns e c T l he hj=>e.elim λo e=>?_
   ·exact YP aZ (bD l0 l0)
   ·refine YP e ?_;exact Nn c T l.1 l.2 he hj hK
   ·refine YP e ?_;exact bg (ah U) (q ns H' c ⟨T,l.1,λi x hx hw=>(he i x hx hw).elim id λh=>Z1 h ba⟩)
 ·induction i with
  |zero=>exact Z1 h0 (cZ 0)
  |succ i=>exact nomatch h
 ·induction j with
  |zero=>exact ai h▸qY
  |succ j=>exact nomatch h
 ·cases j with
  |zero=>exact ai h▸⟨aU _,dA,(by decide:1<=6),λh=>Z1 h ca⟩
  |succ j=>exact nomatch h
end
theorem lU{α:Type}{l:List α}{f:α->V}(d:α)(hL:(l.length:Int)=L)(h0:0<L):bj P J .i [.lst (l.map f),.int (c%L)] H=Z (f (l.getD (c%L).toNat d),H)/\l.getD (c%L).toNat d∈l:=by haveI h:=ju (a:=c) h0;have hl:(c%L).toNat<l.length:=(ft h.1).mpr (hL.symm▸h.2);have e:l.getD (c%L).toNat d=l[(c%L).toNat]:=YP cV (YP (az hl) U);haveI z:=jS (P:=P) (H:=H) (v:=f (l.getD (c%L).toNat d)) (YP aV (YP e (YP (az hl) U)));rw [bP h.1]at z;exact⟨z,e▸jw hl⟩
def NW(P:Prog)(C:Calls)(ρ:Fm)(H:AH)(X:XE)(es:List Ex)(vs:List V):Prop:=∀Q:List V->AH->Prop,Q vs H->iE P C es ρ H Q X
theorem rY:NW P C ρ H X [] []:=λ_ q=>q
theorem jL(h:Ev P C ρ H X e v)(k:NW P C ρ H X es vs):NW P C ρ H X (e::es) (v::vs):=λ_ q=>h _ (k _ q)
theorem mD(h:NW P C ρ H X es vs)(e:bj P J p vs H=Z (v,H)):Ev P C ρ H X (.p J p es) v:=λ_ q=>h _ (hE e q)
noncomputable def Od:List Nm:=[['a','l','w','a','y','s'],['f','a','u','l','t','e','d'],['n','e','v','e','r'],['f','a','u','l','t','e','d']]
noncomputable def En(c:Int):Nm:=Od.getD (c%4).toNat []
noncomputable def KI(c:Int):Nm:=iC.getD (c%3).toNat []
noncomputable def IR(c:Int):List Int:=[0,1,2,1,3,1000000000,c/6%9,c/6%1000000001]
noncomputable def Lu(c:Int):Int:=(IR c).getD (c%8).toNat 0
noncomputable def Ia(c:Int):List Int:=[3,1,1000000000,2,1+c/6%12,1+c/6%1000000000]
noncomputable def KL(c:Int):Int:=(Ia c).getD (c%6).toNat 0
noncomputable def Jw(k:Nat)(c:Int):Int:=if(fZ (ni k) (.int 0)&&decide (0<c/3%4))=Z5 then min 1000000000 (Lu (c/3)+4)else Lu (c/3)
theorem yg:En c∈lN:=(by decide:∀x∈Od,x∈lN) _ (lU (P:=PL) (H:=[]) (f:=V.str) [] U (by decide)).2
theorem sR:KI c∈iC:=(lU (P:=PL) (H:=[]) (f:=V.str) [] U (by decide)).2
theorem JX{a b d:Int}(h:0<b)(hd:b<=d):0<=a%b/\a%b<=d:=⟨(ju h).1,bA (fp (ju h).2) hd⟩
theorem xV{a b d:Int}(h:0<b)(hd:b<=d):1<=1+a%b/\1+a%b<=d:=⟨Aa (ju h).1,Int.add_comm 1 _▸bA (ju h).2 hd⟩
theorem Jv:0<=Lu c/\Lu c<=1000000000:=(eD (by decide) (eD (by decide) (eD (by decide) (eD (by decide) (eD (by decide) (eD (by decide) (eD (JX (by decide) (by decide)) (c8 ⟨(ju (by decide)).1,Int.le_of_lt_add_one (ju (by decide)).2⟩))))))):∀x∈IR c,0<=x/\x<=1000000000) _ (lU (P:=PL) (H:=[]) (f:=V.int) (L:=8) 0 rfl (by decide)).2
theorem BC:1<=KL c/\KL c<=1000000000:=(eD (by decide) (eD (by decide) (eD (by decide) (eD (by decide) (eD (xV (by decide) (by decide)) (c8 (xV (by decide) (by decide))))))):∀x∈Ia c,1<=x/\x<=1000000000) _ (lU (P:=PL) (H:=[]) (f:=V.int) (L:=6) 0 rfl (by decide)).2
theorem JE:0<=Jw k c/\Jw k c<=1000000000:=by
 unfold Jw;haveI h:=Jv (c:=c/3);by_cases e:(fZ (ni k) (.int 0)&&decide (0<c/3%4))=Z5
 ·exact YP (Z3 e) (⟨Int.le_min.mpr ⟨by decide,ph h.1 (by decide)⟩,Int.min_le_left _ _⟩)
 ·exact YP (Z2 e) h
theorem f16(q:Q (.int (Lu c)) H):aO PL (n+1) 22 [.int c] H Q X:=
 cf U U (bg (ay (av U) (ay (ah U) am (eT (by decide))) (lU (l:=IR c) (L:=8) 0 rfl (by decide)).1) q)
theorem f17(q:Q (.int (KL c)) H):aO PL (n+1) 23 [.int c] H Q X:=
 cf U U (bg (ay (av U) (ay (ah U) am (eT (by decide))) (lU (l:=Ia c) (L:=6) 0 rfl (by decide)).1) q)
noncomputable def bd(ns:List Nd)(nm:Nat->Nm):Nat->Nat->V
 |0,_=>.none
 |f+1,k=>(ns[k]?).elim .none λx=>if x.w=Z5 then mm (nm k) (KI x.cell) (Jw k x.cell) (KL (x.cell/24)) (x.inner.map (bd ns nm f))else vG (nm k) (En x.cell)
noncomputable def vI(nm:Nat->Nm)(m:Nat):V:=.lst ((aX m).map λk=>.str (nm k))
theorem jn(h:k<m):bj P J .i [vI nm m,ni k] H=Z (.str (nm k),H):=jS (YP aV (YP (cT h) U))
theorem mK(h:ns[k]? =Z x):bd ns nm (f+1) k=if x.w=Z5 then mm (nm k) (KI x.cell) (Jw k x.cell) (KL (x.cell/24)) (x.inner.map (bd ns nm f))else vG (nm k) (En x.cell):=by show(ns[k]?).elim _ _=_;exact YP h U
def OB(H0:AH)(r:Nat)(nv:V)(k:Nat)(c:Int)(rl:Nm)(il:List Nat)(g:Nat->V)(its:List Nat)(ρ:Fm)(H:AH):Prop:=∃o dn,H=H0/\ρ=[Z (.ref r),Z nv,Z (ni k),Z (.int c),Z (.str rl),Z (.tup (dn.map g)),o,Z6]/\dn++its=il
theorem f18(T:Tr ns)(g:GN r ns H):∀{f k:Nat} {x:Nd} {Q:QE} {X:XE},ns[k]? =Z x->f+x.deep=8->Q (bd ns nm f k) H->aO PL (n+f+1) 24 [.ref r,vI nm ns.length,ni k] H Q X:=by
 intro f
 induction f with
 |zero=>intro k x Q X h e q;haveI:=(T.lim k x h).dp;exact Z1 (aa this (by cases x.w<;>decide)) (Q2 (ak (e.symm.trans (fw _)):7<x.deep))
 |succ f ih=>
  intro k x Q X h e q;have hk:=(cq h);rw [mK h]at q;refine cf U U (br (kU g h U U U) (bV U) (bS (bZ (kU g h U U U)) (λhw=>?_) λhw=>?_))
  ·rw [Z2 λz:x.w=Z5=>Z1 (z▸hw:(!Z5)=Z5) ae]at q;exact bg (fR am (ay (ah U) (ah U) (jn hk)) (ay (x:=.lst (Od.map V.str)) (av U) (ay (ah U) am (eT (by decide))) (lU (l:=Od) (L:=4) [] U (by decide)).1) (fB DJ)) q
  ·rw [Z3 (dz _▸hw)]at q;haveI L:=T.lim k x h;refine br (ay (av U) (ay (ah U) am (eT (by decide))) (lU (l:=iC) (L:=3) [] U (by decide)).1) (bV U) (br (av U) (bV U) ?_);refine fV (OB H r (vI nm ns.length) k x.cell (KI x.cell) x.inner (bd ns nm f)) (f:=ni) (l:=x.inner) (kU g h U U U) (λ_ _ _ q=>dG q λ_ _ e0 _ _=>e0▸i6 (g.inn h)) (aa L.le (by decide)) (eK Z6 [] U U U) (λi its ρ' H' hI K' hK=>dG hI λo dn e0 er ed=>?_) λρ' H' hI=>dG hI λo dn e0 er ed=>?_
   ·subst e0 er;have hi:=ed▸aC dn (.head _);refine dM (T.inn k x h i hi) λy hy _ _ hd=>(br (ay (ah U) (bK (io (ah U) (ah U) (ah U) λQ q=>ih hy ((Z4 (f+·) hd).trans ((bJ f x.deep 1).trans e)) q) (fB vP)) (xL ?_)) (bV U) (hK _ _ (eK (Z (ni i)) (dn++[i]) U ?_ ((au dn [i] its).trans ed))))
    ·rw [aj];exact aa (aA (aa (ed▸fx) L.le)) (by decide)
    ·exact YP aN U
   ·subst e0 er;have ed:dn=x.inner:=(aJ dn).symm.trans ed;refine YP ed ?_;have fin:∀{mv:Int},mv=Jw k x.cell->bk PL (aO PL (n+(f+1))) (Lj.body.drop 7) [Z (.ref r),Z (vI nm ns.length),Z (ni k),Z (.int x.cell),Z (.str (KI x.cell)),Z (.tup (x.inner.map (bd ns nm f))),o,Z (.int mv)] H' (λ_ H'=>Q .none H') Q X:=λe=>by subst e;exact bg (mD (jL am (jL (ay (ah U) (ah U) (jn hk)) (jL (ah U) (jL (ah U) (jL (cJ (av U) λQ q=>f17 q) (jL (ah U) rY)))))) (fB (aQ U))) q
    refine br (cJ (av U) λQ q=>f16 q) (bV U) (bS (cg (av U) λ_=>ay (ay (av U) am (eT (by decide))) am oP) (λhc=>?_) λhc=>?_)
    ·exact br (ay (av U) (av U) Km) (bV U) (fin (Z3 hc).symm)
    ·exact fin (Z2 (by exact YP hc ae)).symm
noncomputable def mx(ns:List Nd)(k:Nat):List Nat:=(ns[k]?).elim [] Nd.inner
noncomputable def sub(ns:List Nd):Nat->Nat->List Nat
 |0,_=>[]
 |f+1,k=>k::(mx ns k).flatMap (sub ns f)
section
variable {f k i j:Nat}
theorem gG(h:ns[k]? =Z x):mx ns k=x.inner:=Z4 (Option.elim · [] Nd.inner) h
noncomputable def Ok(ns:List Nd)(i:Nat):Nat:=(ns[i]?).elim 0 λx=>x.up.toNat
noncomputable def P8(ns:List Nd):Nat->Nat->Nat
 |0,i=>i
 |d+1,i=>Ok ns (P8 ns d i)
theorem Tr.fpos(T:Tr ns)(h:ns[k]? =Z x)(e:f+x.deep=8):∃f',f=f'+1:=by
 induction f with
 |zero=>haveI:=aa (T.lim k x h).dp (show(if x.w=Z5 then 6 else 7)<=7 by cases x.w<;>decide);exact Z1 (ak (e.symm.trans (fw _))) (Q2 (Nat.lt_succ_of_le this))
 |succ f=>exact⟨f,rfl⟩
theorem Tr.anc(T:Tr ns):∀{f k:Nat} {x:Nd},ns[k]? =Z x->∀i∈sub ns f k,∃d y,ns[i]? =Z y/\y.deep=x.deep+d/\P8 ns d i=k:=by
 intro f
 induction f with
 |zero=>exact λ_=>qY
 |succ f ih=>intro k x h;refine eD (eK 0 x h U U) λi hi=>ao (kT hi) λj hj hi=>?_;rw [gG h]at hj;refine dM (T.inn k x h j hj) λy hy _ hu hd=>dG (ih hy i hi) λd z hz e eu=>(eK (d+1) z hz (by rw [e,hd,bL,dC 1]) ?_);show Ok ns (P8 ns d i)=k;unfold Ok;exact YP eu (YP hy (Z4 vD hu))
theorem Tr.nd(T:Tr ns):∀{f k:Nat} {x:Nd},ns[k]? =Z x->(sub ns f k).Nodup:=by
 intro f
 induction f with
 |zero=>exact λ_=>dA
 |succ f ih=>
  intro k x h;refine fc.mpr ⟨λz=>?_,oK.mpr ⟨λj hj=>?_,?_⟩⟩
  ·refine ao (kT z) λj hj hk=>?_;rw [gG h]at hj;refine dM (T.inn k x h j hj) λy hy _ _ hd=>dG (T.anc hy k hk) λd z hz e _=>?_;rw [ai (hz.symm.trans h),hd]at e;exact Z1 e (dk (bl (dc _) (ax _ _)))
  ·rw [gG h]at hj;exact dM (T.inn k x h j hj) λy hy _ _ _=>ih hy
  ·refine YP (gG h) (iH (λ{a b} ha hb hab u hu v hv e=>hab ?_) (T.lim k x h).nd);subst e;refine dM (T.inn k x h a ha) λy hy _ _ hd=>dM (T.inn k x h b hb) λy' hy' _ _ hd'=>dG (T.anc hy u hu) λd z hz e eu=>dG (T.anc hy' u hv) λd' z' hz' e' eu'=>?_;rw [ai (hz.symm.trans hz'),e',hd,hd']at e;exact YP (YO eu) (YP (YO eu') (YP (qW e) U))
theorem Tr.step(T:Tr ns):∀{f k:Nat} {x:Nd},ns[k]? =Z x->f+x.deep=8->∀i∈sub ns f k,∀j∈mx ns i,j∈sub ns f k:=by
 intro f
 induction f with
 |zero=>exact λ_ _=>qY
 |succ f ih=>
  intro k x h e;have e':∀{y:Nd},y.deep=x.deep+1->f+y.deep=8:=λh=>by rw [h,<-bL,bJ];exact e
  refine eD (λj hj=>.tail _ (b0.mpr (aG j hj ?_))) λi hi j hj=>ao (kT hi) λl hl hi=>.tail _ (b0.mpr (aG l hl ?_))
  ·rw [gG h]at hj;refine dM (T.inn k x h j hj) λy hy _ _ hd=>(T.fpos hy (e' hd)).elim λf' ef=>?_;refine YP ef ?_;exact .head _
  ·rw [gG h]at hl;exact dM (T.inn k x h l hl) λy hy _ _ hd=>ih hy (e' hd) i hi j hj
theorem Tr.all(T:Tr ns):∀{i:Nat},i<ns.length->i∈sub ns 7 0:=by
 intro i
 induction i using Nat.strongRecOn with
 |_ i ih=>
  intro hi;refine cu T.top λx h0 _ hd=>?_
  induction i with
  |zero=>exact .head _
  |succ i=>exact kR (T.up _ _ (az hi) (tO i)) λj y hj hji _ hm=>T.step h0 (hd.symm▸rfl) j (ih j hji (kO hji hi)) _ (gG hj▸hm)
theorem Tr.lt(T:Tr ns)(h:ns[k]? =Z x):∀i∈sub ns f k,i<ns.length:=λi hi=>dG (T.anc h i hi) λd y hy _ _=>(cq hy)
theorem jp(h:ns[k]? =Z x):aq (bd ns nm (f+1) k)=nm k:=by
 refine YP (mK h) ?_;by_cases e:x.w=Z5
 ·exact YP (Z3 e) U
 ·exact YP (Z2 e) U
theorem Tr.kids(T:Tr ns)(h:ns[k]? =Z x):kids (bd ns nm (f+1) k)=x.inner.map (bd ns nm f):=by
 refine YP (mK h) ?_;by_cases e:x.w=Z5
 ·exact YP (Z3 e) U
 ·exact YP (Z2 e) (YP ((T.lim k x h).wk (cr.mpr e)) U)
theorem Tr.nms(T:Tr ns):∀{f k:Nat} {x:Nd},ns[k]? =Z x->nms f (bd ns nm f k)=(sub ns f k).map nm:=by
 intro f
 induction f with
 |zero=>exact λ_=>rfl
 |succ f ih=>intro k x h;refine(?_:aq _::(Mine.kids _).flatMap (Mine.nms f)=nm k::((mx ns k).flatMap (sub ns f)).map nm);rw [jp h,T.kids h,gG h,ir,vF];refine Z4 (nm k::·) ?_;exact YP dS (YP dS (Z4 tS (cR λi hi=>dM (T.inn k x h i hi) λy hy _ _ _=>ih hy)))
end
noncomputable def mH(m:Nat)(nm:Nat->Nm)(a:Nm):Option Nat:=(aX m).find? λk=>nm k==a
noncomputable def jj(x:Nd):Nm:=if x.w=Z5 then KI x.cell else En x.cell
noncomputable def HV(x:Nd):Bool:=jj x==['n','e','v','e','r']
noncomputable def Mq(x:Nd):Bool:=!(jj x==['f','a','u','l','t','e','d']||HV x)
noncomputable def DN(x:Nd):Int:=if x.w=Z5 then KL (x.cell/24)else 0
noncomputable def Jp(k:Nat)(x:Nd):Int:=if x.w=Z5 then Jw k x.cell else 0
noncomputable def dF(ns:List Nd)(nm:Nat->Nm):PI:=⟨λa=>(mH ns.length nm a).bind λk=>(ns[k]?).map Nd.w,λa=>(mH ns.length nm a).bind λk=>if k=0 then Z6 else(ns[k]?).map λx=>nm x.up.toNat,λa=>(mH ns.length nm a).any λk=>(ns[k]?).any Mq,λa=>(mH ns.length nm a).any λk=>(ns[k]?).any HV,λa=>(mH ns.length nm a).elim 0 λk=>(ns[k]?).elim 0 DN,λa=>(mH ns.length nm a).elim 0 λk=>(ns[k]?).elim 0 (Jp k),λa=>(mH ns.length nm a).elim [] λk=>(sub ns 8 k).map nm,λa=>(mH ns.length nm a).elim [] λk=>(mx ns k).map nm,λa=>(mH ns.length nm a).elim [] λk=>(ns[k]?).elim [] jj⟩
section
variable {ns:List Nd}
theorem nY(h:mH ns.length nm a=Z k):nm k=a/\k<ns.length:=⟨beq_iff_eq.mp (List.find?_some (p:=λk=>nm k==a) h),jK (List.mem_of_find?_eq_some h)⟩
theorem oQ(N:Nms ns.length nm)(h:k<ns.length):mH ns.length nm (nm k)=Z k:=by
 refine eG (o:=mH ns.length nm (nm k)) (λe=>?_) λj e=>?_
 ·exact Z1 (beq_self_eq_true (nm k)) (N1.mp e k (dY.mpr h))
 ·exact YP e (YP (N.inj j k (nY e).2 h (nY e).1) U)
theorem kL(N:Nms ns.length nm)(h:ns[k]? =Z x):(dF ns nm).isW (nm k)=Z x.w:=by show(mH ns.length nm (nm k)).bind _=_;refine YP (oQ N (cq h)) ?_;exact Z4 (bX Nd.w) h
theorem As(T:Tr ns)(N:Nms ns.length nm)(h:ns[k]? =Z x)(hi:i∈x.inner):(dF ns nm).ch (nm i)=Z (nm k):=dM (T.inn k x h i hi) λy hy hk hu _=>by refine(?_:(mH ns.length nm (nm i)).bind _=_);refine YP (oQ N (cq hy)) ?_;show(if i=0 then Z6 else(ns[i]?).map λx=>nm x.up.toNat)=_;refine YP (Z2 (fq (ce (aU k) hk))) (YP hy ?_);show Z (nm y.up.toNat)=_;exact YP hu U
theorem GK(T:Tr ns)(h:(dF ns nm).ch a=Z m):∃i j x,nm i=a/\nm j=m/\ns[j]? =Z x/\i∈x.inner/\0<i:=by
 haveI h:(mH ns.length nm a).bind _=Z m:=h;refine eG (o:=mH ns.length nm a) (λe=>eU ((YP e U:Z6=(mH ns.length nm a).bind _).trans h)) λi e=>?_;rw [e]at h;have h:(if i=0 then Z6 else(ns[i]?).map λx=>nm x.up.toNat)=Z m:=h;by_cases z:i=0
 ·rw [Z3 z]at h;exact eU h
 ·refine (⟨_,az (nY e).2⟩:∃x,ns[i]? =Z x).elim λx hx=>?_;rw [Z2 z,hx]at h;exact kR (T.up i x hx (eC z)) λj y hj _ hu hm=>⟨i,j,y,(nY e).1,(YP hu U:nm j=nm x.up.toNat).trans (ai h),hj,hm,eC z⟩
theorem Tr.pt(T:Tr ns)(N:Nms ns.length nm)(ne:∀(i:Nat) (x:Nd),ns[i]? =Z x->x.w=Z5->x.inner≠[]):∀{f k:Nat} {x:Nd},ns[k]? =Z x->f+x.deep=8->Pt (dF ns nm) f (bd ns nm f k):=by
 intro f
 induction f with
 |zero=>exact λh e=>(T.fpos h e).elim λf' e=>nomatch e
 |succ f ih=>
  intro k x h e;have hk:=(cq h);have L:=T.lim k x h;have e':∀{y:Nd},y.deep=x.deep+1->f+y.deep=8:=λh=>by rw [h,<-bL,bJ];exact e
  have up:∀{c:Nm},(dF ns nm).ch c=Z (nm k)->∃i,i∈x.inner/\nm i=c:=λ{c} hc=>(GK T hc).elim λi q=>q.elim λj q=>q.elim λy q=>by haveI ej:=N.inj j k (cq q.2.2.1) hk q.2.1;clear hk hc;subst ej;exact(aG i (ai (q.2.2.1.symm.trans h)▸q.2.2.2.1) q.1)
  refine YP (mK h) ?_;by_cases w:x.w=Z5
  ·refine YP (Z3 w) (.wd (N.ok k hk) sR JE BC ⟨?_,?_⟩ ((kL N h).trans (Z4 Z w)) (λc=>⟨λhc=>?_,λhp=>?_⟩) λp hp=>?_)
   ·rw [aj];exact gw.mpr (ne k x h w)
   ·rw [aj];exact L.le
   ·refine ao (up hc) λi hi ei=>dM (T.inn k x h i hi) λy hy _ _ hd=>(T.fpos hy (e' hd)).elim λf' ef=>(aG _ (bx hi) ?_);exact YP ef ((jp hy).trans ei)
   ·refine ao hp λp hp ec=>ao (cL hp) λi hi ei=>dM (T.inn k x h i hi) λy hy _ _ hd=>(T.fpos hy (e' hd)).elim λf' ef=>?_;subst ef ei;exact YP (YO ec) (YP (jp hy) (As T N h hi))
   ·exact ao (cL hp) λi hi ei=>dM (T.inn k x h i hi) λy hy _ _ hd=>ei▸ih hy (e' hd)
  ·refine YP (Z2 w) ?_;haveI w:=cr.mpr w;exact .wk (N.ok k hk) yg ((kL N h).trans (Z4 Z w)) λc hc=>ao (up hc) λi hi _=>Z1 hi (L.wk w▸ba)
theorem wK(h:ns[k]? =Z x):Nw (bd ns nm (f+1) k)=jj x:=by
 refine YP (mK h) ?_;unfold jj;by_cases e:x.w=Z5
 ·exact YP (Z3 e) (YP (Z3 e) U)
 ·exact YP (Z2 e) (YP (Z2 e) U)
theorem xy(N:Nms ns.length nm)(h:ns[k]? =Z x):(dF ns nm).sp (nm k)=DN x/\(dF ns nm).mn (nm k)=Jp k x:=by
 haveI e:=oQ N (cq h);refine⟨?_,?_⟩
 ·show (mH ns.length nm (nm k)).elim 0 _=_;refine YP e ?_;show(ns[k]?).elim 0 DN=_;exact YP h U
 ·show (mH ns.length nm (nm k)).elim 0 _=_;refine YP e ?_;show(ns[k]?).elim 0 (Jp k)=_;exact YP h U
theorem vd(N:Nms ns.length nm)(h:ns[k]? =Z x):(dF ns nm).sb (nm k)=(sub ns 8 k).map nm:=by show(mH ns.length nm (nm k)).elim [] _=_;exact YP (oQ N (cq h)) U
theorem rO(N:Nms ns.length nm)(h:ns[k]? =Z x):(dF ns nm).kd (nm k)=x.inner.map nm/\(dF ns nm).ru (nm k)=jj x:=by
 haveI e:=oQ N (cq h);refine⟨?_,?_⟩
 ·show (mH ns.length nm (nm k)).elim [] _=_;exact YP e (Z4 (m9 nm) (gG h))
 ·show (mH ns.length nm (nm k)).elim [] _=_;refine YP e ?_;show(ns[k]?).elim [] jj=_;exact YP h U
theorem Tr.nmsG(T:Tr ns):∀{f k j:Nat} {x:Nd},ns[k]? =Z x->f+x.deep=8->f<=j->Mine.nms j (bd ns nm f k)=(sub ns j k).map nm:=by
 intro f
 induction f with
 |zero=>exact λh e _=>(T.fpos h e).elim λf' e=>nomatch e
 |succ f ih=>
  intro k j x h e hj
  induction j with
  |zero=>exact Z1 hj (eP _)
  |succ j=>refine(?_:aq _::(Mine.kids _).flatMap (Mine.nms j)=nm k::((mx ns k).flatMap (sub ns j)).map nm);rw [jp h,T.kids h,gG h,ir,vF];refine Z4 (nm k::·) (YP dS (YP dS ?_));exact Z4 tS (cR λi hi=>dM (T.inn k x h i hi) λy hy _ _ hd=>ih hy (by rw [hd,<-bL,bJ];exact e) (jf hj))
theorem M0(T:Tr ns)(N:Nms ns.length nm)(h:ns[k]? =Z x)(e8:f+1+x.deep=8):mdOk (dF ns nm) (bd ns nm (f+1) k):=by
 haveI e:=oQ N (cq h);refine⟨?_,?_,?_,?_,?_,?_,?_⟩
 ·refine YP (jp h) ?_;show(mH ns.length nm (nm k)).any _=_;refine YP e ?_;show(ns[k]?).any HV=_;refine YP h ?_;unfold Fb;exact YP (wK h) U
 ·refine YP (jp h) ?_;show(mH ns.length nm (nm k)).any _=_;refine YP e ?_;show(ns[k]?).any Mq=_;refine YP h ?_;unfold N7 Fb;exact YP (wK h) U
 ·refine YP (jp h) (YP ((xy N h).1) (YP (mK h) ?_));unfold DN;by_cases e:x.w=Z5
  ·exact YP (Z3 e) (YP (Z3 e) U)
  ·exact YP (Z2 e) (YP (Z2 e) U)
 ·refine YP (jp h) (YP ((xy N h).2) (YP (mK h) ?_));unfold Jp;by_cases e:x.w=Z5
  ·exact YP (Z3 e) (YP (Z3 e) U)
  ·exact YP (Z2 e) (YP (Z2 e) U)
 ·exact YP (jp h) (YP (vd N h) (YP (T.nmsG h e8 (aa (ax _ _) (ak e8))) U))
 ·refine YP (jp h) (YP ((rO N h).1) (YP (T.kids h) (YP bO ?_)));exact cR λi hi=>dM (T.inn k x h i hi) λy hy _ _ hd=>(T.fpos hy (by rw [hd,<-bL,bJ];exact e8)).elim λf' ef=>by exact YP ef ((jp hy).symm)
 ·exact YP (jp h) (YP ((rO N h).2) (YP (wK h) U))
theorem Tr.md(T:Tr ns)(N:Nms ns.length nm):∀{f k:Nat} {x:Nd},ns[k]? =Z x->f+x.deep=8->∀y∈jv f (bd ns nm f k),mdOk (dF ns nm) y:=by
 intro f
 induction f with
 |zero=>exact λ_ _=>qY
 |succ f ih=>intro k x h e8;refine eD (M0 T N h e8) λy hy=>ao (kT hy) λp hp hy=>?_;rw [T.kids h]at hp;exact ao (cL hp) λi hi e=>dM (T.inn k x h i hi) λz hz _ _ hd=>ih hz (by rw [hd,<-bL,bJ];exact e8) y (e▸hy)
theorem Tree.plan(t:Tree ns)(N:Nms ns.length nm):Plan (dF ns nm) (bd ns nm 7 0):=cu t.tr.top λx h0 hw hd=>by
 haveI e8:7+x.deep=8:=hd.symm▸rfl;haveI en:nms 7 (bd ns nm 7 0)=(sub ns 7 0).map nm:=t.tr.nms h0;haveI e0:aq (bd ns nm 7 0)=nm 0:=jp h0;refine⟨t.tr.pt N t.ne h0 e8,?_,?_,?_,λw z=>?_,λm hm=>?_,t.tr.md N h0 e8⟩
 ·refine (?_:(!(kids (bd ns nm 7 0)).isEmpty)=Z5);refine YP (t.tr.kids h0) ?_;haveI:=t.ne 0 x h0 hw;cases hx:x.inner with
  |nil=>exact Z1 hx this
  |cons a l=>rfl
 ·exact YP en (mz.map nm (λ_ _ h=>h) (iH (λ{a b} ha hb hab e=>hab (N.inj a b (t.tr.lt h0 a ha) (t.tr.lt h0 b hb) e)) (t.tr.nd h0)))
 ·rw [en,aj];exact aa ((t.tr.nd h0).length_le_of_subset λi hi=>dY.mpr (t.tr.lt h0 i hi)) (aa (ak aZ) t.le)
 ·rw [e0]at z;refine(GK t.tr z).elim λi q=>q.elim λj q=>q.elim λy q=>(dM (t.tr.inn j y q.2.2.1 i q.2.2.2.1) λu hu _ _ _=>?_);haveI:=N.inj i 0 (cq hu) (cq h0) q.1;exact Z1 (this▸q.2.2.2.2) (cZ 0)
 ·refine YP en ?_;haveI hm:((mH ns.length nm m).bind _).isSome=Z5:=hm;refine eG (o:=mH ns.length nm m) (λe=>?_) λk e=>(nY e).1▸bx (t.tr.all (nY e).2);rw [e]at hm;exact Z1 hm ae
end
theorem GN.app{L:AH}(g:GN r ns H):GN r ns (H++L):=λp hp=>dT (g p hp)
theorem EM{P:Prog}{a:Nat}{x y:List V}(hg:H[a]? =Z (.list x))(h:x.length+y.length<=aB):bj P J (.bop .add) [.ref a,.lst y] H=Z (.lst (x++y),H):=by show((H[a]?.bind O.lst).bind λvs=>if vs.length+y.length<=aB then Z (V.lst (vs++y))else Z6).map _=_;refine YP hg ?_;show(if x.length+y.length<=aB then Z (V.lst (x++y))else Z6).map _=_;exact YP (Z3 h) U
theorem ES:(H++[o]).set H.length o'=H++[o']:=by rw [jr _ _ (aM _),oj];rfl
theorem tB:bE (a::l) (g9 (a::l).length 1) (a::l).length=l:=by refine YP (show g9 (a::l).length 1=1 from jo (j:=1) (aA (aU _))) ?_;unfold bE;exact YP gy U
noncomputable abbrev sb(ns:List Nd)(p:Nat×Nat):List Nat:=sub ns p.1 p.2
theorem J2{td:List (Nat×Nat)}(h:∀p∈td,∃f,p.1=f+1):td.length<=(td.flatMap (sb ns)).length:=by
 induction td with
 |nil=>exact aM _
 |cons p td ih=>rw [cI,af,dN,dC];refine bD ((h p (.head _)).elim λf e=>?_) (ih λy hy=>h y (.tail _ hy));refine(?_:1<=(sub ns p.1 p.2).length);exact YP e (aA (aU _))
def IU(ns:List Nd)(r k0:Nat)(H:AH)(tot:List Nat)(N:Nat)(ρ:Fm)(H':AH):Prop:=
 ∃(td:List (Nat×Nat)) (dn:List Nat) (o:Option V),ρ=[Z (.ref r),Z (ni k0),Z (.ref H.length),Z (.lst (td.map λp=>ni p.2)),o]/\H'=H++[.list (dn.map ni)]/\dn++td.flatMap (sb ns)=tot/\(td.flatMap (sb ns)).length=N/\(td.length<=N/\N<=60)/\∀p∈td,∃x,ns[p.2]? =Z x/\p.1+x.deep=8
theorem f15{f0 k0:Nat}{x0:Nd}(t:Tree ns)(g:GN r ns H)(h0:ns[k0]? =Z x0)(e80:f0+x0.deep=8)(q:Q (.ref H.length) (H++[.list ((sub ns f0 k0).map ni)])):aO PL (n+1) 21 [.ref r,ni k0] H Q X:=by
 have T:=t.tr;have Ah:(sub ns f0 k0).length<=60:=aa ((T.nd h0).length_le_of_subset (l₂:=aX ns.length) λi hi=>dY.mpr (T.lt h0 i hi)) (aa (ak aZ) t.le);haveI e0:[((f0,k0):Nat×Nat)].flatMap (sb ns)=sub ns f0 k0:=aJ _;refine cf U U (eR (lH ⟨bV U,br (av U) (bV U) ?_⟩));refine nM (IU ns r k0 H (sub ns f0 k0)) (N:=(sub ns f0 k0).length) (λN ρ' H' hI=>hU hI λtd dn o e eh ed eN l hp=>?_) (fM [(f0,k0)] [] Z6 U U e0 (Z4 dQ e0) ⟨(T.fpos h0 e80).elim λf' ef=>ef▸aA (aU _),Ah⟩ (c8 (aG x0 h0 e80)));subst e eh;refine(bQ _ (ay (av U) (av U) (lJ (pM (f:=λp:Nat×Nat=>ni p.2) λ_=>Z0) jQ)) (λhc K' hK=>?_) (λhc=>?_))
 ·clear hI;induction td with
  |nil=>exact Z1 hc ae
  |cons p td=>
   refine ao (hp p (.head _)) λx hx e8=>(T.fpos hx e8).elim λf ef=>?_;have es:sb ns p=p.2::x.inner.flatMap (sub ns f):=by show sub ns p.1 p.2=_;exact YP ef (Z4 (λt=>p.2::List.flatMap (sub ns f) t) (gG hx))
   haveI ei:(x.inner.map λi=>(f,i)).flatMap (sb ns)=x.inner.flatMap (sub ns f):=ir ..;haveI g':∀{l:List Nat},GN r ns (H++[.list (l.map ni)]):=λ{l}=>g.app;rw [cI,es]at ed eN;haveI lt:td.length<=60:=aa (bh _) (aa l.1 l.2);haveI lx:=(T.lim _ x hx).le;refine br (ay (ah U) am GI) (bV U) (kG (ah U) (fo fU) (ah U) (hE (fL fU ?_) ?_))
   ·rw [aj];haveI:=Z4 dQ ed;rw [af]at this;exact aa (ax _ _) (aa (ak this) (aa Ah (by decide)))
   refine YP ES (YP (show dn.map ni++[ni p.2]=(dn++[p.2]).map ni from(aN (f:=ni) (l₁:=dn) (l₂:=[p.2])).symm) ?_);have kid8:∀i∈x.inner,∃y,ns[i]? =Z y/\f+y.deep=8:=λi hi=>dM (T.inn _ x hx i hi) λy hy _ _ hd=>(aG y hy (by rw [hd,<-bL,bJ];exact ef▸e8));haveI ln:(x.inner.map λi=>(f,i)).length+td.length<=(x.inner.flatMap (sub ns f)++td.flatMap (sb ns)).length:=by haveI:=J2 (ns:=ns) (td:=(x.inner.map λi=>(f,i))++td) (bR (λy hy=>ao (cL hy) λi hi e=>e▸ao (kid8 i hi) λy hy e=>(T.fpos hy e).imp λ_ e=>e) λy hy=>ao (hp y (.tail _ hy)) λz hz e=>(T.fpos hz e).imp λ_ e=>e);rw [af,bz,ei]at this;exact this
   haveI eN':(x.inner.flatMap (sub ns f)++td.flatMap (sb ns)).length+1=N:=eN;refine br (ay (kU g' hx U U U) (fR (ah U) am am ((nD ?_).trans (Z4 (λt=>Z (V.lst t,H++[O.list ((dn++[p.2]).map ni)])) tB))) (EM (g'.inn hx) ?_)) (bV U) (hK _ _ (x.inner.flatMap (sub ns f)++td.flatMap (sb ns)).length (Nat.lt_of_succ_le (ak eN')) (fM ((x.inner.map λi=>(f,i))++td) (dn++[p.2]) (Z (ni p.2)) ?_ U ?_ ?_ ⟨?_,?_⟩ (bR (λy hy=>ao (cL hy) λi hi e=>e▸kid8 i hi) λy hy=>hp y (.tail _ hy))))
   ·rw [aj];exact aa l.1 (aa l.2 (by decide))
   ·rw [aj,aj];exact aa (bD lx lt) (by decide)
   ·exact YP aN (YP bO U)
   ·rw [bz,ei,au];exact ed
   ·exact YP bz (YP ei U)
   ·exact YP af ln
   ·exact aa (bh _) (aa (ak eN') l.2)
 ·clear l hp hI eN;induction td with
  |nil=>refine bg (ah U) ?_;rw [<-ed,jx,aJ]at q;exact q
  |cons p td=>exact Z1 hc (ca:¬true=J)
theorem Tr.subS(T:Tr ns):∀{f k j:Nat} {x:Nd},ns[k]? =Z x->f+x.deep=8->f<=j->sub ns j k=sub ns f k:=by
 intro f
 induction f with
 |zero=>exact λh e _=>(T.fpos h e).elim λf' e=>nomatch e
 |succ f ih=>
  intro k j x h e hj
  induction j with
  |zero=>exact Z1 hj (eP _)
  |succ j=>refine(?_:k::(mx ns k).flatMap (sub ns j)=k::(mx ns k).flatMap (sub ns f));refine YP (gG h) (YP dS (YP dS ?_));exact Z4 (λl=>k::tS l) (cR λi hi=>dM (T.inn k x h i hi) λy hy _ _ hd=>ih hy (by rw [hd,<-bL,bJ];exact e) (jf hj))
theorem IJ(t:Tree ns)(g:GN r ns H)(h:ns[k]? =Z x)(q:Q (.ref H.length) (H++[.list ((sub ns 8 k).map ni)])):aO PL (n+1) 21 [.ref r,ni k] H Q X:=by haveI d:=aa (t.tr.lim k x h).dp (show(if x.w=Z5 then 6 else 7)<=8 by cases x.w<;>decide);haveI e8:=gL d;rw [t.tr.subS h e8 (dy _ _)]at q;exact f15 t g h e8 q
noncomputable def KH(ns:List Nd)(k:Nat):Nat:=(ns[k]?).elim 0 λx=>8-x.deep
noncomputable def psL(ns:List Nd)(nm:Nat->Nm):List V:=(aX ns.length).map λk=>bd ns nm (KH ns k) k
noncomputable def cz(r:Nat)(ns:List Nd)(nm:Nat->Nm)(o:Nat):V:=.dct [['n','o','d','e','s'],['n','a','m','e','s'],['p','a','r','t','s'],['p','l','a','n'],['o','r','d','e','r']] [.ref r,vI nm ns.length,.lst (psL ns nm),bd ns nm 7 0,.ref o]
section
variable {zs:List Int}
theorem n30:∃m:Nat,(2+a%9:Int)=m/\2<=m/\m<=30:=haveI h:=ju (a:=a) (b:=9) (by decide);(bQ ((2+a%9).toNat) ((bP (ph (by decide) h.1)).symm) ((Int.le_toNat (ph (by decide) h.1)).mpr (Aa h.1)) (tM.mpr (bA (KM (fp h.2) 2) (by decide))))
theorem LF(h2:2<=m)(hm:m<=30)(q:∀ns nm o H',Tree ns->Nms ns.length nm->GN (H.length+2) ns H'->H'[o]? =Z (.list ((sub ns 7 0).map ni))->Q (cz (H.length+2) ns nm o) H') :
  bk PL (aO PL (n+12)) (Mx.body.drop 3) [Z (.lst (zs.map V.int)),Z (.int c),Z (ni m),Z6,Z6,Z6] H K Q X:=by
 refine eR (dm (ah U) (ah U) (f14 h2 hm λns H' cl t=>⟨bV U,?_⟩));have g:=cl.gn;haveI T:=t.tr;refine eR (dm (gb (ah U) am λQ q=>Ly (by decide) q) (qJ g U) (f12 t.le λnm N=>⟨bV U,?_⟩));refine cu T.top λx0 h0 _ hd0=>?_;haveI hl:=(cq h0);refine br (oB (l:=aX ns.length) (f:=ni) (g:=λk=>bd ns nm (KH ns k) k) (bK (qJ g U) (gc (zN (aa t.le (by decide))))) (Z4 Z p5) (by exact YP aZ (aa t.le (by decide))) λk hk=>io (ah U) (ah U) (ah U) λQ q=>?_) (bV U) ?_
 ·refine (⟨_,az (jK hk)⟩:∃x,ns[k]? =Z x).elim λx hx=>?_;haveI e:KH ns k=8-x.deep:=Z4 (λt:Option Nd=>t.elim 0 λx=>8-x.deep) hx;haveI d:=aa (T.lim k x hx).dp (show(if x.w=Z5 then 6 else 7)<=7 by cases x.w<;>decide);rw [e]at q;exact xm (m:=8-x.deep+1) (aa (aA (dy _ _)) (aa (by decide:9<=12) (bG _ _))) (f18 T g hx (gL (aa d (by decide))) q)
 haveI e7:KH ns 0=7:=(Z4 (λt:Option Nd=>t.elim 0 λx=>8-x.deep) h0).trans (show 8-x0.deep=7 by exact YP hd0 U);refine g7 (show iE PL (aO PL (n+12)) [_,_,_,_,_] _ _ _ _ from ah (P:=PL) (C:=aO PL (n+12)) (X:=X) (v:=.ref (H.length+2)) U _ (ah (P:=PL) (C:=aO PL (n+12)) (X:=X) (v:=vI nm ns.length) U _ (ah (P:=PL) (C:=aO PL (n+12)) (X:=X) (v:=.lst ((aX ns.length).map λk=>bd ns nm (KH ns k) k)) U _ (ay (P:=PL) (C:=aO PL (n+12)) (X:=X) (z:=bd ns nm 7 0) (ah U) am ?_ _ (dm (ah U) am (f15 t g h0 (hd0.symm▸rfl) (hE U (q ns nm H'.length _ t N (λp hp=>dT (g p hp)) fU))))))));refine(jS (j:=0) (v:=bd ns nm (KH ns 0) 0) ?_).trans (by exact YP e7 U);exact YP aV (YP (cT hl) U)
theorem f19(q:∀ns nm o H',Tree ns->Nms ns.length nm->GN (H.length+2) ns H'->H'[o]? =Z (.list ((sub ns 7 0).map ni))->Q (cz (H.length+2) ns nm o) H'):aO PL (n+13) 25 [.lst (zs.map V.int)] H Q X:=by refine cf U U (br (gb (ah U) am λQ q=>Ly (by decide) q) (bV U) ?_);generalize zs.getD _ 0=z;refine cu (n30 (a:=z)) λm em h2 hm=>br (v:=ni m) (cc (ay am (ay (ah U) am (eT (by decide))) gO) (Z4 V.int em)) (bV U) ?_;exact bS (av U) (λ_=>br (v:=ni 30) am (bV U) (LF (by decide) (aM _) q)) λ_=>LF h2 hm q
noncomputable def Dq(ns:List Nd)(k:Nat):Bool:=!(ns[k]?).any Nd.w
theorem f24(t:Tree ns)(g:GN r ns H)(ho:H[o]? =Z (.list ((sub ns 7 0).map ni)))(q:Q (.lst ((((sub ns 7 0).filter (Dq ns)).map nm).map V.str)) H):aO PL (n+1) 26 [cz r ns nm o] H Q X:=by
 refine cu t.tr.top λx0 h0 _ _=>?_;rw [bO]at q;refine cf U U (bg (jU (l:=sub ns 7 0) (f:=ni) (g:=λk=>V.str (nm k)) (p:=Dq ns) (w:=.ref o) (av U) (i6 ho) ?_ (λk hk=>?_) λk hk _=>ay (x:=vI nm ns.length) (av U) (ah U) (jn (t.tr.lt h0 k hk))) q)
 ·exact aa ((t.tr.nd h0).length_le_of_subset (l₂:=aX ns.length) λi hi=>dY.mpr (t.tr.lt h0 i hi)) (aa (ak aZ) (aa t.le (by decide)))
 ·refine (⟨_,az (t.tr.lt h0 k hk)⟩:∃x,ns[k]? =Z x).elim λx hx=>?_;refine cc (bZ (s:=x.w) (ay (x:=.ref x.d) (ay (x:=.ref r) (av U) (ah U) (gY g.row (by exact YP aV (YP hx U)))) am (jM (g.dic hx) U))) ?_;unfold Dq;exact YP hx U
end
noncomputable def upd{α:Type}(f:Nat->α)(k:Nat)(x:α):Nat->α:=λj=>if j=k then x else f j
noncomputable def rg(N:Nat)(f:Nat->V):O:=.list ((aX N).map f)
noncomputable def JS(l:List Int):V:=.lst (l.map V.int)
noncomputable def y7(l:List (Nat×V)):V:=.lst (l.map tb)
noncomputable def mO:List Nm:=[['h','e','r','e'],['s','u','m'],['m','a','i','l'],['h','o','u','r'],['s','e','n','t'],['k','e','p','t'],['r','o','w','s']]
noncomputable def q8(b:Nat)(t:Int)(lt:Nat):List V:=[.ref b,.ref (b+1),.ref (b+2),.int t,.int lt,.ref (b+4),.ref (b+5)]
noncomputable def wN(b N:Nat)(nm:Nat->Nm)(T:Ab):List (Nat×O):=[(b,rg N λk=>.bool (T.h (nm k))),(b+1,rg N λk=>.int (T.s (nm k))),(b+2,rg N λk=>y7 (T.q (nm k))),(b+3,.dict mO (q8 b T.t T.lt)),(b+4,rg N λk=>JS (T.k (nm k))),(b+5,.list (T.ev.map Evt.v))]
def Hz(g:List (Nat×O))(H:AH):Prop:=(g.map (·.1)).Nodup/\∀p∈g,H[p.1]? =Z p.2
theorem oy(hk:k<N):((aX N).map f)[k]? =Z (f k):=YP aV (YP (cT hk) U)
theorem J0{f:Nat->V}:((aX N).map f).set k x=(aX N).map (upd f k x):=by
 refine fX λj=>(YP fY ?_);by_cases hj:j<N
 ·rw [oy hj,oy hj,aj,aZ];show _=Z (if j=k then x else f j);by_cases e:k=j
  ·exact YP (Z3 e) (YP (Z3 (e▸hj)) (YP (Z3 e.symm) U))
  ·exact YP (Z2 e) (YP (Z2 (Ne.symm e)) U)
 ·haveI n1:∀{g:Nat->V},((aX N).map g)[j]? =Z6:=λ{g}=>fK (by rw [aj,aZ];exact dR hj);refine YP n1 (YP n1 ?_);by_cases e:k=j
  ·rw [Z3 e,Z2 (by rw [aj,aZ,e];exact hj)]
  ·exact YP (Z2 e) U
theorem I5(hr:H[r]? =Z (rg N f))(hk:k<N):eX (.ref r) (ni k) x H=Z (H.set r (rg N (upd f k x))):=by show IB r k x H H[r]? =_;refine YP hr ?_;show(if 0<=(k:Int)/\(k:Int)<((aX N).map f).length then Z (H.set r (.list (((aX N).map f).set k x)))else Z6)=_;rw [Z3 ⟨bp k,by rw [aj,aZ];exact b9.mpr hk⟩,J0];rfl
theorem Hv(h:p∈σ.G):p∈kX σ S:=.tail _ (.tail _ (.tail _ (.tail _ (.tail _ (.tail _ (.tail _ (.tail _ (.tail _ (.tail _ h)))))))))
structure Fx(σ:Ad)(G0:List (Nat×O))(ns:List Nd)(nm:Nat->Nm)(r o:Nat):Prop where
 t:Tree ns
 n:Nms ns.length nm
 g:∀p∈LN r ns,p∈G0
 o:(o,O.list ((sub ns 7 0).map ni))∈G0
 pl:Pl (dF ns nm) σ
 en:σ.names=(sub ns 7 0).map nm
abbrev WX(G0:List (Nat×O))(b N:Nat)(nm:Nat->Nm)(T:Ab)(X:List (Nat×O))(H:AH):Prop:=Hz (G0++(wN b N nm T++X)) H
theorem Hz.at(h:Hz g H)(hp:p∈g):H[p.1]? =Z p.2:=h.2 p hp
theorem Hz.gset(w:Hz (G0++W) H)(k:Nat)(hk:W[k]? =Z (a,o)):Hz (G0++W.set k (a,o')) (H.set a o'):=by
 haveI z:(G0++W).set (G0.length+k) (a,o')=G0++W.set k (a,o'):=by rw [jr _ _ (ax _ _),e9]
 haveI c:=AQ (o':=o') w.1 w.2 (by rw [cB (ax _ _),e9];exact hk);rw [z]at c;exact⟨c.1▸w.1,c.2⟩
theorem Hz.push(w:Hz g H)(o:O):Hz (g++[(H.length,o)]) (H++[o]):=⟨by refine YP aN (bv.mpr (bu w.1 (fc.mpr ⟨ba,dA⟩) (λa ha b hb e=>ao (cL ha) λp hp ep=>?_)));exact dk (cq (w.2 p hp)) (ep.trans (e.trans (in1 hb))),bR (λp hp=>dT (w.2 p hp)) (c8 fU)⟩
theorem Hz.drop(h:Hz (g++g1) H):Hz g H:=⟨(bv.mp (aN▸h.1)).1,λp hp=>h.2 p (aR _ hp)⟩
theorem Hz.app(h:Hz g H):Hz g (H++L):=⟨h.1,λp hp=>dT (h.2 p hp)⟩
theorem WX.push(w:WX G0 b N nm T Y H)(o:O):WX G0 b N nm T (Y++[(H.length,o)]) (H++[o]):=by haveI y:=Hz.push w o;rw [au,au]at y;exact y
theorem WX.pop(w:WX G0 b N nm T (Y++Z7) H):WX G0 b N nm T Y H:=Hz.drop (by rw [au,au];exact w)
theorem WX.at(w:WX G0 b N nm T Y H)(k:Nat)(hk:(wN b N nm T++Y)[k]? =Z p):H[p.1]? =Z p.2:=Hz.at w (aC _ (aI hk))
theorem WX.top{a:Nat}{o:O}(w:WX G0 b N nm T (Y++[(a,o)]) H):H[a]? =Z o:=Hz.at w (aC _ (aC _ (aC _ (.head _))))
theorem WX.gn(w:WX G0 b N nm T Y H)(hG:∀p∈LN r ns,p∈G0):GN r ns H:=λp hp=>Hz.at w (aR _ (hG p hp))
theorem lI{f g:Nat->V}(h:∀j,j<N->f j=g j):rg N f=rg N g:=Z4 O.list (cR λj hj=>h j (jK hj))
theorem MQ{α:Type}{f:Nm->α}{x:α}(N':Nms N nm)(hk:k<N)(hj:j<N):(if j=k then x else f (nm j))=kH f (nm k) x (nm j):=by
 unfold kH;by_cases z:j=k
 ·exact YP (Z3 z) (YP (Z3 (z▸rfl)) U)
 ·exact YP (Z2 z) (YP (Z2 λq=>z (N'.inj j k hj hk q)) U)
theorem gN(w:WX G0 b N nm T Y H)(hi:ρ[i]? =Z (Z (.ref (b+3))))(e:gx key mO (q8 b T.t T.lt)=Z v):Ev P C ρ H X (.p J .i [.v i,.c (.str key)]) v:=ay (ah hi) am (jM (w.at 3 rfl) e)
theorem mG(w:WX G0 b N nm T Y H)(hi:ρ[i]? =Z (Z (.ref (b+3))))(he:Ev P C ρ H X e (ni k))(hk:k<N):Ev P C ρ H X (.p J .i [.p J .i [.v i,.c (.str ['h','e','r','e'])],e]) (.bool (T.h (nm k))):=ay (gN w hi U) he (gY (w.at 0 rfl) (oy hk))
theorem Nk(w:WX G0 b N nm T Y H)(hi:ρ[i]? =Z (Z (.ref (b+3))))(he:Ev P C ρ H X e (ni k))(hk:k<N):Ev P C ρ H X (.p J .i [.p J .i [.v i,.c (.str ['s','u','m'])],e]) (.int (T.s (nm k))):=ay (gN w hi U) he (gY (w.at 1 rfl) (oy hk))
theorem uY(w:WX G0 b N nm T Y H)(hi:ρ[i]? =Z (Z (.ref (b+3))))(he:Ev P C ρ H X e (ni k))(hk:k<N):Ev P C ρ H X (.p J .i [.p J .i [.v i,.c (.str ['m','a','i','l'])],e]) (y7 (T.q (nm k))):=ay (gN w hi U) he (gY (w.at 2 rfl) (oy hk))
theorem GO(w:WX G0 b N nm T Y H)(hi:ρ[i]? =Z (Z (.ref (b+3))))(he:Ev P C ρ H X e (ni k))(hk:k<N):Ev P C ρ H X (.p J .i [.p J .i [.v i,.c (.str ['k','e','p','t'])],e]) (JS (T.k (nm k))):=ay (gN w hi U) he (gY (w.at 4 rfl) (oy hk))
theorem zb{H':AH}{oe ie e:Ex}{x ov iv:V}(he:Ev P C ρ H X e x)(ho:Ev P C ρ H X oe ov)(hi:Ev P C ρ H X ie iv)(es:eX ov iv x H=Z H')(k:bk P C ss ρ H' K R X):bk P C (.s oe ie e::ss) ρ H K R X:=iJ (he _ (ho _ (hi _ (YP es k))))
theorem rf{α:Type}{g:α->V}{f:Nm->α}{x:α}(N':Nms N nm)(w:WX G0 b N nm T Y H)(hi:ρ[i]? =Z (Z (.ref (b+3))))(hx:Ev P C ρ H X ex (g x))(he:Ev P C ρ H X ei (ni k))(hk:k<N)(ek:gx key mO (q8 b T.t T.lt)=Z (.ref c))(ep:(wN b N nm T++Y)[p]? =Z (c,rg N λj=>g (f (nm j))))
  (es:(wN b N nm T++Y).set p (c,rg N λj=>g (kH f (nm k) x (nm j)))=wN b N nm T'++Y)(q:∀H',WX G0 b N nm T' Y H'->bk P C ss ρ H' K R X):bk P C (.s (.p J .i [.v i,.c (.str key)]) ei ex::ss) ρ H K R X:=by
 refine zb hx (gN w hi ek) he ((I5 (w.at p ep) hk).trans (Z4 (λt=>Z (H.set c t)) (lI λj hj=>?_))) (q _ (by haveI z:=w.gset p (o':=rg N λj=>g (kH f (nm k) x (nm j))) ep;rw [es]at z;exact z));refine(?_:(if j=k then g x else g (f (nm j)))=_);rw [<-apply_ite g,MQ N' hk hj]
theorem ow(t:Evt)(w:WX G0 b N nm T Y H)(hi:ρ[i]? =Z (Z (.ref (b+3))))(he:Ev P C ρ H X e t.v)(hl:T.ev.length<=aB)(q:∀H',WX G0 b N nm {T with ev:=T.ev++[t]} Y H'->bk P C ss ρ H' K R X):bk P C (.e (.n .list J .append (.p J .i [.v i,.c (.str ['r','o','w','s'])]) [e])::ss) ρ H K R X:=by refine kG (gN w hi U) (fo (w.at 5 rfl)) he (hE (fL (w.at 5 rfl) (aa (ak (aj _)) hl)) (q _ ?_));haveI z:=w.gset 5 (o':=.list (T.ev.map Evt.v++[t.v])) U;haveI e:T.ev.map Evt.v++[t.v]=(T.ev++[t]).map Evt.v:=YP aN U;rw [e]at z ⊢;exact z
theorem uf(g:GN r ns H)(hx:ns[k]? =Z x)(hi:ρ[i]? =Z (Z (cz r ns nm o)))(hj:ρ[j]? =Z (Z (ni k)))(e:gx key xn (wF x)=Z v):Ev P C ρ H X (.p J .i [.p J .i [.p J .i [.v i,.c (.str ['n','o','d','e','s'])],.v j],.c (.str key)]) v:=
 ay (ay (ay (ah hi) am U) (ah hj) (gY g.row (by exact YP aV (YP hx U)))) am (jM (g.dic hx) e)
theorem nJ(N':Nms N nm)(hk:k<N):bj P J .lindex [vI nm N,.str (nm k)] H=Z (ni k,H):=by
 haveI q:=fS (m0 (f:=λk=>V.str (nm k)) (l:=aX N) λ_=>Z0);refine(?_:(if re _=Z5 then(((aX N).map λk=>V.str (nm k)).findIdx? λy=>fZ y (.str (nm k))).map λ(k:Nat)=>(V.int k,H)else Z6)=_);rw [Z3 (lj q.1 (aa (ak q.2) (by decide))),show(((aX N).map λk=>V.str (nm k)).findIdx? λy=>fZ y (.str (nm k)))=Z k from ?_]
 ·rfl
 ·have hl:((aX N).map λk=>V.str (nm k)).length=N:=by rw [aj,aZ]
  refine fN.mpr ⟨hl.symm▸hk,?_,λj hj=>?_⟩
  ·rw [nb,rK];exact beq_iff_eq.mpr U
  ·rw [nb,rK];exact λz=>dk hj (N'.inj j k (kO hj hk) hk (beq_iff_eq.mp z))
theorem J7(h:ns[k]? =Z x):bj P J .i [bd ns nm (f+1) k,.int 2] H=Z (.str (jj x),H):=by
 refine YP (mK h) ?_;unfold jj;by_cases e:x.w=Z5
 ·exact YP (Z3 e) (YP (Z3 e) U)
 ·exact YP (Z2 e) (YP (Z2 e) U)
theorem xS(T:Tr ns)(hx:ns[k]? =Z x)(h0:ρ[i]? =Z (Z (cz r ns nm o)))(h3:ρ[l]? =Z (Z (ni k))):∃f,Ev P C ρ H X (.p J .i [(.p J .i [(.v i),.c (.str ['p','a','r','t','s'])]),(.v l)]) (bd ns nm (f+1) k):=by haveI hk:=(cq hx);haveI e:=Z4 (λt:Option Nd=>t.elim 0 λx=>8-x.deep) hx;haveI d:=aa (T.lim k x hx).dp (show(if x.w=Z5 then 6 else 7)<=7 by cases x.w<;>decide);refine(T.fpos hx (gL (aa d (by decide)))).imp λf ef=>?_;refine ay (ay (ah h0) am U) (ah h3) (jS ?_);refine YP aV (YP (cT hk) ?_);exact Z4 (λt=>Z (bd ns nm t k)) (e.trans ef)
theorem qy(T:Tr ns)(hx:ns[k]? =Z x)(h0:ρ[i]? =Z (Z (cz r ns nm o)))(h3:ρ[l]? =Z (Z (ni k))):Ev P C ρ H X (.p J .i [(.p J .i [(.p J .i [(.v i),.c (.str ['p','a','r','t','s'])]),(.v l)]),.c (.int 2)]) (.str (jj x)):=(xS T hx h0 h3).elim λ_ h=>ay h am (J7 hx)
theorem B4(N':Nms ns.length nm)(hx:ns[k]? =Z x):(dF ns nm).nv (nm k)=HV x/\(dF ns nm).al (nm k)=Mq x:=by
 haveI e:=oQ N' (cq hx);refine⟨?_,?_⟩
 ·show (mH ns.length nm (nm k)).any _=_;refine YP e ?_;show(ns[k]?).any HV=_;exact YP hx U
 ·show (mH ns.length nm (nm k)).any _=_;refine YP e ?_;show(ns[k]?).any Mq=_;exact YP hx U
theorem xZ(h:((dF ns nm).isW m).isSome=Z5):∃k x,ns[k]? =Z x/\nm k=m:=by haveI h:((mH ns.length nm m).bind _).isSome=Z5:=h;refine eG (λz=>?_) λk z=>(gp k _ (az (nY z).2) ((nY z).1));rw [z]at h;exact Z1 h ae
noncomputable def aE(es:List Evt)(T:Ab):Ab:=aF es T.k T
theorem qz:aE (a++b) T=aE b (aE a T):=by show(⟨(a++b).foldl hr T.h,λc=>(a++b).foldl (lM c) (T.k c),λc=>(a++b).foldl (pJ c) (T.s c),T.q,T.ev++(a++b),T.t,T.lt⟩:Ab)=⟨b.foldl hr (a.foldl hr T.h),λc=>b.foldl (lM c) (a.foldl (lM c) (T.k c)),λc=>b.foldl (pJ c) (a.foldl (pJ c) (T.s c)),T.q,T.ev++a++b,T.t,T.lt⟩;rw [bN,au,show(λc=>(a++b).foldl (lM c) (T.k c))=λc=>b.foldl (lM c) (a.foldl (lM c) (T.k c))from funext λc=>bN,show(λc=>(a++b).foldl (pJ c) (T.s c))=λc=>b.foldl (pJ c) (a.foldl (pJ c) (T.s c))from funext λc=>bN]
theorem wA:aE [] T=T:=Z4 (λl=>(⟨T.h,T.k,T.s,T.q,l,T.t,T.lt⟩:Ab)) (aJ T.ev)
theorem MI:hr h (.beg n)=kH h n Z5:=funext λm=>by
 refine(?_:(decide (m=n)||h m)=if m=n then Z5 else h m);by_cases e:m=n
 ·exact YP (Z3 e) (YP (decide_eq_true e) U)
 ·exact YP (Z2 e) (YP (decide_eq_false e) U)
theorem Mh:(λm=>!decide (m=n)&&h m)=kH h n J:=funext λm=>by
 refine(?_:_=if m=n then J else h m);by_cases e:m=n
 ·exact YP (Z3 e) (YP (decide_eq_true e) U)
 ·exact YP (Z2 e) (YP (decide_eq_false e) U)
theorem J4:({T with h:=kH T.h n Z5,s:=kH T.s n 0,k:=kH T.k n [],ev:=T.ev++[.beg n]}:Ab)=aE [.beg n] T:=by
 haveI e1:kH T.s n 0=λc=>pJ c (T.s c) (.beg n):=funext λc=>by
  refine(?_:(if c=n then 0 else T.s c)=if n=c then 0 else T.s c);by_cases e:c=n
  ·exact YP (Z3 e) (YP (Z3 e.symm) U)
  ·exact YP (Z2 e) (YP (Z2 λq=>e q.symm) U)
 haveI e2:kH T.k n []=λc=>lM c (T.k c) (.beg n):=funext λc=>by
  refine(?_:(if c=n then []else T.k c)=if n=c then []else T.k c);by_cases e:c=n
  ·exact YP (Z3 e) (YP (Z3 e.symm) U)
  ·exact YP (Z2 e) (YP (Z2 λq=>e q.symm) U)
 exact YP e1 (YP e2 (YP (YO MI) U))
theorem GB(h1:hr T.h e=λm=>!decide (m=n)&&T.h m)(h2:∀c l,lM c l e=l)(h3:∀c s,pJ c s e=s):({T with h:=kH T.h n J,ev:=T.ev++[e]}:Ab)=aE [e] T:=by show _=(⟨hr T.h e,λc=>lM c (T.k c) e,λc=>pJ c (T.s c) e,T.q,T.ev++[e],T.t,T.lt⟩:Ab);exact YP h1 (YP Mh (YP (show(λc=>lM c (T.k c) e)=T.k from funext λc=>h2 c _) (YP (show(λc=>pJ c (T.s c) e)=T.s from funext λc=>h3 c _) U)))
theorem Tr.sub8(t:Tree ns)(hx:ns[k]? =Z x):(sub ns 8 k).length<=60:=aa ((t.tr.nd hx).length_le_of_subset λi hi=>dY.mpr (t.tr.lt hx i hi)) (aa (ak aZ) t.le)
noncomputable def PW(hall:V)(b k:Nat)(o3:Option V):Fm:=[Z hall,Z (.ref (b+3)),Z (ni k),o3]
def BG(G0:List (Nat×O))(b:Nat)(ns:List Nd)(nm:Nat->Nm)(T:Ab)(Y:List (Nat×O))(hall:V)(k a:Nat)(its:List Nat)(ρ:Fm)(H:AH):Prop:=
 ∃o3 dn,ρ=PW hall b k o3/\dn++its=sub ns 8 k/\WX G0 b ns.length nm (aE (dn.map λj=>.beg (nm j)) T) (Y++[(a,.list ((sub ns 8 k).map ni))]) H
theorem f26(F:Fx σ G0 ns nm r o)(w:WX G0 b ns.length nm T Y H)(hx:ns[k]? =Z x)(hl:T.ev.length+60<=900000)(q:∀H',WX G0 b ns.length nm (aE (((dF ns nm).sb (nm k)).map .beg) T) Y H'->Q .none H'):aO PL (n+2) 28 [cz r ns nm o,.ref (b+3),ni k] H Q X:=by
 haveI Ah:=Tr.sub8 F.t hx;refine cf U U (sK (dm (av U) (ah U) (IJ F.t (w.gn F.g) hx ?_)));refine tf (rev:=J) (tgt:=.inl 3) (λ_ _=>rfl) (BG G0 b ns nm T Y (cz r ns nm o) k H.length) (λ_ _ _ q=>dG q λ_ _ _ _ w=>i6 w.top) (aa Ah (by decide)) (eK Z6 [] U U (wA.symm▸w.push _))
  (λj js ρ' H' hI K' hK=>dG hI λo3 dn e ed w=>?_) λρ' H' hI=>dG hI λo3 dn e ed w=>q H' ?_
 ·refine YP e ?_;have hj:=F.t.tr.lt hx j (ed▸aC dn (.head _));haveI ld:(aE (dn.map λj=>.beg (nm j)) T).ev.length<=aB:=by show(T.ev++dn.map _).length<=_;rw [af,aj];refine aa (aH (aa ?_ Ah) _) (aa hl (by decide));exact YP (YO ed) (YP af (ax _ _))
  refine rf (p:=0) F.n w U am (ah U) hj U U (T':={aE (dn.map λj=>.beg (nm j)) T with h:=kH (aE (dn.map λj=>.beg (nm j)) T).h (nm j) Z5}) U λH1 w1=>rf (p:=1) F.n w1 U am (ah U) hj U U (T':={aE (dn.map λj=>.beg (nm j)) T with h:=kH (aE (dn.map λj=>.beg (nm j)) T).h (nm j) Z5,s:=kH (aE (dn.map λj=>.beg (nm j)) T).s (nm j) 0}) U λH2 w2=>rf (g:=JS) (p:=4) F.n w2 U (av U) (ah U) hj U U (T':={aE (dn.map λj=>.beg (nm j)) T with h:=kH (aE (dn.map λj=>.beg (nm j)) T).h (nm j) Z5,s:=kH (aE (dn.map λj=>.beg (nm j)) T).s (nm j) 0,k:=kH (aE (dn.map λj=>.beg (nm j)) T).k (nm j) []}) U λH3 w3=>ow (.beg (nm j)) w3 U (ay am (ay (av U) (ah U) (jn hj)) (fB gZ)) ld λH4 w4=>hK _ _ (eK _ (dn++[j]) U ((au dn [j] js).trans ed) ?_);exact YP aN (YP qz (J4▸w4))
 ·haveI ed:=(aJ dn).symm.trans ed;exact YP (vd F.n hx) (YP bO (YP (YO ed) w.pop))
theorem Dk(h:view H v=Z vs)(hl:vs.length<=aB):bj P J .rev [v,.int (-1)] H=Z (.lst vs.reverse,H):=by show(view H v).bind _=_;exact YP h (Z3 hl)
def EG(G0:List (Nat×O))(b:Nat)(ns:List Nd)(nm:Nat->Nm)(T:Ab)(Y:List (Nat×O))(hall sv:V)(l its:List Nat)(ρ:Fm)(H:AH):Prop:=
 ∃o3 dn,ρ=[Z hall,Z (.ref (b+3)),Z sv,o3]/\dn++its=l.reverse/\WX G0 b ns.length nm (aE ((dn.filter λj=>T.h (nm j)).map λj=>.end_ (nm j)) T) Y H
theorem MB{ms:List Nm}{c:Nm}:∀{h:Nm->Bool},c∉ms->(ms.map Evt.end_).foldl hr h c=h c:=by
 induction ms with
 |nil=>exact λ_=>rfl
 |cons m ms ih=>intro h hc;refine(ih λz=>hc (.tail _ z)).trans ((?_:(!decide (c=m)&&h c)=h c));exact YP (decide_eq_false λz:c=m=>hc (z▸.head _)) U
theorem f27{l:List Nat}(F:Fx σ G0 ns nm r o)(w:WX G0 b ns.length nm T Y H)(hv:view H sv=Z (l.map ni))(hlt:∀j∈l,j<ns.length)(nd:l.Nodup)(hl60:l.length<=60)(hl:T.ev.length+60<=900000)(q:∀H',WX G0 b ns.length nm (aE (eE T.h (l.map nm)) T) Y H'->Q .none H'):aO PL (n+1) 29 [cz r ns nm o,.ref (b+3),sv] H Q X:=by
 haveI ndr:=(ml l).nodup_iff.mpr nd;refine cf U U (fV (EG G0 b ns nm T Y (cz r ns nm o) sv l) (ay (ah U) (bK am pT) (Dk hv (by rw [aj];exact aa hl60 (by decide)))) (λ_ _ _ _=>Z4 Z iq.symm) (by rw [cC];exact aa hl60 (by decide)) (eK Z6 [] U U (wA.symm▸w))
  (λj js ρ' H' hI K' hK=>dG hI λo3 dn e ed w=>?_) λρ' H' hI=>dG hI λo3 dn e ed w=>q H' ?_)
 ·refine YP e ?_;haveI hjm:=ed▸aC dn (.head _);have hj:=hlt j (fF.mp hjm);haveI jd:nm j∉(dn.filter λj=>T.h (nm j)).map nm:=λz=>ao (cL z) λi hi e=>by have hi:=(oX hi).1;haveI hil:=hlt i (fF.mp (ed▸aR _ hi));exact(bv.mp (ed.symm▸ndr)).2.2 i hi j (.head _) (F.n.inj i j hil hj e)
  haveI eh:(aE ((dn.filter λj=>T.h (nm j)).map λj=>.end_ (nm j)) T).h (nm j)=T.h (nm j):=by show((dn.filter λj=>T.h (nm j)).map λj=>Evt.end_ (nm j)).foldl hr T.h (nm j)=_;rw [show((dn.filter λj=>T.h (nm j)).map λj=>Evt.end_ (nm j))=((dn.filter λj=>T.h (nm j)).map nm).map .end_ from bO.symm,MB jd]
  haveI ld:(aE ((dn.filter λj=>T.h (nm j)).map λj=>.end_ (nm j)) T).ev.length<=aB:=by show(T.ev++m9 _ _).length<=_;rw [af,aj];refine aa (aH (aa (dH _ _) (aa ?_ hl60)) _) (aa hl (by decide));rw [<-cC (as:=l),<-ed,af];exact ax _ _
  refine bS (cc (mG w U (ah U) hj) (Z4 V.bool eh)) (λhc=>?_) λhc=>hK _ _ (eK _ (dn++[j]) U ((au dn [j] js).trans ed) ?_)
  ·refine rf (p:=0) F.n w U am (ah U) hj U U (T':={aE ((dn.filter λj=>T.h (nm j)).map λj=>.end_ (nm j)) T with h:=kH (aE ((dn.filter λj=>T.h (nm j)).map λj=>.end_ (nm j)) T).h (nm j) J}) U λH1 w1=>ow (.end_ (nm j)) w1 U (ay am (ay (av U) (ah U) (jn hj)) (fB gZ)) ld λH2 w2=>fA (hK _ _ (eK _ (dn++[j]) U ((au dn [j] js).trans ed) ?_));rw [fH,dt (p:=λj=>T.h (nm j)) hc,aN,qz];exact(GB (e:=.end_ (nm j)) U (λ_ _=>rfl) λ_ _=>rfl)▸w2
  ·rw [fH,eZ (by rw [hc];exact ae),show Ky (λj=>T.h (nm j)) []=[]from U,aJ];exact w
 ·haveI ed:=(aJ dn).symm.trans ed;subst ed;have e:eE T.h (l.map nm)=(l.reverse.filter λj=>T.h (nm j)).map λj=>.end_ (nm j):=by unfold eE;rw [<-iq,kz,bO];rfl
  rw [e];exact w
theorem IS(F:Fx σ G0 ns nm r o)(g:GN r ns H)(hx:ns[k]? =Z x)(q:Q (.bool ((dF ns nm).nv (nm k))) H):aO PL (n+1) 30 [cz r ns nm o,ni k] H Q X:=by
 rw [(B4 F.n hx).1]at q;refine cf U U (bg (cc (cg (ay (qy F.t.tr hx U U) am (gq ik ik)) λ_=>bZ (uf g hx U U U)) (Z4 V.bool ?_)) q);refine(?_:(jj x==['n','e','v','e','r']&& !x.w)=(jj x==['n','e','v','e','r']));cases hw:x.w with
 |false=>exact iF _
 |true=>unfold jj;exact YP (Z3 hw) ((by decide:∀r∈iC,(r==['n','e','v','e','r']&& !Z5)=(r==['n','e','v','e','r'])) _ sR)
theorem Ci:∀{h:Nm->Bool},(∀m∈ms,(π.sb m).length<=60)->(fj π h ms).length<=60*ms.length:=by
 induction ms with
 |nil=>exact λ_=>aM _
 |cons m ms ih=>intro h q;refine(?_:(eE h (π.sb m)++fj π _ ms).length<=60*(ms.length+1));rw [af,Nat.mul_succ,dC (60*ms.length)];exact bD (aa pV (q m (.head _))) (ih λm hm=>q m (.tail _ hm))
theorem JZ{ms:List Nm}{c:Nm}:∀{h:Nm->Bool},(ms.map Evt.end_).foldl hr h c=Z5->h c=Z5:=by
 induction ms with
 |nil=>exact λz=>z
 |cons m ms ih=>exact λz=>(cP (ih z)).2
theorem EK:∀{h:Nm->Bool},(fj π h ms).foldl hr h c=Z5->h c=Z5:=by
 induction ms with
 |nil=>exact λz=>z
 |cons m ms ih=>intro h z;haveI z:(eE h (π.sb m)++fj π ((eE h (π.sb m)).foldl hr h) ms).foldl hr h c=Z5:=z;rw [bN]at z;exact JZ (ih z)
theorem rV{P:Prog}{C:Calls}{ρ:Fm}{a b c:Ex}{x y:V}{f:Nat}(ha:Ev P C ρ H X a x)(hb:Ev P C ρ H X b y)(k:cW P C c ρ H (λu H'=>C f [x,y,u] H' Q X) X):cW P C (.call f [a,b,c]) ρ H Q X:=ha _ (hb _ k)
theorem Kf{α β:Type}{f:α->List β}{l:List α}(h:∀a∈l,(f a).length<=60):(l.flatMap f).length<=60*l.length:=by
 induction l with
 |nil=>exact aM _
 |cons a l ih=>rw [cI,af,dN,Nat.mul_succ,dC (60*l.length)];exact bD (h a (.head _)) (ih λc hc=>h c (.tail _ hc))
theorem I9{l:List Nat}(hv:view H v=Z (l.map ni))(nd:l.Nodup)(hi:l[i]? =Z k):bj P J .lindex [v,ni k] H=Z (ni i,H):=by
 haveI q:=fS (m0 (f:=ni) (l:=l) λ_=>Z0);refine(?_:((view H v).bind λvs=>if re vs=Z5 then(vs.findIdx? λy=>fZ y (ni k)).map λ(k:Nat)=>(V.int k,H)else Z6)=_);rw [hv];show(if re _=Z5 then((l.map ni).findIdx? λy=>fZ y (ni k)).map λ(k:Nat)=>(V.int k,H)else Z6)=_;have hl:=(cq hi);rw [Z3 (lj q.1 (aa (ak q.2) (by decide))),show((l.map ni).findIdx? λy=>fZ y (ni k))=Z i from ?_]
 ·rfl
 ·refine fN.mpr ⟨by rw [aj];exact hl,?_,λj hj=>?_⟩
  ·rw [nb];exact yp.mpr (ai ((az hl).symm.trans hi))
  ·rw [nb];exact λz=>dk hj ((gX (kO hj hl) nd).mp ((az (kO hj hl)).trans ((Z4 Z (yp.mp z)).trans hi.symm)))
theorem FH(hr:rl∈iC)(h3:ρ[3]? =Z (Z (ni k)))(h4:ρ[4]? =Z (Z (.ref a)))(h5:ρ[5]? =Z (Z (ni i)))(h6:ρ[6]? =Z (Z (.str rl)))(ha:H[a]? =Z (.list (l.map ni)))(hi:l[i]? =Z k)(hl:l.length<=8) :
  ∃sv,Ev PL C ρ H X (.p J .i [(.p J (.d [['o','n','e'],['r','e','s','t'],['a','l','l']]) [(.p J .l [.v 3]),(.p J .slice [.v 4,.v 5,.c .none]),.v 4]),.v 6]) sv/\rE H sv=view H sv/\(sv=.ref a/\rj rl l i k=l\/sv=.lst ((rj rl l i k).map ni)):=by
 have il:=(cq hi);have e:Ev PL C ρ H X (.p J (.d [['o','n','e'],['r','e','s','t'],['a','l','l']]) [(.p J .l [.v 3]),(.p J .slice [.v 4,.v 5,.c .none]),.v 4]) (.dct [['o','n','e'],['r','e','s','t'],['a','l','l']] [.lst [ni k],.lst ((l.drop i).map ni),.ref a]):=by refine mD (jL (bK (ah h3) (gm vP)) (jL (fR (ah h4) (ah h5) am ?_) (jL (ah h4) rY))) U;refine(?_:((H[a]?.bind O.lst).bind _).map _=_);rw [ha];show(if(l.map ni).length<=aB then Z (V.lst (bE (l.map ni) (g9 (l.map ni).length i) (l.map ni).length))else Z6).map _=_;rw [Z3 (by rw [aj];exact aa hl (by decide)),jo (by rw [aj];exact fW il)];unfold bE;rw [gy,<-q7];rfl
 refine eV hr (λz=>?_) λhr=>eV hr (λz=>?_) λhr=>?_
 ·subst z;exact(bQ _ (ay e (ah h6) U) U (.inr U))
 ·subst z;exact(bQ _ (ay e (ah h6) U) U (.inr U))
 ·haveI z:=in1 hr;clear hr;subst z;exact(bQ _ (ay e (ah h6) U) U (.inl ⟨rfl,rfl⟩))
noncomputable def NT(hall:V)(b u k a i:Nat)(rl:Nm)(sv:V)(o8:Option V)(ag:V):Fm:=[Z hall,Z (.ref (b+3)),Z (ni u),Z (ni k),Z (.ref a),Z (ni i),Z (.str rl),Z sv,o8,Z ag]
def AN(G0:List (Nat×O))(b:Nat)(ns:List Nd)(nm:Nat->Nm)(T:Ab)(Y:List (Nat×O))(fr:Option V->Fm)(l:List Nat)(Ev:List Nat->List Evt)(its:List Nat)(ρ:Fm)(H:AH):Prop:=
 ∃o8 dn,ρ=fr o8/\dn++its=l/\WX G0 b ns.length nm (aE (Ev dn) T) Y H
theorem P9(F:Fx σ G0 ns nm r o)(w:WX G0 b ns.length nm T Y H)(hy:ns[j]? =Z y)(hw:y.w=Z5)(hi:y.inner[i]? =Z k)(off:∀m∈(dF ns nm).kd (nm j),T.h m=J->∀x∈(dF ns nm).sb m,T.h x=J)(hl:T.ev.length+1100<=900000)(q:∀H',WX G0 b ns.length nm (aE (FV (dF ns nm) T.h (nm j) i (nm k)) T) Y H'->Q .none H'):aO PL (n+3) 31 [cz r ns nm o,.ref (b+3),ni j,ni k] H Q X:=by
 have Tt:=F.t.tr;have lm:=Tt.lim j y hy;have g:=w.gn F.g;haveI hrl:jj y∈iC:=by unfold jj;rw [Z3 hw];exact sR
 refine cf U U (br (uf g hy U U U) (bV U) (br (v:=ni i) (mY (ah U) (fo (g.inn hy)) (ah U) (I9 (show H[y.a]?.bind O.lst=_ by rw [g.inn hy];rfl) lm.nd hi)) (bV U) (br (qy Tt hy U U) (bV U) ?_)));refine cu (FH (X:=X) hrl (ρ:=[Z (cz r ns nm o),Z (.ref (b+3)),Z (ni j),Z (ni k),Z (.ref y.a),Z (ni i),Z (.str (jj y)),Z6,Z6,Z6]) U U U U (g.inn hy) hi lm.le) λsv esv esr hsv=>br esv (bV U) ?_;generalize hpl:rj (jj y) y.inner i k=l at hsv;have vw:∀{H'},GN r ns H'->view H' sv=Z (l.map ni):=λ{H'} g=>hsv.elim (λz=>by rw [z.1];show H'[y.a]?.bind O.lst=_;rw [g.inn hy,z.2];rfl) λz=>by rw [z];rfl
 have gQ:=λm hm=>by have him:=tI (rl:=jj y) hi m (hpl▸hm);exact dM (Tt.inn j y hy m him) λz hz _ _ _=>(bQ z hz (vd F.n hz) ((rO F.n hy).1▸bx him))
 have ll:=hpl▸aa (yC (cq hi)) lm.le;haveI el:rj ((dF ns nm).ru (nm j)) ((dF ns nm).kd (nm j)) i (nm k)=l.map nm:=by rw [(rO F.n hy).1,(rO F.n hy).2,<-hpl,yE]
 haveI hkn:∀m∈l,(m==k)=(nm m==nm k):=λm hm=>by rw [cD,beq_iff_eq,beq_iff_eq];refine⟨λe=>e▸rfl,λe=>cu (gQ m hm) λz hz _ _=>?_⟩;have hkl:=aI hi;exact dM (Tt.inn j y hy k hkl) λz' hz' _ _ _=>F.n.inj m k (cq hz) (cq hz') e
 haveI hag:((l.map nm).filter λm=>m==nm k||(T.h m&& !(dF ns nm).nv m))=(l.filter λm=>fZ (ni m) (ni k)||(T.h (nm m)&& !(dF ns nm).nv (nm m))).map nm:=by rw [kz];refine Z4 (m9 nm) (tR λm hm=>?_);refine(?_:(nm m==nm k||_)=_);rw [<-hkn m hm];exact Z4 (·||_) (cD.mpr (beq_iff_eq.trans yp.symm))
 refine br (jU (l:=l) (f:=ni) (g:=ni) (w:=sv) (ah U) (esr.trans (vw g)) (aa ll (by decide)) (λm hm=>cu (gQ m hm) λz hz _ _=>dB (av U) λ_=>cg (mG w U (ah U) (cq hz)) λ_=>bZ (gb (ah U) (ah U) λQ q=>IS F g hz q)) λ_ _ _=>ah U) (bV U) ?_;have agl:∀m∈(l.filter λm=>fZ (ni m) (ni k)||(T.h (nm m)&& !(dF ns nm).nv (nm m))),m∈l:=λm hm=>(oX hm).1;haveI agn:(l.filter λm=>fZ (ni m) (ni k)||(T.h (nm m)&& !(dF ns nm).nv (nm m))).length<=8:=aa (dH _ _) ll;generalize (l.filter λm=>fZ (ni m) (ni k)||(T.h (nm m)&& !(dF ns nm).nv (nm m)))=ag at hag agl agn;have sb60:∀m∈l,((dF ns nm).sb (nm m)).length<=60:=λm hm=>cu (gQ m hm) λz hz e _=>by rw [e,aj];exact Tr.sub8 F.t hz
 have e1len:∀{dn its:List Nat},dn++its=l.reverse->(fj (dF ns nm) T.h ((dn.map nm).filter T.h)).length<=480:=λ{dn its} ed=>by have ld:=aa (aa fx (ak (Z4 dQ ed))) (aa (ak cC) ll);refine aa (Ci λm hm=>ao (cL (oX hm).1) λc hc e=>e▸sb60 c (fF.mp (ed▸aR _ hc))) (aa (bH 60 ?_) (by decide:60*8<=480));exact aa (dH _ _) (aa (ak (aj _)) ld)
 refine fV (AN G0 b ns nm T Y (λo8=>NT (cz r ns nm o) b j k y.a i (jj y) sv o8 (.lst (ag.map ni))) l.reverse λdn=>fj (dF ns nm) T.h ((dn.map nm).filter T.h)) (f:=ni) (ay (ah U) (bK am pT) (Dk (vw g) (by rw [aj];exact aa ll (by decide)))) (λ_ _ _ _=>Z4 Z iq.symm) (by rw [cC];exact aa ll (by decide)) (eK Z6 [] U U (wA.symm▸w))
  (λm js ρ' H' hI K' hK=>dG hI λo8 dn e ed w=>?_) λρ' H' hI=>dG hI λo8 dn e ed w=>?_
 ·clear hI;subst e;haveI hm:m∈l:=fF.mp (ed▸aC dn (.head _));refine cu (gQ m hm) λz hz esb hkd=>?_;haveI lT:(aE (fj (dF ns nm) T.h ((dn.map nm).filter T.h)) T).ev.length+60<=900000:=by show(T.ev++_).length+60<=_;rw [af,bL];exact aa (aH (aa (aK (e1len ed) 60) (by decide)) _) hl
  refine d8 (rV (ah U) (ah U) (dm (av U) (ah U) (IJ (n:=n+1) F.t (w.gn F.g) hz (f27 (n:=n+1) F (w.push _) ?_ (Tt.lt hz) (Tt.nd hz) (Tr.sub8 F.t hz) lT λH1 w1=>hK _ _ (eK _ (dn++[m]) U ((au dn [m] js).trans ed) ?_)))))
  ·refine (?_:(H'++[_])[H'.length]?.bind O.lst=_);rw [fU];rfl
  ·haveI w1:=w1.pop;rw [<-esb,<-qz]at w1;haveI e:fj (dF ns nm) T.h (((dn++[m]).map nm).filter T.h)=fj (dF ns nm) T.h ((dn.map nm).filter T.h)++eE (aE (fj (dF ns nm) T.h ((dn.map nm).filter T.h)) T).h ((dF ns nm).sb (nm m)):=by
    rw [aN,fH];cases hh:T.h (nm m)with
    |true=>rw [show([m].map nm).filter T.h=[nm m]from dt hh];exact BK
    |false=>rw [show([m].map nm).filter T.h=[]from eZ (by rw [hh];exact ae),aJ];haveI z:=Dx (h:=(aE (fj (dF ns nm) T.h ((dn.map nm).filter T.h)) T).h) λc hc=>cr.mpr λy=>ae ((off _ hkd hh c hc).symm.trans (EK y));rw [z,aJ]
   refine(?_:WX G0 b ns.length nm (aE (fj (dF ns nm) T.h (((dn++[m]).map nm).filter T.h)) T) Y H1);rw [e];exact w1
 ·refine YP e ?_;haveI edn:=(aJ dn).symm.trans ed;subst edn;haveI E0:fj (dF ns nm) T.h ((l.reverse.map nm).filter T.h)=fj (dF ns nm) T.h ((l.map nm).filter T.h).reverse:=by rw [iq,List.filter_reverse]
  refine fV (AN G0 b ns nm T Y (λo8=>NT (cz r ns nm o) b j k y.a i (jj y) sv o8 (.lst (ag.map ni))) ag λdn=>fj (dF ns nm) T.h ((l.reverse.map nm).filter T.h)++((dn.map nm).flatMap (dF ns nm).sb).map .beg) (f:=ni) (l:=ag) (ah U) (λ_ _ _ _=>rfl) (aa agn (by decide)) (eK o8 [] U U (by show WX G0 b ns.length nm (aE (fj (dF ns nm) T.h ((l.reverse.map nm).filter T.h)++[]) T) Y H';rw [aJ];exact w))
   (λm js ρ' H' hI K' hK=>dG hI λo8 dn e ed2 w=>?_) λρ' H' hI=>dG hI λo8 dn e ed2 w=>q H' ?_
  ·clear hI;subst e;haveI hm:m∈l:=agl m (ed2▸aC dn (.head _));refine cu (gQ m hm) λz hz esb hkd=>?_;have lb:(((dn.map nm).flatMap (dF ns nm).sb).map Evt.beg).length<=480:=by rw [aj,ir];haveI ld:=aa (aa fx (ak (Z4 dQ ed2))) agn;exact aa (Kf λc hc=>sb60 c (agl c (ed2▸aR _ hc))) (bH 60 ld)
   refine d8 (kj (ah U) (ah U) (ah U) (f26 (n:=n) F w hz ?_ λH1 w1=>hK _ _ (eK _ (dn++[m]) U ((au dn [m] js).trans ed2) ?_)))
   ·refine (?_:(T.ev++(_++_)).length+60<=_);rw [af,af,bL];exact aa (aH (aa (aK (bD (e1len ed) lb) 60) (by decide)) _) hl
   ·rw [<-qz,au,<-aN]at w1;show WX G0 b ns.length nm (aE (fj (dF ns nm) T.h ((l.reverse.map nm).filter T.h)++(((dn++[m]).map nm).flatMap (dF ns nm).sb).map .beg) T) Y H1;rw [aN,bz,show([m].map nm).flatMap (dF ns nm).sb=(dF ns nm).sb (nm m)from aJ _];exact w1
  ·haveI edn:dn=ag:=(aJ dn).symm.trans ed2;clear hI ed2 e agl;subst edn;unfold FV;rw [el,<-E0,hag];exact w
noncomputable def IK(c:Nm):Evt->Bool
 |.beg n=>decide (n=c)
 |_=>J
theorem pF{c:Nm}{es:List Evt}:∀{l:List Int},es.foldl (lM c) l=if es.any (IK c)=Z5 then []else l:=by
 induction es with
 |nil=>exact U
 |cons e es ih=>
  intro l;refine(?_:es.foldl (lM c) (lM c l e)=if(IK c e||es.any (IK c))=Z5 then []else l);rw [ih]
  induction e with
  |beg n=>
   refine(?_:(if es.any (IK c)=Z5 then []else if n=c then []else l)=if(decide (n=c)||es.any (IK c))=Z5 then []else l);by_cases z:n=c
   ·rw [Z3 z,decide_eq_true z,Bool.true_or,Z3 U];exact ite_self _
   ·rw [Z2 z,decide_eq_false z,DG]
  |_=>rfl
theorem CL(h:1<=s):Fh t s (l++[t])=Fh t s l++[t]:=by unfold Fh;rw [fH,dt (by exact decide_eq_true (j5 h (by simp+arith only):t-s<t))];rfl
theorem Ej:Fh t s (Fh t s l)=Fh t s l:=by unfold Fh;exact YP N2 (Z4 (λp=>l.filter p) (funext λz=>Bool.and_self _))
theorem Hl:(Fh t s l).length<=l.length:=dH _ _
def Rk(π:PI)(t:Int)(f g:Nm->List Int):Prop:=∀w,π.isW w=Z Z5->Fh t (π.sp w) (f w)=Fh t (π.sp w) (g w)
structure Sm(π:PI)(A T:Ab):Prop where
 h:T.h=A.h
 s:T.s=A.s
 q:T.q=A.q
 ev:T.ev=A.ev
 t:T.t=A.t
 lt:T.lt=A.lt
 k:Rk π A.t T.k A.k
 kb:∀w,(T.k w).length<=T.ev.length
theorem Sm.upk(sm:Sm π A T)(k1:Rk π A.t f k')(kb:∀w,(f w).length<=T.ev.length)(es:List Evt):Sm π (aF es k' A) (aF es f T) where
 h:=Z4 (λh=>es.foldl hr h) sm.h
 s:=Z4 (λ(s:Nm->Int) c=>es.foldl (pJ c) (s c)) sm.s
 q:=sm.q
 ev:=Z4 (·++es) sm.ev
 t:=sm.t
 lt:=sm.lt
 k:=λw hw=>by
  refine(?_:Fh A.t (π.sp w) (es.foldl (lM w) (f w))=Fh A.t (π.sp w) (es.foldl (lM w) (k' w)));rw [pF,pF]
  induction es.any (IK w)with
  |true=>rfl
  |false=>exact k1 w hw
 kb:=λw=>by
  refine(?_:(es.foldl (lM w) (f w)).length<=(T.ev++es).length);rw [pF,af]
  induction es.any (IK w)with
  |true=>exact aU _
  |false=>exact aa (kb w) (ax _ _)
theorem AI(ha:∀c l,a.foldl (lM c) l=l):aF b k' {aF a k0 A with k:=f}=aF (a++b) k' A:=by refine(?_:(⟨b.foldl hr (a.foldl hr A.h),λc=>b.foldl (lM c) (k' c),λc=>b.foldl (pJ c) (a.foldl (pJ c) (A.s c)),A.q,A.ev++a++b,A.t,A.lt⟩:Ab)=⟨(a++b).foldl hr A.h,λc=>(a++b).foldl (lM c) (k' c),λc=>(a++b).foldl (pJ c) (A.s c),A.q,A.ev++(a++b),A.t,A.lt⟩);rw [bN,au,show(λc=>(a++b).foldl (lM c) (k' c))=λc=>b.foldl (lM c) (k' c)from funext λc=>by rw [bN,ha],show(λc=>(a++b).foldl (pJ c) (A.s c))=λc=>b.foldl (pJ c) (a.foldl (pJ c) (A.s c))from funext λc=>bN]
theorem yj(Tt:Tr ns)(N':Nms ns.length nm)(hx:ns[k]? =Z x):((dF ns nm).ch (nm k)).isSome=decide (0<k):=by
 by_cases z:k=0
 ·subst z;refine(?_:((mH ns.length nm (nm 0)).bind _).isSome=_);exact YP (oQ N' (cq hx)) U
 ·exact YP (decide_eq_true (eC z)) (kR (Tt.up k x hx (eC z)) λj y hj _ _ hm=>by exact YP (As Tt N' hj hm) U)
def Ob(e:Evt):Prop:=e=.fail e.nm\/e=.leave e.nm
noncomputable def wdE:Evt->Nm
 |.fail _=>['f','a','i','l','s']
 |_=>['l','e','a','v','e','s']
theorem Ho(h:Ob e):(∀h,hr h e=λm=>!decide (m=e.nm)&&h m)/\(∀c l,lM c l e=l)/\(∀c s,pJ c s e=s)/\e.v=.tup [.str (wdE e),.str e.nm]:=by rcases h with z|z<;>rw [z]<;>exact⟨λ_=>rfl,λ_ _=>rfl,λ_ _=>rfl,rfl⟩
noncomputable def xq(hall:V)(b k:Nat)(e:Evt)(ct:Bool)(o5 o6:Option V):Fm:=[Z hall,Z (.ref (b+3)),Z (ni k),Z (.str (wdE e)),Z (.bool ct),o5,o6]
structure FU(G0:List (Nat×O))(b:Nat)(ns:List Nd)(nm:Nat->Nm)(Y:List (Nat×O))(Af:Ab)(k':Nm->List Int)(A T:Ab)(k:Nat)(e:Evt)(es:List Evt)(ct:Bool)(H:AH):Prop where
 w:WX G0 b ns.length nm T Y H
 sm:Sm (dF ns nm) A T
 hx:∃x,ns[k]? =Z x
 en:e.nm=nm k
 fl:Ob e
 fe:Fe (dF ns nm) A.t (ct&&decide (0<k)) A.h A.k e es k'
 fin:aF es k' A=Af
def FL(G0:List (Nat×O))(b:Nat)(ns:List Nd)(nm:Nat->Nm)(Y:List (Nat×O))(Af:Ab)(k':Nm->List Int)(hall:V)(M:Nat)(ρ:Fm)(H:AH):Prop:=
 ∃A T k e es ct,(∃o5 o6,ρ=xq hall b k e ct o5 o6)/\(FU G0 b ns nm Y Af k' A T k e es ct H/\es.length=M)
theorem Dj(F:Fx σ G0 ns nm r o)(w:WX G0 b ns.length nm T Y H)(hx:ns[k]? =Z x)(h0:ρ[0]? =Z (Z (cz r ns nm o)))(h1:ρ[1]? =Z (Z (.ref (b+3))))(h2:ρ[2]? =Z (Z (ni k)))(hl:T.ev.length+60<=900000)(q:∀H',WX G0 b ns.length nm (aE (eE T.h ((dF ns nm).sb (nm k)).tail) T) Y H'->bk PL (aO PL (n+1)) ss ρ H' K R X) :
  bk PL (aO PL (n+1)) (.e (.call 29 [.v 0,.v 1,(.p J .slice [(.call 21 [(.p J .i [.v 0,.c (.str ['n','o','d','e','s'])]),.v 2]),.c (.int 1),.c .none])])::ss) ρ H K R X:=by
 have Ah:=Tr.sub8 F.t hx;haveI nd:(k::(mx ns k).flatMap (sub ns 7)).Nodup:=F.t.tr.nd (f:=8) hx;haveI l60':((mx ns k).flatMap (sub ns 7)).length+1<=60:=Ah;haveI lt:∀j∈k::(mx ns k).flatMap (sub ns 7),j<ns.length:=F.t.tr.lt (f:=8) hx;haveI ls:((sub ns 8 k).map ni).length<=aB:=by rw [aj];exact aa Ah (by decide)
 haveI e8:sub ns 8 k=k::(mx ns k).flatMap (sub ns 7):=rfl;haveI w1:WX G0 b ns.length nm T Y (H++[.list ((sub ns 8 k).map ni)]):=w.app;refine d8 (rV (ah h0) (ah h1) (dm (f:=21) (Q:=λu H'=>iT (bj PL J .slice [u,.int 1,.none] H') λv H'=>aO PL (n+1) 29 [cz r ns nm o,.ref (b+3),v] H' (λ_ H'=>bk PL (aO PL (n+1)) ss ρ H' K R X) X) (ay (z:=.ref r) (ah h0) am U) (ah h2) (IJ (n:=n) F.t (w.gn F.g) hx (hE (v:=.lst (((mx ns k).flatMap (sub ns 7)).map ni)) (H':=H++[.list ((sub ns 8 k).map ni)]) ?_ (f27 (n:=n) (l:=(mx ns k).flatMap (sub ns 7)) F w1 U (λj hj=>lt j (.tail _ hj)) (kC nd).2 (aa (bh _) l60') hl λH2 w2=>q H2 ?_)))))
 ·refine (?_:(((H++[_])[H.length]?.bind O.lst).bind _).map _=_);refine YP fU ?_;show(if((sub ns 8 k).map ni).length<=aB then Z (V.lst (bE ((sub ns 8 k).map ni) (g9 ((sub ns 8 k).map ni).length 1) ((sub ns 8 k).map ni).length))else Z6:Option V).map _=_;exact YP (Z3 ls) (YP e8 (Z4 (λt=>Z (V.lst t,_)) tB))
 ·exact YP (vd F.n hx) (YP e8 w2)
section
variable {x y:Nd}{k j o r n b i:Nat}
theorem Pf(hw:y.w=Z5):1<=DN y:=by unfold DN;exact YP (Z3 hw) BC.1
theorem Bw:1<=(pre π h e).length:=aA (aU _)
theorem OC{h:Nm->Bool}{k:Nm->List Int}(fe:Fe π t c h k e es k')(hc:c=J):es=pre π h e/\k'=k:=by
 induction fe with
 |stop _ h1 h2=>exact⟨h1,h2⟩
 |here z|go z=>exact Z1 (hc.symm.trans z) ae
theorem Px{G:Prop}{h:Nm->Bool}{k:Nm->List Int}(fe:Fe π t c h k e es k')(hc:c=Z5)(hw:π.ch e.nm=Z w)
  (kh:∀i,((Fh t (π.sp w) (k w++[t])).length:Int)<=π.mn w->(π.kd w)[i]? =Z e.nm->(∀m∈π.kd w,(pre π h e).foldl hr h m=J->∀x∈π.sb m,(pre π h e).foldl hr h x=J)->es=pre π h e++FV π ((pre π h e).foldl hr h) w i e.nm->k'=G3 k w (k w++[t])->G)
  (kg:∀es2,π.mn w<((Fh t (π.sp w) (k w++[t])).length:Int)->Fe π t (cF π w) ((pre π h e).foldl hr h) (G3 k w (k w++[t])) (.fail w) es2 k'->es=pre π h e++es2->G):G:=by
 induction fe with
 |stop z=>exact Z1 (z.symm.trans hc) ae
 |here _ h1 e1 e2 h2 h3 h4=>have z:=ai (h1.symm.trans hw);clear kg;subst z;exact kh _ h2 h3 h4 e1 e2
 |go _ h1 e1 h2 h3=>have z:=ai (h1.symm.trans hw);clear kh;subst z;exact kg _ h2 h3 e1
theorem Sm.kept(sm:Sm π A T)(hw:π.isW w=Z Z5)(esp:π.sp w=sp)(h1:1<=sp)(hE:∀c l,es.foldl (lM c) l=l)(he:1<=es.length) :
  Sm π {aF es A.k A with k:=G3 A.k w (A.k w++[A.t])} {aE es T with k:=kH T.k w (Fh T.t sp (T.k w)++[T.t])}/\Fh A.t (π.sp w) (A.k w++[A.t])=Fh T.t sp (T.k w)++[T.t]:=by
 haveI et:=sm.t;have eln:Fh A.t (π.sp w) (A.k w++[A.t])=Fh T.t sp (T.k w)++[T.t]:=by have z:=sm.k w hw;replace z:=esp▸z;exact YP esp (YP (CL h1) (YP et (YP z U)))
 haveI s1:=sm.upk sm.k sm.kb es;refine⟨⟨s1.h,s1.s,s1.q,s1.ev,s1.t,s1.lt,λc hc=>?_,λc=>?_⟩,eln⟩
 ·refine (?_:Fh A.t _ (if c=w then _ else T.k c)=Fh A.t _ (if w=c then _ else A.k c));by_cases z:c=w
  ·exact YP (Z3 z) (YP (Z3 z.symm) (YP z (YP eln (YP esp (YP (YO et) (YP (CL h1) (YP Ej U)))))))
  ·exact YP (Z2 z) (YP (Z2 λq=>z q.symm) (sm.k c hc))
 ·refine (?_:(if c=w then _ else T.k c).length<=(T.ev++es).length);refine YP af ?_;by_cases z:c=w
  ·exact YP (Z3 z) (YP af (bD (aa Hl (sm.kb _)) he))
  ·exact YP (Z2 z) (aa (sm.kb c) (ax _ _))
theorem C0(F:Fx σ G0 ns nm r o)(w:WX G0 b ns.length nm T Y H)(hx:ns[k]? =Z x)(en:e.nm=nm k)(fl:Ob e)(hl:T.ev.length+1100<=900000)(q:∀H',WX G0 b ns.length nm (aE (pre (dF ns nm) T.h e) T) Y H'->bk PL (aO PL (n+3)) ss (xq (cz r ns nm o) b k e ct o5 o6) H' K R X) :
  bk PL (aO PL (n+3)) ((K9 (A9.body.getD 2 .pass)).take 3++ss) (xq (cz r ns nm o) b k e ct o5 o6) H K R X:=by
 have hk:=(cq hx);haveI fg:=Ho fl;refine(?_:bk PL (aO PL (n+3)) (_::_::_::ss) _ _ _ _ _);refine rf (p:=0) (F.n) w U am (ah U) hk U U (T':={T with h:=kH T.h (nm k) J}) U λH1 w1=>ow e w1 U (fg.2.2.2▸en.symm▸ay (ah U) (ay (av U) (ah U) (jn hk)) (fB gZ)) (aa (ax _ _) (aa hl (by decide))) λH2 w2=>?_;refine Dj F ((GB (en▸fg.1 T.h) fg.2.1 fg.2.2.1)▸w2:WX G0 b ns.length nm (aE [e] T) Y H2) hx U U U ?_ λH3 w3=>q H3 ?_
 ·refine (?_:(T.ev++[e]).length+60<=_);rw [af,bL];exact aa (aH (by decide:1+60<=1100) _) hl
 ·rw [show pre (dF ns nm) T.h e=[e]++eE (hr T.h e) ((dF ns nm).sb (nm k)).tail from by unfold pre;rw [en];rfl,qz];exact w3
theorem MO(Tt:Tr ns)(hx:ns[k]? =Z x):decide (x.up<0)= !decide (0<k):=by
 by_cases z:k=0
 ·exact YP (Tt.tup k x hx z) (YP z U)
 ·refine kR (Tt.up k x hx (eC z)) λj y hj _ e _=>?_;exact YP e (YP (decide_eq_true (eC z)) (YP (decide_eq_false (cU.mpr (bp j))) U))
theorem M5(Tt:Tr ns)(N':Nms ns.length nm)(hj:ns[j]? =Z y)(hk:k<ns.length)(h:((dF ns nm).kd (nm j))[i]? =Z (nm k)):y.inner[i]? =Z k:=by rw [(rO N' hj).1,aV]at h;refine eG (o:=y.inner[i]?) (λe=>by rw [e]at h;exact eU h) λc e=>?_;rw [e]at h;exact YP e (YP (dM (Tt.inn j y hj c (aI e)) λz hz _ _ _=>N'.inj c k (cq hz) hk (ai h)) U)
theorem Pr(Tt:Tr ns)(N':Nms ns.length nm)(hj:ns[j]? =Z y)(yw:y.w=Z5):cF (dF ns nm) (nm j)=(Z5&&decide (0<j)):=by unfold cF;simp only [yj Tt N' hj,(B4 N' hj).1];refine Z4 (·&&_) ?_;unfold HV jj;exact YP (Z3 yw) ((by decide:∀r∈iC,(!(r==['n','e','v','e','r']))=Z5) _ sR)
theorem LG{P:Prog}{C:Calls}{ρ:Fm}{s t:Int}{l:List Int}{es et:Ex}(hs:∀z,Ev P C (ρ++[Z (.int z)]) H X es (.int s))(ht:∀z,Ev P C (ρ++[Z (.int z)]) H X et (.int t))(hv:∀z:V,(ρ++[Z z])[ρ.length]? =Z (Z z)){it:Ex}(hi:Ev P C ρ H X it (JS l))(hl:l.length<=aB):Ev P C ρ H X (.comp J (.v ρ.length) it (Z (.p J (.cop .gt) [(.p J (.bop .add) [(.v ρ.length),es]),et]))) (JS (Fh t s l)):=
 cc (jU hi U hl (λz _=>ay (ay (ah (hv _)) (hs z) gO) (ht z) oP) λ_ _ _=>ah (hv _)) (Z4 (λp:Int->Bool=>V.lst ((l.filter p).map V.int)) (funext λz=>by rw [cD,decide_eq_true_iff,decide_eq_true_iff];exact⟨Int.sub_right_lt_of_lt_add,Int.lt_add_of_sub_right_lt⟩))
theorem I8{ff:Nat}{u:Int}(eu:u=j)(N':Nms ns.length nm)(hj:ns[j]? =Z y)(yw:y.w=Z5)(w:WX G0 b ns.length nm T Y H)(hl:(T.k (nm j)).length+1<=aB)(e:ρ=[Z (cz r ns nm o),Z (.ref (b+3)),Z (ni k),o5,o6,Z (.int u),Z (bd ns nm (ff+1) j)])
  (q:∀H',WX G0 b ns.length nm {T with k:=kH T.k (nm j) (Fh T.t (DN y) (T.k (nm j))++[T.t])} Y H'->bk PL (aO PL (n+3)) ss ρ H' K R X):bk PL (aO PL (n+3)) (((K9 (A9.body.getD 2 .pass)).drop 6).take 1++ss) ρ H K R X:=by
 subst e;haveI hjl:=(cq hj);haveI i4:∀{H},bj PL J .i [bd ns nm (ff+1) j,.int 4] H=Z (.int (DN y),H):=by refine YP (mK hj) (YP (Z3 yw) ?_);unfold DN;exact(Z3 yw)▸rfl
 refine(?_:bk PL (aO PL (n+3)) (_::ss) _ _ _ _ _);refine rf (p:=4) N' w U ?_ (cc (ah U) (Z4 V.int eu)) hjl U U U q;refine ay (LG (ρ:=[_,_,_,_,_,_,_]) (λ_=>ay (ah U) am i4) (λ_=>gN w U U) (λ_=>rfl) (GO w U (cc (ah U) (Z4 V.int eu)) hjl) (aa (bh _) hl)) (bK (gN w U U) (gm vP)) ((i8 ?_).trans ?_)
 ·rw [aj];exact aa (aK Hl 1) hl
 ·refine (?_:Z (V.lst _,H)=Z (V.lst _,H));exact YP aN U
theorem PY(pk:∀c l,es.foldl (lM c) l=l):aE es T={aE es T with k:=T.k}:=Z4 (λk=>({aE es T with k:=k})) (funext λc=>pk c _)
theorem zE{X}(F:Fx σ G0 ns nm r o)(hk:k<ns.length)(en:e.nm=nm k)(hj:ns[j]? =Z y)(yw:y.w=Z5)(eu:x.up=j)(wp:WX G0 b ns.length nm (aE (pre (dF ns nm) T.h e) T) Y H)(fl:Ob e)(sm:Sm (dF ns nm) A T)(fe:Fe (dF ns nm) A.t Z5 A.h A.k e es k')(hch:(dF ns nm).ch (nm k)=Z (nm j))(evl:T.ev.length+es.length+1100<=900000)(fin:aF es k' A=Af)(q:∀T' H',WX G0 b ns.length nm T' Y H'->Sm (dF ns nm) Af T'->R .none H')
  (kq:∀H' A' T' es2 o6,WX G0 b ns.length nm T' Y H'->Sm (dF ns nm) A' T'->Fe (dF ns nm) A'.t (cF (dF ns nm) (nm j)) A'.h A'.k (.fail (nm j)) es2 k'->aF es2 k' A'=Af->es2.length<es.length->K (xq (cz r ns nm o) b j (.fail (nm j)) ct (Z (.int x.up)) o6) H') :
  bk PL (aO PL (n+3)) ((K9 (A9.body.getD 2 .pass)).drop 5) (xq (cz r ns nm o) b k e ct (Z (.int x.up)) o6) H K R X:=by
 have N':=F.n;have Tt:=F.t.tr;haveI hjl:=(cq hj);have eh:=sm.h;have pk:=wQ (π:=dF ns nm) (h:=T.h) (Ho fl).2.1;have sk:=sm.kept ((kL N' hj).trans (Z4 Z yw)) (xy N' hj).1 (Pf yw) pk Bw;haveI emn:=(xy N' hj).2;have ev5:∀{ρ:Fm} {H X},ρ[5]? =Z (Z (.int x.up))->Ev PL (aO PL (n+3)) ρ H X (.v 5) (ni j):=λh=>cc (ah h) (Z4 V.int eu);haveI lpre:∀{es2:List Evt},es=pre (dF ns nm) A.h e++es2->(T.ev++pre (dF ns nm) T.h e).length+1100<=900000:=λ{es2} z=>by refine aa (aK ?_ _) evl;simp only [af,z,eh,af];exact aH (ax _ _) _
 haveI lk:(T.k (nm j)).length+1<=aB:=aa (aK (sm.kb _) 1) (aa (aa (bD (ax _ es.length) (by decide)) evl) (by decide));refine(xS (P:=PL) (C:=aO PL (n+3)) (X:=X) (H:=H) (ρ:=xq (cz r ns nm o) b k e ct (Z (.int x.up)) o6) (i:=0) (l:=5) Tt hj U (Z4 (λt:Int=>Z (Z (V.int t))) eu)).elim λff hpv=>?_;haveI i3:∀{H},bj PL J .i [bd ns nm (ff+1) j,.int 3] H=Z (.int (Jp j y),H):=by refine YP (mK hj) (YP (Z3 yw) ?_);unfold Jp;exact(Z3 yw)▸rfl
 refine br hpv (bV U) (I8 (T:={aE (pre (dF ns nm) T.h e) T with k:=T.k}) eu N' hj yw (PY pk▸wp) lk U λH4 w4=>?_);have le:∀{ρ:Fm} {X},ρ[1]? =Z (Z (.ref (b+3)))->ρ[5]? =Z (Z (.int x.up))->ρ[6]? =Z (Z (bd ns nm (ff+1) j))->Ev PL (aO PL (n+3)) ρ H4 X (.p J (.cop .le) [(.p J .len [(.p J .i [(.p J .i [.v 1,.c (.str ['k','e','p','t'])]),.v 5])]),(.p J .i [.v 6,.c (.int 3)])]) (.bool (decide (((Fh T.t (DN y) (T.k (nm j))++[T.t]).length:Int)<=Jp j y))):=λh1 h5 h6=>ay (bK (cc (GO w4 h1 (ev5 h5) hjl) (Z4 JS (Z3 U))) (pG.trans (Z4 (λl:Nat=>Z (V.int l,H4)) (aj _)))) (ay (ah h6) am i3) M6;refine Px fe U (en.symm▸hch) (λi h2 h3 h4 e1 e2=>?_) λes2 h2 h3 e1=>?_
 ·rw [sk.2,emn]at h2;rw [en]at h3;rw [<-eh]at h4;refine bT (cc (le U U U) (Z4 V.bool (decide_eq_true h2))) (d8 (lO (ah U) (ah U) (ev5 U) (ah U _ (P9 F w4 hj yw (M5 Tt N' hj hk h3) h4 (lpre e1) λH5 w5=>bg am (q _ _ w5 ?_)))));rw [<-fin,e1,e2,<-eh,en,<-AI pk];exact(sk.1.upk sk.1.k sk.1.kb (FV (dF ns nm) ((pre (dF ns nm) T.h e).foldl hr T.h) (nm j) i (nm k)))
 ·rw [sk.2,emn]at h2;refine cj (cc (le U U U) (Z4 V.bool (decide_eq_false (ib.mpr h2)))) (fA (br (ev5 U) (bV U) (br am (bV U) (kq H4 _ _ es2 _ w4 sk.1 ?_ ?_ ?_))))
  ·exact eh.symm▸h3
  ·exact YP (YO fin) (YP e1 (YP (YO eh) (AI pk)))
  ·simp only [e1,af];exact bl (dc _) (aa (ak (dC _ 1)) (aK Bw _))
theorem rZ(F:Fx σ G0 ns nm r o)(u:FU G0 b ns nm Y Af k' A T k e es ct H)(hb:Af.ev.length+1100<=900000)(q:∀T' H',WX G0 b ns.length nm T' Y H'->Sm (dF ns nm) Af T'->R .none H') :
  bk PL (aO PL (n+3)) (A9.body.drop 2) (xq (cz r ns nm o) b k e ct o5 o6) H K R X:=by
 have N':=F.n;have Tt:=F.t.tr;refine nM (FL G0 b ns nm Y Af k' (cz r ns nm o)) (λM ρ' H' hI=>Mi hI λA T k e es ct eρ u=>eρ.elim λo5 eρ=>eρ.elim λo6 eρ=>(bQ Z5 am (λ_ K' hK=>?_) (λz=>Z1 z.symm ae))) ⟨A,T,k,e,es,ct,⟨o5,o6,rfl⟩,u,rfl⟩;subst eρ;haveI u2:=u.2;have u:=u.1;refine u.hx.elim λx hx=>?_;have evl:T.ev.length+es.length+1100<=900000:=by haveI z:(A.ev++es).length=Af.ev.length:=Z4 (λA:Ab=>A.ev.length) u.fin;rw [af,<-u.sm.ev]at z;exact(z)▸hb
 refine C0 F u.w hx u.en u.fl (aa (aK (ax _ _) _) evl) λH3 wp=>?_;refine br (uf (wp.gn F.g) hx U U U) (bV U) (bS (s:=!(ct&&decide (0<k))) (cc (dB (bZ (ah U)) λ_=>ay (ah U) am nH) (Z4 V.bool (by refine YP (MO Tt hx) ?_;cases ct<;>cases decide (0<k)<;>rfl))) (λhc=>?_) λhc=>?_)
 ·haveI z:=OC u.fe (cH _▸hc);refine bg am (q _ _ wp ?_);haveI sm:=u.sm.upk u.sm.k u.sm.kb es;refine YP (YO (u.fin)) (YP (z.2) ?_);rw [z.1,<-u.sm.h]at sm ⊢;exact sm
 haveI hc:=dz _▸hc;haveI ht:=cP hc;refine kR (Tt.up k x hx (of_decide_eq_true ht.2)) λj y hj _ eu hi=>?_;have yw:y.w=Z5:=by
  cases z:y.w with
  |true=>rfl
  |false=>exact Z1 hi ((Tt.lim j y hj).wk z▸ba)
 exact fA (zE F (cq hx) u.en hj yw eu wp u.fl u.sm (hc▸u.fe) (As Tt N' hj hi) evl u.fin q λH4 A2 T2 es2 o6 w4 s4 fe2 ef hl=>hK _ _ es2.length (u2▸hl) ⟨A2,T2,j,.fail (nm j),es2,ct,⟨_,o6,rfl⟩,⟨w4,s4,⟨y,hj⟩,rfl,.inl U,by refine YP (ht.1) (YP (YO (Pr Tt N' hj yw)) ?_);exact fe2,ef⟩,rfl⟩)
end
theorem Mb(F:Fx σ G0 ns nm r o)(w:WX G0 b ns.length nm T Y H)(sm:Sm (dF ns nm) A T)(hx:ns[k]? =Z x)(fe:Fe (dF ns nm) A.t (cF (dF ns nm) (nm k)) A.h A.k (.fail (nm k)) es k')(hb:(aF es k' A).ev.length+1100<=900000)(q:∀T' H',WX G0 b ns.length nm T' Y H'->Sm (dF ns nm) (aF es k' A) T'->Q .none H'):aO PL (n+4) 32 [cz r ns nm o,.ref (b+3),ni k,.str ['f','a','i','l','s']] H Q X:=by refine cf U U (br (bZ (gb (ah U) (ah U) λQ q=>IS F (w.gn F.g) hx q)) (bV U) (cj (av U) (rZ (e:=.fail (nm k)) F ⟨w,sm,⟨x,hx⟩,rfl,.inl U,?_,rfl⟩ hb q)));exact YP (YO (yj F.t.tr F.n hx)) fe
theorem OD(F:Fx σ G0 ns nm r o)(w:WX G0 b ns.length nm T Y H)(sm:Sm (dF ns nm) A T)(hx:ns[k]? =Z x)(hw:x.w=J)(fe:Fe (dF ns nm) A.t ((dF ns nm).al (nm k)) A.h A.k (.leave (nm k)) es k')(hb:(aF es k' A).ev.length+1100<=900000)(q:∀T' H',WX G0 b ns.length nm T' Y H'->Sm (dF ns nm) (aF es k' A) T'->Q .none H'):aO PL (n+4) 32 [cz r ns nm o,.ref (b+3),ni k,.str ['l','e','a','v','e','s']] H Q X:=by
 refine cf U U (br (bZ (gb (ah U) (ah U) λQ q=>IS F (w.gn F.g) hx q)) (bV U) (bT (av U) (br (ay (qy F.t.tr hx U U) am (gq ik ik)) (bV U) (fA (rZ (e:=.leave (nm k)) F ⟨w,sm,⟨x,hx⟩,rfl,.inr U,?_,rfl⟩ hb q)))));have hk:0<k:=eC λz=>by clear fe;subst z;exact cu F.t.tr.top λy hy hyw _=>Z1 ((ai (hx.symm.trans hy)▸hw).symm.trans hyw) ae
 have e:(fZ (.str (jj x)) (.str ['a','l','w','a','y','s'])&&decide (0<k))=(dF ns nm).al (nm k):=by rw [decide_eq_true hk,iF,(B4 F.n hx).2];unfold Mq HV jj;rw [Z2 (by rw [hw];exact ae)];exact(by decide:∀m∈lN,fZ (.str m) (.str ['a','l','w','a','y','s'])= !(m==['f','a','u','l','t','e','d']||m==['n','e','v','e','r'])) _ yg
 rw [e];exact fe
theorem yF:Fh (t+1) s (Fh t s l)=Fh (t+1) s l:=by unfold Fh;rw [N2];refine Z4 (λp=>l.filter p) (funext λz=>?_);rw [cD,dP,decide_eq_true_iff,decide_eq_true_iff];exact⟨And.left,λh=>⟨h,iW (Int.sub_le_sub_right (Int.le_add_one (Int.le_refl t)) s) h⟩⟩
theorem Sm.next(sm:Sm π A T):Sm π (aT A) (aT T):=⟨sm.h,sm.s,sm.q,sm.ev,Z4 (·+1) sm.t,sm.lt,λw hw=>by refine(?_:Fh (A.t+1) _ (T.k w)=Fh (A.t+1) _ (A.k w));exact YP (YO yF) (YP (sm.k w hw) (YP yF U)),sm.kb⟩
theorem GP:bj P J .i [.dct [['f','a','u','l','t'],['l','e','a','v','e']] [a,c],.str ['f','a','u','l','t']] H=Z (a,H)/\bj P J .i [.dct [['f','a','u','l','t'],['l','e','a','v','e']] [a,c],.str ['l','e','a','v','e']] H=Z (c,H):=⟨rfl,rfl⟩
theorem f31(F:Fx σ G0 ns nm r o)(w:WX G0 b ns.length nm (aT T) Y H)(sm:Sm (dF ns nm) A T)(hx:ns[k]? =Z x)(hw:x.w=J)(hq:T.q (nm k)=(k0,l)::ps)(wk:Wk (dF ns nm) (nm k) k0 ps A l Af)(hps:(T.q (nm k)).length<=1000)(hb:Af.ev.length+1100<=900000)(hT:T.ev.length+1100<=900000)(q:∀T' H',WX G0 b ns.length nm T' Y H'->Sm (dF ns nm) Af T'->Q .none H'):aO PL (n+5) 33 [cz r ns nm o,.ref (b+3),ni k] H Q X:=by
 have hk:=(cq hx);have em:∀{ρ:Fm} {C X},ρ[1]? =Z (Z (.ref (b+3)))->ρ[2]? =Z (Z (ni k))->Ev PL C ρ H X (.p J .i [(.p J .i [.v 1,.c (.str ['m','a','i','l'])]),.v 2]) (y7 ((k0,l)::ps)):=λh1 h2=>cc (uY w h1 (ah h2) hk) (Z4 y7 hq);have e0:∀{H},bj PL J .i [y7 ((k0,l)::ps),.int 0] H=Z (tb (k0,l),H):=GI;refine cf U U (br (v:=ni k0) (ay (ay (em U U) am e0) am U) (bV U) (br (v:=l) (ay (ay (em U U) am e0) am U) (bV U) ?_));have lps:(((k0,l)::ps).map tb).length<=aB:=by rw [aj,<-hq];exact aa hps (by decide)
 refine rf (g:=y7) (f:=(aT T).q) (x:=ps) (p:=2) (T':={aT T with q:=kH T.q (nm k) ps}) F.n w U (fR (em U U) am am ((nD lps).trans (Z4 (λt=>Z (V.lst t,H)) tB))) (ah U) hk U U U λH1 w1=>ow (.works (nm k) k0) w1 U (fR am (ay (x:=vI nm ns.length) (av U) (ah U) (jn hk)) (ah U) (fB DJ)) (aa (ax _ _) (aa hT (by decide))) λH2 w2=>?_;haveI sn:=sm.next
 haveI sm2:Sm (dF ns nm) (aW (nm k) k0 ps A) {aT T with q:=kH T.q (nm k) ps,ev:=T.ev++[.works (nm k) k0]}:=⟨sn.h,sn.s,Z4 (λq=>kH q (nm k) ps) sm.q,Z4 (·++_) sm.ev,sn.t,sn.lt,sn.k,λw=>aa (sm.kb w) fx⟩
 induction wk with
 |@add i=>refine bT (av U) (rf (g:=V.int) (f:=T.s) (x:=T.s (nm k)+i) (p:=1) (T':={aT T with q:=kH T.q (nm k) ps,ev:=T.ev++[.works (nm k) k0],s:=kH T.s (nm k) (T.s (nm k)+i)}) F.n w2 U (ay (Nk w2 U (ah U) hk) (av U) gO) (ah U) hk U U U λH3 w3=>fA (q _ _ w3 ⟨sm2.h,?_,sm2.q,sm2.ev,sm2.t,sm2.lt,sm2.k,sm2.kb⟩));refine(?_:kH T.s (nm k) (T.s (nm k)+i)=kH A.s (nm k) (A.s (nm k)+i));exact YP (sm.s) U
 |fault fe=>exact cj (av U) (d8 (lO (ah U) (ah U) (ah U) (ay (P:=PL) (C:=aO PL (n+4)) (X:=X) (mD (jL am (jL am rY)) U) (av U) GP.1 _ (Mb F w2 sm2 hx fe hb λT' H' w' s'=>fA (q T' H' w' s')))))
 |leave fe=>exact cj (av U) (d8 (lO (ah U) (ah U) (ah U) (ay (P:=PL) (C:=aO PL (n+4)) (X:=X) (mD (jL am (jL am rY)) U) (av U) GP.2 _ (OD F w2 sm2 hx hw fe hb λT' H' w' s'=>fA (q T' H' w' s')))))
theorem WX.congr(w:WX G0 b N nm T Y H)(e1:∀j,j<N->T.h (nm j)=T'.h (nm j))(e2:∀j,j<N->T.s (nm j)=T'.s (nm j))(e3:∀j,j<N->T.q (nm j)=T'.q (nm j))(e4:∀j,j<N->T.k (nm j)=T'.k (nm j))(e5:T.ev=T'.ev/\T.t=T'.t/\T.lt=T'.lt):WX G0 b N nm T' Y H:=by
 haveI e:wN b N nm T=wN b N nm T':=by unfold wN;exact YP (lI λj hj=>Z4 V.bool (e1 j hj)) (YP (lI λj hj=>Z4 V.int (e2 j hj)) (YP (lI λj hj=>Z4 y7 (e3 j hj)) (YP (lI λj hj=>Z4 JS (e4 j hj)) (YP (e5.1) (YP (e5.2.1) (YP (e5.2.2) U))))))
 exact(e▸w:Hz (G0++(wN b N nm T'++Y)) H)
noncomputable def aP(T:Ab)(dn:List Nm):Ab:={T with q:=λn=>if T.h n=J/\n∈dn then []else T.q n,ev:=T.ev++qX T.h T.q dn}
def LO(G0:List (Nat×O))(b:Nat)(ns:List Nd)(nm:Nat->Nm)(T:Ab)(Y:List (Nat×O))(hall:V)(its:List Nat)(ρ:Fm)(H:AH):Prop:=
 ∃o2 o3 dn,ρ=[Z hall,Z (.ref (b+3)),o2,o3]/\dn++its=sub ns 7 0/\WX G0 b ns.length nm (aP T (dn.map nm)) Y H
def LO2(G0:List (Nat×O))(b:Nat)(ns:List Nd)(nm:Nat->Nm)(T:Ab)(Y:List (Nat×O))(hall:V)(k:Nat)(q its:List (Nat×V))(ρ:Fm)(H:AH):Prop:=
 ∃o3 dn,ρ=[Z hall,Z (.ref (b+3)),Z (ni k),o3]/\dn++its=q/\WX G0 b ns.length nm {T with ev:=T.ev++dn.map λp=>.lost (nm k) p.1} Y H
theorem gH(F:Fx σ G0 ns nm r o):(sub ns 7 0).Nodup/\(sub ns 7 0).length<=60/\(∀j∈sub ns 7 0,j<ns.length)/\∀j,j<ns.length->j∈sub ns 7 0:=cu F.t.tr.top λx0 h0 _ _=>⟨F.t.tr.nd h0,aa ((F.t.tr.nd h0).length_le_of_subset λi hi=>dY.mpr (F.t.tr.lt h0 i hi)) (aa (ak aZ) F.t.le),F.t.tr.lt h0,λj hj=>F.t.tr.all hj⟩
theorem f32(F:Fx σ G0 ns nm r o)(w:WX G0 b ns.length nm T Y H)(hq:∀n,(T.q n).length<=1000)(hb:(aL σ.names T).ev.length<=900000)(q:∀H',WX G0 b ns.length nm (aL σ.names T) Y H'->Q .none H'):aO PL (n+1) 34 [cz r ns nm o,.ref (b+3)] H Q X:=by
 haveI oa:=gH F;have N':=F.n;haveI li:∀{dn:List Nat} {its:List Nat},dn++its=sub ns 7 0->(T.ev++qX T.h T.q (dn.map nm)).length<=900000:=λ{dn its} ed=>by refine aa ?_ hb;refine(?_:_<=(T.ev++qX T.h T.q σ.names).length);rw [F.en,<-ed,aN];unfold qX;rw [bz,<-au];exact fx
 have step:∀{dn js:List Nat} {k:Nat},dn++k::js=sub ns 7 0->nm k∉dn.map nm:=λ{dn js k} ed z=>ao (cL z) λi hi e=>(bv.mp (ed.symm▸oa.1)).2.2 i hi k (.head _) (N'.inj i k (oa.2.2.1 i (ed▸aR _ hi)) (oa.2.2.1 k (ed▸aC _ (.head _))) e);refine cf U U (fV (LO G0 b ns nm T Y (cz r ns nm o)) (f:=ni) (v:=.ref o) (av U) (λ_ _ _ q=>jF q λ_ _ _ _ _ w=>i6 (Hz.at w (aR _ F.o))) (aa oa.2.1 (by decide)) (oU Z6 Z6 [] U U (w.congr (λ_ _=>rfl) (λ_ _=>rfl) (λj _=>(Z2 λz=>ba z.2).symm) (λ_ _=>rfl) (bu ((aJ _).symm) U U)))
  (λk js ρ' H' hI K' hK=>jF hI λo2 o3 dn e ed w=>?_) λρ' H' hI=>jF hI λo2 o3 dn e ed w=>q H' ?_)
 ·subst e;have hk:=oa.2.2.1 k (ed▸aC _ (.head _));haveI kd:=step ed;have ed':=(au dn [k] js).trans ed;haveI eq0:(aP T (dn.map nm)).q (nm k)=T.q (nm k):=Z2 λz=>kd z.2;refine bS (bZ (mG w U (ah U) hk)) (λhc=>?_) λhc=>hK _ _ (oU _ o3 (dn++[k]) U ed' (w.congr (λ_ _=>rfl) (λ_ _=>rfl) (λj hj=>?_) (λ_ _=>rfl) (bu ?_ U U)))
  ·have hh:T.h (nm k)=J:=cH _▸hc;refine fV (LO2 G0 b ns nm (aP T (dn.map nm)) Y (cz r ns nm o) k (T.q (nm k))) (f:=tb) (cc (uY w U (ah U) hk) (Z4 y7 eq0)) (λ_ _ _ _=>rfl) (aa (hq _) (by decide)) (eK o3 [] U U ((Z4 (λl=>WX G0 b ns.length nm {aP T (dn.map nm)with ev:=l} Y H') (aJ _)).mpr w))
    (λp ps ρ' H' hJ K' hK=>dG hJ λo3 dn2 e ed2 w=>?_) λρ' H' hJ=>dG hJ λo3 dn2 e ed2 w=>?_
   ·subst e;refine ow (.lost (nm k) p.1) w U (fR am (ay (av U) (ah U) (jn hk)) (av U) (fB DJ)) ?_ λH1 w1=>hK _ _ (eK _ (dn2++[p]) U ((au dn2 [p] ps).trans ed2) ?_)
    ·refine aa ?_ (aa (li ed') (by decide));rw [aN,show([k].map nm)=[nm k]from U,tV,hh,Z2 ae,<-au,af,af (bs:=m9 _ (T.q (nm k))),aj,aj];refine aH ?_ _;rw [<-ed2,af];exact ax _ _
    ·refine w1.congr (λ_ _=>rfl) (λ_ _=>rfl) (λ_ _=>rfl) (λ_ _=>rfl) (bu ?_ U U);rw [aN,<-au];rfl
   ·subst e;haveI ed2:=(aJ dn2).symm.trans ed2;subst ed2;refine rf (g:=y7) (x:=[]) (p:=2) (T':={aP T (dn.map nm)with ev:=(aP T (dn.map nm)).ev++(T.q (nm k)).map λp=>.lost (nm k) p.1,q:=kH (aP T (dn.map nm)).q (nm k) []}) N' w U (av U) (ah U) hk U U U λH1 w1=>fA (hK _ _ (oU _ _ (dn++[k]) U ed' (w1.congr (λ_ _=>rfl) (λ_ _=>rfl) (λj hj=>?_) (λ_ _=>rfl) (bu ?_ U U))))
    ·refine (?_:(if nm j=nm k then []else if T.h (nm j)=J/\nm j∈dn.map nm then []else T.q (nm j))=if T.h (nm j)=J/\nm j∈(dn++[k]).map nm then []else T.q (nm j));rw [aN];by_cases z:nm j=nm k
     ·rw [Z3 z,Z3 ⟨z▸hh,z▸aC _ (.head _)⟩]
     ·rw [Z2 z];by_cases y:T.h (nm j)=J/\nm j∈dn.map nm
      ·rw [Z3 y,Z3 ⟨y.1,aR _ y.2⟩]
      ·rw [Z2 y,Z2 λv=>y ⟨v.1,(jZ v.2).elim id λv=>Z1 (in1 v) z⟩]
    ·show T.ev++qX T.h T.q (dn.map nm)++(T.q (nm k)).map _=T.ev++qX T.h T.q ((dn++[k]).map nm);rw [aN,show([k].map nm)=[nm k]from U,tV,hh,Z2 ae,au]
  ·haveI hh:=dz _▸hc;refine(?_:(if T.h (nm j)=J/\nm j∈dn.map nm then []else T.q (nm j))=if T.h (nm j)=J/\nm j∈(dn++[k]).map nm then []else T.q (nm j));rw [aN];by_cases y:T.h (nm j)=J/\nm j∈dn.map nm
   ·rw [Z3 y,Z3 ⟨y.1,aR _ y.2⟩]
   ·rw [Z2 y,Z2 λv=>y ⟨v.1,(jZ v.2).elim id λz=>Z1 (v.1.symm.trans (in1 z▸hh)) ae⟩]
  ·haveI hh:T.h (nm k)=Z5:=dz _▸hc;refine(?_:T.ev++qX T.h T.q (dn.map nm)=T.ev++qX T.h T.q ((dn++[k]).map nm));rw [aN,show([k].map nm)=[nm k]from U,tV,hh,Z3 U,aJ]
 ·haveI edn:=(aJ dn).symm.trans ed;subst edn;refine w.congr (λ_ _=>rfl) (λ_ _=>rfl) (λj hj=>?_) (λ_ _=>rfl) (bu (by show T.ev++qX T.h T.q ((sub ns 7 0).map nm)=T.ev++qX T.h T.q σ.names;rw [F.en]) U U);refine(?_:(if T.h (nm j)=J/\nm j∈(sub ns 7 0).map nm then []else T.q (nm j))=if T.h (nm j)=Z5 then T.q (nm j)else []);by_cases z:T.h (nm j)=Z5
  ·rw [Z3 z,Z2 λy=>ae (y.1.symm.trans z)]
  ·rw [Z2 z,Z3 ⟨cr.mpr z,bx (oa.2.2.2 j hj)⟩]
theorem Au(h:LV v):v.data=Z5/\v.depth<=1:=by
 induction h with
 |add _|fault|leave=>exact⟨rfl,aM _⟩
theorem GD(h:∀p∈q,LV p.2):rd H (y7 q)=Z (y7 q):=by
 haveI z:=lQ (d:=2) (vs:=q.map tb) λv hv=>ao (cL hv) λp hp e=>e▸by
  haveI y:=Au (h p hp);refine⟨?_,?_⟩
  ·show (p.2.data&&Z5)=Z5;exact YP (y.1) U
  ·exact aA (ii.mpr ⟨aU _,ii.mpr ⟨y.2,aU _⟩⟩)
 refine Z3 ?_;show(V.datas _&&decide (V.depths _+1<=50))=Z5;exact YP (z.1) (YP (decide_eq_true (aa (aA z.2) (by decide))) U)
theorem Gz:(!fZ (y7 q) (.lst []))= !q.isEmpty:=by
 induction q with
 |nil=>rfl
 |cons _ _=>rfl
theorem yo(hk:k<N):bj P J (.cop .notin) [.str (nm k),vI nm N] H=Z (.bool J,H):=by haveI q:=fS (m0 (f:=λk=>V.str (nm k)) (l:=aX N) λ_=>Z0);refine(?_:((if re _=Z5 then Z (((aX N).map λk=>V.str (nm k)).any λy=>fZ y (.str (nm k)))else Z6).map _).map _=_);refine YP (Z3 (lj q.1 (aa (ak q.2) (by decide)))) (YP (show(((aX N).map λk=>V.str (nm k)).any λy=>fZ y (.str (nm k)))=Z5 from m8.mpr (aG _ (bx (dY.mpr hk)) (gT (.str (nm k)) U))) ?_);rfl
theorem f33(F:Fx σ G0 ns nm r o)(w:WX G0 b ns.length nm T Y H)(dd:Dd (dF ns nm) σ d)(lv:∀n,∀p∈T.q n,LV p.2)(q:Q (.bool (iP (nm 0) T d)) H):aO PL (n+1) 35 [cz r ns nm o,.ref (b+3),d] H Q X:=by
 haveI N':=F.n;refine cu F.t.tr.top λx0 h0 _ _=>?_;haveI h00:=(cq h0);haveI g:=w.gn F.g;have go:∀{k x} {wn fl:Bool},ns[k]? =Z x->nm k=aq d->(∀{C ρ H X},ρ[2]? =Z (Z d)->Ev PL C ρ H X (.p J .i [.v 2,.c (.int 1)]) (.str (nm k)))->(∀{C ρ H X},ρ[2]? =Z (Z d)->Ev PL C ρ H X (.p J (.cop .ne) [(.p J .i [.v 2,.c (.int 0)]),.c (.str ['f','a','i','l'])]) (.bool fl))->(fl&&x.w)=J->(∀{C ρ H X},ρ[2]? =Z (Z d)->Ev PL C ρ H X (.p J (.cop .ne) [(.p J .i [.v 2,.c (.int 0)]),.c (.str ['w','o','r','k'])]) (.bool wn))->wn= !Lr d->aO PL (n+1) 35 [cz r ns nm o,.ref (b+3),d] H Q X:=λ{k x wn fl} hx ek e1 e2 e3 e4 e5=>by
  have hk:=(cq hx);unfold iP at q;rw [<-ek,<-e5]at q;refine cf U U (bS (dB (bZ (mG w U am h00)) λ_=>ay (e1 U) (ay (ah U) am U) (yo hk)) (λhc=>?_) λhc=>?_)
  ·rw [DH]at hc;rw [show T.h (nm 0)=J from cH _▸hc]at q;exact bg am q
  rw [DH]at hc;rw [show T.h (nm 0)=Z5 from dz _▸hc,gR]at q;refine br (mY (ay (ah U) am U) U (e1 U) (nJ N' hk)) (bV U) (bS (cc (dB (bZ (mG w U (ah U) hk)) λ_=>cg (e2 U) λ_=>uf g hx U U U) (Z4 V.bool (by rw [e3,DH]))) (λhc=>?_) λhc=>?_)
  ·rw [show T.h (nm k)=J from cH _▸hc]at q;exact bg am q
  ·rw [show T.h (nm k)=Z5 from dz _▸hc,gR]at q;refine bg (dB (e4 U) λ_=>ay (uY w U (ah U) hk) (av U) ((lJ (GD (lv _)) jQ).trans ?_)) q;exact YP Gz U
 induction dd with
 |@send m l hm lv=>exact di (xZ (Z4 c5 hm)) λk x hx ek=>go hx ek (λh=>ek▸ay (ah h) am U) (λh=>ay (ay (ah h) am U) am U) (ai ((kL N' hx).symm.trans (ek.symm▸hm))) (λh=>ay (ay (ah h) am U) am U) U
 |@work m hm=>exact di (xZ (Z4 c5 hm)) λk x hx ek=>go hx ek (λh=>ek▸ay (ah h) am U) (λh=>ay (ay (ah h) am U) am U) (ai ((kL N' hx).symm.trans (ek.symm▸hm))) (λh=>ay (ay (ah h) am U) am U) U
 |@fail m hm=>have hm':=F.en▸hm;exact ao (cL hm') λk hk ek=>go (az ((gH F).2.2.1 k hk)) ek (λh=>ek▸ay (ah h) am U) (λh=>ay (ay (ah h) am U) am U) U (λh=>ay (ay (ah h) am U) am U) U
theorem vO(w:WX G0 b N nm T Y H)(hi:ρ[1]? =Z (Z (.ref (b+3))))(he:Ev P C ρ H X ex v)(ed:eQ key v mO (q8 b T.t T.lt)=(mO,q8 b T'.t T'.lt))(es:(wN b N nm T++Y).set 3 (b+3,.dict mO (q8 b T'.t T'.lt))=wN b N nm T'++Y)(q:∀H',WX G0 b N nm T' Y H'->bk P C ss ρ H' K R X):bk P C (.s (.v 1) (.c (.str key)) ex::ss) ρ H K R X:=by refine zb he (ah hi) am ?_ (q _ (by haveI z:=w.gset 3 (o':=.dict mO (q8 b T'.t T'.lt)) U;rw [es]at z;exact z));refine(?_:CQ (b+3) key v H H[b+3]? =_);refine YP (w.at 3 rfl) ?_;show(if mO.length<=aB then Z (H.set (b+3) (.dict (eQ key v mO (q8 b T.t T.lt)).1 (eQ key v mO (q8 b T.t T.lt)).2))else Z6)=_;exact YP (Z3 (by decide)) (YP ed U)
theorem Sm.lost(sm:Sm π A T):Sm π (aL l A) (aL l T):=⟨sm.h,sm.s,by show(λn=>if T.h n=Z5 then T.q n else [])=λn=>if A.h n=Z5 then A.q n else [];exact YP (sm.h) (YP (sm.q) U),by show T.ev++qX T.h T.q l=A.ev++qX A.h A.q l;exact YP (sm.h) (YP (sm.q) (YP (sm.ev) U)),sm.t,sm.lt,sm.k,λw=>aa (sm.kb w) fx⟩
theorem Eb(hl:q.length<=1000):bj P J (.bop .add) [y7 q,.lst [tb p]] H=Z (y7 (q++[p]),H):=by refine(i8 (by rw [aj];exact aa (aK hl 1) (by decide))).trans ((?_:Z (V.lst _,H)=Z (V.lst _,H)));exact YP aN U
theorem Qs{f:Nm->List (Nat×V)}(e:f m=p::ps)(h:∀n,(f n).length<=1000)(n:Nm):(kH f m ps n).length<=1000:=by
 unfold kH;by_cases z:n=m
 ·refine YP (Z3 z) ?_;haveI y:=h m;rw [e]at y;exact aa (bh _) y
 ·exact YP (Z2 z) (h n)
theorem Dd.ok(h:Dd π σ d):((kW (d.tpl.getD [])==['f','a','i','l'])=Z5->aq d∈σ.names)/\((kW (d.tpl.getD [])==['f','a','i','l'])=J->π.isW (aq d)=Z J):=by
 induction h with
 |send hm _=>exact⟨λz=>Z1 z ae,λ_=>hm⟩
 |work hm=>exact⟨λz=>Z1 z ae,λ_=>hm⟩
 |fail hm=>exact⟨λ_=>hm,λz=>Z1 z.symm ae⟩
theorem Wk.q(h:Wk π m k0 ps A l Af):Af.q=kH A.q m ps:=by cases h<;>rfl
theorem Wk.ev(h:Wk π m k0 ps A l Af):∃es,Af.ev=A.ev++es:=by
 induction h with
 |add=>exact⟨_,rfl⟩
 |fault _|leave _=>exact⟨_,au ..⟩
theorem f34(F:Fx σ G0 ns nm r o)(w:WX G0 b ns.length nm T Y H)(sm:Sm (dF ns nm) A T)(dd:Dd (dF ns nm) σ d)(de:De (dF ns nm) σ.names A d Af)(hq:∀n,(A.q n).length<=999)(hb:Af.ev.length+1100<=900000)(q:∀T' H',WX G0 b ns.length nm T' Y H'->Sm (dF ns nm) Af T'->Q .none H'):aO PL (n+6) 36 [cz r ns nm o,.ref (b+3),d] H Q X:=by
 have N':=F.n;have hqT:∀n,(T.q n).length<=1000:=λn=>YP (sm.q) (aa (hq n) (by decide));have lost:∀{A2 T2:Ab} {H2:AH} {ρ:Fm},ρ[0]? =Z (Z (cz r ns nm o))->ρ[1]? =Z (Z (.ref (b+3)))->Af=aL σ.names A2->WX G0 b ns.length nm T2 Y H2->Sm (dF ns nm) A2 T2->(∀n,(A2.q n).length<=1000)->bk PL (aO PL (n+5)) [(.e (.call 34 [.v 0,.v 1]))] ρ H2 (λ_ H'=>Q .none H') Q X:=λ{A2 T2 H2 ρ} h0 h1 ea w2 s2 hq2=>by subst ea;have s3:=s2.lost (l:=σ.names);exact d8 (dm (ah h0) (ah h1) (f32 F w2 (λn=>YP (s2.q) (hq2 n)) (YP (s3.ev) (aa (ax _ _) hb)) λH3 w3=>fA (q _ _ w3 s3)))
 have hA:∀{A1:Ab},(∃es,Af.ev=A1.ev++es)->A1.ev.length+1100<=900000:=λ{A1} z=>z.elim λes z=>aa (aK (by exact YP z fx) _) hb
 induction de with
 |@send m l=>
  refine(xZ (m:=m) (Z4 c5 (dd.ok.2 rfl))).elim λk z=>z.elim λx z=>?_;have ek:=z.2;clear lost hb dd;subst ek;have hk:=(cq z.1);have hT:=hA ⟨_,rfl⟩;refine cf U U (br (mY (ay (av U) am U) U (av U) (nJ N' hk)) (bV U) (bT (av U) (vO (T':={T with lt:=T.lt+1}) w U (ay (gN w U U) am gO) U U λH1 w1=>?_)));refine rf (p:=2) (T':={T with lt:=T.lt+1,q:=kH T.q (nm k) (T.q (nm k)++[(T.lt+1,l)])}) N' w1 U (ay (uY w1 U (ah U) hk) (bK (ay (gN w1 U U) (av U) (fB gZ)) (gm vP)) (Eb (p:=(T.lt+1,l)) (hqT (nm k)))) (ah U) hk U U U λH2 w2=>ow (.sent (nm k) (T.lt+1) l) w2 U (yL am (av U) (gN w2 U U) (av U) U) (by show T.ev.length<=_;exact YP (sm.ev) (aa (ax _ _) (aa hT (by decide)))) λH3 w3=>bg am (q _ _ w3 ⟨sm.h,sm.s,?_,?_,sm.t,Z4 (·+1) sm.lt,sm.k,λw=>aa (sm.kb w) fx⟩)
  ·exact YP (sm.q) (YP (sm.lt) U)
  ·exact YP (sm.ev) (YP (sm.lt) U)
 |@fail m es k' fe=>have hm:=F.en▸dd.ok.1 rfl;refine ao (cL hm) λk hk ek=>?_;clear hm dd;subst ek;have hk:=(gH F).2.2.1 k hk;refine cf U U (br (mY (ay (av U) am U) U (av U) (nJ N' hk)) (bV U) (cj (av U) (vO (T':=aT T) w U (ay (gN w U U) am gO) U U λH1 w1=>cj (av U) (d8 (lO (ah U) (ah U) (ah U) (am _ (Mb F w1 sm.next (az hk) fe (hA ⟨_,rfl⟩) λT2 H2 w2 s2=>fA (lost U U U w2 s2 λn=>aa (hq n) (by decide)))))))))
 |@work m k0 l ps A2 eq wk=>refine(show ∃k x,ns[k]? =Z x/\nm k=m/\x.w=J from di (xZ (Z4 c5 (dd.ok.2 rfl))) λk x hx ek=>(eK k x hx ek (ai ((kL N' hx).symm.trans (ek.symm▸dd.ok.2 rfl))))).elim λk z=>z.elim λx z=>?_;have ek:=z.2.1;subst ek;have hk:=(cq z.1);refine cf U U (br (mY (ay (av U) am U) U (av U) (nJ N' hk)) (bV U) (cj (av U) (vO (T':=aT T) w U (ay (gN w U U) am gO) U U λH1 w1=>bT (av U) (d8 (kj (ah U) (ah U) (ah U) (f31 F w1 sm z.1 z.2.2 (sm.q▸eq) wk (hqT _) (hA ⟨_,rfl⟩) (YP (sm.ev) (wk.ev.elim λes e=>hA ⟨es++_,(Z4 (·++_) e).trans (au ..)⟩)) λT2 H2 w2 s2=>fA (lost U U U w2 s2 λn=>YP (wk.q) (Qs eq (λn=>aa (hq n) (by decide)) n))))))))
def Dt(vs:List V):Prop:=∀v∈vs,v.data=Z5/\v.depth<=3
section
variable {e:Evt}{es:List Evt}
theorem Kg(h:Dt vs):re vs=Z5:=haveI q:=lQ h;lj q.1 (aa q.2 (by decide))
theorem MX(h:Dt vs):rd H (.lst vs)=Z (.lst vs):=by haveI q:=lQ h;refine Z3 ?_;show(V.datas vs&&decide (V.depths vs+1<=50))=Z5;exact YP (q.1) (YP (decide_eq_true (aa (aA q.2) (by decide))) U)
theorem vV(sm:Sm π A T):iP m T d=iP m A d:=by unfold iP;rw [sm.h,sm.q]
theorem Dp(h:e.ok π):e.v.data=Z5/\e.v.depth<=3:=by
 induction e with
 |beg _|end_ _|fail _|leave _|works _ _|lost _ _=>exact⟨rfl,aQ U⟩
 |sent _ _ l=>
  haveI y:=Au h.2;refine⟨?_,?_⟩
  ·show (l.data&&Z5)=Z5;exact YP (y.1) U
  ·show max 0 (max 0 (max 0 (max l.depth 0)))+1<=3;exact aA (ii.mpr ⟨aU _,ii.mpr ⟨aU _,ii.mpr ⟨aU _,ii.mpr ⟨aa y.2 (by decide),aU _⟩⟩⟩⟩)
theorem B7(h:∀e∈es,e.ok π):Dt (es.map Evt.v):=λv hv=>ao (cL hv) λe he z=>z▸Dp (h e he)
theorem C6{p:Nm->Bool}{l:List Nat}:((l.filter λk=>p (nm k)).map λk=>V.str (nm k))=((l.map nm).filter p).map V.str:=by exact YP kz (YP bO U)
theorem f35(F:Fx σ G0 ns nm r o)(w:WX G0 b ns.length nm T Y H)(q:Q (.lst ((σ.names.filter T.h).map V.str)) H):aO PL (n+1) 37 [cz r ns nm o,.ref (b+3)] H Q X:=by haveI oa:=gH F;rw [F.en,<-C6]at q;exact cf U U (bg (jU (l:=sub ns 7 0) (f:=ni) (g:=λk=>V.str (nm k)) (p:=λk=>T.h (nm k)) (w:=.ref o) (av U) (i6 (Hz.at w (aR _ F.o))) (aa oa.2.1 (by decide)) (λk hk=>mG w U (ah U) (oa.2.2.1 k hk)) λk hk _=>ay (x:=vI nm ns.length) (av U) (ah U) (jn (oa.2.2.1 k hk))) q)
theorem f36(F:Fx σ G0 ns nm r o)(w:WX G0 b ns.length nm T Y H)(lv:∀n,∀p∈T.q n,LV p.2)(q:Q (.lst ((σ.names.filter λm=>T.h m&& !(T.q m).isEmpty).map V.str)) H):aO PL (n+1) 38 [cz r ns nm o,.ref (b+3)] H Q X:=by haveI oa:=gH F;rw [F.en,<-C6]at q;exact cf U U (bg (jU (l:=sub ns 7 0) (f:=ni) (g:=λk=>V.str (nm k)) (p:=λk=>T.h (nm k)&& !(T.q (nm k)).isEmpty) (w:=.ref o) (av U) (i6 (Hz.at w (aR _ F.o))) (aa oa.2.1 (by decide)) (λk hk=>cg (mG w U (ah U) (oa.2.2.1 k hk)) λ_=>ay (uY w U (ah U) (oa.2.2.1 k hk)) (av U) ((lJ (GD (lv _)) jQ).trans (by exact YP Gz U))) λk hk _=>ay (x:=vI nm ns.length) (av U) (ah U) (jn (oa.2.2.1 k hk))) q)
end
theorem Hz.pushG(w:Hz g H)(o:O)(ea:H.length=a):Hz (g++[(a,o)]) (H++[o])/\(H++[o]).length=a+1:=⟨ea▸w.push o,af.trans (Z4 (·+1) ea)⟩
theorem Ik:bW N z=(aX N).map λ_=>z:=by exact YP (List.map_const') (YP aZ U)
theorem CA(h:ρ[i]? =Z (Z (ni N)))(hN:N<=60)(ea:H.length=a)(q:Q (.ref a) (H++[rg N λ_=>z])):cW P C (.p Z5 .rep [.p J .l [.c z],.v i]) ρ H Q X:=by refine ah (P:=P) (C:=C) (X:=X) h _ (hE (v:=.ref a) (H':=H++[rg N λ_=>z]) ?_ q);refine(?_:(if 0<=(N:Int)/\(N:Int)<=1000 then Z (V.lst (bW N z),H)else Z6:Option (V×AH)).bind _=_);exact YP (Z3 ⟨bp _,b7.mpr (aa hN (by decide))⟩) (YP Ik (YP (YO ea) U))
theorem y6(h:ρ[i]? =Z (Z (ni N)))(hN:N<=60)(ea:H.length=a)(q:Q (.ref a) (H++[rg N λ_=>.lst []])):cW P C (.comp Z5 (.p J .l []) (.p J .range1 [.v i]) Z6) ρ H Q X:=
 Ey (l:=aX N) (f:=ni) (g:=λ_=>.lst []) (w:=.rng 0 N) (bK (ah h) (gc (zN (aa hN (by decide))))) (Z4 Z p5) (by exact YP aZ (aa hN (by decide))) (λ_ _=>av U) (ea▸q)
theorem xW(hi:ρ[i]? =Z (Z (.ref a)))(he:∀Q:QE,(∀H',H'[a]? =Z (.dict ks vs)->ks.length<=10->bk P C ss ρ (H'.set a (.dict (eQ key z ks vs).1 (eQ key z ks vs).2)) K R X->Q z H')->cW P C ex ρ H Q X):bk P C (.s (.v i) (.c (.str key)) ex::ss) ρ H K R X:=iJ (he _ λH' h hl k=>by
 refine ah (P:=P) (C:=C) (X:=X) hi _ ?_;refine(?_:match CQ a key z H' H'[a]? with|some H'=>_|none=>False);refine YP h ?_;show match(if ks.length<=aB then Z _ else Z6:Option AH)with|some H'=>_|none=>False
 refine YP (Z3 (aa hl (by decide))) ?_;exact k)
theorem L9{p:Prim}{a b c:Ex}{u v:V}(k:cW P C a ρ H (λx H1=>cW P C b ρ H1 (λy H2=>cW P C c ρ H2 (λz H3=>iT (bj P Z5 p [x,y,z,u,v] H3) Q) X) X) X):cW P C (.p Z5 p [a,b,c,.c u,.c v]) ρ H Q X:=k
theorem f25(F:Fx σ G0 ns nm r o)(w:Hz G0 H)(q:∀T H',WX G0 H.length ns.length nm T [] H'->T=aF (σ.names.map .beg) (λ_=>[]) DM->Q (.ref (H.length+3)) H'):aO PL (n+3) 27 [cz r ns nm o] H Q X:=by haveI g:GN r ns H:=λp hp=>w.at (F.g p hp);have hN:=F.t.le;refine cu F.t.tr.top λx0 h0 _ hd=>?_;haveI w1:=w.pushG (rg ns.length λ_=>.bool J) U;haveI w2:=w1.1.pushG (rg ns.length λ_=>.int 0) w1.2;haveI w3:=w2.1.pushG (rg ns.length λ_=>.lst []) w2.2;haveI w4:=w3.1.pushG (.dict (mO.take 5) [.ref H.length,.ref (H.length+1),.ref (H.length+2),.int 0,.int 0]) w3.2;haveI w5:=w4.1.pushG (rg ns.length λ_=>.lst []) w4.2;rw [au,au,au,au]at w5;refine cf U U (br (v:=ni ns.length) (cc (bK (av U) (fJ g.row)) (Z4 ni (aj _))) (bV U) (eR (L9 (CA U hN U (CA U hN w1.2 (y6 U hN w2.2 (hE (v:=.ref (H.length+3)) (Z4 (λt=>Z (V.ref t,_)) w3.2) ⟨bV U,?_⟩)))))));refine xW (a:=H.length+3) (ks:=mO.take 5) (vs:=[.ref H.length,.ref (H.length+1),.ref (H.length+2),.int 0,.int 0]) (z:=.ref (H.length+4)) U λQ1 q1=>y6 U hN w4.2 (q1 _ (w5.1.at (aC _ (aI (i:=3) U))) (aQ U) ?_);haveI w6:=w5.1.gset 3 (a:=H.length+3) (o':=.dict (mO.take 6) [.ref H.length,.ref (H.length+1),.ref (H.length+2),.int 0,.int 0,.ref (H.length+4)]) U;haveI w7:=w6.pushG (.list []) (aY.trans w5.2);rw [au]at w7;refine xW (a:=H.length+3) (ks:=mO.take 6) (vs:=[.ref H.length,.ref (H.length+1),.ref (H.length+2),.int 0,.int 0,.ref (H.length+4)]) (z:=.ref (H.length+5)) U λQ1 q1=>lH (aY.trans w5.2▸q1 _ (w7.1.at (aC _ (aI (i:=3) U))) (aQ U) ?_);haveI w8:WX G0 H.length ns.length nm DM [] _:=w7.1.gset 3 (a:=H.length+3) (o':=.dict mO (q8 H.length 0 0)) U;refine d8 (kj (ah U) (ah U) am (f26 (n:=n) (k:=0) F w8 h0 (aQ U) λH' w'=>bg (ah U) (q _ H' w' ?_)));exact YP (vd F.n h0) (YP (F.en) (YP (F.t.tr.subS h0 (f:=7) (hd.symm▸rfl) (by decide)) U))
section
variable {P:Prog}{C:Calls}{G:Prop}
abbrev QG(G:Prop)(Q:QE):Prop:=∀v H,Q v H->G
abbrev XG(G:Prop)(X:XE):Prop:=∀c H,X c H->G
abbrev KG(G:Prop)(K:KS):Prop:=∀ρ H,K ρ H->G
theorem yG(q:QG G Q)(h:iT r Q):G:=by
 cases r with
 |none=>exact h.elim
 |some p=>exact q _ _ h
theorem p6{K:Bool->Prop}(k:∀t,K t->G)(h:o9 r K):G:=by
 cases r with
 |none=>exact h.elim
 |some t=>exact k t h
theorem si{t:Bool}{A B:Prop}(a:A->G)(b:B->G)(h:if t then A else B):G:=by
 cases t with
 |false=>exact b h
 |true=>exact a h
theorem xG{F:V->AH->(Option V->AH->Prop)->Prop}{ok:AH->Prop}{Q:List V->AH->Prop}(hF:∀x H K,(∀r H',K r H'->G)->F x H K->G)(q:∀ys H,Q ys H->G):∀{acc H},lE F ok items acc H Q->G:=by
 induction items with
 |nil=>exact λh=>q _ _ h.2
 |cons x xs ih=>exact λh=>hF _ _ _ (λ_ _ k=>ih k) h.2
theorem JP{F:V->Fm->AH->KS->Prop}{ok:AH->Prop}(hF:∀x ρ H K,KG G K->F x ρ H K->G)(k:KG G K):∀{ρ H},ri F ok items ρ H K->G:=by
 induction items with
 |nil=>exact λh=>k _ _ h.2
 |cons x xs ih=>exact λh=>hF _ _ _ _ (λ_ _ k=>ih k) h.2
theorem Br{F:Fm->AH->KS->KS->Prop}(hF:∀ρ H K₁ K₂,KG G K₁->KG G K₂->F ρ H K₁ K₂->G)(k:KG G K):∀{ρ H},mU F n ρ H K->G:=by
 induction n with
 |zero=>exact λh=>h.elim
 |succ n ih=>exact λh=>hF _ _ _ _ (λ_ _ k=>ih k) k h
abbrev GE(G:Prop)(P:Prog)(C:Calls)(e:Ex):Prop:=∀{ρ H Q X},QG G Q->XG G X->cW P C e ρ H Q X->G
abbrev GEs(G:Prop)(P:Prog)(C:Calls)(es:List Ex):Prop:=∀{ρ H X} {Q:List V->AH->Prop},(∀vs H,Q vs H->G)->XG G X->iE P C es ρ H Q X->G
abbrev GEo(G:Prop)(P:Prog)(C:Calls)(o:Option Ex):Prop:=∀e,o=Z e->GE G P C e
theorem gE(hC:∀{f vs H Q X},QG G Q->XG G X->C f vs H Q X->G)(e:Ex):GE G P C e:=by
 refine Ex.rec (motive_1:=λe=>GE G P C e) (motive_2:=λe=>GEs G P C e) (motive_3:=GEo G P C) ?_ ?_ ?_ ?_ ?_ ?_ ?_ ?_ ?_ ?_ ?_ ?_ ?_ ?_ ?_ e
 ·exact λ_ _ _ _ _ q _ h=>q _ _ h
 ·intro i ρ H Q X q _ h;have h:match ρ[i]? with|some (Z v)=>Q v H|_=>False:=h
  cases e:ρ[i]? with
  |none=>rw [e]at h;exact h.elim
  |some o=>
   rw [e]at h;cases o with
   |none=>exact h.elim
   |some v=>exact q _ _ h
 ·exact λ_ _ _ ih _ _ _ _ q x h=>ih (λ_ _ h=>yG q h) x h
 ·exact λ_ _ iha ihb _ _ _ _ q x h=>iha (λ_ _ h=>p6 (λ_ h=>si (ihb q x) (q _ _) h) h) x h
 ·exact λ_ _ iha ihb _ _ _ _ q x h=>iha (λ_ _ h=>p6 (λ_ h=>si (ihb q x) (q _ _) h) h) x h
 ·exact λ_ _ _ _ _ iha ihb ihc _ _ _ _ q x h=>iha (λ_ _ h=>ihb (λ_ _ h=>p6 (λ_ h=>si (ihc (λ_ _ h=>p6 (λ_ h=>q _ _ h) h) x) (q _ _) h) h) x h) x h
 ·exact λ_ _ ih _ _ _ _ q x h=>ih (λ_ _ h=>hC q x h) x h
 ·exact λ_ _ _ _ _ iho ih _ _ _ _ q x h=>iho (λ_ _ h=>ih (λ_ _ h=>hC q x h) x h.2) x h
 ·exact λ_ _ _ _ _ iho ih _ _ _ _ q x h=>iho (λ_ _ h=>ih (λ_ _ h=>yG q h) x h.2) x h
 ·exact λ_ _ _ ih _ _ _ _ q x h=>ih (λ_ _ h=>hC (λ_ _ h=>q _ _ h.2) x h) x h
 ·intro mu elt it cond ihe ihi ihc ρ H Q X q x h;cases cond with
  |none=>exact ihi (λ_ _ (h:∃_,_)=>h.elim λ_ h=>xG (λ_ _ _ k h=>ihe (λ_ _ h=>k _ _ h) x h) (λ_ _ h=>yG q h) h.2.2) x (Bn▸h)
  |some c=>exact ihi (λ_ _ (h:∃_,_)=>h.elim λ_ h=>xG (λ_ _ _ k h=>ihc c U (λ_ _ h=>p6 (λ_ h=>si (ihe (λ_ _ h=>k _ _ h) x) (k _ _) h) h) x h) (λ_ _ h=>yG q h) h.2.2) x (wE▸h)
 ·exact λq _ h=>q _ _ h
 ·exact λ_ _ ih ihs _ _ _ _ q x h=>ih (λ_ _ h=>ihs (λ_ _ h=>q _ _ h) x h) x h
 ·exact λ_ h=>eU h
 ·exact λ_ ih _ h=>ai h▸ih
abbrev GS(G:Prop)(P:Prog)(C:Calls)(s:St):Prop:=∀{ρ H K R X},KG G K->QG G R->XG G X->vq P C s ρ H K R X->G
abbrev GSs(G:Prop)(P:Prog)(C:Calls)(ss:List St):Prop:=∀{ρ H K R X},KG G K->QG G R->XG G X->bk P C ss ρ H K R X->G
theorem gSs(hC:∀{f vs H Q X},QG G Q->XG G X->C f vs H Q X->G)(ss:List St):GSs G P C ss:=by
 have gE:=@gE P C G hC;have no:XG G λ_ _=>False:=λ_ _ h=>h.elim;intro ρ H K R X;refine St.rec_1 (motive_1:=λs=>GS G P C s) (motive_2:=λs=>GSs G P C s) ?_ ?_ ?_ ?_ ?_ ?_ ?_ ?_ ?_ ?_ ?_ ?_ ?_ ?_ ?_ ss
 ·exact λ_ e _ _ _ _ _ k _ x h=>gE e (λ_ _ h=>k _ _ h.2) x h
 ·intro is e ρ H K R X k _ x h;refine gE e (λv H' h=>?_) x h;generalize gz ρ (.inr is) v=o at h;cases o with
  |none=>exact h.elim
  |some _=>exact k _ _ h
 ·intro o i e ρ H K R X k _ x h;refine gE e (λv H' h=>gE o (λv2 H2 h=>gE i (λv3 H3 h=>?_) x h) x h) x h;generalize eX v2 v3 v H3=o at h;cases o with
  |none=>exact h.elim
  |some _=>exact k _ _ h
 ·intro o n e ρ H K R X k _ x h;refine gE e (λv H' h=>gE o (λv2 H2 h=>?_) x h) x h;generalize iQ v2 n v H2=o at h;cases o with
  |none=>exact h.elim
  |some _=>exact k _ _ h
 ·exact λe _ _ _ _ _ k _ x h=>gE e (λ_ _ h=>k _ _ h) x h
 ·exact λc _ _ iha ihb _ _ _ _ _ k r x h=>gE c (λ_ _ h=>p6 (λ_ h=>si (iha k r x) (ihb k r x) h) h) x h
 ·intro rev tgt e body ih ρ H K R X k r x h;refine gE e (λ_ _ h=>h.elim λ_ h=>JP (λy ρ' H' K' k h=>?_) k h.2.2) x h;generalize gz ρ' tgt y=o at h;cases o with
  |none=>exact h.elim
  |some _=>exact ih k r no h
 ·exact λc _ ih _ _ _ _ _ k r x h=>h.elim λ_ h=>Br (λ_ _ _ _ k₁ k₂ h=>gE c (λ_ _ h=>p6 (λ_ h=>si (ih k₁ r no) (k₂ _ _) h) h) no h) k h
 ·exact λe _ _ _ _ _ _ r x h=>gE e r x h
 ·exact λ_ _ _ _ _ _ _ _ x h=>x _ _ h
 ·exact λ_ _ _ ih _ _ _ _ _ k r x h=>ih k r (λ_ _ h=>r _ _ h.2) h
 ·exact λe _ _ hh _ _ _ _ _ k r x h=>gE e (λ_ _ h=>k _ _ h) (λ_ _ h=>gE hh r (λ_ _ f=>f.elim) h.2) h
 ·exact λk _ _ h=>k _ _ h
 ·exact λk _ _ h=>k _ _ h
 ·exact λ_ _ ih ihs _ _ _ _ _ k r x h=>ih (λ_ _ h=>ihs k r x h) r x h
theorem gC:∀{f vs H Q X},QG G Q->XG G X->aO P n f vs H Q X->G:=by
 induction n with
 |zero=>exact λ_ _ h=>h.elim
 |succ n ih=>
  intro f vs H Q X q x h;rw [mZ]at h;generalize P.fns f=o at h;cases o with
  |none=>exact h.elim
  |some fn=>exact gSs ih fn.body (λ_ _ h=>q _ _ h) (λ_ _ h=>q _ _ h) (λ_ _ h=>x _ _ h) h.2
end
def SV:Nat->V->Prop
 |0,v=>(∃s,v=.str s)\/∃i,v=.int i
 |d+1,v=>SV d v\/∃vs,v=.tup vs/\vs.length<=9/\∀x∈vs,SV d x
section
variable {e:Evt}
theorem t9{d:Nat}{s:Nm}:SV d (.str s):=by
 induction d with
 |zero=>exact .inl ⟨_,rfl⟩
 |succ d ih=>exact .inl ih
theorem Js{d:Nat}{i:Int}:SV d (.int i):=by
 induction d with
 |zero=>exact .inr ⟨_,rfl⟩
 |succ d ih=>exact .inl ih
theorem Ni(h:e.ok π):SV 2 e.v:=by
 haveI two:∀{a b:Nm},SV 2 (.tup [.str a,.str b]):=.inr (bQ _ U (aQ U) (eD t9 (c8 t9)));haveI three:∀{a b:Nm} {i:Int},SV 2 (.tup [.str a,.str b,.int i]):=.inr (bQ _ U (aQ U) (eD t9 (eD t9 (c8 Js))))
 induction e with
 |beg _|end_ _|fail _|leave _=>exact two
 |works _ _|lost _ _=>exact three
 |sent _ _ l=>
  refine .inr (bQ _ U (aQ U) (eD t9 (eD t9 (eD Js (c8 ?_)))))
  induction h.2 with
  |add _=>exact .inr (bQ _ U (aQ U) (eD t9 (c8 Js)))
  |fault|leave=>exact .inr (bQ _ U (aQ U) (c8 t9))
inductive Dr(π:PI)(σ:Ad):V->V->Prop
 |send {m:Nm} {k l:V}:π.isW m=Z J->LV l->Dr π σ (.tup [.str ['s','e','n','d'],.str m,l]) (.tup [.str ['s','e','n','t'],.str m,k,l])
 |work {m:Nm} {k:V}:π.isW m=Z J->Dr π σ (.tup [.str ['w','o','r','k'],.str m]) (.tup [.str ['w','o','r','k','s'],.str m,k])
 |fail {m:Nm}:m∈σ.names->Dr π σ (.tup [.str ['f','a','i','l'],.str m]) (.tup [.str ['f','a','i','l','s'],.str m])
theorem FM:g9 (n+1) (-1)=n:=by
 unfold g9;haveI e:-1+((n+1:Nat):Int)=(n:Int):=by simp only [Int.natCast_succ,Int.add_comm,Int.add_neg_cancel_right]
 rw [e,Z2 (cU.mpr (bp n))];rfl
theorem EF{α:Type}{l:List α}{a:α}:bE (l++[a]) (g9 (l++[a]).length (-1)) (l++[a]).length=[a]:=by refine YP af (YP (show [a].length=1 from U) (YP FM ?_));unfold bE;rw [gM (by rw [af];exact aM _),List.drop_left]
theorem Bq(pl:Pl π σ)(A:At π σ S H)(dr:Dr π σ d v)(hL:S.letters<=109)(hb:S.ev.length+8000<=900000)(q0:iP (aq σ.plan) (jY S) d=J->Q (.lst []) H)(qh:iP (aq σ.plan) (jY S) d=Z5->MH π σ S d 8000 Q):aO PL (n+36) 12 [.ref σ.i,v] H Q X:=by
 haveI hL':=aa hL (by decide:109<=110)
 induction dr with
 |@send m k l hm lv=>refine cf U U (cj (av U) (tG (g7 (dm (ah U) (ah U) (cf U U (bT (av U) (nU A.hs U U (av U) (av U) (f40 pl A hm lv hL hb (λz=>⟨rfl,q0 (rU z)⟩) (λz=>⟨rfl,q0 (rR z)⟩) λz y S' H' A' a b e=>?_))))))));haveI ev:S'.ev=S.ev++[.sent m (S.letters+1) l]:=Z4 Ab.ev e;refine bg (fR (dW A'.hs U U) (bK am pT) am (xC (A'.hs.get 9 rfl) (aa (ak (aj _)) (aa b (aa hb (by decide)))))) ?_;haveI z:=qh (C8 z y U) S' H' _ A' a b (e▸.send) ev;exact YP ev (YP aN ((EF (l:=S.ev.map Evt.v) (a:=(Evt.sent m (S.letters+1) l).v)).symm▸z))
 |@work m k hm=>exact cf U U (cj (av U) (tG (g7 (dm (ah U) (ah U) (cf U U (cj (av U) (bT (av U) (xB A.hs U U (av U) (f41 pl A hm hL' hb (λz=>⟨rfl,q0 (rU z)⟩) (λz=>⟨rfl,q0 (HC z)⟩) (λz=>⟨rfl,q0 (rR z)⟩) λz y w=>qh (C8 z y (K8 w)))))))))))
 |fail hm=>exact cf U U (cj (av U) (tG (g7 (dm (ah U) (ah U) (cf U U (cj (av U) (cj (av U) (bT (av U) (xB A.hs U U (av U) (f42 pl A hm hL' hb (λz=>⟨rfl,q0 (rU z)⟩) (λz=>⟨rfl,q0 (rR z)⟩) λz y=>qh (C8 z y U)))))))))))
end
inductive Dw:V->V->Prop
 |send {m:Nm} {k:Int} {l:V}:LV l->Dw (.tup [.str ['s','e','n','d'],.str m,l]) (.tup [.str ['s','e','n','t'],.str m,.int k,l])
 |work {m:Nm} {k:Int}:Dw (.tup [.str ['w','o','r','k'],.str m]) (.tup [.str ['w','o','r','k','s'],.str m,.int k])
 |fail {m:Nm}:Dw (.tup [.str ['f','a','i','l'],.str m]) (.tup [.str ['f','a','i','l','s'],.str m])
theorem Db{p:Prop}(a:c=J)(b:c=Z5):p:=Z1 (a.symm.trans b) ae
theorem Fe.hd(f:Fe π t c h k e es k1):∃tl,es=e::tl:=by
 induction f with
 |stop _ ee _=>exact⟨_,ee⟩
 |here _ _ ee=>exact⟨_,ee⟩
 |go _ _ ee=>exact⟨_,ee⟩
theorem Fe.inv(f:Fe π t c h k e es k1):(c=J->es=pre π h e/\k1=k)/\(c=Z5->∃w,π.ch e.nm=Z w/\(((Fh t (π.sp w) (k w++[t])).length:Int)<=π.mn w->∃i,(π.kd w)[i]? =Z e.nm/\es=pre π h e++FV π ((pre π h e).foldl hr h) w i e.nm/\k1=G3 k w (k w++[t]))/\(π.mn w<((Fh t (π.sp w) (k w++[t])).length:Int)->∃es2,es=pre π h e++es2/\Fe π t (cF π w) ((pre π h e).foldl hr h) (G3 k w (k w++[t])) (.fail w) es2 k1)):=by
 induction f with
 |stop c0 ee ek=>exact⟨λ_=>⟨ee,ek⟩,λct=>Db c0 ct⟩
 |@here c h k k' e es w i ct cw ee ek le ix _=>exact⟨λc0=>Db c0 ct,λ_=>(bQ w cw (λ_=>(bQ i ix ee ek)) (λlt=>Z1 lt (cU.mpr le)))⟩
 |@go c h k k' e w es es2 ct cw ee lt f _=>exact⟨λc0=>Db c0 ct,λ_=>(bQ w cw (λle=>Z1 lt (cU.mpr le)) (λ_=>(aG es2 ee f)))⟩
theorem Fe.det(nd:∀w,(π.kd w).Nodup)(f:Fe π t c h k e es1 k1):∀{es2 k2},Fe π t c h k e es2 k2->es1=es2/\k1=k2:=by
 induction f with
 |stop c0 ee ek=>exact λg=>⟨ee.trans (g.inv.1 c0).1.symm,ek.trans (g.inv.1 c0).2.symm⟩
 |@here c h k k' e es w i ct cw ee ek le ix _=>refine λg=>cu (g.inv.2 ct) λw2 cw2 q _=>?_;haveI ew:=ai (cw.symm.trans cw2);clear cw2;subst ew;refine cu (q le) λi2 ix2 ee2 ek2=>?_;rw [(gX (cq ix2) (nd w)).mp (ix2.trans ix.symm)]at ee2;exact⟨ee.trans ee2.symm,ek.trans ek2.symm⟩
 |@go c h k k' e w es es2 ct cw ee lt _ ih=>refine λg=>cu (g.inv.2 ct) λw2 cw2 _ q=>?_;haveI ew:=ai (cw.symm.trans cw2);clear cw;(replace ew:=YO ew;subst ew);exact ao (q lt) λes4 ee2 f2=>⟨ee.trans ((Z4 (_++·) (ih f2).1).trans ee2.symm),(ih f2).2⟩
noncomputable def scd(v:V):V:=(v.tpl.getD []).getD 1 .none
noncomputable def thr(v:V):V:=(v.tpl.getD []).getD 2 .none
theorem Wk.inv(w:Wk π m k0 ps A l B):((kW (l.tpl.getD [])==['a','d','d'])=Z5->∃i,scd l=.int i/\B=aD m i (aW m k0 ps A))/\((kW (l.tpl.getD [])==['f','a','u','l','t'])=Z5->∃es k',Fe π (A.t+1) (cF π m) A.h A.k (.fail m) es k'/\B=aF es k' (aW m k0 ps A))/\((kW (l.tpl.getD [])==['l','e','a','v','e'])=Z5->∃es k',Fe π (A.t+1) (π.al m) A.h A.k (.leave m) es k'/\B=aF es k' (aW m k0 ps A)):=by
 induction w with
 |add=>exact(bu (λ_=>(aG _ U U)) (λz=>Z1 z ae) (λz=>Z1 z ae))
 |fault f=>exact(bu (λz=>Z1 z ae) (λ_=>(gp _ _ f U)) (λz=>Z1 z ae))
 |leave f=>exact(bu (λz=>Z1 z ae) (λz=>Z1 z ae) (λ_=>(gp _ _ f U)))
theorem Wk.ev1(w:Wk π m k0 ps A l B):∃tl,B.ev=A.ev++.works m k0::tl:=by
 induction w with
 |add=>exact⟨_,rfl⟩
 |fault _|leave _=>exact⟨_,au ..⟩
theorem Wk.det(nd:∀w,(π.kd w).Nodup)(w:Wk π m k0 ps A l B)(w':Wk π m k0 ps A l B'):B=B':=by
 induction w with
 |add=>exact ao (w'.inv.1 rfl) λi ei e=>by cases ei;exact e.symm
 |fault f=>exact di (w'.inv.2.1 rfl) λes k' f' e=>by exact YP e (YP ((f.det nd f').1) (YP ((f.det nd f').2) U))
 |leave f=>exact di (w'.inv.2.2 rfl) λes k' f' e=>by exact YP e (YP ((f.det nd f').1) (YP ((f.det nd f').2) U))
theorem De.inv(w:De π ns A d B):((kW (d.tpl.getD [])==['s','e','n','d'])=Z5->B=aS (aq d) (thr d) A)/\((kW (d.tpl.getD [])==['w','o','r','k'])=Z5->∃k0 l ps A2,A.q (aq d)=(k0,l)::ps/\Wk π (aq d) k0 ps A l A2/\B=aL ns A2)/\((kW (d.tpl.getD [])==['f','a','i','l'])=Z5->∃es k',Fe π (A.t+1) (cF π (aq d)) A.h A.k (.fail (aq d)) es k'/\B=aL ns (aF es k' (aT A))):=by
 induction w with
 |send=>exact(bu (λ_=>rfl) (λz=>Z1 z ae) (λz=>Z1 z ae))
 |work a b=>exact(bu (λz=>Z1 z ae) (λ_=>⟨_,_,_,_,a,b,rfl⟩) (λz=>Z1 z ae))
 |fail f=>exact(bu (λz=>Z1 z ae) (λz=>Z1 z ae) (λ_=>(gp _ _ f U)))
theorem De.det(nd:∀w,(π.kd w).Nodup)(w:De π ns A d B)(w':De π ns A d B'):B=B':=by
 induction w with
 |send=>exact(w'.inv.1 rfl).symm
 |@work m k0 l ps A2 eq wk=>
  refine(w'.inv.2.1 rfl).elim λk1 q=>jF q λl1 ps1 A3 eq1 wk1 e=>?_;haveI z:=iG (eq.symm.trans eq1);haveI y:=Ku z.1;haveI wk1:Wk π m k0 ps A l A3:=by simp only [y.1,y.2,z.2];exact wk1
  simp only [e,wk.det nd wk1]
 |fail f=>exact di (w'.inv.2.2 rfl) λes k' f' e=>by simp only [e,(f.det nd f').1,(f.det nd f').2]
theorem Dd.inv(h:Dd π σ d):(sdV d=Z5->π.isW (aq d)=Z J/\LV (thr d))/\(Lr d=Z5->π.isW (aq d)=Z J)/\((kW (d.tpl.getD [])==['f','a','i','l'])=Z5->aq d∈σ.names):=by
 induction h with
 |send a b=>exact(bu (λ_=>⟨a,b⟩) (λz=>Z1 z ae) (λz=>Z1 z ae))
 |work a=>exact(bu (λz=>Z1 z ae) (λ_=>a) (λz=>Z1 z ae))
 |fail a=>exact(bu (λz=>Z1 z ae) (λz=>Z1 z ae) (λ_=>a))
theorem De.row(w:De π ns A d B)(dd:Dd π σ d):∃(e:Evt) (tl:List Evt),B.ev=A.ev++e::tl/\Dw d e.v:=by
 induction w with
 |@send m l=>exact(gp (.sent m _ l) [] U (.send (dd.inv.1 rfl).2))
 |work eq wk=>exact wk.ev1.elim λtl e=>(gp _ _ ((Z4 (·++_) e).trans (au ..)) .work)
 |fail f=>exact f.hd.elim λtl e=>(gp _ (tl++_) (by refine YP e ?_;exact au ..) .fail)
noncomputable def dwF(x:V):V:=if kW (x.tpl.getD [])==['s','e','n','t']then .tup [.str ['s','e','n','d'],(x.tpl.getD []).getD 1 .none,(x.tpl.getD []).getD 3 .none]else if kW (x.tpl.getD [])==['w','o','r','k','s']then .tup [.str ['w','o','r','k'],(x.tpl.getD []).getD 1 .none]else .tup [.str ['f','a','i','l'],(x.tpl.getD []).getD 1 .none]
theorem Dw.of{d x:V}(h:Dw d x):d=dwF x:=by cases h<;>rfl
theorem Dw.det{d d' x:V}(h:Dw d x)(k:Dw d' x):d=d':=h.of.trans k.of.symm
noncomputable def LW(v:V):Bool:=kW (v.tpl.getD [])==['s','e','n','t']
noncomputable def Evt.num:Evt->Option Nat
 |.sent _ k _|.works _ k|.lost _ k=>Z k
 |.beg _|.end_ _|.fail _|.leave _=>Z6
noncomputable def mq(l:List V):Nat:=(l.filter LW).length
section
variable {es:List Evt}{A B:Ab}
theorem jG{a b:List V}:mq (a++b)=mq a+mq b:=by unfold mq;simp only [fH,af]
theorem NQ{l:List V}(h:∀x∈l,LW x=J):mq l=0:=by unfold mq;exact YP (og.mpr λa ha=>cr.mp (h a ha)) U
theorem GU{l:List Nm}:∀x∈eE h l,x.num=Z6:=λx hx=>ao (cL hx) λ_ _ y=>y▸rfl
theorem Fo{l:List Nm}:∀{h:Nm->Bool},∀x∈fj π h l,x.num=Z6:=by
 induction l with
 |nil=>exact λx hx=>Z1 hx ba
 |cons m ms ih=>exact λx hx=>(jZ hx).elim (GU x) (ih x)
theorem Fe.nS(f:Fe π t c h k e es k1):e.num=Z6->∀x∈es,x.num=Z6:=by
 have p:∀{h:Nm->Bool} {e:Evt},e.num=Z6->∀x∈pre π h e,x.num=Z6:=λhe=>eD he GU
 induction f with
 |stop _ ee _=>exact λhe=>ee▸p he
 |here _ _ ee=>exact λhe=>ee▸bR (p he) (bR Fo λx hx=>ao (cL hx) λ_ _ y=>y▸rfl)
 |go _ _ ee _ _ ih=>exact λhe=>ee▸bR (p he) (ih U)
theorem OQ(h:∀x∈es,x.num=Z6):∀x∈es.map Evt.v,LW x=J:=λx hx=>ao (cL hx) λe he z=>by
 have y:=h e he;clear hx;subst z;clear he;induction e with
 |sent _ _ _=>exact eU y.symm
 |_=>rfl
theorem AC{q:Nm->List (Nat×V)}{x:Evt}(hx:x∈qX h q ns):∃n p,p∈q n/\x=.lost n p.1:=ao (kT hx) λn _ y=>by
 by_cases hh:h n=Z5
 ·rw [Z3 hh]at y;exact Z1 y ba
 ·rw [Z2 hh]at y;exact ao (cL y) λp hp w=>(gp n p hp w.symm)
theorem L0{q:Nm->List (Nat×V)}:∀x∈(qX h q ns).map Evt.v,LW x=J:=λx hx=>ao (cL hx) λe he z=>di (AC he) λ_ _ _ w=>by clear hx;subst z;refine YP w ?_;rfl
structure Kn(A:Ab):Prop where
 q:∀n,∀p∈A.q n,p.1<=A.lt
 e:∀x∈A.ev,∀k,x.num=Z k->k<=A.lt
 c:mq (A.ev.map Evt.v)=A.lt
theorem CG(h:mq (A.ev.map Evt.v)=A.lt)(k:∀x∈es.map Evt.v,LW x=J):mq ((A.ev++es).map Evt.v)=A.lt:=by simp only [aN,jG,h,NQ k];rfl
theorem Kn.lost(g:Kn A):Kn (aL ns A):=⟨λn p hp=>by
  replace hp:p∈(if A.h n=Z5 then A.q n else []):=hp;by_cases hh:A.h n=Z5
  ·rw [Z3 hh]at hp;exact g.q n p hp
  ·rw [Z2 hh]at hp;exact Z1 hp ba,bR g.e λx hx k hk=>di (AC hx) λn p hp w=>by clear hx;subst w;(replace hk:=ai hk;subst hk);exact g.q n p hp,CG g.c L0⟩
theorem Kn.ap{k':Nm->List Int}(g:Kn A)(h:∀x∈es,x.num=Z6):Kn (aF es k' A):=⟨g.q,bR g.e λx hx k hk=>eU ((h x hx).symm.trans hk),CG g.c (OQ h)⟩
theorem Kn.up{A B:Ab}{m:Nm}{ps:List (Nat×V)}(q:∀n,∀p∈A.q n,p.1<=B.lt)(h:∀p∈ps,p.1<=B.lt)(e:B.q=kH A.q m ps):∀n,∀p∈B.q n,p.1<=B.lt:=λn p hp=>by
 rw [e]at hp;replace hp:p∈(if n=m then ps else A.q n):=hp;by_cases z:n=m
 ·rw [Z3 z]at hp;exact h p hp
 ·rw [Z2 z]at hp;exact q n p hp
theorem De.kn(w:De π ns A d B)(g:Kn A):Kn B:=by
 induction w with
 |send=>exact⟨Kn.up (λn p hp=>ja (g.q n p hp)) (bR (λp hp=>ja (g.q _ p hp)) (c8 (aM _))) U,bR (λx hx k hk=>ja (g.e x hx k hk)) (c8 λk hk=>by(replace hk:=ai hk;subst hk);exact aM _),by refine(?_:mq ((A.ev++_).map Evt.v)=_);simp only [aN,jG,g.c];rfl⟩
 |@work m k0 l ps A2 eq wk=>
  have g1:Kn (aW m k0 ps A):=⟨Kn.up g.q (λp hp=>g.q m p (eq▸.tail _ hp)) U,bR g.e (c8 λk hk=>by(replace hk:=ai hk;subst hk);exact g.q m (k0,l) (eq▸.head _)),CG g.c (c8 U)⟩;refine Kn.lost ?_
  induction wk with
  |add=>exact⟨g1.q,g1.e,g1.c⟩
  |fault f|leave f=>exact g1.ap (f.nS U)
 |fail f=>exact Kn.lost (Kn.ap ⟨g.q,g.e,g.c⟩ (f.nS U))
theorem kn0{l:List Nm}:Kn (aF (l.map Evt.beg) (λ_=>[]) DM):=Kn.ap (A:=DM) ⟨λ_ _ hp=>Z1 hp ba,λ_ hp=>Z1 hp ba,rfl⟩ λ_ hx=>ao (cL hx) λ_ _ y=>y▸rfl
end
noncomputable abbrev jz(B:AH)(v:V)(e:Nat):Ad:=DL B v (jv 7 v) (aq v) e
abbrev a0(v:V):Ab:=aF ((nms 7 v).map .beg) (λ_=>[]) DM
inductive Gh(π:PI)(v:V)(A:Ab):Prop
 |mk (B:AH) (e:Nat) (S:Hst) (H:AH):At π (jz B v e) S H->jY S=A->Kn A->Gh π v A
theorem Dd.of(h:Dd π σ d)(en:σ.names=σ'.names):Dd π σ' d:=by
 induction h with
 |send a b=>exact .send a b
 |work a=>exact .work a
 |fail a=>exact .fail (en▸a)
theorem OE(h:Plan π v):Gh π v (a0 v):=gC (P:=PL) (λ_ _ h=>h) (λ_ _ h=>h) (f29 (n:=0) (B:=[]) (Q:=λ_ _=>Gh π v (a0 v)) (X:=λ_ _=>Gh π v (a0 v)) h λe S H' A _ a=>⟨[],e,S,H',A,a,kn0⟩)
theorem Qo(iv:Iv π S)(h:(qS S m).isEmpty=J):π.isW m=Z J:=by unfold qS at h;refine eG (o:=fb m S.qu) (λz=>?_) λx z=>(iv.qk m).mp (fk.mpr ⟨x,cM z⟩);replace h:=z▸h;exact Z1 h.symm ae
theorem L6(h:Hs σ S H):(qS S m).length<=S.letters:=by
 unfold qS;refine eG (o:=fb m S.qu) (λz=>?_) λx z=>?_
 ·exact z▸aU _
 ·exact YP z ((h.qp _ (cM z)).2.2)
theorem Np(iv:Iv π S):∀p∈qS S m,LV p.2:=by
 unfold qS;refine eG (o:=fb m S.qu) (λz=>?_) λx z=>?_
 ·exact YP z (λp hp=>Z1 hp ba)
 ·exact z▸iv.lv _ (cM z)
theorem IN{π:PI}{σ:Ad}{S:Hst}{H:AH}{G:Prop}{d:V}(pl:Pl π σ)(A:At π σ S H)(dd:Dd π σ d)(hL:S.letters<=109)(hb:S.ev.length+8000<=900000)(q0:iP (aq σ.plan) (jY S) d=J->G)
  (qs:∀S' H',At π σ S' H'->S'.letters<=S.letters+1->S'.ev.length<=S.ev.length+8000->De π σ.names (jY S) d (jY S')->G):G:=by
 haveI hL':=aa hL (by decide:109<=110)
 induction dd with
 |send hm lv=>exact gC (P:=PL) (λ_ _ h=>h) (λ_ _ h=>h) (f40 (n:=0) (Q:=λ_ _=>G) (X:=λ_ _=>G) pl A hm lv hL hb (λz=>q0 (rU z)) (λz=>q0 (rR z)) λz y S' H' a b c e=>qs S' H' a b c (e▸.send))
 |@work m hm=>exact gC (P:=PL) (λ_ _ h=>h) (λ_ _ h=>h) (f41 (n:=0) (Q:=λ_ _=>G) (X:=λ_ _=>G) pl A hm hL' hb (λz=>q0 (rU z)) (λz=>q0 (HC z)) (λz=>q0 (rR z)) λz y w S' H' es a b c d _=>qs S' H' a b c d)
 |fail hm=>exact gC (P:=PL) (λ_ _ h=>h) (λ_ _ h=>h) (f42 (n:=0) (Q:=λ_ _=>G) (X:=λ_ _=>G) pl A hm hL' hb (λz=>q0 (rU z)) (λz=>q0 (rR z)) λz y S' H' es a b c d _=>qs S' H' a b c d)
structure Gi(π:PI)(A:Ab):Prop where
 lv:∀n,∀p∈A.q n,LV p.2
 ql:∀n,(A.q n).length<=A.lt
 ok:∀e∈A.ev,e.ok π
 qw:∀m,(A.q m).isEmpty=J->π.isW m=Z J
theorem Gh.kn(g:Gh π v A):Kn A:=g.rec λ_ _ _ _ _ _ k=>k
theorem Gh.gi(g:Gh π v A):Gi π A:=g.rec λ_ _ S _ h e _=>e▸⟨λ_=>Np h.iv,λ_=>L6 h.hs,h.iv.nm,λ_=>Qo h.iv⟩
structure Gs(π:PI)(v:V)(d:V)(A A':Ab):Prop where
 gh:Gh π v A'
 de:De π ((jv 7 v).map aq) A d A'
 lt:A'.lt<=A.lt+1
 le:A'.ev.length<=A.ev.length+8000
theorem gh1(h:Plan π v)(g:Gh π v A)(dd:Dd π (jz B0 v e) d)(hc:iP (aq v) A d=Z5)(hL:A.lt<=109)(hb:A.ev.length+8000<=900000):∃A',Gs π v d A A':=g.rec λB1 e1 S1 H1 a e kn=>by clear g;subst e;exact IN h.pl a (dd.of U) hL hb (λz=>Z1 (z.symm.trans hc) ae) λS' H' a' l' b' d'=>⟨_,⟨_,_,S',H',a',rfl,d'.kn kn⟩,d',l',b'⟩
noncomputable abbrev Qd(ns:List Nd)(nm:Nat->Nm):List Nm:=((sub ns 7 0).filter (Dq ns)).map nm
theorem JN(F:Fx σ G0 ns nm r o):(∀m∈((sub ns 7 0).filter (Dq ns)).map nm,(dF ns nm).isW m=Z J)/\(((sub ns 7 0).filter (Dq ns)).map nm).length<=60:=by
 haveI oa:=gH F;refine⟨λm hm=>ao (cL hm) λk hk e=>?_,?_⟩
 ·have hk:=oX hk;refine(⟨_,az (oa.2.2.1 k hk.1)⟩:∃x,ns[k]? =Z x).elim λx hx=>?_;have h2:=hk.2;unfold Dq at h2;rw [hx]at h2;simp only [<-e,kL F.n hx];exact Z4 Z (cH _▸h2)
 ·rw [aj];exact aa (dH _ _) oa.2.1
theorem Jx(F:Fx σ G0 ns nm r o)(hm:m∈σ.names)(iw:(dF ns nm).isW m=Z J):m∈((sub ns 7 0).filter (Dq ns)).map nm:=by rw [F.en]at hm;refine ao (cL hm) λk hk e=>cQ.mpr (aG k (kt.mpr ⟨hk,?_⟩) e);refine(⟨_,az ((gH F).2.2.1 k hk)⟩:∃x,ns[k]? =Z x).elim λx hx=>?_;rw [<-e,kL F.n hx]at iw;unfold Dq;exact YP hx (Z4 (!·) (ai iw))
theorem LY(t:Tree ns):(sub ns 7 0).filter (Dq ns)≠[]:=λe=>cu t.tr.top λx0 h0 _ _=>by
 haveI l0:=(cq h0);haveI ll:=Nat.sub_lt l0 Nat.one_pos;refine ba (e▸kt.mpr ⟨t.tr.all ll,?_⟩);refine(⟨_,az ll⟩:∃x,ns[ns.length-1]? =Z x).elim λx hx=>?_;unfold Dq;refine YP hx ?_;show(!x.w)=Z5;refine G7 (o:=x.w) (λhw=>?_) (λhw=>?_)
 ·exact YP hw U
 ·exact YP hw ((List.exists_mem_of_ne_nil _ (t.ne _ x hx hw)).elim λi hi=>dM (t.tr.inn _ x hx i hi) λy hy l _ _=>(Z1 (cq hy) (hV.mpr (Nat.le_of_pred_lt l))))
theorem D0{a:Ex}{x:V}{c f:Nat}(ha:Ev P C ρ H X a x)(k:C f [.ref (H.length+1),x] (H++[.ns [] [],.inst c H.length]) (λv H'=>v=.none/\Q (.ref (H.length+1)) H') X):cW P C (.new c f [a]) ρ H Q X:=ha _ k
theorem CE(F:Fx σ G0 ns nm r o)(w:WX G0 b ns.length nm T Y H)(sm:Sm (dF ns nm) A T)(gi:Gi (dF ns nm) A)(ha:Ev PL (aO PL (n+2)) ρ H X a (.int z))(hc:Ev PL (aO PL (n+2)) ρ H X c (.lst ((Qd ns nm).map V.str)))(hi:ρ[i]? =Z (Z (cz r ns nm o)))(hj:ρ[j]? =Z (Z (.ref (b+3))))(q:∀ds:List V,ds.length<=2->(∀v∈ds,Dd (dF ns nm) σ v)->Q (.lst ds) H):cW PL (aO PL (n+2)) (.call 39 [a,c,.call 37 [.v i,.v j],.call 38 [.v i,.v j]]) ρ H Q X:=by haveI wa:=JN F;refine lO ha hc (gb (ah hi) (ah hj) λQ q=>f35 F w q) (dm (ah hi) (ah hj) (f36 F w (sm.q▸gi.lv) (f23 (σ:=σ) wa.1 (λz=>LY F.t (qV.mp z)) (aa wa.2 (by decide)) (λm hm=>(oX hm).1) (λm hm=>?_) (λm hm=>qt F.pl hm) q)));haveI hm:=oX hm;haveI h2:=(cP hm.2).2;rw [sm.q]at h2;exact Jx F hm.1 (gi.qw m (cH _▸h2))
structure Mw(G0:List (Nat×O))(b:Nat)(ns:List Nd)(nm:Nat->Nm)(A:Ab)(T:Ab)(H:AH):Prop where
 w:WX G0 b ns.length nm T [] H
 sm:Sm (dF ns nm) A T
 gh:Gh (dF ns nm) (bd ns nm 7 0) A
noncomputable def s42(zv hall ws:V)(b:Nat)(o4 o5:Option V):Fm:=[Z zv,Z hall,Z (.ref (b+3)),Z ws,o4,o5]
inductive PH(G0:List (Nat×O))(ns:List Nd)(nm:Nat->Nm)(b:Nat)(zv hall ws:V)(its:List Int)(ρ:Fm)(H:AH):Prop
 |mk (A T:Ab) (o4 o5:Option V):ρ=s42 zv hall ws b o4 o5->Mw G0 b ns nm A T H->A.lt+2*its.length<=100->A.ev.length+16000*its.length<=810000->PH G0 ns nm b zv hall ws its ρ H
inductive PJ(σ:Ad)(G0:List (Nat×O))(ns:List Nd)(nm:Nat->Nm)(b:Nat)(zv hall ws c:V)(m:Nat)(ds:List V)(ρ:Fm)(H:AH):Prop
 |mk (A T:Ab) (o5:Option V):ρ=s42 zv hall ws b (Z c) o5->Mw G0 b ns nm A T H->A.lt+(ds.length+2*m)<=100->A.ev.length+(8000*ds.length+16000*m)<=810000->(∀v∈ds,Dd (dF ns nm) σ v)->PJ σ G0 ns nm b zv hall ws c m ds ρ H
theorem n1(h:a+(d+1+2*r)<=100)(e:b<=a+1):b+(d+2*r)<=100/\a<=109:=⟨gQ h (gQ e (by simp+arith only)),gQ h (by simp+arith only)⟩
theorem n2(h:a+(8000*(d+1)+16000*r)<=810000)(e:b<=a+8000):b+(8000*d+16000*r)<=810000/\a+8000<=900000/\b+1100<=900000:=(bu (gQ h (gQ e (by simp+arith only))) (gQ h (by simp+arith only)) (gQ h (gQ e (by simp+arith only))))
theorem n3(h:a+2*(r+1)<=100)(e:d<=2):a+(d+2*r)<=100:=gQ h (gQ e (by simp+arith only))
theorem n4(h:a+16000*(r+1)<=810000)(e:d<=2):a+(8000*d+16000*r)<=810000:=gQ h (gQ (bH 8000 e) (by simp+arith only))
section
variable {zs:List Int}
theorem sm0:Sm π (aF es (λ_=>[]) DM) (aF es (λ_=>[]) DM):=⟨rfl,rfl,rfl,rfl,rfl,rfl,λ_ _=>rfl,λw=>by refine(?_:(es.foldl (lM w) []).length<=_);rw [pF,ite_self];exact aU _⟩
theorem Mw.did(F:Fx (jz B (bd ns nm 7 0) e) G0 ns nm r o)(M:Mw G0 b ns nm A T H)(dd:Dd (dF ns nm) (jz B (bd ns nm 7 0) e) d)(hc:iP (aq (bd ns nm 7 0)) A d=Z5)(hL:A.lt<=109)(hb:A.ev.length+8000<=900000)(hb':∀{a},a<=A.ev.length+8000->a+1100<=900000)(q:∀A' T' H',Mw G0 b ns nm A' T' H'->Gs (dF ns nm) (bd ns nm 7 0) d A A'->Q .none H'):aO PL (n+6) 36 [cz r ns nm o,.ref (b+3),d] H Q X:=
 (gh1 (F.t.plan F.n) M.gh dd hc hL hb).elim λA' g=>f34 F M.w M.sm dd g.de (λn=>aa (M.gh.gi.ql n) (aa hL (by decide))) (hb' g.le) λT' H' w' s'=>q A' T' H' ⟨w',s',g.gh⟩ g
theorem Qg(F:Fx (jz B (bd ns nm 7 0) e) G0 ns nm r o)(hw:Hz G0 H)(hz:zs.length<=63)(q:∀A T H',Mw G0 H.length ns nm A T H'->A.lt<=100->A.ev.length<=810000->Q (.ref (H.length+3)) H'):aO PL (n+8) 40 [.lst (zs.map V.int),cz r ns nm o] H Q X:=by
 haveI pn:=F.t.plan F.n;haveI en:(jz B (bd ns nm 7 0) e).names=nms 7 (bd ns nm 7 0):=gr;refine cu F.t.tr.top λx0 h0 _ _=>?_;haveI e0:aq (bd ns nm 7 0)=nm 0:=jp h0;refine cf U U (eR (gV (ah U) (f25 F hw λT0 H1 w1 e1=>⟨bV U,?_⟩)));refine eR (gV (ah U) (f24 F.t (w1.gn F.g) (Hz.at w1 (aR _ F.o)) ⟨bV U,?_⟩));haveI hz':(zs.map V.int).length<=aB:=aa (ak (aj _)) (aa hz (by decide));haveI hc:(bE zs (g9 (zs.map V.int).length 16) (zs.map V.int).length).length<=47:=by
  unfold bE g9;rw [dg,dh,aj];by_cases h:(16:Int)<zs.length
  ·rw [Z2 (by decide),Z3 h];exact aa (Nat.sub_le_sub_right (fE _ _) _) (KD hz)
  ·rw [Z2 (by decide),Z2 h,tN,oj];exact aU _
 refine fV (PH G0 ns nm H.length (.lst (zs.map V.int)) (cz r ns nm o) (.lst ((Qd ns nm).map V.str))) (fR (ah U) am am ((nD hz').trans (Z4 (λt=>Z (V.lst t,H1)) zz))) (λ_ _ _ _=>rfl) (aa hc (by decide))
  (.mk (a0 (bd ns nm 7 0)) T0 Z6 Z6 U ⟨w1,?_,OE pn⟩ ?_ ?_) (λc cs ρ' H' hI K' hK=>?_) λρ' H' hI=>?_
 ·rw [e1,en];exact sm0
 ·exact aa (ak (fw _)) (aa (bH 2 hc) (by decide))
 ·refine (?_:((nms 7 (bd ns nm 7 0)).map Evt.beg).length+_<=_);rw [aj];exact aa (bD pn.le (bH 16000 hc)) (by decide)
 ·refine PH.rec (λA T o4 o5 eρ M hl hv=>?_) hI;subst eρ;refine sK (CE F M.w M.sm M.gh.gi (ah U) (ah U) U U λds hd dd=>?_);refine tf (tgt:=.inl 5) (λ_ _=>rfl) (PJ (jz B (bd ns nm 7 0) e) G0 ns nm H.length (.lst (zs.map V.int)) (cz r ns nm o) (.lst ((Qd ns nm).map V.str)) (.int c) cs.length) (λ_ _ _ _=>Z4 Z (oh ds).symm) (aa hd (by decide)) (.mk A T o5 U M (n3 hl hd) (n4 hv hd) dd) (λv vs ρ' H' hJ K' hK=>?_) λρ' H' hJ=>?_
  ·refine PJ.rec (λA T o5 eρ M l2 v2 d2=>?_) hJ;subst eρ;haveI dd:=d2 v (.head _);have d3:=λv hv=>d2 v (.tail _ hv);refine bS (io (ah U) (ah U) (ah U) λQ q=>f33 F M.w dd (M.sm.q▸M.gh.gi.lv) q) (λhc=>?_) λ_=>fA (hK _ _ (.mk A T _ U M (n1 l2 (bh _)).1 (n2 v2 (ax _ _)).1 d3));exact d8 (kj (ah U) (ah U) (ah U) (M.did F dd (by rw [e0,<-vV M.sm];exact hc) (n1 l2 (aM _)).2 (n2 v2 (aM _)).2.1 (λha=>(n2 v2 ha).2.2) λA' T' H' M' g=>fA (hK _ _ (.mk A' T' _ U M' (n1 l2 g.lt).1 (n2 v2 g.le).1 d3))))
  ·exact PJ.rec (λA T o5 eρ M l2 v2 _=>hK _ _ (.mk A T _ o5 eρ M (fw (2*cs.length)▸l2) (fw (16000*cs.length)▸v2))) hJ
 ·exact PH.rec (λA T o4 o5 eρ M hl hv=>eρ▸bg (ah U) (q A T H' M hl hv)) hI
end
def DT(v:V):Prop:=v.data=Z5/\v.depth<=45
theorem sC{v:V}{H:AH}(h:DT v):rd H v=Z v:=by have:(v.data&&decide (v.depth<=50))=Z5:=YP (h.1) (YP (decide_eq_true (aa h.2 (by decide))) U);cases v<;>first|exact Z1 h.1 ae|exact Z3 (e:=Z6) this
theorem vj{vs:List V}{v:V}(hv:v∈vs)(h:V.datas vs=Z5):v.data=Z5/\v.depth<=V.depths vs:=by
 induction hv with
 |@head vs=>exact⟨(cP h).1,Nat.le_max_left ..⟩
 |@tail w vs _ ih=>exact haveI z:=ih (cP h).2;⟨z.1,aa z.2 (Nat.le_max_right ..)⟩
theorem DT.mem{vs:List V}{v:V}(h:DT (.tup vs))(hv:v∈vs):DT v:=
 haveI z:=vj hv h.1
 ⟨z.1,aa z.2 (tP h.2)⟩
theorem ER{vs:List V}{d:Nat}(h:∀v∈vs,v.data=Z5/\v.depth<=d):V.datas vs=Z5/\V.depths vs<=d:=by
 induction vs with
 |nil=>exact⟨rfl,aU _⟩
 |cons w vs ih=>haveI z:=ih λv hv=>h v (.tail _ hv);exact⟨cn.mpr ⟨(h w (.head _)).1,z.1⟩,ii.mpr ⟨(h w (.head _)).2,z.2⟩⟩
theorem MV{b:Bool}(h:(!b)=Z5):b=J:=by induction b with|false=>rfl|true=>exact Z1 h ae
theorem qN{b:Bool}(h:(!b)=J):b=Z5:=by induction b with|true=>rfl|false=>exact Z1 h.symm ae
theorem mV{v:V}{s:Nm}(h:v.txt=Z s):v=.str s:=by cases v<;>first|exact eU h.symm|exact eU h|exact Z4 V.str (ai h)
theorem qP{v:V}{s:List V}(h:v.tpl=Z s):v=.tup s:=by cases v<;>first|exact eU h.symm|exact eU h|exact Z4 V.tup (ai h)
theorem oA{v:V}{i:Int}(h:v.num=Z i):v=.int i:=by cases v<;>first|exact eU h.symm|exact eU h|exact Z4 V.int (ai h)
theorem qd(h:v.data=Z5)(he:Ev P C ρ H X e v):Ev P C ρ H X (.p J (.s .str) [e]) (.bool v.txt.isSome):=bK he (by cases v<;>first|exact Z1 h ae|rfl)
theorem s9(h:v.data=Z5)(he:Ev P C ρ H X e v):Ev P C ρ H X (.p J (.s .tuple) [e]) (.bool v.tpl.isSome):=bK he (by cases v<;>first|exact Z1 h ae|rfl)
theorem wu{b:Ex}{t:Bool}(h:v.data=Z5)(he:Ev P C ρ H X e v)(hb:v.num.isSome=Z5->Ev P C ρ H X b (.bool t)):Ev P C ρ H X (.and (.p J (.s .int) [e]) (.and (.p J .not [.p J (.s .bool) [e]]) b)) (.bool (v.num.isSome&&t)):=by
 cases v with
 |int i=>exact cg (bK he U) λ_=>cg (bZ (s:=J) (bK he U)) λ_=>hb U
 |bool i=>exact cg (s:=Z5) (bK he U) λ_=>cg (s:=J) (t:=J) (bZ (s:=Z5) (bK he U)) nofun
 |_=>first|exact Z1 h ae|exact cg (s:=J) (t:=J) (bK he U) nofun
def Rx(v:V):Prop:=DT v\/v=.dct [] []
noncomputable def xJ(u v:V):Bool:=@decide (u=v) (Classical.propDecidable _)
theorem mR{b:Bool}(h:b=Z5↔u=v):xJ u v=b:=by
 induction b with
 |true=>exact @decide_eq_true _ (Classical.propDecidable _) (h.mp U)
 |false=>exact @decide_eq_false _ (Classical.propDecidable _) λe=>Z1 (h.mpr e) ae
theorem yi:xJ u u=Z5:=mR ⟨λ_=>rfl,λ_=>rfl⟩
theorem Dy(h:u≠v):xJ u v=J:=mR ⟨λe=>Z1 e ae,λe=>Z1 e h⟩
theorem AA(h:xJ u v=Z5):u=v:=@of_decide_eq_true _ (Classical.propDecidable _) h
theorem gf{vs:List V}(h:V.datas vs=Z5):∀x∈vs,x.data=Z5:=by
 induction vs with
 |nil=>exact λ_ h=>Z1 h ba
 |cons v vs ih=>exact λx hx=>haveI h:=cP h;eV hx (λe=>e▸h.1) (ih h.2 x)
theorem O3{s:Nm}(hu:u.data=Z5)(q:Q (.bool (xJ u (.str s))) H):aO PL (n+1) 10 [u,.str s] H Q X:=by
 have q:∀{b:Bool},(b=Z5↔u=.str s)->Q (.bool b) H:=λh=>mR h▸q;refine eG (o:=u.txt) (λe=>?_) λt e=>?_
 ·exact cf U U (cj (av U) (bT (av U) (bg (cg (t:=J) (cc (qd hu (av U)) (YP e U)) λe=>Z1 e ae) (q ⟨λe=>Z1 e ae,λz=>eU (e.symm.trans (Z4 V.txt z:_=Z s))⟩))))
 ·cases mV e;exact cf U U (cj (av U) (bT (av U) (bg (av U) (q ⟨λe=>Z4 V.str (YQ e),λe=>beq_iff_eq.mpr (ai (Z4 V.txt e))⟩))))
theorem OY{i:Int}(hu:u.data=Z5)(q:Q (.bool (xJ u (.int i))) H):aO PL (n+1) 10 [u,.int i] H Q X:=by
 have q:∀{b:Bool},(b=Z5↔u=.int i)->Q (.bool b) H:=λh=>mR h▸q;refine eG (o:=u.num) (λe=>?_) λj e=>?_
 ·refine cf U U (cj (av U) (cj (av U) (bg (wu (t:=J) hu (ah U) λz=>?_) ?_)))
  ·rw [e]at z;exact Z1 z ae
  ·exact e▸q ⟨λe=>Z1 e ae,λz=>eU (e.symm.trans (Z4 V.num z))⟩
 ·cases oA e;exact cf U U (cj (av U) (cj (av U) (bg (av U) (q ⟨λe=>Z4 V.int (YQ e),λe=>beq_iff_eq.mpr (ai (Z4 V.num e))⟩))))
theorem PO{d:Nat}:∀{u v:V},SV d v->u.data=Z5->∀{n Q X},Q (.bool (xJ u v)) H->aO PL (n+(d+1)) 10 [u,v] H Q X:=by
 induction d with
 |zero=>exact λ{u v} h hu {n Q X} q=>h.elim (λh=>h.elim λs e=>by subst e;exact O3 hu q) λh=>h.elim λi e=>by subst e;exact OY hu q
 |succ d ih=>
  intro u v h hu n Q X q;refine h.elim (λh=>(bJ n 1 (d+1)▸ih h hu q:aO PL (n+(d+1)+1) 10 [u,v] H Q X)) λh=>cu h λvs e hl hv=>?_;subst e;have q:∀{b:Bool},(b=Z5↔u=.tup vs)->Q (.bool b) H:=λh=>mR h▸q;refine eG (o:=u.tpl) (λe=>?_) λus e=>?_
  ·exact (cf U U (bT (av U) (bT (dB (t:=Z5) (cc (bZ (s9 hu (av U))) (YP e U)) λe=>Z1 e ca) (bg (av U) (q ⟨λe=>Z1 e ae,λz=>eU (e.symm.trans (Z4 V.tpl z))⟩)))):aO PL (n+(d+1)+1) 10 [u,.tup vs] H Q X)
  ·cases qP e;by_cases hn:us.length=vs.length
   ·refine (cf U U (bT (av U) (cj (dB (s:=J) (av U) λ_=>ay (bK (ah U) kB) (bK (ah U) kB) ((lJ d0 d0).trans (YP hn (YP (gT (.int _) U) U)))) (bg (bK (oB (g:=λk=>.bool (xJ (us.getD k .none) (vs.getD k .none))) (bK (bK (av U) kB) (gc (zN (aa hl (by decide))))) (Z4 Z p5) (aZ▸aa hl (by decide)) λk hk=>?_) ?_) (q ⟨AA,λe=>e▸yi⟩)))):aO PL (n+(d+1)+1) 10 [.tup us,.tup vs] H Q X)
    ·haveI hk:=jK hk;refine(⟨_,az hk⟩:∃x,vs[k]? =Z x).elim λx hx=>(⟨_,az (hn▸hk)⟩:∃y,us[k]? =Z y).elim λy hy=>?_;simp only [cV,cV,hx,hy];exact gb (ay (ah U) (ah U) (g8 hy)) (ay (ah U) (ah U) (g8 hx)) λQ q=>ih (hv x (aI hx)) (gf hu y (aI hy)) q
    ·refine YP (show((aX vs.length).map λk=>V.bool (xJ (us.getD k .none) (vs.getD k .none)))=((aX vs.length).map λk=>xJ (us.getD k .none) (vs.getD k .none)).map V.bool from bO.symm) (YP wv (Z4 (λt=>Z (V.bool t,H)) (mR ?_).symm));refine⟨λh=>Z4 V.tup (QY hn λk h1 h2=>?_),λe=>?_⟩
     ·haveI z:=AA (bw.mp h _ (cQ.mpr (aG k (dY.mpr h2) U)));simp only [cV,cV,az h1,az h2]at z;exact z
     ·cases e;exact bw.mpr λb hb=>ao (cL hb) λ_ _ e=>e.symm.trans yi
   ·refine cf U U (bT (av U) (bT (dB (s:=J) (av U) λ_=>ay (bK (ah U) kB) (bK (ah U) kB) ((lJ d0 d0).trans ?_)) (bg (av U) ?_)))
    ·exact YP (show fZ (.int us.length) (.int vs.length)=J from beq_eq_false_iff_ne.mpr λe=>hn (dX e)) U
    ·exact q ⟨λe=>Z1 e ae,λe=>Z1 (Z4 (λv=>(V.tpl v).map dQ) e) λz=>hn (ai z)⟩
noncomputable def DK(p:Prop):Bool:=@decide p (Classical.propDecidable _)
noncomputable def wB(v:V):Bool:=v.num.isSome
theorem sJ{p:Prop}{b:Bool}(h:b=Z5↔p):DK p=b:=by
 induction b with
 |true=>exact @decide_eq_true _ (Classical.propDecidable _) (h.mp U)
 |false=>exact @decide_eq_false _ (Classical.propDecidable _) λe=>Z1 (h.mpr e) ae
theorem K2{p:Prop}(h:¬p):DK p=J:=sJ ⟨λe=>Z1 e ae,λe=>Z1 e h⟩
theorem Hf{p:Prop}(h:p):DK p=Z5:=sJ ⟨λ_=>h,λ_=>rfl⟩
theorem C3{p:Prop}(h:DK p=Z5):p:=@of_decide_eq_true _ (Classical.propDecidable _) h
theorem Lo{a b:Nat}:fZ (.int (a:Int)) (.int (b:Int))=(a==b):=cD.mpr ⟨λh=>beq_iff_eq.mpr (dX (YQ h)),λh=>beq_iff_eq.mpr (Z4 Int.ofNat (YQ h))⟩
theorem nu{α:Type}{o:Option α}(h:o.isSome=Z5):∃a,o=Z a:=by
 induction o with
 |none=>exact Z1 h ae
 |some a=>exact⟨a,rfl⟩
theorem xo(hu:u.data=Z5)(q:Q (.bool (wB u)) H):aO PL (n+1) 17 [u] H Q X:=by
 cases u with
 |none|bool _|int _|str _|tup _|lst _=>exact cf U U (bg (av U) q)
 |_=>exact Z1 hu ae
theorem Dz(hi:ρ[i]? =Z (Z (.tup (a::t)))):Ev P C ρ H X (.p J .i [.v i,.c (.int 0)]) a:=ay (ah hi) am (g8 (j:=0) U)
theorem zf(hi:ρ[i]? =Z (Z (.tup (.str s::t)))):Ev P C ρ H X (.p J (.cop .eq) [.p J .i [.v i,.c (.int 0)],.c (.str w)]) (.bool (s==w)):=ay (Dz hi) am (gq ik ik)
theorem s0(hi:ρ[i]? =Z (Z (.tup t)))(k:Nat):Ev P C ρ H X (.p J (.cop .eq) [.p J .len [.v i],.c (ni k)]) (.bool (t.length==k)):=cc (ay (bK (ah hi) kB) am (gq d0 d0)) (Z4 V.bool Lo)
theorem NR{k:Nat}(hi:ρ[i]? =Z (Z (.tup t)))(h:k<=t.length):Ev P C ρ H X (.p J (.cop .lt) [.p J .len [.v i],.c (ni k)]) (.bool J):=cc (ay (bK (ah hi) kB) am nH) (Z4 V.bool (decide_eq_false (cU.mpr (b7.mpr h))))
noncomputable def Qz(u:V):Bool:=u.tpl.any λvs=>vs.head?.any λv=>v.txt.isSome
theorem Jl(h:Qz u=Z5):∃s t,u=.tup (.str s::t):=by
 cases u with
 |tup vs=>
  induction vs with
  |nil=>exact Z1 h ae
  |cons v t=>exact(nu h).elim λs e=>⟨s,t,mV e▸rfl⟩
 |_=>exact Z1 h ae
theorem Pz(hu:u.data=Z5):Ev P C [Z u] H X (.or (.p J .not [.p J (.s .tuple) [.v 0]]) (.or (.p J (.cop .lt) [.p J .len [.v 0],.c (.int 1)]) (.p J .not [.p J (.s .str) [.p J .i [.v 0,.c (.int 0)]]]))) (.bool !Qz u):=by
 refine eG (o:=u.tpl) (λe=>?_) λvs e=>?_
 ·refine cc (dB (s:=Z5) (t:=Z5) (cc (bZ (s9 hu (ah U))) (by exact YP e U)) λe=>Z1 e (ca:¬true=J)) ?_;unfold Qz;exact YP e U
 ·cases qP e;clear e;induction vs with
  |nil=>exact av U
  |cons v t=>exact dB (s:=J) (av U) λ_=>dB (s:=J) (NR U (aA (aU _))) λ_=>bZ (qd (cP hu).1 (Dz U))
theorem Nt(h:LV u):(kW (u.tpl.getD [])==['a','d','d'])=Z5->(((u.tpl.getD []).getD 1 .none).num.any λi=>decide (-1000000000<=i)&&decide (i<=1000000000))=Z5:=by
 induction h with
 |add h=>exact λ_=>cn.mpr ⟨decide_eq_true h.1,decide_eq_true h.2⟩
 |fault|leave=>exact λz=>Z1 z ae
theorem OF{b:V}{K:KS}{ss:List St}(hb:b.data=Z5)(q:∀{t:Bool},(t=Z5↔LV (.tup [.str ['a','d','d'],b]))->Q (.bool t) H):bk PL (aO PL (n+1)) (.ret (.and (.call 17 [.p J .i [.v 0,.c (.int 1)]]) (.cmp2 (.p J .neg [.p J (.bop .pow) [.c (.int 10),.c (.int 9)]]) .le (.p J .i [.v 0,.c (.int 1)]) .le (.p J (.bop .pow) [.c (.int 10),.c (.int 9)])))::ss) [Z (.tup [.str ['a','d','d'],b])] H K Q X:=by
 refine eG (o:=b.num) (λe=>?_) λi e=>?_
 ·exact bg (cg (s:=J) (t:=J) (cJ (ay (ah U) am (g8 (j:=1) U)) λQ q=>xo hb (by exact(show wB b=J from Z4 c5 e)▸q)) λe=>Z1 e ae) (q ⟨λe=>Z1 e ae,λh=>(Z4 (Option.any _) e).symm.trans (Nt h U)⟩)
 ·cases oA e;exact bg (cg (s:=Z5) (cJ (ay (ah U) am (g8 (j:=1) U)) λQ q=>xo U q) λ_=>rS (i:=-1000000000) (k:=1000000000) (bK (ay am am yV) pT) (av U) (ay am am yV)) (q (t:=decide (-1000000000<=i)&&decide (i<=1000000000)) ⟨λh=>.add ⟨of_decide_eq_true (cP h).1,of_decide_eq_true (cP h).2⟩,λh=>Nt h U⟩)
theorem Ic(h:LV u):∃s t,u=.tup (.str s::t)/\((s==['a','d','d']&&t.length+1==2)=J->((s==['f','a','u','l','t']||s==['l','e','a','v','e'])&&t.length+1==1)=Z5):=by
 induction h with
 |add _=>exact(gp _ _ U (λz=>Z1 z (ca:¬true=J)))
 |fault|leave=>exact(gp _ _ U (λ_=>rfl))
theorem NE(hu:u.data=Z5)(q:Q (.bool (DK (LV u))) H):aO PL (n+2) 42 [u] H Q X:=by
 have q:∀{b:Bool},(b=Z5↔LV u)->Q (.bool b) H:=λh=>sJ h▸q;refine cf U U (bS (Pz hu) (λz=>bg (av U) (q ⟨λe=>Z1 e ae,λl=>di (Ic l) λ_ _ e _=>by subst e;exact Z1 z ae⟩)) λz=>j4 (Jl (qN z)) λs t e=>?_);subst e;refine bS (cg (zf U) λ_=>s0 U 2) (λz=>?_) λz=>bg (cg (dB (zf U) λ_=>zf U) λ_=>s0 U 1) (q ⟨λh=>?_,λh=>di (Ic h) λs' t' e k=>by cases e;exact k z⟩)
 ·haveI z:=cP z;cases YQ z.1;refine(jg.mp (b8 (YQ z.2))).elim λw ew=>?_;clear z;subst ew;exact OF (gf hu w (.tail _ (.head _))) q
 ·haveI h:=cP h;cases iY.mp (b8 (YQ h.2));exact(iA.mp h.1).elim (λh=>YQ h▸.fault) λh=>YQ h▸.leave
section
variable {e:Evt}
theorem sM(h:p2 us []=Z5):us=[]:=by
 induction us with
 |nil=>rfl
 |cons _ _=>exact Z1 h ae
theorem lY{G:Prop}(h:p2 us (v::vs)=Z5)(k:∀u ut,us=u::ut->fZ u v=Z5->p2 ut vs=Z5->G):G:=by
 induction us with
 |nil=>exact Z1 h ae
 |cons u ut=>exact k u ut U (cP h).1 (cP h).2
theorem oN{s:Nm}(h:fZ u (.str s)=Z5):u=.str s:=by
 cases u with
 |str t=>exact Z4 V.str (YQ h)
 |_=>exact Z1 h ae
theorem Hw{i:Int}(h:fZ u (.int i)=Z5)(w:wB u=Z5):u=.int i:=by
 cases u with
 |int t=>exact Z4 V.int (YQ h)
 |_=>exact Z1 w ae
theorem Hb(h:fZ u (.tup vs)=Z5):∃us,u=.tup us/\p2 us vs=Z5:=by
 cases u with
 |tup us=>exact(aG us U h)
 |_=>exact Z1 h ae
theorem MP(h:LV u):(∃i,u=.tup [.str ['a','d','d'],.int i])\/u=.tup [.str ['f','a','u','l','t']]\/u=.tup [.str ['l','e','a','v','e']]:=by
 induction h with
 |@add i _=>exact .inl ⟨i,rfl⟩
 |fault=>exact .inr (.inl U)
 |leave=>exact .inr (.inr U)
theorem PX(hv:LV v)(hu:LV u)(h:fZ u v=Z5):u=v:=by rcases MP hu with ⟨i,e⟩|e|e<;>rcases MP hv with ⟨j,e'⟩|e'|e'<;>subst e<;>subst e'<;>first|rfl|exact Z1 h ae|exact Z4 (λi=>V.tup [.str ['a','d','d'],.int i]) (YQ (cP h).1)
theorem wb:∃ws,e.v=.tup ws:=by cases e<;>exact⟨_,rfl⟩
theorem D9(h:LV v):v.data=Z5:=by cases h<;>rfl
theorem DY(h:e.ok π):e.v.data=Z5:=by
 induction e with
 |sent _ _ l=>refine(?_:(V.data l&&Z5)=Z5);exact YP (D9 h.2) U
 |_=>rfl
theorem Lc(h:e.ok π):∃s m t,e.v=.tup (.str s::.str m::t)/\(t=[]\/(∃k,t=[.int k])\/∃k l,t=[.int k,l]/\LV l):=by
 induction e with
 |beg _|end_ _|fail _|leave _=>exact(ly _ _ _ U (.inl U))
 |works _ _|lost _ _=>exact(ly _ _ _ U (.inr (.inl ⟨_,rfl⟩)))
 |sent _ _ l=>exact(ly _ _ _ U (.inr (.inr (gp _ _ U h.2))))
theorem vY{P:Prog}{C:Calls}{ρ:Fm}{a:Ex}(h:Rx u)(ha:Ev P C ρ H X a u):Ev P C ρ H X (.p J (.s .tuple) [a]) (.bool u.tpl.isSome):=h.elim (λh=>s9 h.1 ha) λh=>by subst h;exact bK ha U
theorem ue(h:Rx u)(k:u.tpl.isSome=Z5):DT u:=h.elim id λh=>by subst h;exact Z1 k ae
theorem Qt(hw:w.data=Z5)(hk:fZ w (.int k)=Z5)(q:∀{b:Bool},(b=Z5↔V.tup [.str s,.str m,w]=.tup [.str s,.str m,.int k])->Q (.bool b) H):bk PL (aO PL (n+2)) (FO.body.drop 1) [Z (.tup [.str s,.str m,w]),x] H K Q X:=
 cj (av U) (bg (dB (s:=J) (t:=wB w) (av U) λ_=>cJ (av U) λQ q=>xo hw q) (q ⟨λz=>by exact YP (Hw hk z) U,λz=>by cases z;rfl⟩))
theorem Ph{l':V}(hw:w.data=Z5)(hl:l'.data=Z5)(lv:LV l)(hk:fZ w (.int k)=Z5)(h2:fZ l' l=Z5)(q:∀{b:Bool},(b=Z5↔V.tup [.str s,.str m,w,l']=.tup [.str s,.str m,.int k,l])->Q (.bool b) H):bk PL (aO PL (n+2)) (FO.body.drop 1) [Z (.tup [.str s,.str m,w,l']),x] H K Q X:=by
 refine bS (cg (s:=Z5) (t:=!DK (LV l')) (av U) λ_=>bZ (cJ (ay (av U) am (g8 (j:=3) U)) λQ q=>NE hl q)) (λy=>bg (av U) (q ⟨λe=>Z1 e ae,λz=>?_⟩)) λy=>bg (dB (s:=J) (t:=wB w) (av U) λ_=>cJ (av U) λQ q=>xo hw q) (q ⟨λz=>?_,λz=>by cases z;rfl⟩)
 ·cases z;rw [Hf lv]at y;exact Z1 y ae
 ·exact YP (Hw hk z) (YP (PX lv (C3 (qN y)) h2) U)
theorem NX{t:List V}(h:fZ u (.tup (.str s::.str m::t))=Z5):∃t',u=.tup (.str s::.str m::t')/\p2 t' t=Z5:=
 ao (Hb h) λus eu h=>lY h λa t1 e1 h1 h2=>lY h2 λb t2 e2 h3 h4=>(aG t2 (by exact YP eu (YP e1 (YP e2 (YP (oN h1) (YP (oN h3) U))))) h4)
theorem OO{t t':List V}(ht:t=[]\/(∃k,t=[.int k])\/∃k l,t=[.int k,l]/\LV l)(h:p2 t' t=Z5)(du:V.data (.tup (.str s::.str m::t'))=Z5)(q:∀{b:Bool},(b=Z5↔V.tup (.str s::.str m::t')=.tup (.str s::.str m::t))->Q (.bool b) H):bk PL (aO PL (n+2)) (FO.body.drop 1) [Z (.tup (.str s::.str m::t')),x] H K Q X:=by
 rcases ht with z|⟨k,z⟩|⟨k,l,z,lv⟩
 ·subst z;cases sM h;exact cj (av U) (bg (av U) (q ⟨λ_=>rfl,λ_=>rfl⟩))
 ·subst z;refine lY h λw t3 e3 h5 h6=>?_;cases sM h6;subst e3;exact Qt (gf du w (.tail _ (.tail _ (.head _)))) h5 q
 ·subst z;refine lY h λw t3 e3 h5 h6=>lY h6 λl' t4 e4 h7 h8=>?_;cases sM h8;clear h6;subst e4;clear h;subst e3;exact Ph (gf du w (.tail _ (.tail _ (.head _)))) (gf du l' (.tail _ (.tail _ (.tail _ (.head _))))) lv h5 h7 q
theorem MM(h:e.ok π):DT e.v:=⟨DY h,aa (Dp h).2 (by decide)⟩
theorem Er(hu:Rx u)(he:e.ok π)(q:Q (.bool (xJ u e.v)) H):aO PL (n+3) 47 [u,e.v] H Q X:=by
 have q:∀{b:Bool},(b=Z5↔u=e.v)->Q (.bool b) H:=λh=>mR h▸q;haveI hd:=MM he;refine cf U U (bS (dB (bZ (vY hu (ah U))) λz=>ay (ah U) (ah U) (lJ (sC (ue hu (qN z))) (sC hd))) (λz=>bg (av U) (q ⟨λe=>Z1 e ae,λeu=>?_⟩)) λz=>?_)
 ·clear q hu;subst eu;rw [gT _ hd.1,show e.v.tpl.isSome=Z5 from(wb (e:=e)).elim λws h=>Z4 (λv=>(V.tpl v).isSome) (h:e.v=.tup ws)]at z;exact Z1 z ae
 haveI z:=jW.mp z;refine(Lc he).elim λs h=>di h λm t ev ht=>?_;refine ao (NX (s:=s) (m:=m) (t:=t) (ev▸qN z.2)) λt' eu h4=>?_;haveI du:=(ue hu (qN z.1)).1;rw [ev]at q ⊢;clear z he hu;clear z;subst eu;exact OO ht h4 du q
end
noncomputable def JH(u:V):Bool:=u.tpl.any λvs=>vs[0]?.any (·.txt.isSome)&&vs[1]?.any (·.txt.isSome)
theorem Dw.hd(h:Dw d u):JH u=Z5:=by cases h<;>rfl
theorem Jo(h:JH u=Z5):∃s m t,u=.tup (.str s::.str m::t):=by
 cases u with
 |tup vs=>
  rcases vs with _|⟨a,_|⟨b,t⟩⟩
  ·exact Z1 h ae
  ·exact Z1 (cP h).2 ae
  ·exact (nu (cP h).1).elim λs e=>(nu (cP h).2).elim λm e'=>⟨s,m,t,mV e▸mV e'▸rfl⟩
 |_=>exact Z1 h ae
theorem No{a b:V}(hi:ρ[i]? =Z (Z (.tup (a::b::t)))):Ev P C ρ H X (.p J .i [.v i,.c (.int 1)]) b:=ay (ah hi) am (g8 (j:=1) U)
theorem Qa(hu:Rx u):Ev P C [Z u] H X (.or (.p J .not [.p J (.s .tuple) [.v 0]]) (.or (.p J (.cop .lt) [.p J .len [.v 0],.c (.int 2)]) (.or (.p J .not [.p J (.s .str) [.p J .i [.v 0,.c (.int 0)]]]) (.p J .not [.p J (.s .str) [.p J .i [.v 0,.c (.int 1)]]])))) (.bool !JH u):=by
 refine eG (o:=u.tpl) (λe=>?_) λvs e=>?_
 ·refine cc (dB (s:=Z5) (t:=Z5) (cc (bZ (vY hu (ah U))) (by exact YP e U)) λe=>Z1 e (ca:¬true=J)) ?_;unfold JH;exact YP e U
 ·cases qP e;haveI du:=(ue hu U).1;rcases vs with _|⟨a,_|⟨b,t⟩⟩
  ·exact av U
  ·refine cc (av (v:=.bool Z5) U) (Z4 V.bool ?_);exact(cH _).mpr (jc _)|>.symm
  ·refine cc (dB (s:=J) (av U) λ_=>dB (s:=J) (NR U (aA (aA (aU _)))) λ_=>dB (bZ (qd (gf du a (.head _)) (Dz U))) λ_=>bZ (qd (gf du b (.tail _ (.head _))) (No U))) (Z4 V.bool (Bool.not_and _ _).symm)
theorem FP(h:t.length=2):∃w l,t=[w,l]:=by
 induction t with
 |nil=>exact nomatch h
 |cons w t=>exact(jg.mp (b8 h)).elim λl e=>⟨w,l,e▸rfl⟩
theorem t_2(h:(t.length+2==4)=Z5):∃w l,t=[w,l]:=FP (b8 (b8 (YQ h)))
theorem t_1(h:(t.length+2==3)=Z5):∃w,t=[w]:=jg.mp (b8 (b8 (YQ h)))
theorem O8{P:Prog}(h:(s==['s','e','n','t']&&(t.length+2==4&&(wB (t.getD 0 .none)&&DK (LV (t.getD 1 .none)))))=Z5):∃d,Dw d (.tup (.str s::.str m::t))/\Ev P C [Z (.tup (.str s::.str m::t))] H X (.p J .t [.c (.str ['s','e','n','d']),.p J .i [.v 0,.c (.int 1)],.p J .i [.v 0,.c (.int 3)]]) d:=by haveI z:=cP h;haveI y:=cP z.2;refine j4 (t_2 y.1) λw l e=>?_;clear h;subst e;haveI x:=cP y.2;refine(nu x.1).elim λk ek=>?_;cases oA ek;cases YQ z.1;exact(aG _ (.send (C3 x.2)) (av U))
theorem Qe{P:Prog}(h:(s==['w','o','r','k','s']&&(t.length+2==3&&wB (t.getD 0 .none)))=Z5):∃d,Dw d (.tup (.str s::.str m::t))/\Ev P C [Z (.tup (.str s::.str m::t))] H X (.p J .t [.c (.str ['w','o','r','k']),.p J .i [.v 0,.c (.int 1)]]) d:=by haveI z:=cP h;haveI y:=cP z.2;refine(t_1 y.1).elim λw e=>?_;clear h;subst e;refine(nu y.2).elim λk ek=>?_;cases oA ek;cases YQ z.1;exact(aG _ .work (av U))
theorem Qh{P:Prog}(h:(s==['f','a','i','l','s']&&(t.length+2==2))=Z5):∃d,Dw d (.tup (.str s::.str m::t))/\Ev P C [Z (.tup (.str s::.str m::t))] H X (.p J .t [.c (.str ['f','a','i','l']),.p J .i [.v 0,.c (.int 1)]]) d:=by haveI z:=cP h;cases iY.mp (b8 (b8 (YQ z.2)));cases YQ z.1;exact(aG _ .fail (av U))
theorem PA(h:Dw d u):(kW (u.tpl.getD [])==['s','e','n','t']&&((u.tpl.getD []).length==4&&(wB ((u.tpl.getD []).getD 2 .none)&&DK (LV ((u.tpl.getD []).getD 3 .none)))))=Z5\/(kW (u.tpl.getD [])==['w','o','r','k','s']&&((u.tpl.getD []).length==3&&wB ((u.tpl.getD []).getD 2 .none)))=Z5\/(kW (u.tpl.getD [])==['f','a','i','l','s']&&(u.tpl.getD []).length==2)=Z5:=by
 induction h with
 |send lv=>exact .inl (Hf lv)
 |work=>exact .inr (.inl U)
 |fail=>exact .inr (.inr U)
theorem G6(hu:Rx u)(q1:∀d,Dw d u->Q d H)(q0:(∀d,¬Dw d u)->Q .none H):aO PL (n+3) 45 [u] H Q X:=by
 refine cf U U (bS (Qa hu) (λz=>bg (av U) (q0 λd h=>Z1 ((Z4 (!·) h.hd).symm.trans z) ae)) λz=>(Jo (qN z)).elim λs h=>j4 h λm t e=>?_);clear z h;subst e;haveI du:=(ue hu U).1;refine bS (cg (t:=t.length+2==4&&(wB (t.getD 0 .none)&&DK (LV (t.getD 1 .none)))) (zf U) λ_=>cg (s0 (t:=_::_::t) U 4) λh=>j4 (t_2 h) λw l e=>?_) (λz=>ao (O8 z) λd dw ev=>bg ev (q1 d dw)) λz1=>
  bS (cg (t:=t.length+2==3&&wB (t.getD 0 .none)) (zf U) λ_=>cg (s0 (t:=_::_::t) U 3) λh=>(t_1 h).elim λw e=>?_) (λz=>ao (Qe z) λd dw ev=>bg ev (q1 d dw)) λz2=>
  bS (cg (zf U) λ_=>s0 (t:=_::_::t) U 2) (λz=>ao (Qh z) λd dw ev=>bg ev (q1 d dw)) λz3=>bg (av U) (q0 λd hd=>(PA hd).elim (λh=>Z1 (z1.symm.trans h) ae) λh=>h.elim (λh=>Z1 (z2.symm.trans h) ae) λh=>Z1 (z3.symm.trans h) ae)
 ·clear q1 q0 hu;subst e;exact cg (cJ (av U) λQ q=>xo (gf du w (.tail _ (.tail _ (.head _)))) q) λ_=>cJ (av U) λQ q=>NE (gf du l (.tail _ (.tail _ (.tail _ (.head _))))) q
 ·clear q1 q0 hu z1;subst e;exact cJ (av U) λQ q=>xo (gf du w (.tail _ (.tail _ (.head _)))) q
theorem F9(hm:∀k<N,nm k≠m):bj P J (.cop .notin) [.str m,vI nm N] H=Z (.bool Z5,H):=by haveI q:=fS (m0 (f:=λk=>V.str (nm k)) (l:=aX N) λ_=>Z0);refine(?_:((if re _=Z5 then Z (((aX N).map λk=>V.str (nm k)).any λy=>fZ y (.str m))else Z6:Option Bool).map _).map _=_);refine YP (Z3 (lj q.1 (aa (ak q.2) (by decide)))) (YP (show(((aX N).map λk=>V.str (nm k)).any λy=>fZ y (.str m))=J from List.any_eq_false.mpr λy hy z=>ao (cL hy) λk hk e=>by clear hy;subst e;exact hm k (jK hk) (V.noConfusion (oN z) id)) ?_);rfl
theorem Aw(F:Fx σ G0 ns nm r o)(W:WX G0 b ns.length nm T Y H)(hm:∀k<ns.length,nm k≠m)(q:Q (.bool J) H):aO PL (n+1) 35 [cz r ns nm o,.ref (b+3),.tup (.str w::.str m::t)] H Q X:=
 cu F.t.tr.top λx0 h0 _ _=>cf U U (bT (cc (dB (t:=Z5) (bZ (mG W U (am (v:=ni 0)) (cq h0))) λ_=>ay (y:=vI nm ns.length) (ay (ah U) am (g8 (j:=1) U)) (av U) (F9 hm)) (Z4 V.bool (kP _))) (bg am q))
theorem Ip{k:Nat}(F:Fx σ G0 ns nm r o)(W:WX G0 b ns.length nm T Y H)(hx:ns[k]? =Z x)(hw:x.w=Z5)(hf:w≠['f','a','i','l'])(q:Q (.bool J) H):aO PL (n+1) 35 [cz r ns nm o,.ref (b+3),.tup (.str w::.str (nm k)::t)] H Q X:=by
 have hk:=(cq hx);refine cu F.t.tr.top λx0 h0 _ _=>cf U U (bS (dB (bZ (mG W U (am (v:=ni 0)) (cq h0))) λ_=>ay (y:=vI nm ns.length) (ay (ah U) am (g8 (j:=1) U)) (ay (ah U) am U) (yo hk)) (λ_=>bg am q) λ_=>?_);refine br (v:=ni k) (mY (ay (z:=vI nm ns.length) (ah U) am U) U (ay (ah U) am (g8 (j:=1) U)) (nJ F.n hk)) (bV U) (bT (cc (dB (t:=Z5) (bZ (mG W U (ah U) hk)) λ_=>cc (cg (s:=Z5) (cc (ay (ay (ah U) am (g8 (j:=0) U)) am (lJ ik ik)) (Z4 V.bool ?_)) λ_=>uf (W.gn F.g) hx U U U) (Z4 V.bool ?_)) (Z4 V.bool (kP _))) (bg am q))
 ·exact YP (show fZ (.str w) (.str ['f','a','i','l'])=J from beq_eq_false_iff_ne.mpr hf) U
 ·exact YP hw U
noncomputable def sG(a b:Int)(v:V):Bool:=v.num.any λi=>decide (a<=i)&&decide (i<=b)
noncomputable def N3(s:Nm):Bool:=(decide ((1:Int)<=s.length)&&decide ((s.length:Int)<=8))&&s.all λc=>tE.contains c
noncomputable def z7(v:V):Bool:=v.txt.any N3
theorem g1{a b:Int}(hv:v.data=Z5)(q:Q (.bool (sG a b v)) H):aO PL (n+1) 1 [v,.int a,.int b] H Q X:=by
 refine cf U U (eG (o:=v.num) (λe=>?_) λi e=>?_)
 ·unfold sG at q;exact bg (cc (wu (t:=J) hv (ah U) λh=>eU (e.symm.trans (Option.some_get h).symm)) (by exact YP e U)) q
 ·haveI e:=oA e;subst e;exact bg (wu hv (ah U) λ_=>rS (ah U) (ah U) (ah U)) q
theorem few{s:Nm}(h:(decide ((1:Int)<=s.length)&&decide ((s.length:Int)<=8))=Z5):s.length<=aB:=aa (b7.mp (of_decide_eq_true (cP h).2):s.length<=8) (by decide)
theorem g2(hv:v.data=Z5)(q:Q (.bool (z7 v)) H):aO PL (n+1) 2 [v] H Q X:=by
 refine cf U U (eG (o:=v.txt) (λe=>?_) λs e=>?_)
 ·unfold z7 at q;rw [e]at q;exact bT (dB (s:=Z5) (t:=Z5) (cc (bZ (qd hv (ah U))) (by exact YP e U)) nofun) (bg am q)
 ·haveI e:=mV e;clear hv;subst e;haveI q:Q (.bool (N3 s)) H:=q;refine bS (dB (s:=J) (av U) λ_=>bZ (rS am (bK (ah U) tm) am)) (λh=>bg am ?_) λh=>?_
  ·unfold N3 at q;rw [MV h]at q;exact q
  ·unfold N3 at q;haveI h:=qN h;rw [h,gR]at q;refine bg (bK (oB (l:=s) (f:=λc=>.str [c]) (g:=λc=>.bool (tE.contains c)) (ah U) U (few h) λ_ _=>av U) ?_) q;exact YP (show(s.map λc=>V.bool (tE.contains c))=(s.map λc=>tE.contains c).map V.bool from bO.symm) (YP wv (YP (List.all_map) U))
theorem HB{v:V}{s:Nm}(h:fZ v (.tup [.str s])=Z5):v=.tup [.str s]:=by refine ao (Hb h) λus e h=>lY h λa t e1 h1 h2=>?_;refine YP e ?_;refine YP e1 ?_;cases sM h2;exact YP (oN h1) U
theorem MA(h:LV v):(if(v.tpl.getD []).length==2 then fZ ((v.tpl.getD []).getD 0 .none) (.str ['a','d','d'])&&sG (0-1000000000) 1000000000 ((v.tpl.getD []).getD 1 .none)else fZ v (.tup [.str ['f','a','u','l','t']])||fZ v (.tup [.str ['l','e','a','v','e']]))=Z5:=by
 induction h with
 |add h=>exact cn.mpr ⟨decide_eq_true h.1,decide_eq_true h.2⟩
 |fault|leave=>rfl
theorem IE{α:Type}{o:Option α}{f:α->Bool}(h:o.any f=Z5):∃i,o=Z i/\f i=Z5:=by
 induction o with
 |none=>exact Z1 h ae
 |some i=>exact(aG i U h)
theorem g3(hv:DT v)(q:Q (.bool (DK (LV v))) H):aO PL (n+2) 3 [v] H Q X:=by
 have lv:∀{b:Bool},(b=Z5↔LV v)->Q (.bool b) H:=λh=>sJ h▸q;refine eG (o:=v.tpl) (λe=>?_) λvs e=>?_
 ·exact cf U U (bT (cc (bZ (s9 hv.1 (av U))) (by exact YP e U)) (bg (av U) (lv ⟨λh=>Z1 h ae,λh=>di (Ic h) λ_ _ z _=>by clear q lv hv h;subst z;exact eU e.symm⟩)))
 cases qP e;refine cf U U (cj (av U) (bS (s0 U 2) (λz=>j4 (FP (YQ z)) λa w e=>?_) λz=>?_))
 ·clear z;subst e;refine bg (cg (ay (Dz U) am (gq (sC (hv.mem (.head _))) ik)) λ_=>io (No U) (ay am am tv) am λQ q=>g1 (hv.mem (.tail _ (.head _))).1 q) (lv ⟨λh=>?_,MA⟩);haveI h:=cP h;refine ao (IE h.2) λi ei k=>?_;haveI k:=cP k;cases oN h.1;cases oA ei;exact .add ⟨of_decide_eq_true k.1,of_decide_eq_true k.2⟩
 ·refine bg (dB (ay (av U) (av U) (gq (sC hv) U)) λ_=>ay (av U) (av U) (gq (sC hv) U)) (lv ⟨λh=>(iA.mp h).elim (λh=>by refine YP (HB h) ?_;exact .fault) λh=>by refine YP (HB h) ?_;exact .leave,λh=>?_⟩);haveI k:=MA h;rw [show((V.tup vs).tpl.getD []).length=vs.length from U,z]at k;exact k
section
variable {v l:V}
theorem LQ(h:Hs σ S H)(hv:v.data=Z5)(hno:∀m,v=.str m->eO m S.qu=J)(x:X 3 H):aO PL (n+2) 60 [.ref σ.i,v] H Q X:=by
 refine cf U U (nf (o:=z7 v) (λz=>?_) λz=>?_)
 ·refine eG (o:=v.txt) (λe=>?_) λs e=>?_
  ·unfold z7 at z;rw [e]at z;exact Z1 z ae
  haveI e:=mV e;subst e;exact bT (dB (s:=J) (t:=Z5) (cc (bZ (cJ (ah U) λQ q=>g2 hv q)) (by exact YP z U)) λ_=>cc (ay (ah U) (dW h U U) (jh (h.get 8 rfl))) (Z4 (λt=>V.bool (!t)) (hno s U))) x
 ·exact bT (dB (s:=Z5) (t:=Z5) (cc (bZ (cJ (ah U) λQ q=>g2 hv q)) (by exact YP z U)) λe=>Z1 e (ca:¬true=J)) x
theorem noq(A:At π σ S H)(hno:∀m,v=.str m->π.isW m≠Z J):∀m,v=.str m->eO m S.qu=J:=λm e=>cr.mpr λz=>hno m e ((A.iv.qk m).mp z)
theorem Pu(pl:Pl π σ)(A:At π σ S H)(hv:v.data=Z5)(hl:DT l)(bad:LV l->∀m,v=.str m->π.isW m≠Z J)(x:∀c,c=2\/c=3\/c=6->X c H):aO PL (n+34) 62 [.ref σ.i,v,l] H Q X:=by
 have h:=A.hs;refine(Classical.em (LV l)).elim (λlv=>?_) λlv=>?_
 ·exact cf U U (iM h U U (Im pl h (λ_=>x 6 (.inr (.inr U))) λ_=>cj (bZ (s:=Z5) (cJ (ah U) λQ q=>f3 lv q)) (fi h U U (ah U) (LQ h hv (noq A (bad lv)) (x 3 (.inr (.inl U)))))))
 ·exact cf U U (iM h U U (Im pl h (λ_=>x 6 (.inr (.inr U))) λ_=>bT (cc (bZ (cJ (ah U) λQ q=>g3 hl q)) (by exact YP (K2 lv) U)) (x 2 (.inl U))))
theorem OH(pl:Pl π σ)(A:At π σ S H)(hv:v.data=Z5)(bad:∀m,v=.str m->π.isW m≠Z J)(x:∀c,c=2\/c=3\/c=6->X c H):aO PL (n+34) 63 [.ref σ.i,v] H Q X:=
 cf U U (iM A.hs U U (Im pl A.hs (λ_=>x 6 (.inr (.inr U))) λ_=>fi A.hs U U (ah U) (LQ A.hs hv (noq A bad) (x 3 (.inr (.inl U))))))
theorem PR(pl:Pl π σ)(A:At π σ S H)(hv:v.data=Z5)(bad:∀m,v=.str m->m∉σ.names)(x:∀c,c=2\/c=3\/c=6->X c H):aO PL (n+34) 64 [.ref σ.i,v] H Q X:=by
 have h:=A.hs;refine cf U U (iM h U U (Im pl h (λ_=>x 6 (.inr (.inr U))) λ_=>nf (o:=z7 v) (λz=>?_) λz=>?_))
 ·refine eG (o:=v.txt) (λe=>?_) λs e=>?_
  ·unfold z7 at z;rw [e]at z;exact Z1 z ae
  haveI e:=mV e;subst e;exact bT (dB (s:=J) (t:=Z5) (cc (bZ (cJ (ah U) λQ q=>g2 hv q)) (by exact YP z U)) λ_=>cc (ay (ah U) (dW h U U) (jh (h.get 3 rfl))) (Z4 (λt=>V.bool (!t)) (cr.mpr λy=>bad s U (bn.mp y)))) (x 3 (.inr (.inl U)))
 ·exact bT (dB (s:=Z5) (t:=Z5) (cc (bZ (cJ (ah U) λQ q=>g2 hv q)) (by exact YP z U)) λe=>Z1 e (ca:¬true=J)) (x 3 (.inr (.inl U)))
end
section
variable {t:List V}
theorem QR(h:t.length=3):∃b w l,t=[b,w,l]:=by
 induction t with
 |nil=>exact nomatch h
 |cons b t=>exact j4 (FP (b8 h)) λw l e=>⟨b,w,l,e▸rfl⟩
theorem O6(pl:Pl π σ)(A:At π σ S H)(hv:DT (.tup (a::t)))(hno:∀d,¬Dr π σ d (.tup (a::t)))(q:Q (.lst []) H)(x:∀c,c=2\/c=3\/c=6->X c H):aO PL (n+35) 11 [.ref σ.i,.tup (a::t)] H Q X:=by
 have es:∀{n X} (w:Nm),Ev PL (aO PL n) [Z (.ref σ.i),Z (.tup (a::t))] H X (.p J (.cop .eq) [.p J .i [.v 1,.c (.int 0)],.c (.str w)]) (.bool (fZ a (.str w))):=λ{n X} w=>ay (Dz U) am (gq (sC (hv.mem (.head _))) ik);refine cf U U (bS (cg (es _) λ_=>s0 (t:=_::t) U 4) (λz=>?_) λ_=>bS (cg (es _) λ_=>s0 (t:=_::t) U 3) (λz=>?_) λ_=>bS (cg (es _) λ_=>s0 (t:=_::t) U 2) (λz=>?_) λ_=>bg (av U) q)
 ·clear es;haveI z:=cP z;cases oN z.1;refine(QR (b8 (YQ z.2))).elim λb h=>j4 h λw l e=>?_;clear z h;subst e;exact nU A.hs U U (av U) (av U) (Pu pl A (hv.mem (.tail _ (.head _))).1 (hv.mem (.tail _ (.tail _ (.tail _ (.head _))))) (λlv m e hw=>by subst e;exact hno _ (.send hw lv)) x)
 ·clear es;haveI z:=cP z;cases oN z.1;refine j4 (FP (b8 (YQ z.2))) λb w e=>?_;subst e;exact xB A.hs U U (av U) (OH pl A (hv.mem (.tail _ (.head _))).1 (λm e hw=>by subst e;exact hno _ (.work hw)) x)
 ·clear es;haveI z:=cP z;cases oN z.1;refine(jg.mp (b8 (YQ z.2))).elim λb e=>?_;clear z;subst e;exact xB A.hs U U (av U) (PR pl A (hv.mem (.tail _ (.head _))).1 (λm e hw=>by subst e;exact hno _ (.fail hw)) x)
theorem EE(pl:Pl π σ)(A:At π σ S H)(hv:Rx v)(hno:∀d,¬Dr π σ d v)(q:Q (.lst []) H):aO PL (n+36) 12 [.ref σ.i,v] H Q X:=by
 refine eG (o:=v.tpl) (λe=>?_) λvs e=>?_
 ·exact cf U U (bT (dB (s:=Z5) (t:=Z5) (cc (bZ (vY hv (av U))) (by exact YP e U)) λe=>Z1 e (ca:¬true=J)) (bg (av U) q))
 cases qP e;clear e;induction vs with
 |nil=>exact cf U U (bT (av U) (bg (av U) q))
 |cons a t=>exact cf U U (cj (av U) (tG (g7 (dm (ah U) (ah U) (O6 pl A (ue hv U) hno q λc h=>by rcases h with h|h|h<;>refine YP h ?_<;>exact⟨rfl,q⟩)))))
end
inductive Rw(π:PI)(v:V)(dd:V->Prop)(xs:List V):Nat->Ab->Option Nat->Prop
 |short {p:Nat} {A:Ab} {e:Evt} {r:Option Nat}:p=xs.length->A.ev[p]? =Z e->r=Z p->Rw π v dd xs p A r
 |diff {p:Nat} {A:Ab} {e:Evt} {x:V} {r:Option Nat}:A.ev[p]? =Z e->xs[p]? =Z x->x≠e.v->r=Z p->Rw π v dd xs p A r
 |next {p:Nat} {A:Ab} {e:Evt} {r:Option Nat}:A.ev[p]? =Z e->xs[p]? =Z e.v->Rw π v dd xs (p+1) A r->Rw π v dd xs p A r
 |all {p:Nat} {A:Ab} {r:Option Nat}:p=A.ev.length->xs.length=p->r=Z6->Rw π v dd xs p A r
 |stop {p:Nat} {A:Ab} {x:V} {r:Option Nat}:p=A.ev.length->xs[p]? =Z x->(∀d,Dw d x->dd d->iP (aq v) A d=J)->r=Z p->Rw π v dd xs p A r
 |deed {p:Nat} {A B:Ab} {d x:V} {r:Option Nat}:p=A.ev.length->xs[p]? =Z x->Dw d x->dd d->iP (aq v) A d=Z5->Gs π v d A B->Rw π v dd xs p B r->Rw π v dd xs p A r
theorem ji{α:Type}{l:List α}{p:Nat}{x:α}(h:l[p]? =Z x):l.take (p+1)=l.take p++[x]:=by exact YP (List.take_succ) (YP h U)
theorem uN(h:p<=A.ev.length)(hx:p<=xs.length)(hp:(A.ev.map Evt.v).take p=xs.take p)(k:A.ev.length<=xs.length->A.ev.map Evt.v=xs.take A.ev.length->∃r,Rw π v dd xs A.ev.length A r):∃r,Rw π v dd xs p A r:=by
 generalize hm:A.ev.length-p=m
 induction m generalizing p with
 |zero=>have e:p=A.ev.length:=fT h (oH hm);clear hm h;subst e;rw [gM (ak (aj _))]at hp;exact k hx hp
 |succ m ih=>
  have lt:p<A.ev.length:=Nat.lt_of_sub_pos (by exact YP hm (tO m));have he:=az lt;refine(lg hx).elim (λe=>?_) λlx=>?_
  ·clear hx hp hm h;subst e;exact⟨_,.short U he U⟩
  have hy:=az lx;refine(Classical.em (xs[p]=(A.ev[p]).v)).elim (λe=>?_) λe=>⟨_,.diff he hy e U⟩;have hy':=hy.trans (Z4 Z e);refine(ih lt lx ?_ (by rw [Nat.sub_succ,hm];rfl)).imp λ_ w=>.next he hy' w
  rw [ji hy',ji (x:=(A.ev[p]).v) (by rw [aV,he];rfl),hp]
theorem qR{l:List V}{n:Nat}:mq (l.take n)<=mq l:=by refine aa (ax _ (mq (l.drop n))) (ak ?_);rw [<-jG,oL]
theorem MN{B0:AH}{e:Nat}(pn:Plan π v)(hb:xs.length+8000<=900000)(hc:mq xs<=102):∀{A:Ab},Gh π v A->A.ev.length<=xs.length->A.ev.map Evt.v=xs.take A.ev.length->∃r,Rw π v (Dd π (jz B0 v e)) xs A.ev.length A r:=by
 haveI key:∀(m:Nat) {A:Ab},xs.length-A.ev.length<=m->Gh π v A->A.ev.length<=xs.length->A.ev.map Evt.v=xs.take A.ev.length->∃r,Rw π v (Dd π (jz B0 v e)) xs A.ev.length A r:=λm=>by
  induction m with
  |zero=>exact λ{A} hm g hl hp=>⟨_,.all U (fT (oH (Nat.le_zero.mp hm)) hl) U⟩
  |succ m ih=>
   intro A hm g hl hp;refine(lg hl).elim (λe=>⟨_,.all U e.symm U⟩) λlt=>?_;haveI hx:=az lt;refine(Classical.em (∃d,Dw d xs[A.ev.length]/\Dd π (jz B0 v e) d/\iP (aq v) A d=Z5)).elim (λh=>?_) λh=>⟨_,.stop U hx (λd a b=>cr.mpr λc=>h (bQ d a b c)) U⟩;refine cu h λd dw dd hc'=>?_;refine(gh1 pn g dd hc' (by exact YP (YO (g.kn.c)) (YP hp (aa qR (aa hc (by decide))))) (aa (aK hl _) hb)).elim λB gs=>?_;refine di (gs.de.row dd) λev tl eb _=>?_;have lb:B.ev.length=A.ev.length+(tl.length+1):=by exact YP eb (YP af U)
   refine(uN (A:=B) (p:=A.ev.length) (by simp only [lb];exact ax _ _) hl ?_ λhl' hp'=>ih ?_ gs.gh hl' hp').imp λ_ w=>  .deed U hx dw dd hc' gs w
   ·exact YP eb (YP aN (YP (vK (ak (aj _).symm)) (YP (gM (ak (aj _))) (YP hp U))))
   ·rw [lb,Nat.sub_add_eq];exact KD (aa hm (aH (bG 1 _) m))
 exact λ{A}=>key _ (aM _)
section
variable {e:Evt}
theorem LB:(.dct [] []:V)≠e.v:=(wb (e:=e)).elim λws h=>h▸nofun
theorem MK(he:e.ok π)(hu:Rx u)(q:Q (.bool (xJ u e.v)) H):aO PL (n+3) 10 [u,e.v] H Q X:=hu.elim (λh=>PO (Ni he) h.1 q) λh=>by clear hu;subst h;rw [Dy LB]at q;refine(wb (e:=e)).elim λws h=>?_;exact YP h (cf U U (bT (av U) (bT (av U) (bg (av U) q))))
end
theorem Rw.inn(w:Rw π v dd xs p A r):∀{e},A.ev[p]? =Z e->(p=xs.length/\r=Z p)\/(∃x,xs[p]? =Z x/\x≠e.v/\r=Z p)\/xs[p]? =Z e.v/\Rw π v dd xs (p+1) A r:=by
 induction w with
 |short hp h hr=>exact λ_=>.inl ⟨hp,hr⟩
 |diff h hx n hr=>exact λhe=>.inr (.inl (bQ _ hx ((ai (h.symm.trans he))▸n) hr))
 |next h hx w=>exact λhe=>.inr (.inr ⟨(ai (h.symm.trans he))▸hx,w⟩)
 |all hp|stop hp|deed hp=>exact(λhp he=>Z1 (cq he) (hp▸cZ _):∀{G:Prop} {A:Ab} {p:Nat} {e:Evt},p=A.ev.length->A.ev[p]? =Z e->G) hp
theorem Rw.out(w:Rw π v dd xs p A r):p=A.ev.length->(xs.length=p/\r=Z6)\/(∃x,xs[p]? =Z x/\(∀d,Dw d x->dd d->iP (aq v) A d=J)/\r=Z p)\/∃d x B,xs[p]? =Z x/\Dw d x/\dd d/\iP (aq v) A d=Z5/\Gs π v d A B/\Rw π v dd xs p B r:=by
 induction w with
 |short _ h|diff h|next h=>exact(λhe hp=>Z1 (cq he) (hp▸cZ _):∀{G:Prop} {A:Ab} {p:Nat} {e:Evt},A.ev[p]? =Z e->p=A.ev.length->G) h
 |all _ h hr=>exact λ_=>.inl ⟨h,hr⟩
 |stop _ h k hr=>exact λ_=>.inr (.inl (bQ _ h k hr))
 |deed _ h a b c g w=>exact λ_=>.inr (.inr (fM _ _ _ h a b c g w))
theorem Dw.dr(w:Dw d x)(h:Dd π σ d):Dr π σ d x:=by
 induction w with
 |send lv=>exact .send (h.inv.1 rfl).1 lv
 |work=>exact .work (h.inv.2.1 rfl)
 |fail=>exact .fail (h.inv.2.2 rfl)
theorem Dr.dD(w:Dr π σ d x):Dd π σ d:=by
 induction w with
 |send a b=>exact .send a b
 |work a=>exact .work a
 |fail a=>exact .fail a
noncomputable def oV:Option Nat->V
 |none=>.none
 |some p=>ni p
inductive IW(π:PI)(v:V)(dd:V->Prop)(xs:List V)(r:Option Nat)(S:Hst)(a i:Nat)(due:V)(H:AH)(its:List Evt)(ρ:Fm)(H':AH):Prop
 |mk (p:List Evt) (o5:Option V):ρ=[Z v,Z (.ref a),Z (.ref i),Z due,Z (ni p.length),o5]->H'=H->p++its=S.ev->p.map Evt.v=xs.take p.length->Rw π v dd xs p.length (jY S) r->IW π v dd xs r S a i due H its ρ H'
inductive JW(π:PI)(v:V)(dd:V->Prop)(xs:List V)(r:Option Nat)(H:AH)(e a N:Nat)(ρ:Fm)(H':AH):Prop
 |mk (S:Hst) (pre es:List Evt) (o5:Option V):ρ=[Z v,Z (.ref a),Z (.ref (H.length+1)),Z (.lst (es.map Evt.v)),Z (ni pre.length),o5]->At π (jz H v e) S H'->S.ev=pre++es->pre.map Evt.v=xs.take pre.length->Kn (jY S)->S.ev.length<=820000->Rw π v dd xs pre.length (jY S) r->xs.length<S.ev.length+N->JW π v dd xs r H e a N ρ H'
theorem Ml{p:Nat}{xs:List V}(h:p<xs.length):fZ (.int p) (.int xs.length)=J:=beq_false_of_ne λz=>dk h (dX z)
theorem Hh(pn:Plan π v)(nd:∀w,(π.kd w).Nodup)(rw0:Rw π v (Dd π (jz B0 v e)) xs 0 (a0 v) r)(hx:∀x∈xs,Rx x)(ha:H[a]? =Z (.list xs))(hc:mq xs<=102)(hl:xs.length<=810009)(q:∀e S H',At π (jz H v e) S H'->Q (.tup [.ref (H.length+1),oV r]) H'):aO PL (n+38) 13 [v,.ref a] H Q X:=by
 refine cf U U (eR (D0 (ah U) (f29 pn λe1 S1 H1 A1 l1 a1=>(bu U (bV U) ?_))));have hA:∀{S H'},At π (jz H v e1) S H'->H'[a]? =Z (.list xs):=λh=>(h.hs.fix _ (Hv (m5 ha))).1;refine br (uZ A1.hs U U λQ q=>f46 A1.hs (aa l1 (by decide)) q) (bV U) (br am (bV U) ?_);refine nM (JW π v (Dd π (jz B0 v e)) xs r H e1 a) (λN' ρ' H' hI=>hI.rec λS pre es o5 eρ A' ev hp cs lS rw1 hN=>(bQ Z5 am (λ_ K' hK=>?_) (λz=>Z1 z.symm ae))) (.mk S1 [] S1.ev Z6 U A1 U U (a1.symm▸kn0) (aa l1 (by decide)) (a1.symm▸rw0) (bl (dc _) (bG _ _)));subst eρ;have gi:=(⟨_,_,_,_,A',rfl,cs⟩:Gh π v (jY S)).gi;have ok:∀{es:List Evt},(∃p,S.ev=p++es)->∀y∈es,y.ok π:=λh y hy=>h.elim λp z=>gi.ok y (by exact YP (show(jY S).ev=S.ev from U) (YP z (aC _ hy)));haveI el:(es.map Evt.v).length<=aB:=by rw [aj];refine aa ?_ (aa lS (by decide));simp only [ev,af];exact bG _ _
 have qr:∀{p:Nat} {S H'},r=Z p->At π (jz H v e1) S H'->Q (.tup [.ref (H.length+1),ni p]) H':=λe A=>by clear rw0;(replace e:=YO e;subst e);exact q e1 _ _ A
 refine fV (IW π v (Dd π (jz B0 v e)) xs r S a (H.length+1) (.lst (es.map Evt.v)) H') (l:=es) (ah U) (λ_ _ _ _=>rfl) (aj Evt.v▸el) (.mk pre o5 U U ev.symm hp rw1) (λx its ρ' H2 hI K' hK=>hI.rec λp o5 eρ eH ep hp w=>?_) λρ' H2 hI=>hI.rec λp o5 eρ eH ep hp w=>?_
 ·subst eρ;subst eH;have hx1:(jY S).ev[p.length]? =Z x:=by rw [show(jY S).ev=S.ev from U,<-ep,cB (aM _),oj];rfl
  haveI hlt:∀{y:V},xs[p.length]? =Z y->fZ (.int p.length) (.int xs.length)=J:=λh=>Ml (cq h);haveI okx:=ok ⟨p,ep.symm⟩ x (.head _);have tst:∀{y:V},xs[p.length]? =Z y->Ev PL (aO PL (n+37)) [Z v,Z (.ref a),Z (.ref (H.length+1)),Z (.lst (es.map Evt.v)),Z (ni p.length),Z x.v] H2 (λ_ _=>False) (.or (.p J (.cop .eq) [.v 4,.p J .len [.v 1]]) (.p J .not [.call 10 [.p J .i [.v 1,.v 4],.v 5]])) (.bool (!xJ y x.v)):=λ{y} hy=>dB (s:=J) (ay (ah U) (bK (ah U) (fJ (hA A'))) ((gq d0 d0).trans (by exact YP (hlt hy) U))) λ_=>bZ (gb (ay (ah U) (ah U) (gY (hA A') hy)) (ah U) λQ q=>MK okx (hx y (aI hy)) q);refine(w.inn hx1).elim (λh=>?_) λh=>h.elim (λh=>cu h λy hy ne er=>?_) λh=>?_
  ·exact bT (dB (s:=Z5) (t:=Z5) (ay (ah U) (bK (ah U) (fJ (hA A'))) ((gq d0 d0).trans (by exact YP (h.1) (YP (gT (.int _) U) U)))) λe=>Z1 e ca) (bg (av U) (qr h.2 A'))
  ·exact bT (cc (tst hy) (by exact YP (Dy ne) U)) (bg (av U) (qr er A'))
  ·refine cj (cc (tst h.1) (by exact YP yi U)) (br (av U) (bV U) (fA (hK _ _ (.mk (p++[x]) (Z x.v) ?_ U ((au ..).trans ep) ?_ ?_))))
   ·simp only [af];rfl
   ·simp only [af,aN,hp];exact(ji h.1).symm
   ·exact af▸h.2
 subst eρ;clear hI;subst eH;have ep:p=S.ev:=(aJ p).symm.trans ep;subst ep;have hL:S.letters<=109:=by refine(?_:(jY S).lt<=109);simp only [<-cs.c,show(jY S).ev=S.ev from U,hp];exact aa qR (aa hc (by decide))
 have pb:S.ev.length<=xs.length:=by haveI z:=Z4 dQ hp;simp only [aj,dh]at z;exact(z)▸fE _ _
 have hb:S.ev.length+8000<=900000:=aa (aK (aa pb hl) _) (by decide);have lt:∀{y:V},xs[S.ev.length]? =Z y->Ev PL (aO PL (n+37)) [Z v,Z (.ref a),Z (.ref (H.length+1)),Z (.lst (es.map Evt.v)),Z (ni S.ev.length),o5] H2 (λ_ _=>False) (.p J (.cop .eq) [.v 4,.p J .len [.v 1]]) (.bool J):=λh=>ay (ah U) (bK (ah U) (fJ (hA A'))) ((gq d0 d0).trans (by exact YP (Ml (cq h)) U));refine(⟨N'-1,(Nat.succ_pred_eq_of_pos (Nat.lt_of_add_lt_add_left (ce pb hN))).symm⟩:∃M,N'=M+1).elim λM eM=>?_;subst eM;have more:∀{d:V} {S2:Hst} {H3:AH} {es2:List Evt},Dd π (jz H v e1) d->De π (jz H v e1).names (jY S) d (jY S2)->At π (jz H v e1) S2 H3->S2.ev=S.ev++es2->S2.ev.length<=S.ev.length+8000->Rw π v (Dd π (jz B0 v e)) xs S.ev.length (jY S2) r->bk PL (aO PL (n+37)) [.ite (.p J (.cop .eq) [.v 3,.p J .l []]) [.ret (.p J .t [.v 2,.v 4])] []] [Z v,Z (.ref a),Z (.ref (H.length+1)),Z (.lst (es2.map Evt.v)),Z (ni S.ev.length),o5] H3 K' Q (λ_ _=>False):=λ{d S2 H3 es2} hd de A2 ev3 b2 w2=>by refine di (de.row hd) λx tl ex dr=>?_;have e4:=na (ev3.symm.trans ex);subst e4;have PD:=λy hy=>(⟨_,_,_,_,A2,rfl,de.kn cs⟩:Gh π v (jY S2)).gi.ok y (by exact YP (show(jY S2).ev=S2.ev from U) (YP ev3 (aC _ hy)));refine cj (ay (av U) (av U) ((gq (MX (B7 PD)) jQ).trans U)) (fA (hK _ _ M (dc _) (.mk S2 S.ev (x::tl) _ U A2 ev3 hp (de.kn cs) (aa b2 (aa (aK (aa pb hl) _) (by decide))) w2 (bl hN ?_))));simp only [ev3,af];exact gQ (aA (aU tl.length)) (by simp+arith only [dN])
 refine(w.out U).elim (λh=>?_) λh=>h.elim (λh=>cu h λy hy no er=>?_) λh=>?_
 ·exact bT (ay (ah U) (bK (ah U) (fJ (hA A'))) ((gq d0 d0).trans (by exact YP (h.1) (YP (gT (.int _) U) U)))) (bg (av U) (by haveI z:=q e1 S _ A';replace z:=(h.2)▸z;exact z))
 ·refine cj (lt hy) (eR (dm (y:=y) (ah U) (ay (ah U) (ah U) (gY (hA A') hy)) ?_));have emp:bk PL (aO PL (n+37)) [.ite (.p J (.cop .eq) [.v 3,.p J .l []]) [.ret (.p J .t [.v 2,.v 4])] []] [Z v,Z (.ref a),Z (.ref (H.length+1)),Z (.lst []),Z (ni S.ev.length),o5] H2 K' Q (λ_ _=>False):=bT (av U) (bg (av U) (qr er A'));refine(Classical.em (∃d,Dr π (jz H v e1) d y)).elim (λhd=>hd.elim λd dr=>?_) λhd=>EE (σ:=jz H v e1) pn.pl A' (hx y (aI hy)) (λd h=>hd ⟨d,h⟩) ⟨bV U,emp⟩;refine Bq (σ:=jz H v e1) (n:=n+1) pn.pl A' dr hL hb (λ_=>⟨bV U,emp⟩) λhc S2 H3 es2 A2 l3 v3 d3 ev3=>⟨bV U,more dr.dD d3 A2 ev3 v3 ?_⟩;refine di (d3.row dr.dD) λx tl ex dx=>er▸.diff (e:=x) ?_ hy (λz=>?_) U
  ·rw [ex,show(jY S).ev=S.ev from U,cB (aM _),oj];rfl
  ·clear hy hd;subst z;exact Z1 ((no d dx (dr.dD.of U)).symm.trans hc) ae
 ·refine hU h λd y B hy dw hd hc g w2=>?_;refine cj (lt hy) (eR (dm (y:=y) (ah U) (ay (ah U) (ah U) (gY (hA A') hy)) ?_));haveI hd:Dd π (jz H v e1) d:=hd.of U;exact Bq (σ:=jz H v e1) (n:=n+1) pn.pl A' (dw.dr hd) hL hb (λz=>Z1 (z.symm.trans hc) ae) λhc S2 H3 es2 A2 l3 v3 d3 ev3=>⟨bV U,more hd d3 A2 ev3 v3 ((d3.det nd g.de).symm▸w2)⟩
def Kq(H H':AH):Prop:=∀(i:Nat) (o:O),H[i]? =Z o->H'[i]? =Z o
theorem EY{e h:Ex}{cls i:Nat}(w:cW P C e ρ H (λ_ H'=>bk P C ss ρ H' K R X) (λc H'=>(P.sub c c&&P.sub c cls)=Z5/\cW P C h (ρ.set i (Z (.exc c))) H' R (λ_ _=>False))):bk P C (.tryE e cls i h::ss) ρ H K R X:=w
theorem At.kq(A:At π (jz H v e) S H'):Kq H H':=λ_ _ h=>(A.hs.fix _ (Hv (m5 h))).1
theorem Nj(pn:Plan π v)(nd:∀w,(π.kd w).Nodup)(rw0:Rw π v (Dd π (jz B0 v e)) xs 0 (a0 v) r)(hx:∀x∈xs,Rx x)(ha:H[a]? =Z (.list xs))(hc:mq xs<=102)(hl:xs.length<=810009)(q:∀H',Kq H H'->Q (oV r) H'):aO PL (n+39) 14 [v,.ref a] H Q X:=
 cf U U (g7 (mB (dm (ah U) (ah U) (Hh (n:=n) pn nd rw0 hx ha hc hl λe S H' A=>am _ (hE (g8 (j:=1) U) (q H' A.kq))))))
theorem Mg{p:Nat}(pn:Plan π v)(nd:∀w,(π.kd w).Nodup)(rw0:Rw π v (Dd π (jz B0 v e)) xs 0 (a0 v) (Z p))(hx:∀x∈xs,Rx x)(ha:H[a]? =Z (.list xs))(hc:mq xs<=102)(hl:xs.length<=810009)(q:∀H',Kq H H'->X 7 H'):aO PL (n+39) 15 [v,.ref a] H Q X:=
 cf U U (sQ (dm (ah U) (ah U) (Hh (n:=n) pn nd rw0 hx ha hc hl λe S H' A=>(bT (av U) (q H' A.kq):bk PL (aO PL (n+38)) (Nl.body.drop 1) [Z v,Z (.ref a),Z (.ref (H.length+1)),Z (ni p)] H' _ Q X))))
theorem Mj(q:Q (.lst [.int 6]) H):aO PL (n+1) 41 [.exc 7] H Q X:=by refine cf U U (br (yL (bK (ah U) U) (bK (ah U) U) (bK (ah U) U) (bK (ah U) U) (gm (aQ U))) (bV U) (br (ay (ah U) (yL (bK (ah U) U) (bK (ah U) U) (bK (ah U) U) (bK (ah U) U) (gm (aQ U))) (i8 (aQ U))) (bV U) ?_));refine br (jU (l:=aX 8) (f:=λi=>.int (i:Nat)) (g:=λi=>.int (i:Nat)) (p:=λi=>decide (i=6)) (bK am (gc (by decide))) U (by decide) (λi hi=>ay (ah U) (ah U) (jS ?_)) λ_ _ _=>ah U) (bV U) (cj (bZ (s:=Z5) (bK (ah U) U)) (bg (ah U) q));exact(eD U (eD U (eD U (eD U (eD U (eD U (eD U (c8 U))))))):∀i∈[0,1,2,3,4,5,6,7],([.bool J,.bool J,.bool J,.bool J,.bool J,.bool J,.bool Z5,.bool J]:List V)[i]? =Z (.bool (decide (i=6)))) i hi
theorem wy(q:Q (.bool Z5) H):aO PL (n+2) 48 [oV r,oV r] H Q X:=by
 induction r with
 |none=>exact cf U U (bT (av U) (bg (av U) q))
 |some p=>exact cf U U (cj (av U) (bg (cg (s:=Z5) (cJ (av U) λQ q=>xo (u:=ni p) U q) λ_=>ay (ah U) (ah U) ((gq d0 d0).trans (by exact YP (gT (.int _) U) U))) q))
theorem Jy{p:Nat}(pn:Plan π v)(nd:∀w,(π.kd w).Nodup)(rw0:Rw π v (Dd π (jz B0 v e)) xs 0 (a0 v) (Z p))(hx:∀x∈xs,Rx x)(ha:H[a]? =Z (.list xs))(hc:mq xs<=102)(hl:xs.length<=810009)(q:∀H',Kq H H'->Q (.bool Z5) H'):aO PL (n+40) 49 [v,.ref a] H Q X:=
 cf U U (EY (dm (ah U) (ah U) (Mg (n:=n) pn nd rw0 hx ha hc hl λH' hk=>⟨rfl,(ay (cJ (av U) λQ q=>Mj (n:=n+38) q) (av U) (gq (x':=.lst [.int 6]) (y':=.lst [.int 6]) U U)) _ (q H' hk)⟩)))
def Lx(G0:List (Nat×O))(rv:V)(xs:List V):Prop:=rv=.lst xs\/∃i,rv=.ref i/\(i,.list xs)∈G0
theorem Lx.len(h:Lx G0 rv xs)(hg:∀p∈G0,H[p.1]? =Z p.2):bj P J .len [rv] H=Z (ni xs.length,H):=h.elim (λe=>e▸rfl) λh=>ao h λi e m=>e▸fJ (hg _ m)
theorem Lx.it(h:Lx G0 rv xs)(hg:∀p∈G0,H[p.1]? =Z p.2)(hj:xs[j]? =Z x):bj P J .i [rv,ni j] H=Z (x,H):=h.elim (λe=>e▸jS hj) λh=>ao h λi e m=>e▸gY (hg _ m) hj
theorem Dw.tup(h:Dw d x):∃vs,d=.tup vs:=by cases h<;>exact⟨_,rfl⟩
structure CanX(σ:Ad)(ns:List Nd)(nm:Nat->Nm)(r o b:Nat)(A:Ab)(H:AH)(d:V)(t:Bool):Prop where
 yes:t=Z5->Dd (dF ns nm) σ d/\iP (nm 0) A d=Z5
 no:t=J->Dd (dF ns nm) σ d->iP (nm 0) A d=J
 run:∀n Q X,Q (.bool t) H->aO PL (n+1) 35 [cz r ns nm o,.ref (b+3),d] H Q X
theorem IX(F:Fx σ G0 ns nm r o)(W:WX G0 b ns.length nm T Y H)(sm:Sm (dF ns nm) A T)(gi:Gi (dF ns nm) A)(dw:Dw d x):∃t:Bool,CanX σ ns nm r o b A H d t:=by
 have yes:∀{d},Dd (dF ns nm) σ d->∃t:Bool,CanX σ ns nm r o b A H d t:=λ{d} dd=>⟨iP (nm 0) T d,λh=>⟨dd,(vV sm)▸h⟩,λh _=>(vV sm)▸h,λn Q X q=>f33 F W dd (sm.q▸gi.lv) q⟩;have no:∀{d},(Dd (dF ns nm) σ d->False)->(∀n Q X,Q (.bool J) H->aO PL (n+1) 35 [cz r ns nm o,.ref (b+3),d] H Q X)->∃t:Bool,CanX σ ns nm r o b A H d t:=λhd h=>⟨J,λe=>Z1 e ae,λ_ dd=>(hd dd).elim,h⟩;have key:∀{m:Nm} {G:Prop},(∀k x,ns[k]? =Z x->nm k=m->G)->((∀k<ns.length,nm k≠m)->G)->G:=λ{m G} a b=>(Classical.em (∃k,∃x,ns[k]? =Z x/\nm k=m)).elim (λh=>di h a) λh=>b λk hk e=>h (gp k _ (az hk) e);have inn:∀{m:Nm},m∈σ.names->∃k,k<ns.length/\nm k=m:=λ{m} hm=>by rw [F.en]at hm;exact ao (cL hm) λk hk e=>(aG k ((gH F).2.2.1 k hk) e)
 have wk:∀{m w:Nm} {t:List V},w≠['f','a','i','l']->((dF ns nm).isW m=Z J->Dd (dF ns nm) σ (.tup (.str w::.str m::t)))->(Dd (dF ns nm) σ (.tup (.str w::.str m::t))->(dF ns nm).isW m=Z J)->∃t':Bool,CanX σ ns nm r o b A H (.tup (.str w::.str m::t)) t':=λ{m w t} hw k k'=>key (m:=m) (λi x hx en=>by
   subst en;have iw:=kL F.n hx;refine G7 (o:=x.w) (λhxw=>?_) (λhxw=>?_)
   ·exact yes (k (hxw▸iw))
   ·exact no (λdd=>Z1 (hxw.symm.trans (ai (iw.symm.trans (k' dd)))) (ca:¬true=J)) λn Q X q=>Ip F W hx hxw hw q) λh=>no (λdd=>ao (inn (qt F.pl (k' dd))) h) λn Q X q=>Aw F W h q
 induction dw with
 |send lv=>exact wk (by decide) (λh=>.send h lv) λh=>(h.inv.1 rfl).1
 |work=>exact wk (by decide) .work λh=>h.inv.2.1 rfl
 |@fail m=>exact key (m:=m) (λk x hx en=>yes (.fail (F.en▸en▸cQ.mpr (aG k ((gH F).2.2.2 k (cq hx)) U)))) λh=>no (λdd=>ao (inn (dd.inv.2.2 rfl)) h) λn Q X q=>Aw F W h q
inductive GW(σ:Ad)(G0:List (Nat×O))(b:Nat)(ns:List Nd)(nm:Nat->Nm)(xs:List V)(res:Option Nat)(hall rv:V)(its:List Nat)(ρ:Fm)(H:AH):Prop
 |mk (p:Nat) (A T:Ab) (o4 o5:Option V):ρ=[Z hall,Z rv,Z (.ref (b+3)),Z (ni p),o4,o5]->its=(aX xs.length).drop p->Mw G0 b ns nm A T H->Rw (dF ns nm) (bd ns nm 7 0) (Dd (dF ns nm) σ) xs p A res->p<=xs.length->p<=A.ev.length->(A.ev.map Evt.v).take p=xs.take p->GW σ G0 b ns nm xs res hall rv its ρ H
theorem Jm(F:Fx (jz B (bd ns nm 7 0) e) G0 ns nm r o)(nd:∀w,((dF ns nm).kd w).Nodup)(hw:Hz G0 H)(lx:Lx G0 rv xs)(rw0:Rw (dF ns nm) (bd ns nm 7 0) (Dd (dF ns nm) (jz B (bd ns nm 7 0) e)) xs 0 (a0 (bd ns nm 7 0)) res)(hx:∀x∈xs,Rx x)(hc:mq xs<=102)(hl:xs.length<=810009)(q:∀H',Hz G0 H'->Q (oV res) H'):aO PL (n+7) 46 [cz r ns nm o,rv] H Q X:=by
 haveI pn:=F.t.plan F.n;haveI en:(jz B (bd ns nm 7 0) e).names=nms 7 (bd ns nm 7 0):=gr;refine cu F.t.tr.top λx0 h0 _ _=>?_;haveI e0:aq (bd ns nm 7 0)=nm 0:=jp h0;have hg:∀{T H'},WX G0 H.length ns.length nm T [] H'->∀p∈G0,H'[p.1]? =Z p.2:=λw p hp=>Hz.at w (aR _ hp);refine cf U U (eR (gV (ah U) (f25 F hw λT0 H1 w1 e1=>⟨bV U,br am (bV U) ?_⟩)));haveI hl':xs.length<=aB:=aa hl (by decide);refine fV (GW (jz B (bd ns nm 7 0) e) G0 H.length ns nm xs res (cz r ns nm o) rv) (bK (bK (ah U) (lx.len (hg w1))) (gc ⟨bA (by decide) (bp _),bA (b7.mpr hl) (by decide)⟩)) (λ_ _ _ _=>Z4 Z p5) (aZ▸hl')
  (.mk 0 (a0 (bd ns nm 7 0)) T0 Z6 Z6 U U ⟨w1,?_,OE pn⟩ rw0 (aU _) (aU _) U) (λk its ρ' H' hI K' hK=>hI.rec λp A T o4 o5 eρ ei M w lp la tk=>?_) λρ' H' hI=>hI.rec λp A T o4 o5 eρ ei M w lp la tk=>?_
 ·rw [e1,en];exact sm0
 ·subst eρ;have hp:=Nat.lt_of_not_le λh=>by rw [n6 (by rw [aZ];exact h)]at ei;exact jy _ _ ei
  simp only [lV (by rw [aZ];exact hp),rK]at ei;haveI ek:=(iG ei).1;haveI ei:=(iG ei).2;clear lp hI;subst ek;have hy:=az hp;generalize hyy:xs[k]=y at hy;have ry:=hx y (aI hy);have alk:∀{A T:Ab} {o5:Option V} {H':AH},Mw G0 H.length ns nm A T H'->Rw (dF ns nm) (bd ns nm 7 0) (Dd (dF ns nm) (jz B (bd ns nm 7 0) e)) xs k A res->k<A.ev.length->(A.ev.map Evt.v).take k=xs.take k->
   bk PL (aO PL (n+6)) [.ite (.p J .not [.call 47 [.p J .i [.v 1,.v 4],.p J .i [.p J .i [.v 2,.c (.str ['r','o','w','s'])],.v 3]]]) [.ret (.v 4)] [],.a 3 (.p J (.bop .add) [.v 3,.c (.int 1)])] [Z (cz r ns nm o),Z rv,Z (.ref (H.length+3)),Z (ni k),Z (ni k),o5] H' K' Q (λ_ _=>False):=λ{A T o5 H'} M w la tk=>by
    haveI hz:=az la;generalize hzz:A.ev[k]=z at hz;haveI ok:=M.gh.gi.ok z (aI hz);have ev:Ev PL (aO PL (n+6)) [Z (cz r ns nm o),Z rv,Z (.ref (H.length+3)),Z (ni k),Z (ni k),o5] H' (λ_ _=>False) (.p J .not [.call 47 [.p J .i [.v 1,.v 4],.p J .i [.p J .i [.v 2,.c (.str ['r','o','w','s'])],.v 3]]]) (.bool (!xJ y z.v)):=bZ (gb (ay (ah U) (ah U) (lx.it (hg M.w) hy)) (ay (gN M.w U U) (ah U) (gY (M.w.at 5 rfl) (by rw [aV,M.sm.ev,hz];rfl))) λQ q=>Er ry ok q);refine(w.inn hz).elim (λh=>Z1 h.1 (dk hp)) λh=>h.elim (λh=>cu h λx hx ne er=>?_) λh=>?_
    ·haveI exy:=ai (hx.symm.trans hy)
     (replace exy:=YO exy;subst exy)
     exact bT (cc ev (by rw [Dy ne];rfl)) (bg (ah U) (by haveI z:=q H' M.w.drop;rw [er]at z;exact z))
    ·haveI exy:=ai (h.1.symm.trans hy);clear ry hyy hy;subst exy;refine cj (cc ev (by rw [yi];rfl)) (br (av U) (bV U) (fA (hK _ _ (.mk (k+1) A T _ _ U ei M h.2 hp la ?_))));simp only [ji h.1,ji (x:=z.v) (by rw [aV,hz];rfl),tk]
  have lnE:∀{o4 o5:Option V},Ev PL (aO PL (n+6)) [Z (cz r ns nm o),Z rv,Z (.ref (H.length+3)),Z (ni k),o4,o5] H' (λ_ _=>False) (.p J (.cop .eq) [.v 3,.p J .len [.p J .i [.v 2,.c (.str ['r','o','w','s'])]]]) (.bool (fZ (ni k) (ni A.ev.length))):=ay (ah U) (bK (gN M.w U U) (fJ (M.w.at 5 rfl))) ((gq d0 d0).trans (by rw [aj,M.sm.ev]));refine(lg la).elim (λe2=>?_) λlt=>?_
  ·haveI yn:fZ (ni k) (ni A.ev.length)=Z5:=by rw [<-e2];exact gT (.int _) U
   refine bT (cc lnE (Z4 V.bool yn)) ?_;have tk2:A.ev.map Evt.v=xs.take k:=by rw [<-tk,gM (by rw [aj];exact ak e2.symm)]
   have rt:res=Z k->Q (ni k) H':=λer=>by haveI z:=q H' M.w.drop;rw [er]at z;exact z
   have run:(∀d,Dw d y->∃t:Bool,CanX (jz B (bd ns nm 7 0) e) ns nm r o H.length A H' d t):=λd dw=>IX F M.w M.sm M.gh.gi dw;have tst:∀{d:V} {t:Bool},Dw d y->CanX (jz B (bd ns nm 7 0) e) ns nm r o H.length A H' d t->Ev PL (aO PL (n+6)) [Z (cz r ns nm o),Z rv,Z (.ref (H.length+3)),Z (ni k),Z (ni k),Z d] H' (λ_ _=>False) (.or (.p J (.cop (.is 0)) [.v 5,.c .none]) (.p J .not [.call 35 [.v 0,.v 2,.v 5]])) (.bool (!t)):=λ{d t} dw c=>dB (s:=J) (by refine dw.tup.elim λvs ed=>?_;(replace ed:=YO ed;subst ed);exact av U) λ_=>bZ (io (ah U) (ah U) (ah U) λQ q=>c.run (n+5) Q _ q);refine(w.out e2).elim (λh=>Z1 h.1 (fq hp)) λh=>h.elim (λh=>cu h λy' hy' no er=>?_) λh=>hU h λd y' B' hy' dw hd hc' g w2=>?_
   ·haveI exy:=ai (hy'.symm.trans hy);subst exy;refine eR (gV (ay (ah U) (ah U) (lx.it (hg M.w) hy)) (G6 ry (λd dw=>⟨bV U,?_⟩) λ_=>⟨bV U,bT (av U) (bg (av U) (rt er))⟩));refine(run d dw).elim λt c=>?_
    induction t with
    |false=>exact bT (tst dw c) (bg (ah U) (rt er))
    |true=>exact Z1 ((no d dw (c.yes U).1).symm.trans (e0▸(c.yes U).2)) ae
   ·haveI exy:=ai (hy'.symm.trans hy);clear hy';(replace exy:=YO exy;subst exy);refine eR (gV (ay (ah U) (ah U) (lx.it (hg M.w) hy)) (G6 ry (λd' dw'=>⟨bV U,?_⟩) λh=>Z1 dw (h d)));haveI ed:=dw.det dw';clear dw';subst ed;refine(run d dw).elim λt c=>?_
    induction t with
    |false=>exact Z1 ((c.no U hd).symm.trans (e0▸hc')) ae
    |true=>
     haveI eL:A.lt<=109:=by rw [<-M.gh.kn.c,tk2];exact aa qR (aa hc (by decide))
     haveI lA:=e2▸aa (fW hp) hl;refine cj (tst dw c) (d8 (kj (ah U) (ah U) (ah U) (M.did F hd hc' eL (aa (aK lA _) (by decide)) (λha=>aa (aK (aa ha (aK lA _)) _) (by decide)) λA' T' H2 M' g'=>?_)));haveI eB:=g'.de.det nd g.de;clear g;subst eB;refine di (g'.de.row hd) λx tl ex dr=>alk M' w2 ?_ ?_
     ·simp only [ex,af,e2];exact DQ (tO _)
     ·rw [ex,aN,vK (by rw [aj];exact la),tk]
  ·refine cj (cc lnE (Z4 V.bool (beq_false_of_ne λz=>dk lt (dX z)))) (alk M w lt tk)
 ·subst eρ;have hp:=dR λh=>by rw [lV (by rw [aZ];exact h)]at ei;exact jy _ _ ei.symm
  have hp:=fT lp hp;clear tk lp hI ei;subst hp;have no:∀{y:V} {G:Prop},xs[xs.length]? =Z y->G:=λh=>Z1 (cq h) (cZ _);haveI ltE:Ev PL (aO PL (n+6)) [Z (cz r ns nm o),Z rv,Z (.ref (H.length+3)),Z (ni xs.length),o4,o5] H' X (.p J (.cop .lt) [.v 3,.p J .len [.p J .i [.v 2,.c (.str ['r','o','w','s'])]]]) (.bool (decide ((xs.length:Int)<A.ev.length))):=ay (ah U) (bK (gN M.w U U) (fJ (M.w.at 5 rfl))) (nH.trans (by rw [aj,M.sm.ev]));refine(lg la).elim (λe2=>?_) λlt=>?_
  ·refine (w.out e2).elim (λh=>?_) λh=>h.elim (λh=>cu h λy' hy' _ _=>no hy') λh=>hU h λd y' B' hy' _ _ _ _ _=>no hy';refine cj (cc ltE (Z4 V.bool (decide_eq_false (e2▸Int.lt_irrefl _)))) (bg am (by have z:=q H' M.w.drop;rw [h.2]at z;exact z))
  ·refine (w.inn (az lt)).elim (λh=>?_) λh=>h.elim (λh=>cu h λy' hy' _ _=>no hy') λh=>no h.1;refine bT (cc ltE (Z4 V.bool (decide_eq_true (b9.mpr lt)))) (bg (bK (ah U) (lx.len (hg M.w))) (by have z:=q H' M.w.drop;rw [h.2]at z;exact z))
def Ep(P:Prog)(C:Calls)(ρ:Fm)(H:AH)(X:XE)(e:Ex)(R:V->Prop):Prop:=∃v,R v/\Ev P C ρ H X e v
def D6(P:Prog)(C:Calls)(ρ:Fm)(H:AH)(X:XE)(es:List Ex)(R:V->Prop):Prop:=∃vs,(∀v∈vs,R v)/\vs.length=es.length/\NW P C ρ H X es vs
def D4(v:V):Prop:=v.data=Z5/\v.depth<=4
def T4(l:Nat)(v:V):Prop:=∃vs,v=.tup vs/\(∀v∈vs,D4 v)/\vs.length<=l
theorem Kq.refl{H:AH}:Kq H H:=λ_ _ h=>h
theorem D4.rx(h:D4 v):Rx v:=.inl ⟨h.1,aa h.2 (by decide)⟩
theorem T4.rx(h:T4 k v):Rx v:=cu h λvs e h _=>e▸.inl (haveI z:=ER h;⟨z.1,aa (aA z.2) (by decide)⟩)
theorem Aj{s:Nm}:D4 (.str s):=⟨rfl,aU _⟩
theorem j3(h:Ev P C ρ H X e v)(r:R v):Ep P C ρ H X e R:=(aG v r h)
theorem ta{R':V->Prop}(h:Ep P C ρ H X e R)(k:∀v,R v->R' v):Ep P C ρ H X e R':=h.imp λv q=>⟨k v q.1,q.2⟩
theorem p9:D6 P C ρ H X [] R:=(bQ [] qY U rY)
theorem fm(h:Ep P C ρ H X e R)(k:D6 P C ρ H X es R):D6 P C ρ H X (e::es) R:=ao h λ_ r h=>cu k λ_ rs l k=>(bQ _ (eD r rs) (Z4 (·+1) l) (jL h k))
theorem qv(h:((pe P ρ H e).any λv=>V.datas [v]&&(V.depths [v]).ble 9)=Z5):Ep P C ρ H X e Rx:=by
 refine eG (o:=pe P ρ H e) (λz=>?_) λv z=>?_
 ·rw [z]at h;exact Z1 h ae
 ·rw [z]at h;haveI h:=cP h;exact(aG v (.inl (haveI z:=vj (.head _) h.1;⟨z.1,aa z.2 (aa (aQ h.2) (by decide))⟩)) (av z))
theorem xU(h:(es.all λe=>(pe P ρ H e).any λv=>V.datas [v]&&(V.depths [v]).ble 9)=Z5):D6 P C ρ H X es Rx:=by
 induction es with
 |nil=>exact p9
 |cons e es ih=>exact fm (qv (cP h).1) (ih (cP h).2)
theorem yc{N:Nat}{z:Int}{ie:Ex}(h:D6 P C ρ H X es R)(hi:Ev P C ρ H X ie (.int z))(h0:0<N)(hN:es.length=N)(hl:es.length<=aB):Ep P C ρ H X (.p J .i [.p J .l es,.p J (.bop .mod) [ie,.c (.int N)]]) R:=cu h λvs r l h=>by
 have hb:=b9.mpr h0;haveI h1:0<=z%N:=on _ (n5 hb);haveI h2:(z%N).toNat<vs.length:=by simp only [l,hN];exact(ft h1).mpr (lf _ hb)
 exact(aG _ (r _ (jw h2)) (ay (mD h (gm (l▸hl))) (cc (ay hi am (eT hb)) (Z4 V.int (bP h1).symm)) (jS (az h2))))
theorem wJ(h:D6 P C ρ H X es D4)(hl:es.length<=99):Ep P C ρ H X (.p J .t es) (T4 es.length):=cu h λvs r l h=>(aG _ (bQ vs U r (ak l)) (mD h (fB (aa (l▸hl) (by decide)))))
theorem oq(h:Ep P C ρ H X a (T4 i))(h2:Ep P C ρ H X b (T4 k))(hk:i+k<=99):Ep P C ρ H X (.p J (.bop .add) [a,b]) (T4 (i+k)):=
 ao h λv r h=>cu r λvs e d l=>ao h2 λw r' h'=>cu r' λws e' d' l'=>by subst e;clear r';subst e';exact haveI z:=bD l l';(aG _ (bQ (vs++ws) U (bR d d') (af▸z)) (ay h h' (xL (aa z (aa hk (by decide))))))
theorem Du{α:Type}{l:List α}{a b:Nat}{x:α}(h:x∈bE l a b):x∈l:=jX (ig h)
theorem M2{α:Type}{l:List α}{a b:Nat}:(bE l a b).length<=l.length:=by exact YP dg (YP dh (aa (dy _ _) (fE _ _)))
theorem MD{lo hi:V}{s t:Option Int}(h:Ev P C ρ H X a (.tup us))(du:∀v∈us,D4 v)(lu:us.length<=4)(h1:gA lo=Z s)(h2:gA hi=Z t):Ep P C ρ H X (.p J .slice [a,.c lo,.c hi]) (T4 4):=by refine(aG _ (bQ (bE us (nB us.length s) (oZ us.length t)) U (λv hv=>du v (Du hv)) (aa M2 lu)) (fR h am am (?_:((gA lo).bind λlo=>(gA hi).bind λhi=>(sL H (.tup us) lo hi).map (·,H))=_)));simp only [h1,h2];exact Z4 (bX _) (Z3 (aa lu (by decide)))
theorem L1(h:Ep P C ρ H X e R)(q:∀v,R v->Q v H):bk P C (.ret e::ss) ρ H K Q X:=ao h λv r h=>bg h (q v r)
theorem Ms(h:D6 P C ρ H X es R)(N:Nat)(eN:es.length=N)(hl:N<=99)(hi:i<ρ.length)(k:∀vs,(∀v∈vs,R v)->vs.length=N->bk P C ss (ρ.set i (Z (.lst vs))) H K Q X):bk P C (.a i (.p J .l es)::ss) ρ H K Q X:=cu h λvs r l h=>haveI l:=l.trans eN;br (mD h (gm (aa (l▸hl) (by decide)))) hi (k vs r l)
theorem Hi(hv:ρ[i]? =Z (Z (.lst us)))(hu:us.length<=99)(h:D6 P C ρ H X es R)(N:Nat)(eN:es.length=N)(hl:N<=99)(hi:i<ρ.length)(k:∀vs,(∀v∈vs,R v)->vs.length=N->bk P C ss (ρ.set i (Z (.lst (us++vs)))) H K Q X):bk P C (.a i (.p J (.bop .add) [.v i,.p J .l es])::ss) ρ H K Q X:=cu h λvs r l h=>haveI l:=l.trans eN;br (ay (ah hv) (mD h (gm (aa (l▸hl) (by decide)))) (i8 (aa (bD hu (l▸hl)) (by decide)))) hi (k vs r l)
def Am(P:Prog)(H:AH)(x:V)(us:List V):Prop:=∀vs,us.length+vs.length<=aB->bj P Z5 (.bop .add) [x,.lst vs] H=Z (.ref H.length,H++[.list (us++vs)])
theorem Pg:Am P H (.lst us) us:=λvs h=>by refine(?_:(((if us.length+vs.length<=aB then Z (V.lst (us++vs))else Z6).map (·,H)).bind λr=>kF r.1 r.2)=_);exact YP (Z3 h) U
theorem Qc(hr:H[i]? =Z (.list us)):Am P H (.ref i) us:=λvs h=>by refine(?_:((((H[i]?.bind O.lst).bind λxs=>if xs.length+vs.length<=aB then Z (V.lst (xs++vs))else Z6).map (·,H)).bind λr=>kF r.1 r.2)=_);refine YP hr ((?_:(((if us.length+vs.length<=aB then Z (V.lst (us++vs))else Z6).map (·,H)).bind λr=>kF r.1 r.2)=_));exact YP (Z3 h) U
theorem J6{t:Mt}{mu:Bool}(ho:Ev P C ρ H X a x)(ht:lF H x t=Z5)(e:bj P mu p [x] H=Z (y,H)):Ev P C ρ H X (.n t mu p a []) y:=λ_ q=>ho _ ⟨ht,hE e q⟩
theorem Nc(k:cW P C a ρ H (λu H'=>cW P C b ρ H' (λw H''=>iT (bj P Z5 p [u,w] H'') Q) X) X):cW P C (.p Z5 p [a,b]) ρ H Q X:=k
theorem Ha(hv:ρ[i]? =Z (Z x))(hx:Am P H x us)(hu:us.length<=99)(h:D6 P C ρ H X es R)(N:Nat)(eN:es.length=N)(hl:N<=99)(hi:i<ρ.length)(k:∀vs,(∀v∈vs,R v)->vs.length=N->bk P C ss (ρ.set i (Z (.ref H.length))) (H++[.list (us++vs)]) K Q X):bk P C (.a i (.p Z5 (.bop .add) [.v i,.p J .l es])::ss) ρ H K Q X:=cu h λvs r l h=>haveI l:=l.trans eN;eR (Nc (ah hv _ (mD h (gm (aa (l▸hl) (by decide))) _ (hE (hx vs (aa (bD hu (l▸hl)) (by decide))) ⟨hi,k vs r l⟩))))
theorem Cw(hv:ρ[i]? =Z (Z (.ref B.length)))(hu:us.length<=99)(h:Ep P C ρ (B++[.list us]) X e R)(k:∀v,R v->bk P C ss ρ (B++[.list (us++[v])]) K Q X):bk P C (.e (.n .list J .append (.v i) [e])::ss) ρ (B++[.list us]) K Q X:=ao h λv r h=>by refine kG (ah hv) (fo fU) h (hE (fL fU (aa hu (by decide))) ?_);rw [jr _ _ (aM _),oj];exact k v r
structure Rr(w m:Nm)(t:List V):Prop where
 lw:(w.all λc=>decide (c.toNat<128))=Z5/\w.length<=aB
 lm:m.length<=8
 d:∀v∈t,D4 v
 l:t.length<=2
 i:t=[]\/∃k t',t=.int k::t'/\bY k=Z5
theorem MW(R:Rr w m t)(q:∀x H',Rx x->Kq H H'->Q x H'):aO PL (n+1) 43 [.tup (.str w::.str m::t),.int a,.int c] H Q X:=by
 have du:∀v∈V.str w::.str m::t,D4 v:=eD Aj (eD Aj R.d);have lu:=aA (aA R.l);have q0:∀{k} x,T4 k x->Q x H:=λx h=>q x H h.rx .refl;have i0:∀{C ρ X H},Ev PL C (Z (.tup (.str w::.str m::t))::ρ) H X (.p J .i [.v 0,.c (.int 0)]) (.str w):=ay (ah U) am (g8 U);have i1:∀{C ρ X H},Ev PL C (Z (.tup (.str w::.str m::t))::ρ) H X (.p J .i [.v 0,.c (.int 1)]) (.str m):=ay (ah U) am (g8 U);haveI up:∀{H:AH},bj PL J .upper [.str w] H=Z (.str (w.map mQ),H):=λ{H}=>Z3 R.lw;haveI cs:∀{C ρ X H v},D4 v->Ep PL C ρ H X (.c v) D4:=λh=>j3 am h;have sl:∀{C ρ X H} {lo hi:V} {s u:Option Int},gA lo=Z s->gA hi=Z u->Ep PL C (Z (.tup (.str w::.str m::t))::ρ) H X (.p J .slice [.v 0,.c lo,.c hi]) (T4 4):=λh1 h2=>MD (ah U) du lu h1 h2;refine cf U U (bS (av U) (λ_=>?_) λ_=>?_)
 ·exact L1 (oq (wJ (fm (j3 i0 Aj) (fm (yc (fm (cs Aj) (fm (cs Aj) (fm (j3 (ay i1 am (kJ (aa (aK R.lm _) (show 9<=aB by decide)))) Aj) (fm (j3 (fR i1 am am (p4 (aa R.lm (by decide)))) Aj) (fm (cs Aj) (fm (cs Aj) p9)))))) (ah U) (by decide) U (by decide)) p9)) (by decide)) (sl U U) (by decide)) q0
 refine bS (cg (av U) λ_=>ay (av U) am oP) (λz=>?_) λ_=>?_
 ·refine R.i.elim (λe=>?_) λe=>di e λk t' et sk=>?_
  ·clear sl lu i1 i0 du R;subst e;exact Z1 (cP z).2 ae
  haveI i2:∀{C ρ X H},Ev PL C (Z (.tup (.str w::.str m::t))::ρ) H X (.p J .i [.v 0,.c (.int 2)]) (.int k):=ay (ah U) am (g8 (by refine YP et ?_;rfl));have dn:∀{i:Int},D4 (.int i):=⟨rfl,aU _⟩;refine L1 (oq (oq (sl U U) (wJ (fm (yc (fm (j3 (ay i2 am gO) dn) (fm (j3 (ay i2 am tv) dn) (fm (cs ⟨rfl,aU _⟩) (fm (j3 (bK i2 (?_:bj PL J .str [.int k] H=Z (.str (t7 k),H))) Aj) (fm (cs dn) p9))))) (ah U) (by decide) U (by decide)) p9) (by decide)) (by decide)) (sl U U) (by decide)) q0;refine(?_:((if bY k=Z5 then Z (V.str (t7 k))else Z6).map (·,H))=_);exact YP (Z3 sk) U
 refine br i1 (bV U) (Ms (fm (qv U) (fm (qv U) (fm (j3 (ay am (ah U) (kJ (aa (aH R.lm _) (show 13<=aB by decide)))) Aj.rx) (xU U)))) 8 rfl (by decide) (bV U) λv1 r1 l1=>Hi U (by refine YP l1 ?_;decide) (fm (qv U) (fm (qv U) (fm (qv U) (fm (qv U) (fm (qv U) (fm (qv U) (fm (j3 (mD rY U) (.inr U)) p9))))))) 7 rfl (by decide) (bV U) λv2 r2 l2=>?_);refine Hi U (by refine YP af (YP l1 (YP l2 ?_));decide) (xU U) 4 rfl (by decide) (bV U) λv3 r3 l3=>Ha U Pg (by simp only [af,af,l1,l2,l3];decide) (xU U) 4 rfl (by decide) (bV U) λv4 r4 l4=>Cw U (by simp only [af,af,af,l1,l2,l3,l4];decide) (qv U) λx5 r5=>?_;haveI ra:=bR (bR (bR (bR r1 r2) r3) r4) (c8 r5);have la:(v1++v2++v3++v4++[x5]).length=24:=by simp only [af,af,af,af,l1,l2,l3,l4];rfl
 generalize v1++v2++v3++v4++[x5]=va at ra la;refine Ha U (Qc fU) (by refine YP la ?_;decide) (fm (ta (oq (k:=1) (j3 (ah U) (bQ _ U du lu)) (j3 (av U) (bQ _ U (c8 ⟨rfl,aU _⟩) (aM _))) (by decide)) λ_ h=>h.rx) (fm (ta (sl U U) λ_ h=>h.rx) (fm (ta (oq (wJ (fm (j3 (J6 i0 U up) Aj) p9) (by decide)) (sl U U) (by decide)) λ_ h=>h.rx) (xU U)))) 4 rfl (by decide) (bV U) λv6 r6 l6=>(Cw U (by refine YP af (YP la (YP l6 ?_));decide) (qv U) λx7 r7=>Cw U (by simp only [af,af,la,l6];exact(by decide:29<=99)) (ta (oq (k:=1) (sl U U) (j3 (av U) (bQ _ U (c8 ⟨rfl,aQ U⟩) (aM _))) (by decide)) λ_ h=>h.rx) λx8 r8=>?_);haveI rb:=bR (bR (bR ra r6) (c8 r7)) (c8 r8);have lb:(va++v6++[x7]++[x8]).length=30:=by simp only [af,af,af,la,l6];rfl
 generalize va++v6++[x7]++[x8]=vb at rb lb;have hb:(0:Int)<30:=by decide
 haveI h1:0<=c%30:=on _ (by decide);haveI h2:(c%30).toNat<vb.length:=by simp only [lb];exact(ft h1).mpr (lf _ hb)
 exact bg (ay (ah U) (cc (ay (ah U) am (eT hb)) (Z4 V.int (bP h1).symm)) (gY fU (az h2))) (q _ _ (rb _ (jw h2)) λi o h=>dT (dT h))
section
variable {l:List V}{e:Evt}
theorem AK(h:p<=n):g9 n (p:Int)=p:=by
 unfold g9;refine YP (Z2 (cU.mpr (bp p))) ?_;by_cases z:(p:Int)<n
 ·exact YP (Z3 z) U
 ·exact (Z2 z).trans (fT (dR λk=>z (b9.mpr k)) h)
theorem MJ{lo hi:V}{s u:Option Int}(h:H[i]? =Z (.list l))(hl:l.length<=aB)(h1:gA lo=Z s)(h2:gA hi=Z u):bj P J .slice [.ref i,lo,hi] H=Z (.lst (bE l (nB l.length s) (oZ l.length u)),H):=by refine(?_:((gA lo).bind λlo=>(gA hi).bind λhi=>((H[i]?.bind O.lst).bind λs=>if s.length<=aB then Z (V.lst (bE s (nB s.length lo) (oZ s.length hi)))else Z6).map (·,H))=_);simp only [h1,h2,h];exact Z4 (bX _) (Z3 hl)
theorem qD(h:H[i]? =Z (.list l))(hl:l.length<=aB)(hp:p<=l.length):bj P J .slice [.ref i,.none,ni p] H=Z (.lst (l.take p),H):=(MJ h hl U U).trans (by refine Z4 (λt=>Z (V.lst t,H)) (?_:(l.take (g9 l.length p)).drop 0=_);exact YP (AK hp) U)
theorem ww(h:H[i]? =Z (.list l))(hl:l.length<=aB)(hp:p<=l.length):bj P J .slice [.ref i,ni p,.none] H=Z (.lst (l.drop p),H):=(MJ h hl U U).trans (by refine Z4 (λt=>Z (V.lst t,H)) (?_:(l.take l.length).drop (g9 l.length p)=_);simp only [AK hp,gy])
theorem Ki{m:List V}:mq m<=m.length:=dH _ _
theorem Cb(h:p<=q):mq (l.drop q)<=mq (l.drop p):=by haveI e:l.drop q=(l.drop p).drop (q-p):=YP (List.drop_drop) (YP (gu h) U);refine YP e (aa (bG _ (mq ((l.drop p).take (q-p)))) (ak ?_));rw [<-jG,oL]
structure Mid(l xs:List V):Prop where
 r:∀x∈xs,Rx x
 c:mq xs<=mq l+2
 n:xs.length<=l.length+2
theorem BB{m:List V}(hl:∀x∈l,Rx x)(h:p<=q)(hm:m.length<=2)(hr:∀x∈m,Rx x):Mid l (l.take p++m++l.drop q) where
 r:=bR (bR (λx hx=>hl x (jX hx)) hr) λx hx=>hl x (ig hx)
 c:=by
  refine YP jG (YP jG ?_);haveI z:mq (l.take p)+mq (l.drop p)=mq l:=by rw [<-jG,oL]
  haveI y:=Cb (l:=l) h;haveI x:=aa Ki hm;exact aa (bD (aH x _) y) (by rw [bJ,z];exact aM _)
 n:=by
  simp only [af,af,dh,dg];refine aa (aK (aH hm _) _) ?_;rw [bJ];refine aK ?_ 2;refine(Nat.le_total p l.length).elim (λk=>?_) λk=>?_
  ·exact YP (Nat.min_eq_left k) (aa (aH (Nat.sub_le_sub_left h _) _) (ak (gu k)))
  ·exact YP (Nat.min_eq_right k) (YP (HL (aa k h)) (aM _))
theorem L2(pl:Pl π σ)(ok:e.ok π)(hn:∀k,e.num=Z k->k<=1000):∃w m t,e.v=.tup (.str w::.str m::t)/\Rr w m t:=by
 have lm:=(pl.ok _ (pl.nm _ (NB ok))).2.1;have sk:∀{k:Nat},e.num=Z k->bY k=Z5:=λh=>decide_eq_true (zN (hn _ h));haveI d2:∀{i:Int},D4 (.int i):=⟨rfl,aU _⟩;clear hn;induction e with
 |beg _|end_ _|fail _|leave _=>exact(ly _ _ [] U ⟨by decide,lm,qY,aU _,.inl U⟩)
 |works _ k|lost _ k=>exact(ly _ _ [.int k] U ⟨by decide,lm,c8 d2,aQ U,.inr (gp _ _ U (sk U))⟩)
 |sent _ k l=>refine(ly _ _ [.int k,l] U ⟨by decide,lm,eD d2 (c8 ?_),aM _,.inr (gp _ _ U (sk U))⟩);cases ok.2<;>exact⟨rfl,aQ U⟩
theorem NC:g9 n 1<=1:=by
 unfold g9;by_cases z:(1:Int)<n
 ·exact YP (Z3 z) (aM _)
 ·exact YP (Z2 z) (dR λk=>z (b9.mpr k))
end
section
variable {es:List Evt}
theorem Ot{l:List V}(h:∀x∈l,Rx x):Mid l l:=⟨h,ax _ _,ax _ _⟩
theorem Mp(pl:Pl π σ)(ok:∀e∈es,e.ok π)(hn:∀e∈es,∀k,e.num=Z k->k<=1000)(hi:H[i]? =Z (.list (es.map Evt.v)))(hl:es.length<=810000)(q:∀rv xs H',Kq H H'->(rv=.lst xs\/rv=.ref i/\xs=es.map Evt.v)->Mid (es.map Evt.v) xs->Q rv H'):aO PL (n+2) 44 [.ref i,.int c,.int m] H Q X:=by
 have rx:∀x∈es.map Evt.v,Rx x:=λx hx=>.inl (haveI z:=B7 ok x hx;⟨z.1,aa z.2 (by decide)⟩);have rr:∀{p x},(es.map Evt.v)[p]? =Z x->∃w m t,x=V.tup (.str w::.str m::t)/\Rr w m t:=λh=>ao (cL (aI h)) λe he z=>z▸L2 pl (ok e he) (hn e he);have rd0:rd H (.ref i)=Z (.lst (es.map Evt.v)):=by refine(?_:(H[i]?.bind O.lst).bind _=_);exact(hi)▸Z3 (Kg (B7 ok))
 have hl:(es.map Evt.v).length<=810000:=aa (ak (aj _)) hl;generalize es.map Evt.v=l at hi rx rr rd0 hl q;have hz:l.length<=aB:=aa hl (by decide);have qm:∀{p q':Nat} {mid ys zs:List V} {H'},ys++zs=l.take p++mid++l.drop q'->p<=q'->mid.length<=2->(∀x∈mid,Rx x)->Kq H H'->iT (bj PL J (.bop .add) [.lst ys,.lst zs] H') Q:=λ{p q' mid ys zs H'} e h1 h2 h3 hk=>haveI z:=BB rx h1 h2 h3;hE (i8 (YP (YO af) (YP e (aa z.n (aa (aK hl 2) (by decide)))))) (e▸q _ _ H' hk (.inl U) z);refine cf U U (br (ay (ah U) am (eT (by decide))) (bV U) (bS (dB (ay (av U) (av U) (gq rd0 jQ)) λ_=>dB (av U) λ_=>ay (ah U) am oP) (λ_=>bg (ah U) (q _ l H .refl (.inr ⟨rfl,rfl⟩) (Ot rx))) λz=>?_));haveI ne:l≠[]:=λe=>by clear rd0;subst e;exact Z1 (jW.mp z).1 ca
 have pos:=b9.mpr (gw.mpr ne);haveI h1:0<=c/12%l.length:=on _ (n5 pos);have h2:=(ft h1).mpr (lf _ pos);haveI ep:=Z4 V.int (bP h1).symm;generalize (c/12%l.length).toNat=p at h2 ep;refine br (cc (ay (av U) (bK (ah U) (fJ hi)) (eT pos)) ep) (bV U) (br (fR (ah U) (av U) am (ww hi hz h2)) (bV U) ?_);haveI hp:=fW h2;refine(⟨_,az h2⟩:∃x,l[p]? =Z x).elim λx hx=>?_;haveI rx1:=rx x (aI hx);haveI an:∀{q':Nat},l.take p++[]++l.drop q'=l.take p++l.drop q':=λ{q'}=>Z4 (·++l.drop q') (aJ _);refine bS (av U) (λ_=>g7 (mB (fR (ah U) am (ah U) (qD hi hz hp) _ (ah U _ (qm an.symm (bh p) (aU _) qY .refl))))) λ_=>?_;refine bS (av U) (λ_=>g7 (mB (fR (ah U) am (av U) (qD hi hz h2) _ (fR (ah U) (ah U) am (ww hi hz hp) _ (qm (Z4 (·++l.drop p) (ji hx)) (aM p) (bh 1) (c8 rx1) .refl))))) λ_=>?_;haveI lt:(l.take p).length<=810000:=aa (YP dh (fE _ _)) hl;refine bS (av U) (λ_=>?_) λ_=>?_
 ·haveI lb:(l.drop (p+1)).length<=aB:=aa (YP dg (dy _ _)) hz;haveI b1:(bE (l.drop (p+1)) 0 (g9 (l.drop (p+1)).length 1)).length<=1:=by exact YP dg (YP dh (aa (dy _ _) (aa (xt _ _) NC)))
  refine g7 (mB (ay (ay (fR (ah U) am (ah U) (qD hi hz hp)) (fR (ah U) am am (EA lb)) (i8 (aa (bD lt b1) (by decide)))) (bK (ay (ah U) (ah U) (gY hi hx)) (gm vP)) (i8 ?_) _ (fR (ah U) am am (nD lb) _ (qm (mid:=bE (l.drop (p+1)) 0 (g9 (l.drop (p+1)).length 1)++[x]) (q':=p+1+g9 (l.drop (p+1)).length 1) ?_ (aa (bh p) (ax _ _)) ?_ (bR (λy hy=>rx y (ig (Du hy))) (c8 rx1)) .refl))))
  ·exact YP af (aa (bD (bD lt b1) (aM 1)) (by decide))
  ·rw [<-au];refine Z4 (_++·) ((?_:((l.drop (p+1)).take (l.drop (p+1)).length).drop _=_).trans List.drop_drop);exact Z4 _ gy
  ·exact YP af (aA b1)
 refine bS (av U) (λ_=>bg (fR (ah U) am (ah U) (qD hi hz hp)) (q _ _ H .refl (.inl U) ?_)) λ_=>?_
 ·haveI z:=BB rx hp (aU _) qY;simp only [an,List.drop_length,aJ]at z;exact z
 refine lR (rr hx) λw nm t et R=>?_;subst et;haveI row:∀{we:Ex} {k:Int} {ρ:Fm} {Q},ρ[0]? =Z (Z (.ref i))->ρ[4]? =Z (Z (ni p))->ρ[2]? =Z (Z (.int m))->Ev PL (aO PL (n+1)) ρ H X we (.int k)->(∀y H',Rx y->Kq H H'->Q (.lst (l.take p++[y])) H')->cW PL (aO PL (n+1)) (.p J (.bop .add) [.p J .slice [.v 0,.c .none,.v 4],.p J .l [.call 43 [.p J .i [.v 0,.v 4],we,.v 2]]]) ρ H Q X:=λa b c d h=>mB (fR (ah a) am (ah b) (qD hi hz hp) _ (p7 (kj (ay (ah a) (ah b) (gY hi hx)) d (ah c) (MW R λy H' ry hk=>hE (gm vP) (hE (i8 (aa (aK lt 1) (by decide))) (h y H' ry hk))))));refine bS (av U) (λ_=>g7 (mB (row U U U am λy H' ry hk=>fR (ah U) (ah U) am (ww (hk _ _ hi) hz hp) _ (qm U (aM p) (bh 1) (c8 ry) hk)))) λ_=>g7 (mB (row U U U (ah U) λy H' ry hk=>ah U _ (qm U (bh p) (bh 1) (c8 ry) hk)))
end
theorem fx0(t:Tree ns)(N:Nms ns.length nm)(g:GN r ns H)(ho:H[o]? =Z (.list ((sub ns 7 0).map ni))):Fx (jz H (bd ns nm 7 0) 0) (gB H) ns nm r o:=cu t.tr.top λ_ h0 _ _=>⟨t,N,λp hp=>m5 (g p hp),m5 ho,(t.plan N).pl,(gr (k:=7)).trans (t.tr.nms h0)⟩
theorem hz0:Hz (gB H) H:=⟨Hc,λ_ hp=>xf hp⟩
theorem He(t:Tr ns)(N:Nms ns.length nm)(w:Nm):((dF ns nm).kd w).Nodup:=by refine(?_:((mH ns.length nm w).elim [] λk=>(mx ns k).map nm).Nodup);refine eG (o:=mH ns.length nm w) (λz=>by exact(z)▸dA) λk z=>?_;refine YP z ((⟨_,az (nY z).2⟩:∃x,ns[k]? =Z x).elim λx hx=>?_);refine(?_:((mx ns k).map nm).Nodup);exact YP (gG hx) (mz.map nm (λ_ _ h=>h) (iH (λ{a b} ha hb hab e=>hab (N.inj a b (dM (t.inn k x hx a ha) λy hy _ _ _=>(cq hy)) (dM (t.inn k x hx b hb) λy hy _ _ _=>(cq hy)) e)) (t.lim k x hx).nd))
theorem M1:Dd π (jz B v e)=Dd π (jz B' v e'):=funext λ_=>propext ⟨λh=>h.of U,λh=>h.of U⟩
theorem Kq.trans(a:Kq H H')(b:Kq H' H''):Kq H H'':=λi o h=>b i o (a i o h)
theorem Kq.app{L:AH}:Kq H (H++L):=λ_ _ h=>dT h
theorem Kq.set{x:O}(h:Kq H H'):Kq H (H'.set H.length x):=λi o z=>by exact(bt (fq (cq z))).trans (h i o z)
def Lh(H:AH)(rv:V)(xs:List V):Prop:=rv=.lst xs\/∃i,rv=.ref i/\H[i]? =Z (.list xs)
theorem Lh.kq(h:Lh H rv xs)(k:Kq H H'):Lh H' rv xs:=h.imp id λh=>h.imp λi q=>⟨q.1,k _ _ q.2⟩
theorem Lh.view(h:Lh H rv xs):view H rv=Z xs:=h.elim (λe=>e▸rfl) λh=>ao h λi e m=>by refine YP e ?_;refine(?_:H[i]?.bind O.lst=_);exact YP m U
theorem Lh.add{ys:List V}(h:Lh H rv xs)(hl:xs.length+ys.length<=aB):bj P J (.bop .add) [rv,.lst ys] H=Z (.lst (xs++ys),H):=h.elim (λe=>e▸i8 hl) λh=>ao h λi e m=>by refine YP e ?_;refine(?_:((H[i]?.bind O.lst).bind λxs=>if xs.length+ys.length<=aB then Z (V.lst (xs++ys))else Z6).map (·,H)=_);exact YP m (Z4 (bX (·,H)) (Z3 (c:=xs.length+ys.length<=aB) hl))
theorem Lh.lst(h:Lh H rv xs)(hl:xs.length<=aB):bj P Z5 .list [rv] H=Z (.ref H.length,H++[.list xs]):=h.elim (λe=>by
  refine YP e ?_;refine(?_:((if xs.length<=aB then Z _ else Z6:Option V).map _).bind _=_);exact YP (Z3 hl) U) λh=>ao h λi e m=>by
  refine YP e ?_;refine(?_:(((H[i]?.bind O.lst).bind _).map _).bind _=_);refine YP m ?_;show((if xs.length<=aB then Z _ else Z6:Option V).map _).bind _=_;exact YP (Z3 hl) U
theorem Lh.rD{x:V}(h:Lh H rv xs)(e:rd H rv=Z x):x=.lst xs/\V.datas xs=Z5:=h.elim (λz=>by
  subst z;by_cases hd:(V.data (.lst xs)&&decide (V.depth (.lst xs)<=50))=Z5
  ·exact ⟨(ai ((Z3 hd:Fu (.lst xs)=_).symm.trans e)).symm,(cP hd).1⟩
  ·exact eU ((Z2 hd:Fu (.lst xs)=_).symm.trans e)) λh=>ao h λi z m=>by
  clear h;subst z;haveI e:((H[i]?.bind O.lst).bind λvs=>if re vs=Z5 then Z (V.lst vs)else Z6)=Z x:=e;rw [m]at e;by_cases hd:re xs=Z5
  ·exact ⟨(ai ((Z3 hd:(if re xs=Z5 then Z (V.lst xs)else Z6)=_).symm.trans e)).symm,(cP hd).1⟩
  ·exact eU ((Z2 hd:(if re xs=Z5 then Z (V.lst xs)else Z6)=_).symm.trans e)
theorem Lh.eq{rw:V}(h:Lh H rv xs)(k:Lh H rw xs)(hx:∀x∈xs,Rx x):KF H rv rw=Z Z5:=by
 haveI w:N5 H rv rw=Z Z5:=by
  unfold N5;refine YP (h.view) (YP (k.view) (Z3 ⟨rfl,bw.mpr λp hp=>?_⟩));refine ao (List.mem_iff_getElem?.mp hp|>.imp λj q=>Al.mp q) λj h1 h2=>?_;have e:=ai (h1.symm.trans h2);refine(hx p.1 (aI h1)).elim (λd=>iA.mpr (.inr ?_)) λd=>iA.mpr (.inl ?_)
  ·haveI r:Fu p.1=Z p.1:=Z3 (cn.mpr ⟨d.1,decide_eq_true (aa d.2 (by decide))⟩);simp only [<-e,r,gT _ d.1];rfl
  ·exact YP (YO e) (YP d U)
 unfold KF;refine YP w (eG (o:=(rd H rv).bind λx=>(rd H rw).map λy=>fZ x y) (λe=>by exact YP e U) λt e=>(YP e (ao (kS e) λx h1 e=>ao (jB e) λy h2 e=>?_)));haveI a:=h.rD h1;haveI b:=k.rD h2;simp only [<-e,a.1,b.1,gT (.lst xs) a.2];rfl
theorem xD(t:Tree ns)(N:Nms ns.length nm)(g:GN r ns H)(ho:H[o]? =Z (.list ((sub ns 7 0).map ni)))(lh:Lh H rv xs)(rw0:Rw (dF ns nm) (bd ns nm 7 0) (Dd (dF ns nm) (jz [] (bd ns nm 7 0) 0)) xs 0 (a0 (bd ns nm 7 0)) res)(hx:∀x∈xs,Rx x)(hc:mq xs<=102)(hl:xs.length<=810009)(q:∀H',Kq H H'->Q (oV res) H'):aO PL (n+7) 46 [cz r ns nm o,rv] H Q X:=
 Jm (fx0 t N g ho) (He t.tr N) hz0 (lh.imp id λh=>h.imp λi q=>⟨q.1,m5 q.2⟩) (M1▸rw0) hx hc hl λH' hz=>q H' λi o h=>hz.2 _ (m5 h)
section
variable {zs:List Int}
theorem Na(t:Tree ns)(N:Nms ns.length nm)(hc:mq xs<=102)(hl:xs.length<=810009):∃r,Rw (dF ns nm) (bd ns nm 7 0) (Dd (dF ns nm) (jz [] (bd ns nm 7 0) 0)) xs 0 (a0 (bd ns nm 7 0)) r:=
 uN (aU _) (aU _) U λh1 h2=>MN (t.plan N) (aa (aK hl _) (by decide)) hc (OE (t.plan N)) h1 h2
theorem M4{P:Prog}{C:Calls}{ρ:Fm}{a b c:Ex}{f:Nat}(k:cW P C a ρ H (λx H'=>cW P C b ρ H' (λy H''=>cW P C c ρ H'' (λz H3=>C f [x,y,z] H3 Q X) X) X) X):cW P C (.call f [a,b,c]) ρ H Q X:=k
theorem AY{P:Prog}{C:Calls}{ρ:Fm}{a b:Ex}{f:Nat}(k:cW P C a ρ H (λx H'=>cW P C b ρ H' (λy H''=>C f [x,y] H'' Q X) X) X):cW P C (.call f [a,b]) ρ H Q X:=k
theorem HN{P:Prog}{C:Calls}{ρ:Fm}{a b:Ex}(k:cW P C a ρ H (λv H'=>o9 (gF v) λt=>if !t then cW P C b ρ H' Q X else Q (.bool t) H') X):cW P C (.or a b) ρ H Q X:=k
theorem Ih{P:Prog}{C:Calls}{ρ:Fm}{a b:Ex}(k:cW P C a ρ H (λv H'=>o9 (gF v) λt=>if t then cW P C b ρ H' Q X else Q (.bool t) H') X):cW P C (.and a b) ρ H Q X:=k
theorem Ii{P:Prog}{C:Calls}{ρ:Fm}{a:Ex}{x:V}{t:Mt}{mu:Bool}{p:Prim}{ss:List St}{K:KS}{R:QE}(ho:Ev P C ρ H X a x)(ht:lF H x t=Z5)(k:iT (bj P mu p [x] H) λ_ H'=>bk P C ss ρ H' K R X):bk P C (.e (.n t mu p a [])::ss) ρ H K R X:=d8 (ho _ ⟨ht,k⟩)
theorem Lw(hz:zs.length<=63)(q:∀H',Q (.bool Z5) H'):aO PL (n+41) 50 [.lst (zs.map V.int)] H Q X:=by
 haveI cel:∀{ρ:Fm} {H X} {i:Int},0<=i->ρ[0]? =Z (Z (.lst (zs.map V.int)))->Ev PL (aO PL (n+40)) ρ H X (.call 16 [.v 0,.c (.int i)]) (.int (zs.getD i.toNat 0)):=λhi h=>gb (ah h) am λQ q=>Ly hi q;refine cf U U (eR (gV (ah U) (f19 λns nm o H1 t N g ho=>⟨bV U,?_⟩)));generalize H.length+2=r at g ⊢;have nd:=He t.tr N;have pn:=t.plan N;refine eR (M4 (mB (dm (ah U) (ah U) (Qg (fx0 t N g ho) hz0 hz λA T H2 M hL hb=>am _ (hE (jM (M.w.at 3 rfl) U) (cel (by decide) U _ (cel (by decide) U _ ?_)))))));haveI k2:Kq H1 H2:=λi o h=>Hz.at M.w (aR _ (m5 h));haveI kn:=M.gh.kn;haveI cA:mq (A.ev.map Evt.v)<=100:=YP (kn.c) hL;refine Mp (σ:=jz [] (bd ns nm 7 0) 0) pn.pl M.gh.gi.ok (λe he k hk=>aa (kn.e e he k hk) (aa hL (by decide))) ((M.w.at 5 rfl).trans (YP (M.sm.ev) U)) hb λrv xs H3 k3 lx md=>⟨bV U,?_⟩;have hc:=aa md.c (aK cA 2);have hl:=aa md.n (aK (aa (ak (aj _)) hb) 2);have lh:Lh H3 rv xs:=lx.imp id λh=>(aG _ h.1 (by exact YP (h.2) (k3 _ _ ((M.w.at 5 rfl).trans (YP (M.sm.ev) U)))));have hx:=md.r;have k3:=k2.trans k3;have sz:xs.length<=aB:=aa hl (by decide);have hl9:xs.length<=810009:=aa hl (by decide);haveI fl:∀x∈[V.tup [.str ['f','a','i','l','s'],.str (nm 0)]],Rx x:=c8 (.inl ⟨rfl,aQ U⟩);haveI hx2:=bR hx fl;have hc2:mq (xs++[V.tup [.str ['f','a','i','l','s'],.str (nm 0)]])<=102:=YP jG hc;have hl2:(xs++[V.tup [.str ['f','a','i','l','s'],.str (nm 0)]]).length<=810009:=YP af (aa (aK hl 1) (by decide));refine(Na t N hc hl9).elim λres rw1=>(Na t N hc2 hl2).elim λres2 rw2=>?_;have gk:∀{H'},Kq H1 H'->GN r ns H':=λk p hp=>k _ _ (g p hp);refine eR (dm (ah U) (ah U) (xD t N (gk k3) (k3 _ _ ho) lh rw1 hx hc hl9 λH4 k4=>⟨bV U,?_⟩));have lh4:=lh.kq k4;haveI k4:=k3.trans k4;refine eR (qe (ah U _ (hE (lh4.lst sz) ⟨bV U,?_⟩)));haveI pv:∀{o2 o3 o4:Option V} {H' X},Ev PL (aO PL (n+40)) [Z (.lst (zs.map V.int)),Z (cz r ns nm o),o2,o3,o4] H' X (.p J .i [.v 1,.c (.str ['p','l','a','n'])]) (bd ns nm 7 0):=ay (ah U) am U;have fv:∀{o2 o3 o4:Option V} {H' X},Ev PL (aO PL (n+40)) [Z (.lst (zs.map V.int)),Z (cz r ns nm o),o2,o3,o4] H' X (.p J .t [.c (.str ['f','a','i','l','s']),.p J .i [.p J .i [.v 1,.c (.str ['n','a','m','e','s'])],.c (.int 0)]]) (.tup [.str ['f','a','i','l','s'],.str (nm 0)]):=ay am (ay (av U) am (jn (cu t.tr.top λ_ h0 _ _=>(cq h0)))) (fB gZ);have jud:∀{H' ys rs Q},H'[H4.length]? =Z (.list ys)->Rw (dF ns nm) (bd ns nm 7 0) (Dd (dF ns nm) (jz [] (bd ns nm 7 0) 0)) ys 0 (a0 (bd ns nm 7 0)) rs->(∀x∈ys,Rx x)->mq ys<=102->ys.length<=810009->(∀H'',Kq H' H''->Q (oV rs) H'')->cW PL (aO PL (n+40)) (.call 14 [.p J .i [.v 1,.c (.str ['p','l','a','n'])],.v 4]) [Z (.lst (zs.map V.int)),Z (cz r ns nm o),Z rv,Z (oV res),Z (.ref H4.length)] H' Q X:=λa b c d e f=>dm pv (ah U) (Nj pn nd b c a d e f);refine xg (HN (p7 (AY (jud fU rw1 hx hc hl9 λH6 k6=>ah U _ (wy (hE U ?_))))));have a6:=k6 _ _ fU;have k6:=Kq.app.trans k6;have ne:bj PL J (.cop .ne) [.ref H4.length,rv] H6=Z (.bool J,H6):=by refine(?_:((KF H6 (.ref H4.length) rv).map (!·)).map (V.bool ·,H6)=_);exact YP (Lh.eq (.inr (aG _ U a6)) (lh4.kq k6) hx) U
 refine(?_:cW PL (aO PL (n+40)) (.p J (.cop .ne) [.v 4,.v 2]) [Z (.lst (zs.map V.int)),Z (cz r ns nm o),Z rv,Z (oV res),Z (.ref H4.length)] H6 _ X);refine ay (ah U) (ah U) ne _ (kG (ah U) (fo a6) fv (hE (fL a6 sz) ?_));have k7:Kq H4 (H6.set H4.length (.list (xs++[V.tup [.str ['f','a','i','l','s'],.str (nm 0)]]))):=k6.set;have a7:(H6.set H4.length (.list (xs++[V.tup [.str ['f','a','i','l','s'],.str (nm 0)]])))[H4.length]? =Z (.list (xs++[V.tup [.str ['f','a','i','l','s'],.str (nm 0)]])):=bM (cq a6);refine xg (p7 (AY (jud a7 rw2 hx2 hc2 hl2 λH8 k8=>?_)));have a8:=k8 _ _ a7;have k8:=k7.trans k8;have lh8:=lh4.kq k8;refine dm (ah U) (ay (ah U) (bK fv (gm vP)) (lh8.add (aa (aK hl 1) (by decide)))) (xD t N (gk (k4.trans k8)) ((k4.trans k8) _ _ ho) (.inl U) rw2 hx2 hc2 hl2 λH9 k9=>?_);have a9:=k9 _ _ a8;have k9:=k8.trans k9;refine wy (hE U ?_);refine Ii (ah U) (fo a9) (hE (Dh a9 (aa (aA hl) (by decide))) ?_);have k10:Kq H4 (H9.set H4.length (.list xs)):=k9.set;have a10:(H9.set H4.length (.list xs))[H4.length]? =Z (.list xs):=bM (cq a9);refine xg (p7 (AY (jud a10 rw1 hx hc hl9 λH11 k11=>ah U _ (wy (hE U ?_)))));have a11:=k11 _ _ a10;have k11:=k10.trans k11;clear jud;induction res with
 |none=>exact bg (ss:=[]) (K:=λ_ _=>True) (av U) (q H11)
 |some p=>refine g7 (ss:=[]) (K:=λ_ _=>True) (Fg (av U) (Ih (dm pv (av U) (Jy pn nd rw1 hx a11 hc hl9 λH12 k12=>?_))));refine(?_:cW PL (aO PL (n+40)) (.p J (.cop .eq) [.v 4,.v 2]) [Z (.lst (zs.map V.int)),Z (cz r ns nm o),Z rv,Z (oV (Z p)),Z (.ref H4.length)] H12 _ X);refine ay (ah U) (ah U) (?_:bj PL J (.cop .eq) [.ref H4.length,rv] H12=Z (.bool Z5,H12)) _ (q H12);refine(?_:(KF H12 (.ref H4.length) rv).map (V.bool ·,H12)=_);exact YP (Lh.eq (.inr (aG _ U (k12 _ _ a11))) (lh4.kq (k11.trans k12)) hx) U
end
end Mine
end
noncomputable section
open PySem PySem.W PyProof.Rows
set_option maxHeartbeats 8000000
namespace Mine
noncomputable def OJ:List (Str×Gl):=[("len",.bi "len"),("all",.bi "all"),("isinstance",.bi "isinstance"),("min",.bi "min"),("range",.ty "range"),("int",.ty "int"),("bool",.ty "bool"),("str",.ty "str"),("tuple",.ty "tuple"),("list",.ty "list"),("ValueError",.ty "ValueError"),("reversed",.ty "reversed")]
noncomputable def muL:List (Nat×Nat):=[(57,11),(58,12),(70,12),(91,19),(92,21),(93,21),(94,23),(95,20),(96,20),(97,22),(102,22),(109,35),(120,33),(165,36),(325,22),(325,23),(325,70),(334,35),(334,102),(339,35),(339,95),(342,17),(378,20),(378,82),(379,28),(380,28),(508,16),(510,16),(576,18)]
noncomputable def On:List (Str×V):=[("LETTERS",.str ['a','b','c','d','e','f','g','h','i','j','k','l','m','n','o','p','q','r','s','t','u','v','w','x','y','z']),("LONGEST",.int 8),("GREATEST",.int 1000000000),("MOST_NAMES",.int 60),("MOST_ABOVE",.int 6),("MOST_PARTS",.int 8)]
theorem BD{P:Params}{h:Heap}{l:ZZ}{vs:List ZX}{xs:List ZR}(w1:Well P h (.ref l) (ofPy (.list xs)))(hL:h.IsList l vs.toArray):h.PlainList l vs.toArray:=by
 have w2:Well P h (.ref l) (.list (ofPys xs)):=w1;cases w2 with
 |list e _=>obtain⟨o,ho,_,n,hd⟩:=hL;rw [e]at ho;cases ho;cases hd;exact⟨_,e⟩
theorem Cy{a b:List YW}{cs:List (List Nat)}{h:HP}(e:a=b)(x:XSays b cs h):XSays a cs h:=e▸x
namespace walk12
variable(p:Prop)(h:p)
def tw8202261268573651193:=h
def tw15416161071059869350:=h
def tw3480615160369936853:=h
def tw13410226901620895974:=h
def tw7033553024282500268:=h
def tw18045445554459276489:=h
def tw1618146692395369896:=h
def tw4173728174644258368:=h
def tw18243102739325201384:=h
def tw9702863856025514072:=h
def tw13508039911176694100:=h
def tw5945007543073630127:=h
def tw9911213891970804097:=h
def tw14035876935241498600:=h
def tw1024442074255575795:=h
def tw63394661363448658:=h
def tw2206893521593798935:=h
def tw5255509197682597006:=h
def tw14292682489507146026:=h
def tw6988675687472295133:=h
def tw858911673358035990:=h
def tw18214041012273370048:=h
def tw7794514715692484281:=h
def tw12285240663129780713:=h
def tw4211159872719059667:=h
def tw16926826534729599363:=h
def tw6434768075375050903:=h
def tw3727797753448547559:=h
def tw8938076623186149367:=h
def tw11040448372337220606:=h
def tw17350401947326419818:=h
def tw4368061203280242223:=h
def tw13840840230736053935:=h
def tw18360212300023780803:=h
def tw1354133332956363227:=h
def tw106826528846481112:=h
def tw14057859307842187556:=h
def tw7479991603031213709:=h
def tw4908473009162167970:=h
def tw15608793528823278443:=h
def tw5889904817155157316:=h
def tw7079039190710686518:=h
def tw5535253236112951927:=h
def tw11623268522441880587:=h
def tw2814270492384129510:=h
def tw14556862387334773155:=h
def tw12398930400717119259:=h
def tw7891445447815255577:=h
def tw2997316028990187043:=h
def tw14363268886050386683:=h
def tw15494133452604198497:=h
def tw6377547820312454814:=h
def tw5937058204716112963:=h
def tw10800516672181233798:=h
def tw12424885440024022663:=h
def tw11290077495063037480:=h
def tw2166999502887592417:=h
def tw15777575388293433642:=h
def tw8567288174960624124:=h
def tw18257031533558032793:=h
def tw1231170015501882365:=h
def tw1958701713422867299:=h
def tw7734072664259087459:=h
def tw15803868663550668851:=h
def tw15398719815075924024:=h
def tw12179699456536580458:=h
def tw5165580030370119646:=h
def tw1996591336985654831:=h
def tw13798422826785428406:=h
def tw17819524925543053989:=h
def tw12524714540831762728:=h
def tw7130204930420513188:=h
def tw8584255208619244241:=h
def tw5100142916732285585:=h
def tw11393417249422838890:=h
def tw16704095830449717813:=h
def tw1741166934461306436:=h
def tw7572792602432744064:=h
def tw8311476387596740345:=h
def tw12028607808501623627:=h
def tw15883415459215957966:=h
def tw4008557127303280244:=h
def tw10567271147136884725:=h
def tw10622713120303312775:=h
def tw5810559778600550694:=h
def tw4205110340069927946:=h
def tw5381361323252064169:=h
def tw127832935327353784:=h
def tw8902600275912359153:=h
def tw17916025061817227815:=h
def tw12682534175458498918:=h
def tw15716180106818048981:=h
def tw11086202989415523699:=h
def tw6040036836624013632:=h
def tw10115527041814158386:=h
def tw1865695245096811703:=h
def tw16779509081938809597:=h
def tw7113913845071310243:=h
def tw7220867081329754518:=h
def tw14461301302482305058:=h
def tw12281363903355040138:=h
def tw13681751221482649690:=h
def tw13439501335377988760:=h
def tw12242206870144453550:=h
def tw4084169125279976614:=h
def tw18146139164514581449:=h
def tw3924806361423053094:=h
def tw7760501187853267297:=h
def tw4411770948366168450:=h
def tw3045798294844342168:=h
def tw11699377942565461088:=h
def tw16134459331547422263:=h
def tw6102581463829898173:=h
def tw11438917645644951139:=h
def tw11204425707098910926:=h
def tw4824137233347138167:=h
def tw10643130397863129668:=h
def tw307449695900578027:=h
def tw6350141653942067681:=h
def tw12375364432810885173:=h
def tw1767190170733812875:=h
def tw8647547854826453595:=h
def tw12911355397085413018:=h
def tw6958132754480514065:=h
def tw18102539090345570026:=h
def tw2785203324829565570:=h
def tw18139212987730820596:=h
def tw12484292087494302907:=h
def tw2430359935016751901:=h
def tw16719725210079597123:=h
def tw7617827882583298355:=h
def tw15790377874761615199:=h
def tw1824465257838687957:=h
def tw17920211488391885808:=h
def tw7785835157130816353:=h
def tw5811770180493072138:=h
def tw14889782119968870830:=h
def tw17443372782003825817:=h
def tw1003233307105321515:=h
def tw15478382572641625250:=h
def tw17007850788850020606:=h
def tw8639041298074503842:=h
def tw16655498785598070767:=h
def tw12075567374040649864:=h
def tw5587797848865348531:=h
def tw13980527154140341591:=h
def tw3908842770659296585:=h
def tw8763222262031513988:=h
def tw5195555107397478650:=h
def tw1635135911369946804:=h
def tw3210593145361574901:=h
def tw10927207293536415217:=h
def tw13782696452053763113:=h
def tw14197278079602420978:=h
def tw11085581672647418093:=h
def tw11603464789970263800:=h
def tw13760183290836146666:=h
def tw2851072130305766488:=h
def tw5041070976503509349:=h
def tw7681804178385966402:=h
def tw10438624287529370823:=h
def tw10353903697237558579:=h
def tw16501218904400634469:=h
def tw12688554854305191487:=h
def tw2295410830002434243:=h
def tw12811064670189455992:=h
def tw11164559374241953536:=h
def tw3156375835202265977:=h
def tw17695534968367622331:=h
def tw9321499624008939481:=h
def tw16763060304442971761:=h
def tw7887152513799540543:=h
def tw13856704612088270112:=h
def tw6718786193338789079:=h
def tw1127731041449104719:=h
def tw8279082639800392784:=h
def tw15435687977610194608:=h
def tw13326336205613005057:=h
def tw16482983633731300857:=h
def tw153933358446780092:=h
def tw7893709106163093082:=h
def tw5007517072265689584:=h
def tw11467913143438014216:=h
def tw12679389819007758284:=h
def tw302712199644565294:=h
def tw5547118691117381933:=h
def tw14197209100420348518:=h
def tw6088989980878390117:=h
def tw16297376055425369941:=h
def tw4963075928511589986:=h
def tw11010904660759591492:=h
def tw10774350456398764490:=h
def tw2508538837674975526:=h
def tw6871872026574946075:=h
def tw7232848919002308406:=h
def tw15336809089545133969:=h
def tw15941858858402167486:=h
def tw12053618440175372078:=h
def tw5924960920645077805:=h
def tw5813099380293599088:=h
def tw183057315069477708:=h
def tw1368194140751511023:=h
def tw1754420708880118976:=h
def tw5467654697609094113:=h
def tw5422156309497699663:=h
def tw13803864687402545465:=h
def tw15961097500885939619:=h
def tw8909152941215054548:=h
def tw18440581210506667664:=h
def tw6836516308782110143:=h
def tw17692042013337432405:=h
def tw14155129451672778630:=h
def tw18220900809283822125:=h
def tw608598122612289621:=h
def tw16309029146928399384:=h
def tw12595532302069002645:=h
def tw7780821502402666545:=h
def tw5797536292831131806:=h
def tw7418048819509567708:=h
def tw14941471257937783967:=h
def tw7045355884738738306:=h
def tw10127150567651555746:=h
def tw2413152704946541457:=h
def tw8198331725831527972:=h
def tw6596499463897533845:=h
def tw18419793961314410848:=h
def tw12713535298049962196:=h
def tw4644793505500527867:=h
def tw8873724565610119682:=h
def tw257392153676555166:=h
def tw781003137090835120:=h
def tw1532347836657328242:=h
def tw4290267132543551918:=h
def tw4061467680093192583:=h
def tw7611309444735161726:=h
def tw11507115167100942541:=h
def tw337733056300618464:=h
def tw2977926276502318580:=h
def tw18015136486195107075:=h
def tw11468303914253592943:=h
def tw1988339256481733442:=h
def tw9524112938433639369:=h
def tw4953456088950215332:=h
def tw8445293238175364483:=h
def tw6428315340278087299:=h
def tw5439158139487175338:=h
def tw11387981858970996607:=h
def tw18300738517264221884:=h
def tw1536918009730568864:=h
def tw7690443441052772521:=h
def tw5459583885656901262:=h
def tw12891779901172816026:=h
def tw17412252603759462084:=h
def tw3132855413593701272:=h
def tw10262363290870259952:=h
def tw2967684244018510810:=h
def tw7147040295605098651:=h
def tw6509259329659139829:=h
def tw9950386277399831856:=h
def tw1493120558243548190:=h
def tw8984398045936138337:=h
def tw11430241891151042914:=h
def tw1456012348925326944:=h
def tw6838712643770302510:=h
def tw1133724392270303348:=h
def tw9016244199672708938:=h
def tw14008508440483295873:=h
def tw4813994962542365737:=h
def tw2201433391238789579:=h
def tw17714454561589338803:=h
def tw6108795380170800976:=h
def tw7111305965134581516:=h
def tw1526430035513497239:=h
def tw14563390203402914479:=h
def tw373113631474732982:=h
def tw3757893787343776264:=h
def tw10049267879506578262:=h
def tw8208524577852025662:=h
def tw496447390194021041:=h
def tw5048663951000359918:=h
def tw15182281211956050705:=h
def tw9644584839919310048:=h
def tw11223574049888805167:=h
def tw16448927223139838058:=h
def tw9491441445562689902:=h
def tw10950243249337903765:=h
def tw12046558939789346793:=h
def tw8471111783416706651:=h
def tw1848314850446891939:=h
def tw1935149545796342928:=h
def tw6328066106629233652:=h
def tw1337359188988616463:=h
def tw3373262242041678788:=h
def tw9538679320715913078:=h
def tw18059485689089199647:=h
def tw10242988013837502139:=h
def tw9364739875818206971:=h
def tw16721311416387250280:=h
def tw11266397710317976814:=h
def tw71674874903605762:=h
def tw17037939319410552839:=h
def tw8745406758916350029:=h
def tw1589078041963187338:=h
def tw10795144240372824964:=h
def tw17127322987431535728:=h
def tw9169003343995580361:=h
def tw12190688220787146380:=h
def tw14048754115255294527:=h
def tw5922151150611854225:=h
def tw11060000860917837365:=h
def tw14647303161904398493:=h
def tw14995045308840724914:=h
def tw11100820025629395797:=h
def tw11959898626778111400:=h
def tw16731440927586708461:=h
def tw12662751540684403611:=h
def tw13531878900184933831:=h
def tw2882562453473455808:=h
def tw693324185448882695:=h
def tw2639682404228585286:=h
def tw6223279607334819398:=h
def tw13389502654871707127:=h
def tw336536379192320980:=h
def tw11384231382317344808:=h
def tw6451807805537424488:=h
def tw9944252643487210082:=h
def tw9352863054237436579:=h
def tw9298327145357482226:=h
def tw7383744634905445127:=h
def tw10710730218503282715:=h
def tw18295882673918994318:=h
def tw12593021279286192698:=h
def tw3163744062025515386:=h
def tw17492959329137369634:=h
def tw10201486338611915854:=h
def tw6003836648418866074:=h
def tw4257697997903556176:=h
def tw2658845658501680555:=h
def tw17546088106447439111:=h
def tw12328286776572062885:=h
def tw5032640665808641093:=h
def tw3727955747747516501:=h
def tw4704698247163065423:=h
def tw13054674393381684408:=h
def tw9918610634240349216:=h
def tw1578214748008808865:=h
def tw12215731979408070326:=h
def tw3202048767936487330:=h
def tw18294573268184842806:=h
def tw1508995767653117384:=h
def tw5016665153042869123:=h
def tw7920931688915094698:=h
def tw9289945770563881105:=h
def tw13885102848337597631:=h
def tw10029181322484579325:=h
def tw11634235899530847842:=h
def tw9650106766237327880:=h
def tw15624262864854984141:=h
def tw5431609607095950383:=h
def tw18379487173311092524:=h
def tw799625928553177243:=h
def tw4482177085287186112:=h
def tw6573629762013083493:=h
def tw15488641992385312711:=h
def tw11137496140513544702:=h
def tw10798073597982688471:=h
def tw8783416342726342332:=h
def tw2912680753229940024:=h
def tw8824843860415069030:=h
def tw2321962793522841692:=h
def tw15732037339567475077:=h
def tw18235404255408162869:=h
def tw17670792261013449879:=h
def tw10089755122705954209:=h
def tw6001955373468040490:=h
def tw2570273417043111275:=h
def tw15961974042385441949:=h
def tw2469124805133102679:=h
def tw12653875137089847650:=h
def tw5532103542175528564:=h
def tw6730254169273527241:=h
def tw6541881888187686506:=h
def tw8025432500610837705:=h
def tw3893874847720432341:=h
def tw7963231239927485203:=h
def tw17280921639740167299:=h
def tw11525425960763770576:=h
def tw2157615204010038849:=h
def tw3525353305920760111:=h
def tw161102618445024151:=h
def tw6329671898975899690:=h
def tw13052195768953250159:=h
def tw17867435085946023452:=h
def tw1402022267074156779:=h
def tw10288316175825376060:=h
def tw12486335270621253050:=h
def tw12373528105715749284:=h
def tw9481957018987880966:=h
def tw14896982946875246967:=h
def tw12771438850154736637:=h
def tw2047090335349170024:=h
def tw18228073355906826365:=h
def tw13096936249082280086:=h
def tw5897477003194529299:=h
def tw11272334478472749775:=h
def tw6745902536572301701:=h
def tw10158731145228974538:=h
def tw17639094257270978928:=h
def tw10808587488679561808:=h
def tw5164047586334634328:=h
def tw6809996486669508392:=h
def tw16269067878354325948:=h
def tw7388422348493296980:=h
def tw10589393032323863736:=h
def tw18412834058365771218:=h
def tw6163410871474506476:=h
def tw12932410231584529288:=h
def tw1428928675577255564:=h
def tw18102750090547507681:=h
def tw12549362043393228332:=h
def tw4949963633405555662:=h
def tw8269736706616678236:=h
def tw15494324482085189785:=h
def tw7236455617405903614:=h
def tw18114816564799446662:=h
def tw9380956677370631427:=h
def tw2416546581022988724:=h
def tw6456297703157136232:=h
def tw13909404945549321063:=h
def tw12673346798809865075:=h
def tw1815085479433816413:=h
def tw2698266125353609577:=h
def tw5268094622854421106:=h
def tw13315070282400409815:=h
def tw2776869154999389574:=h
def tw15087413811706204473:=h
def tw12206901045580527485:=h
def tw2949398982422866966:=h
def tw17073536204440925565:=h
def tw5520655658353941915:=h
def tw2556396449899361085:=h
def tw1861059731231464858:=h
def tw16508202758596024490:=h
def tw10575820554837500258:=h
def tw15295543492442432706:=h
def tw3307050358070566340:=h
def tw4730021917497496152:=h
def tw1376657882156859446:=h
def tw16262077012595149984:=h
def tw16957021440416601377:=h
def tw14589592209518379196:=h
def tw14488890110483177232:=h
def tw6343965661025771361:=h
def tw14050822007585732886:=h
def tw10372388055596330783:=h
def tw15306507778333969282:=h
def tw15779582085644798780:=h
def tw5370887051578309076:=h
def tw8576688437015082960:=h
def tw13035840967027532496:=h
def tw6295093755394515944:=h
def tw4463444288538215688:=h
def tw3694455429176558161:=h
def tw16611386140839549204:=h
def tw1254861256889923720:=h
def tw13097070312879263976:=h
def tw7154135296510780083:=h
def tw10590971023704358056:=h
def tw14164557417215206859:=h
def tw18419116371188809832:=h
def tw16551005960189785496:=h
def tw4704873427962136225:=h
def tw7525044736249093873:=h
def tw6415375423576340651:=h
def tw16894325472422837111:=h
def tw5316824071472754889:=h
def tw13331691115954319924:=h
def tw10810528615501116111:=h
def tw12170753370647174521:=h
def tw18227544661088856281:=h
def tw18219088134422845141:=h
def tw9457679375734435884:=h
def tw11020379054810627308:=h
def tw13842122484773922267:=h
def tw5725186933100718901:=h
def tw10384961510523358794:=h
def tw12660602370012942348:=h
def tw12877616537920221153:=h
def tw8151859642852267903:=h
def tw8196616289917497461:=h
def tw6869167429004228686:=h
def tw18283796834440788319:=h
def tw5177311565384677873:=h
def tw15191805649339746270:=h
def tw16924958589570303573:=h
def tw5864078361945500633:=h
def tw13489710938294390627:=h
def tw6091564770090898032:=h
def tw15894412996611680899:=h
def tw1650516975827109637:=h
def tw17813325209144791134:=h
def tw3630066423303581686:=h
def tw994086649335023171:=h
def tw8028820987042515763:=h
def tw2328891148233395909:=h
def tw2561170542973848037:=h
def tw1921027224217925898:=h
def tw8777599415271475027:=h
def tw7206109507456300752:=h
def tw5559661171008659163:=h
def tw15500351513253593016:=h
def tw4954076920564927797:=h
def tw2797142661540767231:=h
def tw11173284761027063330:=h
def tw9974600997613087701:=h
def tw7835688593870548296:=h
def tw15294649755370301485:=h
def tw17702671073110108374:=h
def tw8957108035846294255:=h
def tw6545572084897530336:=h
def tw16411276823618543657:=h
def tw18032372006037812403:=h
def tw13489701954020709624:=h
def tw16786691100711735020:=h
def tw1868115127552728320:=h
def tw1418465836074546578:=h
def tw15900994498773057023:=h
def tw10960550613535330566:=h
def tw5816624408280865283:=h
def tw8860415665951325394:=h
def tw10109191298110117440:=h
def tw7215707487597578781:=h
def tw8104932902962604167:=h
def tw8771502829304312479:=h
def tw6785488942070120401:=h
def tw6543942347050213517:=h
def tw16442287999854478657:=h
def tw6906023538298339143:=h
def tw10825738875006489405:=h
def tw13953237872101286821:=h
def tw9035700218834075261:=h
def tw7472489919564375014:=h
def tw15591372993292412165:=h
def tw2582063221890175379:=h
def tw2679345536763410942:=h
def tw17357063157313207057:=h
def tw10293432080286521920:=h
def tw16891199605798835356:=h
def tw6881297654181260660:=h
def tw18284076153418330442:=h
def tw11681294090487924109:=h
def tw17118572204046659817:=h
def tw15839791304832735929:=h
def tw7198395370952529420:=h
def tw3173018637780516775:=h
def tw16224002839660742375:=h
def tw8084104834262850906:=h
def tw6083845913126109199:=h
def tw13556145658997505582:=h
def tw8179224769033876041:=h
def tw10742924573728667160:=h
def tw9370426631529988280:=h
def tw4547856835182500674:=h
def tw493350797554937817:=h
def tw8587952523891537575:=h
def tw17680035885637663375:=h
def tw17675494442817695864:=h
def tw15690961178670547545:=h
def tw11751044596310575312:=h
def tw17839771264652639654:=h
def tw911103664515104211:=h
def tw16048247722959517302:=h
def tw6699455426744217940:=h
def tw17235560428237985229:=h
def tw2990079538898792464:=h
def tw4508979951268358423:=h
def tw11523273058544957795:=h
def tw8432837631878599924:=h
def tw2646961297960253761:=h
def tw12184747955598565966:=h
def tw6693499382328425671:=h
def tw1362781065037956503:=h
def tw15642710067026790056:=h
def tw8424550921748189562:=h
def tw1739881422443193621:=h
def tw7916033406831999058:=h
def tw4052770190345549022:=h
def tw9305335273628619575:=h
def tw14153258007364547012:=h
def tw7498863495578237771:=h
def tw18342518789036813308:=h
def tw17384287258636962902:=h
def tw14820848709011269343:=h
def tw7262882105190482434:=h
def tw207051439891698600:=h
def tw5854227936145292228:=h
def tw13235065074491428358:=h
def tw2343710564201295406:=h
def tw12243740405714695565:=h
def tw3766487935890134786:=h
def tw12838909660049483782:=h
def tw7790474878475384119:=h
def tw11245744308803446444:=h
def tw16821711097345524565:=h
def tw14289083268604774928:=h
def tw3094203400345250843:=h
def tw10154438470444582023:=h
def tw6310835278053291000:=h
def tw2473985814237938603:=h
def tw16330583321057213527:=h
def tw4172530427444107086:=h
def tw3968335795210230767:=h
def tw4818637823199949077:=h
def tw15131966272686661706:=h
def tw4636065611720968394:=h
def tw14949474097190630462:=h
def tw2907744455138515705:=h
def tw17619715908905569533:=h
def tw13035890995702265403:=h
def tw11759665084953285099:=h
def tw7145659419209255673:=h
def tw12938561576699142085:=h
def tw14567331244026127444:=h
def tw9322786108330381947:=h
def tw10942120524116996827:=h
def tw13863871378544347933:=h
def tw2319387901131134657:=h
def tw3578713585952322540:=h
def tw1751199902465490212:=h
def tw12502953355988237570:=h
def tw12909351746728033885:=h
def tw11261960999365128170:=h
def tw79985710068383320:=h
def tw2733089883464069193:=h
def tw1048425517401112277:=h
def tw1728238792254039412:=h
def tw7022551661063957277:=h
def tw971725279238826728:=h
def tw11571063437732241597:=h
def tw1999962405996424556:=h
def tw7054985571705525431:=h
def tw9355340893759967463:=h
def tw15859649977695339738:=h
end walk12
set_option Elab.async true in
set_option tactic.hygienic true in
theorem walk12:PySem.Challenge.rw_uf010035_12.Holds:=by
 w_on
 o_law
 o_head (Mr (YR PySem.Challenge.pw_uf010035_12) CF)
 case hw=>w_witness2
 intro w s₀ s₁ mg mb G Y fa o pm cd doc dV kV ho hd hcd hD hmg hg args vals as hpre hlay hrd hwl hlo;refine Ground.open G ?_;intro T B D TE TW
 wrow_args hpre hlay hrd hwl hlo
 all_goals (
  rename_i zs hs hlay0 hL1 hr1 hl2 as4 as3 l vs as0 hL ra w1 r0 hI hr hc1 hc0;refine CB (csts:=On) (bis:=OJ) (mu:=muL) (fz:=[]) (fns:=L5) (cs:=CF) (f:=50) (n:=41) T TE.topC (by decide+kernel) ⟨by decide+kernel,by decide+kernel,by decide+kernel,by decide+kernel⟩ (Cy (by kernel_rfl) Y) (by decide+kernel) hg (by kernel_rfl) (by decide+kernel) hmg (BD w1 hL) (by simpa using hI) (by omega) (by decide) (Lw (n:=0) (by omega) λ_=>rfl) λs' h1 h2 h3=>GoodW.toG ⟨.inl ⟨.bool Z5,.bool Z5,[],rfl,λcls=>rfl,.bool Z5,?_,λ_=>⟨.nil,by simp⟩⟩,h1,h2,h3⟩
  first|exact postW_of (by wrow_shape) (by wtm_val) (by str_meet;first|done|w_fin)|decide)
end Mine
end
theorem PySem.Challenge.cw_uf010035_12_holds : PySem.Challenge.rw_uf010035_12.Holds :=
 Mine.walk12
