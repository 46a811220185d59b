/- What is a diagram: the reference's side. -/
import Derived.WalkKit
import Derived.Orders
import Derived.Laws.StructEq
import Derived.Test.YtcdejfehblnphaaRows
import Derived.ProofKit
import Derived.Test.YtcdejfehblnphaaCc2
namespace Go.Proofs.Ytcdejfehblnphaa
open Go Go.RowKit

def en1 (n : Int) (f : Nat → Int) (i : Nat) : Int := if plc n (f i) < plc n i then plc n (f i) else plc n i
def en2 (n : Int) (f : Nat → Int) (i : Nat) : Int := if plc n i < plc n (f i) then plc n (f i) else plc n i

theorem l01Ends_c (n : Int) (f : Nat → Int) (i : Nat) (m : List AO) (K : AV → List AO → Prop) (h0 : 0 ≤ n) (h1 : n ≤ 8) (hi : i < 16) (hf : ∀ i, 0 ≤ f i ∧ f i ≤ 255) (hk : K (.tup [I (en1 n f i), I (en2 n f i)]) m) : ACalls Try.prog 66 [.agg (dg n f), I i] m K := by
  refine ACalls.enter Try.func66 rfl rfl Try.ntmps66 (congrArg Array.toList Try.results66) (by simp) fun hc => ?_
  have hcl : Closed m := ‹_›
  have hfi := hf i
  simp (disch := omega) [go_nil, go_inBlock, go_skip, go_exit, go_ret, go_region_lit, go_seq, go_block, goX_nil, goX_code, goX_ops, goX_same, goX_other, go_cond, goB_true, goB_false, go_ops_nil, go_op, go_opg, goW_true, goW_false, goO_move, goO_assign, goO_call, goF_fn, goV_some, goP_none, goP_some, goO_pick, goO_alloc, goO_box, goO_build, goO_buildSlice, goO_load, goO_store, goO_nilCheck, goO_bin, goO_un, goO_convert, goO_makeFunc, goO_makeSlice, goO_slice, goO_fieldAddr, goO_field, goO_indexAddr, goO_index, goO_extract, goO_builtin, gD, gWant, undef, aop, aev_tmp, aev_const, aev_func, aconst, upd_app, env0, env0_nil, env0_cons, aBin_ii, aBin_ss, aBin_bb, abin, aend, ares, aone, wrap_id, get_loc0, get_loc, set_loc0, set_loc, cont_loc0, cont_loc, cont_here, cont_next, row_loc0, row_loc, row_here, row_next, TI.isAgg, aLoad, aStore, aNew, aFieldAddr, aIndexAddr, aIndex, aPart, aField, aLen, aUn, aConv, aAppend, aBuildSlice, aMakeSlice, aBuild, aSlice, AV.cs, AV.one, Value.oneCell', if_pos, if_neg, List.getElem?_cons_zero, List.getElem?_cons_succ, fillA, zrep_zero, zrep_succ0, zrep_one, List.set_cons_zero, List.set_cons_succ, List.length_cons, List.length_nil, mkE_cons, mkE_nil, allE, DK_normal, LK_exit, LK_ret, dg_at, mts_at, sb_eq, str_size, aBound, Option.map_none, Option.map_some, aMin, aMax, DK2_normal, ptrNe_pp, sepA_nil, sepA_cons, DK3_normal, sepN_nil, sepN_cons, objNe_pp, objNe_ps, objNe_sp, objNe_ss, objNe_vx, objNe_xv]
  refine go_drawn [] false (by kernel_rfl) (by kernel_rfl) ?_
  simp (disch := omega) [go_nil, go_inBlock, go_skip, go_exit, go_ret, go_region_lit, go_seq, go_block, goX_nil, goX_code, goX_ops, goX_same, goX_other, go_cond, goB_true, goB_false, go_ops_nil, go_op, go_opg, goW_true, goW_false, goO_move, goO_assign, goO_call, goF_fn, goV_some, goP_none, goP_some, goO_pick, goO_alloc, goO_box, goO_build, goO_buildSlice, goO_load, goO_store, goO_nilCheck, goO_bin, goO_un, goO_convert, goO_makeFunc, goO_makeSlice, goO_slice, goO_fieldAddr, goO_field, goO_indexAddr, goO_index, goO_extract, goO_builtin, gD, gWant, undef, aop, aev_tmp, aev_const, aev_func, aconst, upd_app, env0, env0_nil, env0_cons, aBin_ii, aBin_ss, aBin_bb, abin, aend, ares, aone, wrap_id, get_loc0, get_loc, set_loc0, set_loc, cont_loc0, cont_loc, cont_here, cont_next, row_loc0, row_loc, row_here, row_next, TI.isAgg, aLoad, aStore, aNew, aFieldAddr, aIndexAddr, aIndex, aPart, aField, aLen, aUn, aConv, aAppend, aBuildSlice, aMakeSlice, aBuild, aSlice, AV.cs, AV.one, Value.oneCell', if_pos, if_neg, List.getElem?_cons_zero, List.getElem?_cons_succ, fillA, zrep_zero, zrep_succ0, zrep_one, List.set_cons_zero, List.set_cons_succ, List.length_cons, List.length_nil, mkE_cons, mkE_nil, allE, DK_normal, LK_exit, LK_ret, dg_at, mts_at, sb_eq, str_size, aBound, Option.map_none, Option.map_some, aMin, aMax, DK2_normal, ptrNe_pp, sepA_nil, sepA_cons, DK3_normal, sepN_nil, sepN_cons, objNe_pp, objNe_ps, objNe_sp, objNe_ss, objNe_vx, objNe_xv]
  refine goCall_q rfl (l01Place_c n i _ _ h0 h1 (by omega) (by omega) ⟨rfl, rfl⟩) ?_
  simp (disch := omega) [go_nil, go_inBlock, go_skip, go_exit, go_ret, go_region_lit, go_seq, go_block, goX_nil, goX_code, goX_ops, goX_same, goX_other, go_cond, goB_true, goB_false, go_ops_nil, go_op, go_opg, goW_true, goW_false, goO_move, goO_assign, goO_call, goF_fn, goV_some, goP_none, goP_some, goO_pick, goO_alloc, goO_box, goO_build, goO_buildSlice, goO_load, goO_store, goO_nilCheck, goO_bin, goO_un, goO_convert, goO_makeFunc, goO_makeSlice, goO_slice, goO_fieldAddr, goO_field, goO_indexAddr, goO_index, goO_extract, goO_builtin, gD, gWant, undef, aop, aev_tmp, aev_const, aev_func, aconst, upd_app, env0, env0_nil, env0_cons, aBin_ii, aBin_ss, aBin_bb, abin, aend, ares, aone, wrap_id, get_loc0, get_loc, set_loc0, set_loc, cont_loc0, cont_loc, cont_here, cont_next, row_loc0, row_loc, row_here, row_next, TI.isAgg, aLoad, aStore, aNew, aFieldAddr, aIndexAddr, aIndex, aPart, aField, aLen, aUn, aConv, aAppend, aBuildSlice, aMakeSlice, aBuild, aSlice, AV.cs, AV.one, Value.oneCell', if_pos, if_neg, List.getElem?_cons_zero, List.getElem?_cons_succ, fillA, zrep_zero, zrep_succ0, zrep_one, List.set_cons_zero, List.set_cons_succ, List.length_cons, List.length_nil, mkE_cons, mkE_nil, allE, DK_normal, LK_exit, LK_ret, dg_at, mts_at, sb_eq, str_size, aBound, Option.map_none, Option.map_some, aMin, aMax, DK2_normal, ptrNe_pp, sepA_nil, sepA_cons, DK3_normal, sepN_nil, sepN_cons, objNe_pp, objNe_ps, objNe_sp, objNe_ss, objNe_vx, objNe_xv]
  refine goCall_q rfl (l01Place_c n _ _ _ h0 h1 hfi.1 hfi.2 ⟨rfl, rfl⟩) ?_
  simp (disch := omega) [go_nil, go_inBlock, go_skip, go_exit, go_ret, go_region_lit, go_seq, go_block, goX_nil, goX_code, goX_ops, goX_same, goX_other, go_cond, goB_true, goB_false, go_ops_nil, go_op, go_opg, goW_true, goW_false, goO_move, goO_assign, goO_call, goF_fn, goV_some, goP_none, goP_some, goO_pick, goO_alloc, goO_box, goO_build, goO_buildSlice, goO_load, goO_store, goO_nilCheck, goO_bin, goO_un, goO_convert, goO_makeFunc, goO_makeSlice, goO_slice, goO_fieldAddr, goO_field, goO_indexAddr, goO_index, goO_extract, goO_builtin, gD, gWant, undef, aop, aev_tmp, aev_const, aev_func, aconst, upd_app, env0, env0_nil, env0_cons, aBin_ii, aBin_ss, aBin_bb, abin, aend, ares, aone, wrap_id, get_loc0, get_loc, set_loc0, set_loc, cont_loc0, cont_loc, cont_here, cont_next, row_loc0, row_loc, row_here, row_next, TI.isAgg, aLoad, aStore, aNew, aFieldAddr, aIndexAddr, aIndex, aPart, aField, aLen, aUn, aConv, aAppend, aBuildSlice, aMakeSlice, aBuild, aSlice, AV.cs, AV.one, Value.oneCell', if_pos, if_neg, List.getElem?_cons_zero, List.getElem?_cons_succ, fillA, zrep_zero, zrep_succ0, zrep_one, List.set_cons_zero, List.set_cons_succ, List.length_cons, List.length_nil, mkE_cons, mkE_nil, allE, DK_normal, LK_exit, LK_ret, dg_at, mts_at, sb_eq, str_size, aBound, Option.map_none, Option.map_some, aMin, aMax, DK2_normal, ptrNe_pp, sepA_nil, sepA_cons, DK3_normal, sepN_nil, sepN_cons, objNe_pp, objNe_ps, objNe_sp, objNe_ss, objNe_vx, objNe_xv]
  exact dropE (n := m.length) m _ rfl (Nat.le_refl _) hcl (by simp [AV.sc, scs]) hk

/-- What the reference looks at first. -/
def sp1 (n : Int) (f : Nat → Int) (i : Nat) : Bool := if 2 * n ≤ i then f i == 0 else decide (f i < 2 * n) && (f i != i && f (f i).toNat == i)
def crs (n : Int) (f : Nat → Int) (i k : Nat) : Bool := decide (en1 n f i < en1 n f k) && (decide (en1 n f k < en2 n f i) && decide (en2 n f i < en2 n f k))
def isS (n : Int) (f : Nat → Int) : Bool :=
  decide (1 ≤ n) && decide (n ≤ 8) && (List.range 16).all (sp1 n f) && (List.range (2 * n).toNat).all fun i => (List.range (2 * n).toNat).all fun k => !crs n f i k

theorem isS_false1 {n : Int} {f : Nat → Int} {i : Nat} (hi : i < 16) (h : sp1 n f i = false) : isS n f = false := by
  have : (List.range 16).all (sp1 n f) = false := by
    rw [Bool.eq_false_iff]; intro ha
    rw [List.all_eq_true] at ha
    rw [ha i (by simpa using hi)] at h; simp at h
  simp [isS, this]
theorem isS_false2 {n : Int} {f : Nat → Int} {i k : Nat} (hi : i < (2 * n).toNat) (hk : k < (2 * n).toNat) (h : crs n f i k = true) : isS n f = false := by
  have : ((List.range (2 * n).toNat).all fun i => (List.range (2 * n).toNat).all fun k => !crs n f i k) = false := by
    rw [Bool.eq_false_iff]; intro ha
    rw [List.all_eq_true] at ha
    have := ha i (by simpa using hi)
    rw [List.all_eq_true] at this
    have := this k (by simpa using hk)
    rw [h] at this; simp at this
  simp only [isS, this, Bool.and_false]

set_option maxHeartbeats 4000000 in
theorem l01Is_c (n : Int) (f : Nat → Int) (m : List AO) (K : AV → List AO → Prop) (hf : ∀ i, 0 ≤ f i ∧ f i ≤ 255) (hk : K (B (isS n f)) m) : ACalls Try.prog 41 [.agg (dg n f)] m K := by
  refine ACalls.enter Try.func41 rfl rfl Try.ntmps41 (congrArg Array.toList Try.results41) (by simp) fun hc => ?_
  have hcl : Closed m := ‹_›
  simp (disch := omega) [go_nil, go_inBlock, go_skip, go_exit, go_ret, go_region_lit, go_seq, go_block, goX_nil, goX_code, goX_ops, goX_same, goX_other, go_cond, goB_true, goB_false, go_ops_nil, go_op, go_opg, goW_true, goW_false, goO_move, goO_assign, goO_call, goF_fn, goV_some, goP_none, goP_some, goO_pick, goO_alloc, goO_box, goO_build, goO_buildSlice, goO_load, goO_store, goO_nilCheck, goO_bin, goO_un, goO_convert, goO_makeFunc, goO_makeSlice, goO_slice, goO_fieldAddr, goO_field, goO_indexAddr, goO_index, goO_extract, goO_builtin, gD, gWant, undef, aop, aev_tmp, aev_const, aev_func, aconst, upd_app, env0, env0_nil, env0_cons, aBin_ii, aBin_ss, aBin_bb, abin, aend, ares, aone, wrap_id, get_loc0, get_loc, set_loc0, set_loc, cont_loc0, cont_loc, cont_here, cont_next, row_loc0, row_loc, row_here, row_next, TI.isAgg, aLoad, aStore, aNew, aFieldAddr, aIndexAddr, aIndex, aPart, aField, aLen, aUn, aConv, aAppend, aBuildSlice, aMakeSlice, aBuild, aSlice, AV.cs, AV.one, Value.oneCell', if_pos, if_neg, List.getElem?_cons_zero, List.getElem?_cons_succ, fillA, zrep_zero, zrep_succ0, zrep_one, List.set_cons_zero, List.set_cons_succ, List.length_cons, List.length_nil, mkE_cons, mkE_nil, allE, DK_normal, LK_exit, LK_ret, dg_at, mts_at, sb_eq, str_size, aBound, Option.map_none, Option.map_some, aMin, aMax, DK2_normal, ptrNe_pp, sepA_nil, sepA_cons, DK3_normal, sepN_nil, sepN_cons, objNe_pp, objNe_ps, objNe_sp, objNe_ss, objNe_vx, objNe_xv]
  refine goCall_n rfl (l01In_c _ _ _ _ _ ?_)
  by_cases hr : 1 ≤ n ∧ n ≤ 8
  · obtain ⟨h0, h1⟩ := hr
    have bad : ∀ tl, K (B false) m → ∃ m', Trunc m.length (m ++ tl) (B false) m' ∧ K (B false) m' := fun tl hk => dropE (n := m.length) m _ rfl (Nat.le_refl _) hcl (by simp [AV.sc, scs]) hk
    simp (disch := omega) [go_nil, go_inBlock, go_skip, go_exit, go_ret, go_region_lit, go_seq, go_block, goX_nil, goX_code, goX_ops, goX_same, goX_other, go_cond, goB_true, goB_false, go_ops_nil, go_op, go_opg, goW_true, goW_false, goO_move, goO_assign, goO_call, goF_fn, goV_some, goP_none, goP_some, goO_pick, goO_alloc, goO_box, goO_build, goO_buildSlice, goO_load, goO_store, goO_nilCheck, goO_bin, goO_un, goO_convert, goO_makeFunc, goO_makeSlice, goO_slice, goO_fieldAddr, goO_field, goO_indexAddr, goO_index, goO_extract, goO_builtin, gD, gWant, undef, aop, aev_tmp, aev_const, aev_func, aconst, upd_app, env0, env0_nil, env0_cons, aBin_ii, aBin_ss, aBin_bb, abin, aend, ares, aone, wrap_id, get_loc0, get_loc, set_loc0, set_loc, cont_loc0, cont_loc, cont_here, cont_next, row_loc0, row_loc, row_here, row_next, TI.isAgg, aLoad, aStore, aNew, aFieldAddr, aIndexAddr, aIndex, aPart, aField, aLen, aUn, aConv, aAppend, aBuildSlice, aMakeSlice, aBuild, aSlice, AV.cs, AV.one, Value.oneCell', if_pos, if_neg, List.getElem?_cons_zero, List.getElem?_cons_succ, fillA, zrep_zero, zrep_succ0, zrep_one, List.set_cons_zero, List.set_cons_succ, List.length_cons, List.length_nil, mkE_cons, mkE_nil, allE, DK_normal, LK_exit, LK_ret, dg_at, mts_at, sb_eq, str_size, aBound, Option.map_none, Option.map_some, aMin, aMax, DK2_normal, ptrNe_pp, sepA_nil, sepA_cons, DK3_normal, sepN_nil, sepN_cons, objNe_pp, objNe_ps, objNe_sp, objNe_ss, objNe_vx, objNe_xv, h0, h1]
    refine go_loop (α := {i : Nat // i ≤ 16 ∧ ∀ j, j < i → sp1 n f j = true}) (fun i => mkE [(1, .ptr m.length 0 0), (3, I n), (4, I i.1)])
      (fun i => m ++ [.cells (dg n f) 0 1]) (fun i => 16 - i.1) ⟨0, Nat.zero_le _, fun j hj => by omega⟩ (Wk.same rfl (by simp (disch := omega) [go_nil, go_inBlock, go_skip, go_exit, go_ret, go_region_lit, go_seq, go_block, goX_nil, goX_code, goX_ops, goX_same, goX_other, go_cond, goB_true, goB_false, go_ops_nil, go_op, go_opg, goW_true, goW_false, goO_move, goO_assign, goO_call, goF_fn, goV_some, goP_none, goP_some, goO_pick, goO_alloc, goO_box, goO_build, goO_buildSlice, goO_load, goO_store, goO_nilCheck, goO_bin, goO_un, goO_convert, goO_makeFunc, goO_makeSlice, goO_slice, goO_fieldAddr, goO_field, goO_indexAddr, goO_index, goO_extract, goO_builtin, gD, gWant, undef, aop, aev_tmp, aev_const, aev_func, aconst, upd_app, env0, env0_nil, env0_cons, aBin_ii, aBin_ss, aBin_bb, abin, aend, ares, aone, wrap_id, get_loc0, get_loc, set_loc0, set_loc, cont_loc0, cont_loc, cont_here, cont_next, row_loc0, row_loc, row_here, row_next, TI.isAgg, aLoad, aStore, aNew, aFieldAddr, aIndexAddr, aIndex, aPart, aField, aLen, aUn, aConv, aAppend, aBuildSlice, aMakeSlice, aBuild, aSlice, AV.cs, AV.one, Value.oneCell', if_pos, if_neg, List.getElem?_cons_zero, List.getElem?_cons_succ, fillA, zrep_zero, zrep_succ0, zrep_one, List.set_cons_zero, List.set_cons_succ, List.length_cons, List.length_nil, mkE_cons, mkE_nil, allE, DK_normal, LK_exit, LK_ret, dg_at, mts_at, sb_eq, str_size, aBound, Option.map_none, Option.map_some, aMin, aMax, DK2_normal, ptrNe_pp, sepA_nil, sepA_cons, DK3_normal, sepN_nil, sepN_cons, objNe_pp, objNe_ps, objNe_sp, objNe_ss, objNe_vx, objNe_xv])) (fun ⟨i, hi, hb⟩ => ?_)
    by_cases hc : i < 16
    · have hci : (i : Int) < 16 := by omega
      have hfi := hf i
      have next : ∀ env, sp1 n f i = true → allE env [(1, .ptr m.length 0 0), (3, I n), (4, I (i + 1))] → _ := fun env hs he => (show ∃ x' : {i : Nat // i ≤ 16 ∧ ∀ j, j < i → sp1 n f j = true}, Wk m.length env (m ++ [.cells (dg n f) 0 1]) (mkE [(1, .ptr m.length 0 0), (3, I n), (4, I x'.1)]) (m ++ [.cells (dg n f) 0 1]) ∧ 16 - x'.1 < 16 - i from
        ⟨⟨i + 1, hc, fun j hj => by
            by_cases e : j = i
            · subst e; exact hs
            · exact hb j (by omega)⟩, Wk.same rfl (by simpa using he), by simp; omega⟩)
      by_cases h2 : 2 * n ≤ i
      · by_cases hz : f i = 0
        · simp (disch := omega) [go_nil, go_inBlock, go_skip, go_exit, go_ret, go_region_lit, go_seq, go_block, goX_nil, goX_code, goX_ops, goX_same, goX_other, go_cond, goB_true, goB_false, go_ops_nil, go_op, go_opg, goW_true, goW_false, goO_move, goO_assign, goO_call, goF_fn, goV_some, goP_none, goP_some, goO_pick, goO_alloc, goO_box, goO_build, goO_buildSlice, goO_load, goO_store, goO_nilCheck, goO_bin, goO_un, goO_convert, goO_makeFunc, goO_makeSlice, goO_slice, goO_fieldAddr, goO_field, goO_indexAddr, goO_index, goO_extract, goO_builtin, gD, gWant, undef, aop, aev_tmp, aev_const, aev_func, aconst, upd_app, env0, env0_nil, env0_cons, aBin_ii, aBin_ss, aBin_bb, abin, aend, ares, aone, wrap_id, get_loc0, get_loc, set_loc0, set_loc, cont_loc0, cont_loc, cont_here, cont_next, row_loc0, row_loc, row_here, row_next, TI.isAgg, aLoad, aStore, aNew, aFieldAddr, aIndexAddr, aIndex, aPart, aField, aLen, aUn, aConv, aAppend, aBuildSlice, aMakeSlice, aBuild, aSlice, AV.cs, AV.one, Value.oneCell', if_pos, if_neg, List.getElem?_cons_zero, List.getElem?_cons_succ, fillA, zrep_zero, zrep_succ0, zrep_one, List.set_cons_zero, List.set_cons_succ, List.length_cons, List.length_nil, mkE_cons, mkE_nil, allE, DK_normal, LK_exit, LK_ret, dg_at, mts_at, sb_eq, str_size, aBound, Option.map_none, Option.map_some, aMin, aMax, DK2_normal, ptrNe_pp, sepA_nil, sepA_cons, DK3_normal, sepN_nil, sepN_cons, objNe_pp, objNe_ps, objNe_sp, objNe_ss, objNe_vx, objNe_xv, hci, h2, hz]
          exact next _ (by simp [sp1, h2, hz]) (by simp (disch := omega) [go_nil, go_inBlock, go_skip, go_exit, go_ret, go_region_lit, go_seq, go_block, goX_nil, goX_code, goX_ops, goX_same, goX_other, go_cond, goB_true, goB_false, go_ops_nil, go_op, go_opg, goW_true, goW_false, goO_move, goO_assign, goO_call, goF_fn, goV_some, goP_none, goP_some, goO_pick, goO_alloc, goO_box, goO_build, goO_buildSlice, goO_load, goO_store, goO_nilCheck, goO_bin, goO_un, goO_convert, goO_makeFunc, goO_makeSlice, goO_slice, goO_fieldAddr, goO_field, goO_indexAddr, goO_index, goO_extract, goO_builtin, gD, gWant, undef, aop, aev_tmp, aev_const, aev_func, aconst, upd_app, env0, env0_nil, env0_cons, aBin_ii, aBin_ss, aBin_bb, abin, aend, ares, aone, wrap_id, get_loc0, get_loc, set_loc0, set_loc, cont_loc0, cont_loc, cont_here, cont_next, row_loc0, row_loc, row_here, row_next, TI.isAgg, aLoad, aStore, aNew, aFieldAddr, aIndexAddr, aIndex, aPart, aField, aLen, aUn, aConv, aAppend, aBuildSlice, aMakeSlice, aBuild, aSlice, AV.cs, AV.one, Value.oneCell', if_pos, if_neg, List.getElem?_cons_zero, List.getElem?_cons_succ, fillA, zrep_zero, zrep_succ0, zrep_one, List.set_cons_zero, List.set_cons_succ, List.length_cons, List.length_nil, mkE_cons, mkE_nil, allE, DK_normal, LK_exit, LK_ret, dg_at, mts_at, sb_eq, str_size, aBound, Option.map_none, Option.map_some, aMin, aMax, DK2_normal, ptrNe_pp, sepA_nil, sepA_cons, DK3_normal, sepN_nil, sepN_cons, objNe_pp, objNe_ps, objNe_sp, objNe_ss, objNe_vx, objNe_xv])
        · rw [isS_false1 hc (by simp [sp1, h2, hz])] at hk
          simp (disch := omega) [go_nil, go_inBlock, go_skip, go_exit, go_ret, go_region_lit, go_seq, go_block, goX_nil, goX_code, goX_ops, goX_same, goX_other, go_cond, goB_true, goB_false, go_ops_nil, go_op, go_opg, goW_true, goW_false, goO_move, goO_assign, goO_call, goF_fn, goV_some, goP_none, goP_some, goO_pick, goO_alloc, goO_box, goO_build, goO_buildSlice, goO_load, goO_store, goO_nilCheck, goO_bin, goO_un, goO_convert, goO_makeFunc, goO_makeSlice, goO_slice, goO_fieldAddr, goO_field, goO_indexAddr, goO_index, goO_extract, goO_builtin, gD, gWant, undef, aop, aev_tmp, aev_const, aev_func, aconst, upd_app, env0, env0_nil, env0_cons, aBin_ii, aBin_ss, aBin_bb, abin, aend, ares, aone, wrap_id, get_loc0, get_loc, set_loc0, set_loc, cont_loc0, cont_loc, cont_here, cont_next, row_loc0, row_loc, row_here, row_next, TI.isAgg, aLoad, aStore, aNew, aFieldAddr, aIndexAddr, aIndex, aPart, aField, aLen, aUn, aConv, aAppend, aBuildSlice, aMakeSlice, aBuild, aSlice, AV.cs, AV.one, Value.oneCell', if_pos, if_neg, List.getElem?_cons_zero, List.getElem?_cons_succ, fillA, zrep_zero, zrep_succ0, zrep_one, List.set_cons_zero, List.set_cons_succ, List.length_cons, List.length_nil, mkE_cons, mkE_nil, allE, DK_normal, LK_exit, LK_ret, dg_at, mts_at, sb_eq, str_size, aBound, Option.map_none, Option.map_some, aMin, aMax, DK2_normal, ptrNe_pp, sepA_nil, sepA_cons, DK3_normal, sepN_nil, sepN_cons, objNe_pp, objNe_ps, objNe_sp, objNe_ss, objNe_vx, objNe_xv, hci, h2, hz]
          exact bad _ hk
      · by_cases h3 : 2 * n ≤ f i
        · rw [isS_false1 hc (by simp [sp1, h2]; omega)] at hk
          simp (disch := omega) [go_nil, go_inBlock, go_skip, go_exit, go_ret, go_region_lit, go_seq, go_block, goX_nil, goX_code, goX_ops, goX_same, goX_other, go_cond, goB_true, goB_false, go_ops_nil, go_op, go_opg, goW_true, goW_false, goO_move, goO_assign, goO_call, goF_fn, goV_some, goP_none, goP_some, goO_pick, goO_alloc, goO_box, goO_build, goO_buildSlice, goO_load, goO_store, goO_nilCheck, goO_bin, goO_un, goO_convert, goO_makeFunc, goO_makeSlice, goO_slice, goO_fieldAddr, goO_field, goO_indexAddr, goO_index, goO_extract, goO_builtin, gD, gWant, undef, aop, aev_tmp, aev_const, aev_func, aconst, upd_app, env0, env0_nil, env0_cons, aBin_ii, aBin_ss, aBin_bb, abin, aend, ares, aone, wrap_id, get_loc0, get_loc, set_loc0, set_loc, cont_loc0, cont_loc, cont_here, cont_next, row_loc0, row_loc, row_here, row_next, TI.isAgg, aLoad, aStore, aNew, aFieldAddr, aIndexAddr, aIndex, aPart, aField, aLen, aUn, aConv, aAppend, aBuildSlice, aMakeSlice, aBuild, aSlice, AV.cs, AV.one, Value.oneCell', if_pos, if_neg, List.getElem?_cons_zero, List.getElem?_cons_succ, fillA, zrep_zero, zrep_succ0, zrep_one, List.set_cons_zero, List.set_cons_succ, List.length_cons, List.length_nil, mkE_cons, mkE_nil, allE, DK_normal, LK_exit, LK_ret, dg_at, mts_at, sb_eq, str_size, aBound, Option.map_none, Option.map_some, aMin, aMax, DK2_normal, ptrNe_pp, sepA_nil, sepA_cons, DK3_normal, sepN_nil, sepN_cons, objNe_pp, objNe_ps, objNe_sp, objNe_ss, objNe_vx, objNe_xv, hci, h2, h3]
          exact bad _ hk
        · by_cases h4 : f i = i
          · rw [isS_false1 hc (by simp [sp1, h2, h4])] at hk
            simp (disch := omega) [go_nil, go_inBlock, go_skip, go_exit, go_ret, go_region_lit, go_seq, go_block, goX_nil, goX_code, goX_ops, goX_same, goX_other, go_cond, goB_true, goB_false, go_ops_nil, go_op, go_opg, goW_true, goW_false, goO_move, goO_assign, goO_call, goF_fn, goV_some, goP_none, goP_some, goO_pick, goO_alloc, goO_box, goO_build, goO_buildSlice, goO_load, goO_store, goO_nilCheck, goO_bin, goO_un, goO_convert, goO_makeFunc, goO_makeSlice, goO_slice, goO_fieldAddr, goO_field, goO_indexAddr, goO_index, goO_extract, goO_builtin, gD, gWant, undef, aop, aev_tmp, aev_const, aev_func, aconst, upd_app, env0, env0_nil, env0_cons, aBin_ii, aBin_ss, aBin_bb, abin, aend, ares, aone, wrap_id, get_loc0, get_loc, set_loc0, set_loc, cont_loc0, cont_loc, cont_here, cont_next, row_loc0, row_loc, row_here, row_next, TI.isAgg, aLoad, aStore, aNew, aFieldAddr, aIndexAddr, aIndex, aPart, aField, aLen, aUn, aConv, aAppend, aBuildSlice, aMakeSlice, aBuild, aSlice, AV.cs, AV.one, Value.oneCell', if_pos, if_neg, List.getElem?_cons_zero, List.getElem?_cons_succ, fillA, zrep_zero, zrep_succ0, zrep_one, List.set_cons_zero, List.set_cons_succ, List.length_cons, List.length_nil, mkE_cons, mkE_nil, allE, DK_normal, LK_exit, LK_ret, dg_at, mts_at, sb_eq, str_size, aBound, Option.map_none, Option.map_some, aMin, aMax, DK2_normal, ptrNe_pp, sepA_nil, sepA_cons, DK3_normal, sepN_nil, sepN_cons, objNe_pp, objNe_ps, objNe_sp, objNe_ss, objNe_vx, objNe_xv, hci, h2, h3, h4]
            exact bad _ hk
          · have hb2 := hf (f i).toNat
            by_cases h5 : f (f i).toNat = i
            · simp (disch := omega) [go_nil, go_inBlock, go_skip, go_exit, go_ret, go_region_lit, go_seq, go_block, goX_nil, goX_code, goX_ops, goX_same, goX_other, go_cond, goB_true, goB_false, go_ops_nil, go_op, go_opg, goW_true, goW_false, goO_move, goO_assign, goO_call, goF_fn, goV_some, goP_none, goP_some, goO_pick, goO_alloc, goO_box, goO_build, goO_buildSlice, goO_load, goO_store, goO_nilCheck, goO_bin, goO_un, goO_convert, goO_makeFunc, goO_makeSlice, goO_slice, goO_fieldAddr, goO_field, goO_indexAddr, goO_index, goO_extract, goO_builtin, gD, gWant, undef, aop, aev_tmp, aev_const, aev_func, aconst, upd_app, env0, env0_nil, env0_cons, aBin_ii, aBin_ss, aBin_bb, abin, aend, ares, aone, wrap_id, get_loc0, get_loc, set_loc0, set_loc, cont_loc0, cont_loc, cont_here, cont_next, row_loc0, row_loc, row_here, row_next, TI.isAgg, aLoad, aStore, aNew, aFieldAddr, aIndexAddr, aIndex, aPart, aField, aLen, aUn, aConv, aAppend, aBuildSlice, aMakeSlice, aBuild, aSlice, AV.cs, AV.one, Value.oneCell', if_pos, if_neg, List.getElem?_cons_zero, List.getElem?_cons_succ, fillA, zrep_zero, zrep_succ0, zrep_one, List.set_cons_zero, List.set_cons_succ, List.length_cons, List.length_nil, mkE_cons, mkE_nil, allE, DK_normal, LK_exit, LK_ret, dg_at, mts_at, sb_eq, str_size, aBound, Option.map_none, Option.map_some, aMin, aMax, DK2_normal, ptrNe_pp, sepA_nil, sepA_cons, DK3_normal, sepN_nil, sepN_cons, objNe_pp, objNe_ps, objNe_sp, objNe_ss, objNe_vx, objNe_xv, hci, h2, h3, h4, h5]
              exact next _ (by simp [sp1, h2, h4, h5]; omega) (by simp (disch := omega) [go_nil, go_inBlock, go_skip, go_exit, go_ret, go_region_lit, go_seq, go_block, goX_nil, goX_code, goX_ops, goX_same, goX_other, go_cond, goB_true, goB_false, go_ops_nil, go_op, go_opg, goW_true, goW_false, goO_move, goO_assign, goO_call, goF_fn, goV_some, goP_none, goP_some, goO_pick, goO_alloc, goO_box, goO_build, goO_buildSlice, goO_load, goO_store, goO_nilCheck, goO_bin, goO_un, goO_convert, goO_makeFunc, goO_makeSlice, goO_slice, goO_fieldAddr, goO_field, goO_indexAddr, goO_index, goO_extract, goO_builtin, gD, gWant, undef, aop, aev_tmp, aev_const, aev_func, aconst, upd_app, env0, env0_nil, env0_cons, aBin_ii, aBin_ss, aBin_bb, abin, aend, ares, aone, wrap_id, get_loc0, get_loc, set_loc0, set_loc, cont_loc0, cont_loc, cont_here, cont_next, row_loc0, row_loc, row_here, row_next, TI.isAgg, aLoad, aStore, aNew, aFieldAddr, aIndexAddr, aIndex, aPart, aField, aLen, aUn, aConv, aAppend, aBuildSlice, aMakeSlice, aBuild, aSlice, AV.cs, AV.one, Value.oneCell', if_pos, if_neg, List.getElem?_cons_zero, List.getElem?_cons_succ, fillA, zrep_zero, zrep_succ0, zrep_one, List.set_cons_zero, List.set_cons_succ, List.length_cons, List.length_nil, mkE_cons, mkE_nil, allE, DK_normal, LK_exit, LK_ret, dg_at, mts_at, sb_eq, str_size, aBound, Option.map_none, Option.map_some, aMin, aMax, DK2_normal, ptrNe_pp, sepA_nil, sepA_cons, DK3_normal, sepN_nil, sepN_cons, objNe_pp, objNe_ps, objNe_sp, objNe_ss, objNe_vx, objNe_xv])
            · rw [isS_false1 hc (by simp [sp1, h2, h5])] at hk
              simp (disch := omega) [go_nil, go_inBlock, go_skip, go_exit, go_ret, go_region_lit, go_seq, go_block, goX_nil, goX_code, goX_ops, goX_same, goX_other, go_cond, goB_true, goB_false, go_ops_nil, go_op, go_opg, goW_true, goW_false, goO_move, goO_assign, goO_call, goF_fn, goV_some, goP_none, goP_some, goO_pick, goO_alloc, goO_box, goO_build, goO_buildSlice, goO_load, goO_store, goO_nilCheck, goO_bin, goO_un, goO_convert, goO_makeFunc, goO_makeSlice, goO_slice, goO_fieldAddr, goO_field, goO_indexAddr, goO_index, goO_extract, goO_builtin, gD, gWant, undef, aop, aev_tmp, aev_const, aev_func, aconst, upd_app, env0, env0_nil, env0_cons, aBin_ii, aBin_ss, aBin_bb, abin, aend, ares, aone, wrap_id, get_loc0, get_loc, set_loc0, set_loc, cont_loc0, cont_loc, cont_here, cont_next, row_loc0, row_loc, row_here, row_next, TI.isAgg, aLoad, aStore, aNew, aFieldAddr, aIndexAddr, aIndex, aPart, aField, aLen, aUn, aConv, aAppend, aBuildSlice, aMakeSlice, aBuild, aSlice, AV.cs, AV.one, Value.oneCell', if_pos, if_neg, List.getElem?_cons_zero, List.getElem?_cons_succ, fillA, zrep_zero, zrep_succ0, zrep_one, List.set_cons_zero, List.set_cons_succ, List.length_cons, List.length_nil, mkE_cons, mkE_nil, allE, DK_normal, LK_exit, LK_ret, dg_at, mts_at, sb_eq, str_size, aBound, Option.map_none, Option.map_some, aMin, aMax, DK2_normal, ptrNe_pp, sepA_nil, sepA_cons, DK3_normal, sepN_nil, sepN_cons, objNe_pp, objNe_ps, objNe_sp, objNe_ss, objNe_vx, objNe_xv, hci, h2, h3, h4, h5]
              exact bad _ hk
    · have e : i = 16 := by omega
      subst e
      have hall : (List.range 16).all (sp1 n f) = true := by rw [List.all_eq_true]; intro j hj; exact hb j (by simpa using hj)
      simp (disch := omega) [go_nil, go_inBlock, go_skip, go_exit, go_ret, go_region_lit, go_seq, go_block, goX_nil, goX_code, goX_ops, goX_same, goX_other, go_cond, goB_true, goB_false, go_ops_nil, go_op, go_opg, goW_true, goW_false, goO_move, goO_assign, goO_call, goF_fn, goV_some, goP_none, goP_some, goO_pick, goO_alloc, goO_box, goO_build, goO_buildSlice, goO_load, goO_store, goO_nilCheck, goO_bin, goO_un, goO_convert, goO_makeFunc, goO_makeSlice, goO_slice, goO_fieldAddr, goO_field, goO_indexAddr, goO_index, goO_extract, goO_builtin, gD, gWant, undef, aop, aev_tmp, aev_const, aev_func, aconst, upd_app, env0, env0_nil, env0_cons, aBin_ii, aBin_ss, aBin_bb, abin, aend, ares, aone, wrap_id, get_loc0, get_loc, set_loc0, set_loc, cont_loc0, cont_loc, cont_here, cont_next, row_loc0, row_loc, row_here, row_next, TI.isAgg, aLoad, aStore, aNew, aFieldAddr, aIndexAddr, aIndex, aPart, aField, aLen, aUn, aConv, aAppend, aBuildSlice, aMakeSlice, aBuild, aSlice, AV.cs, AV.one, Value.oneCell', if_pos, if_neg, List.getElem?_cons_zero, List.getElem?_cons_succ, fillA, zrep_zero, zrep_succ0, zrep_one, List.set_cons_zero, List.set_cons_succ, List.length_cons, List.length_nil, mkE_cons, mkE_nil, allE, DK_normal, LK_exit, LK_ret, dg_at, mts_at, sb_eq, str_size, aBound, Option.map_none, Option.map_some, aMin, aMax, DK2_normal, ptrNe_pp, sepA_nil, sepA_cons, DK3_normal, sepN_nil, sepN_cons, objNe_pp, objNe_ps, objNe_sp, objNe_ss, objNe_vx, objNe_xv]
      refine go_loop (α := {i : Nat // i ≤ (2 * n).toNat ∧ ∀ a, a < i → ∀ b, b < (2 * n).toNat → crs n f a b = false}) (fun i => mkE [(1, .ptr m.length 0 0), (3, I n), (6, I i.1)])
        (fun i => m ++ [.cells (dg n f) 0 1]) (fun i => (2 * n).toNat - i.1) ⟨0, Nat.zero_le _, fun j hj => by omega⟩ (Wk.same rfl (by simp (disch := omega) [go_nil, go_inBlock, go_skip, go_exit, go_ret, go_region_lit, go_seq, go_block, goX_nil, goX_code, goX_ops, goX_same, goX_other, go_cond, goB_true, goB_false, go_ops_nil, go_op, go_opg, goW_true, goW_false, goO_move, goO_assign, goO_call, goF_fn, goV_some, goP_none, goP_some, goO_pick, goO_alloc, goO_box, goO_build, goO_buildSlice, goO_load, goO_store, goO_nilCheck, goO_bin, goO_un, goO_convert, goO_makeFunc, goO_makeSlice, goO_slice, goO_fieldAddr, goO_field, goO_indexAddr, goO_index, goO_extract, goO_builtin, gD, gWant, undef, aop, aev_tmp, aev_const, aev_func, aconst, upd_app, env0, env0_nil, env0_cons, aBin_ii, aBin_ss, aBin_bb, abin, aend, ares, aone, wrap_id, get_loc0, get_loc, set_loc0, set_loc, cont_loc0, cont_loc, cont_here, cont_next, row_loc0, row_loc, row_here, row_next, TI.isAgg, aLoad, aStore, aNew, aFieldAddr, aIndexAddr, aIndex, aPart, aField, aLen, aUn, aConv, aAppend, aBuildSlice, aMakeSlice, aBuild, aSlice, AV.cs, AV.one, Value.oneCell', if_pos, if_neg, List.getElem?_cons_zero, List.getElem?_cons_succ, fillA, zrep_zero, zrep_succ0, zrep_one, List.set_cons_zero, List.set_cons_succ, List.length_cons, List.length_nil, mkE_cons, mkE_nil, allE, DK_normal, LK_exit, LK_ret, dg_at, mts_at, sb_eq, str_size, aBound, Option.map_none, Option.map_some, aMin, aMax, DK2_normal, ptrNe_pp, sepA_nil, sepA_cons, DK3_normal, sepN_nil, sepN_cons, objNe_pp, objNe_ps, objNe_sp, objNe_ss, objNe_vx, objNe_xv])) (fun ⟨i, hi, hb2⟩ => ?_)
      by_cases hc2 : (i : Int) < 2 * n
      · simp (disch := omega) [go_nil, go_inBlock, go_skip, go_exit, go_ret, go_region_lit, go_seq, go_block, goX_nil, goX_code, goX_ops, goX_same, goX_other, go_cond, goB_true, goB_false, go_ops_nil, go_op, go_opg, goW_true, goW_false, goO_move, goO_assign, goO_call, goF_fn, goV_some, goP_none, goP_some, goO_pick, goO_alloc, goO_box, goO_build, goO_buildSlice, goO_load, goO_store, goO_nilCheck, goO_bin, goO_un, goO_convert, goO_makeFunc, goO_makeSlice, goO_slice, goO_fieldAddr, goO_field, goO_indexAddr, goO_index, goO_extract, goO_builtin, gD, gWant, undef, aop, aev_tmp, aev_const, aev_func, aconst, upd_app, env0, env0_nil, env0_cons, aBin_ii, aBin_ss, aBin_bb, abin, aend, ares, aone, wrap_id, get_loc0, get_loc, set_loc0, set_loc, cont_loc0, cont_loc, cont_here, cont_next, row_loc0, row_loc, row_here, row_next, TI.isAgg, aLoad, aStore, aNew, aFieldAddr, aIndexAddr, aIndex, aPart, aField, aLen, aUn, aConv, aAppend, aBuildSlice, aMakeSlice, aBuild, aSlice, AV.cs, AV.one, Value.oneCell', if_pos, if_neg, List.getElem?_cons_zero, List.getElem?_cons_succ, fillA, zrep_zero, zrep_succ0, zrep_one, List.set_cons_zero, List.set_cons_succ, List.length_cons, List.length_nil, mkE_cons, mkE_nil, allE, DK_normal, LK_exit, LK_ret, dg_at, mts_at, sb_eq, str_size, aBound, Option.map_none, Option.map_some, aMin, aMax, DK2_normal, ptrNe_pp, sepA_nil, sepA_cons, DK3_normal, sepN_nil, sepN_cons, objNe_pp, objNe_ps, objNe_sp, objNe_ss, objNe_vx, objNe_xv, hc2]
        refine goCall_n rfl (l01Ends_c n f i _ _ (by omega) h1 (by omega) hf ?_)
        simp (disch := omega) [go_nil, go_inBlock, go_skip, go_exit, go_ret, go_region_lit, go_seq, go_block, goX_nil, goX_code, goX_ops, goX_same, goX_other, go_cond, goB_true, goB_false, go_ops_nil, go_op, go_opg, goW_true, goW_false, goO_move, goO_assign, goO_call, goF_fn, goV_some, goP_none, goP_some, goO_pick, goO_alloc, goO_box, goO_build, goO_buildSlice, goO_load, goO_store, goO_nilCheck, goO_bin, goO_un, goO_convert, goO_makeFunc, goO_makeSlice, goO_slice, goO_fieldAddr, goO_field, goO_indexAddr, goO_index, goO_extract, goO_builtin, gD, gWant, undef, aop, aev_tmp, aev_const, aev_func, aconst, upd_app, env0, env0_nil, env0_cons, aBin_ii, aBin_ss, aBin_bb, abin, aend, ares, aone, wrap_id, get_loc0, get_loc, set_loc0, set_loc, cont_loc0, cont_loc, cont_here, cont_next, row_loc0, row_loc, row_here, row_next, TI.isAgg, aLoad, aStore, aNew, aFieldAddr, aIndexAddr, aIndex, aPart, aField, aLen, aUn, aConv, aAppend, aBuildSlice, aMakeSlice, aBuild, aSlice, AV.cs, AV.one, Value.oneCell', if_pos, if_neg, List.getElem?_cons_zero, List.getElem?_cons_succ, fillA, zrep_zero, zrep_succ0, zrep_one, List.set_cons_zero, List.set_cons_succ, List.length_cons, List.length_nil, mkE_cons, mkE_nil, allE, DK_normal, LK_exit, LK_ret, dg_at, mts_at, sb_eq, str_size, aBound, Option.map_none, Option.map_some, aMin, aMax, DK2_normal, ptrNe_pp, sepA_nil, sepA_cons, DK3_normal, sepN_nil, sepN_cons, objNe_pp, objNe_ps, objNe_sp, objNe_ss, objNe_vx, objNe_xv]
        refine go_loop (α := {k : Nat // k ≤ (2 * n).toNat ∧ ∀ b, b < k → crs n f i b = false}) (fun k => mkE [(1, .ptr m.length 0 0), (3, I n), (6, I i), (7, I (en1 n f i)), (8, I (en2 n f i)), (9, I k.1)])
          (fun i => m ++ [.cells (dg n f) 0 1]) (fun k => (2 * n).toNat - k.1) ⟨0, Nat.zero_le _, fun j hj => by omega⟩ (Wk.same rfl (by simp (disch := omega) [go_nil, go_inBlock, go_skip, go_exit, go_ret, go_region_lit, go_seq, go_block, goX_nil, goX_code, goX_ops, goX_same, goX_other, go_cond, goB_true, goB_false, go_ops_nil, go_op, go_opg, goW_true, goW_false, goO_move, goO_assign, goO_call, goF_fn, goV_some, goP_none, goP_some, goO_pick, goO_alloc, goO_box, goO_build, goO_buildSlice, goO_load, goO_store, goO_nilCheck, goO_bin, goO_un, goO_convert, goO_makeFunc, goO_makeSlice, goO_slice, goO_fieldAddr, goO_field, goO_indexAddr, goO_index, goO_extract, goO_builtin, gD, gWant, undef, aop, aev_tmp, aev_const, aev_func, aconst, upd_app, env0, env0_nil, env0_cons, aBin_ii, aBin_ss, aBin_bb, abin, aend, ares, aone, wrap_id, get_loc0, get_loc, set_loc0, set_loc, cont_loc0, cont_loc, cont_here, cont_next, row_loc0, row_loc, row_here, row_next, TI.isAgg, aLoad, aStore, aNew, aFieldAddr, aIndexAddr, aIndex, aPart, aField, aLen, aUn, aConv, aAppend, aBuildSlice, aMakeSlice, aBuild, aSlice, AV.cs, AV.one, Value.oneCell', if_pos, if_neg, List.getElem?_cons_zero, List.getElem?_cons_succ, fillA, zrep_zero, zrep_succ0, zrep_one, List.set_cons_zero, List.set_cons_succ, List.length_cons, List.length_nil, mkE_cons, mkE_nil, allE, DK_normal, LK_exit, LK_ret, dg_at, mts_at, sb_eq, str_size, aBound, Option.map_none, Option.map_some, aMin, aMax, DK2_normal, ptrNe_pp, sepA_nil, sepA_cons, DK3_normal, sepN_nil, sepN_cons, objNe_pp, objNe_ps, objNe_sp, objNe_ss, objNe_vx, objNe_xv])) (fun ⟨k, hk1, hk2⟩ => ?_)
        by_cases hc3 : (k : Int) < 2 * n
        · simp (disch := omega) [go_nil, go_inBlock, go_skip, go_exit, go_ret, go_region_lit, go_seq, go_block, goX_nil, goX_code, goX_ops, goX_same, goX_other, go_cond, goB_true, goB_false, go_ops_nil, go_op, go_opg, goW_true, goW_false, goO_move, goO_assign, goO_call, goF_fn, goV_some, goP_none, goP_some, goO_pick, goO_alloc, goO_box, goO_build, goO_buildSlice, goO_load, goO_store, goO_nilCheck, goO_bin, goO_un, goO_convert, goO_makeFunc, goO_makeSlice, goO_slice, goO_fieldAddr, goO_field, goO_indexAddr, goO_index, goO_extract, goO_builtin, gD, gWant, undef, aop, aev_tmp, aev_const, aev_func, aconst, upd_app, env0, env0_nil, env0_cons, aBin_ii, aBin_ss, aBin_bb, abin, aend, ares, aone, wrap_id, get_loc0, get_loc, set_loc0, set_loc, cont_loc0, cont_loc, cont_here, cont_next, row_loc0, row_loc, row_here, row_next, TI.isAgg, aLoad, aStore, aNew, aFieldAddr, aIndexAddr, aIndex, aPart, aField, aLen, aUn, aConv, aAppend, aBuildSlice, aMakeSlice, aBuild, aSlice, AV.cs, AV.one, Value.oneCell', if_pos, if_neg, List.getElem?_cons_zero, List.getElem?_cons_succ, fillA, zrep_zero, zrep_succ0, zrep_one, List.set_cons_zero, List.set_cons_succ, List.length_cons, List.length_nil, mkE_cons, mkE_nil, allE, DK_normal, LK_exit, LK_ret, dg_at, mts_at, sb_eq, str_size, aBound, Option.map_none, Option.map_some, aMin, aMax, DK2_normal, ptrNe_pp, sepA_nil, sepA_cons, DK3_normal, sepN_nil, sepN_cons, objNe_pp, objNe_ps, objNe_sp, objNe_ss, objNe_vx, objNe_xv, hc3]
          refine goCall_n rfl (l01Ends_c n f k _ _ (by omega) h1 (by omega) hf ?_)
          have next : ∀ env, crs n f i k = false → allE env [(1, .ptr m.length 0 0), (3, I n), (6, I i), (7, I (en1 n f i)), (8, I (en2 n f i)), (9, I (k + 1))] → _ := fun env hs he => (show ∃ x' : {k : Nat // k ≤ (2 * n).toNat ∧ ∀ b, b < k → crs n f i b = false}, Wk m.length env (m ++ [.cells (dg n f) 0 1]) (mkE [(1, .ptr m.length 0 0), (3, I n), (6, I i), (7, I (en1 n f i)), (8, I (en2 n f i)), (9, I x'.1)]) (m ++ [.cells (dg n f) 0 1]) ∧ (2 * n).toNat - x'.1 < (2 * n).toNat - k from
            ⟨⟨k + 1, by omega, fun j hj => by
                by_cases e : j = k
                · subst e; exact hs
                · exact hk2 j (by omega)⟩, Wk.same rfl (by simpa using he), by simp; omega⟩)
          by_cases c1 : en1 n f i < en1 n f k
          · by_cases c2 : en1 n f k < en2 n f i
            · by_cases c3 : en2 n f i < en2 n f k
              · rw [isS_false2 (i := i) (k := k) (by omega) (by omega) (by simp [crs, c1, c2, c3])] at hk
                simp (disch := omega) [go_nil, go_inBlock, go_skip, go_exit, go_ret, go_region_lit, go_seq, go_block, goX_nil, goX_code, goX_ops, goX_same, goX_other, go_cond, goB_true, goB_false, go_ops_nil, go_op, go_opg, goW_true, goW_false, goO_move, goO_assign, goO_call, goF_fn, goV_some, goP_none, goP_some, goO_pick, goO_alloc, goO_box, goO_build, goO_buildSlice, goO_load, goO_store, goO_nilCheck, goO_bin, goO_un, goO_convert, goO_makeFunc, goO_makeSlice, goO_slice, goO_fieldAddr, goO_field, goO_indexAddr, goO_index, goO_extract, goO_builtin, gD, gWant, undef, aop, aev_tmp, aev_const, aev_func, aconst, upd_app, env0, env0_nil, env0_cons, aBin_ii, aBin_ss, aBin_bb, abin, aend, ares, aone, wrap_id, get_loc0, get_loc, set_loc0, set_loc, cont_loc0, cont_loc, cont_here, cont_next, row_loc0, row_loc, row_here, row_next, TI.isAgg, aLoad, aStore, aNew, aFieldAddr, aIndexAddr, aIndex, aPart, aField, aLen, aUn, aConv, aAppend, aBuildSlice, aMakeSlice, aBuild, aSlice, AV.cs, AV.one, Value.oneCell', if_pos, if_neg, List.getElem?_cons_zero, List.getElem?_cons_succ, fillA, zrep_zero, zrep_succ0, zrep_one, List.set_cons_zero, List.set_cons_succ, List.length_cons, List.length_nil, mkE_cons, mkE_nil, allE, DK_normal, LK_exit, LK_ret, dg_at, mts_at, sb_eq, str_size, aBound, Option.map_none, Option.map_some, aMin, aMax, DK2_normal, ptrNe_pp, sepA_nil, sepA_cons, DK3_normal, sepN_nil, sepN_cons, objNe_pp, objNe_ps, objNe_sp, objNe_ss, objNe_vx, objNe_xv, c1, c2, c3]
                exact bad _ hk
              · simp (disch := omega) [go_nil, go_inBlock, go_skip, go_exit, go_ret, go_region_lit, go_seq, go_block, goX_nil, goX_code, goX_ops, goX_same, goX_other, go_cond, goB_true, goB_false, go_ops_nil, go_op, go_opg, goW_true, goW_false, goO_move, goO_assign, goO_call, goF_fn, goV_some, goP_none, goP_some, goO_pick, goO_alloc, goO_box, goO_build, goO_buildSlice, goO_load, goO_store, goO_nilCheck, goO_bin, goO_un, goO_convert, goO_makeFunc, goO_makeSlice, goO_slice, goO_fieldAddr, goO_field, goO_indexAddr, goO_index, goO_extract, goO_builtin, gD, gWant, undef, aop, aev_tmp, aev_const, aev_func, aconst, upd_app, env0, env0_nil, env0_cons, aBin_ii, aBin_ss, aBin_bb, abin, aend, ares, aone, wrap_id, get_loc0, get_loc, set_loc0, set_loc, cont_loc0, cont_loc, cont_here, cont_next, row_loc0, row_loc, row_here, row_next, TI.isAgg, aLoad, aStore, aNew, aFieldAddr, aIndexAddr, aIndex, aPart, aField, aLen, aUn, aConv, aAppend, aBuildSlice, aMakeSlice, aBuild, aSlice, AV.cs, AV.one, Value.oneCell', if_pos, if_neg, List.getElem?_cons_zero, List.getElem?_cons_succ, fillA, zrep_zero, zrep_succ0, zrep_one, List.set_cons_zero, List.set_cons_succ, List.length_cons, List.length_nil, mkE_cons, mkE_nil, allE, DK_normal, LK_exit, LK_ret, dg_at, mts_at, sb_eq, str_size, aBound, Option.map_none, Option.map_some, aMin, aMax, DK2_normal, ptrNe_pp, sepA_nil, sepA_cons, DK3_normal, sepN_nil, sepN_cons, objNe_pp, objNe_ps, objNe_sp, objNe_ss, objNe_vx, objNe_xv, c1, c2, c3]
                exact next _ (by simp [crs, c1, c2, c3]) (by simp (disch := omega) [go_nil, go_inBlock, go_skip, go_exit, go_ret, go_region_lit, go_seq, go_block, goX_nil, goX_code, goX_ops, goX_same, goX_other, go_cond, goB_true, goB_false, go_ops_nil, go_op, go_opg, goW_true, goW_false, goO_move, goO_assign, goO_call, goF_fn, goV_some, goP_none, goP_some, goO_pick, goO_alloc, goO_box, goO_build, goO_buildSlice, goO_load, goO_store, goO_nilCheck, goO_bin, goO_un, goO_convert, goO_makeFunc, goO_makeSlice, goO_slice, goO_fieldAddr, goO_field, goO_indexAddr, goO_index, goO_extract, goO_builtin, gD, gWant, undef, aop, aev_tmp, aev_const, aev_func, aconst, upd_app, env0, env0_nil, env0_cons, aBin_ii, aBin_ss, aBin_bb, abin, aend, ares, aone, wrap_id, get_loc0, get_loc, set_loc0, set_loc, cont_loc0, cont_loc, cont_here, cont_next, row_loc0, row_loc, row_here, row_next, TI.isAgg, aLoad, aStore, aNew, aFieldAddr, aIndexAddr, aIndex, aPart, aField, aLen, aUn, aConv, aAppend, aBuildSlice, aMakeSlice, aBuild, aSlice, AV.cs, AV.one, Value.oneCell', if_pos, if_neg, List.getElem?_cons_zero, List.getElem?_cons_succ, fillA, zrep_zero, zrep_succ0, zrep_one, List.set_cons_zero, List.set_cons_succ, List.length_cons, List.length_nil, mkE_cons, mkE_nil, allE, DK_normal, LK_exit, LK_ret, dg_at, mts_at, sb_eq, str_size, aBound, Option.map_none, Option.map_some, aMin, aMax, DK2_normal, ptrNe_pp, sepA_nil, sepA_cons, DK3_normal, sepN_nil, sepN_cons, objNe_pp, objNe_ps, objNe_sp, objNe_ss, objNe_vx, objNe_xv])
            · simp (disch := omega) [go_nil, go_inBlock, go_skip, go_exit, go_ret, go_region_lit, go_seq, go_block, goX_nil, goX_code, goX_ops, goX_same, goX_other, go_cond, goB_true, goB_false, go_ops_nil, go_op, go_opg, goW_true, goW_false, goO_move, goO_assign, goO_call, goF_fn, goV_some, goP_none, goP_some, goO_pick, goO_alloc, goO_box, goO_build, goO_buildSlice, goO_load, goO_store, goO_nilCheck, goO_bin, goO_un, goO_convert, goO_makeFunc, goO_makeSlice, goO_slice, goO_fieldAddr, goO_field, goO_indexAddr, goO_index, goO_extract, goO_builtin, gD, gWant, undef, aop, aev_tmp, aev_const, aev_func, aconst, upd_app, env0, env0_nil, env0_cons, aBin_ii, aBin_ss, aBin_bb, abin, aend, ares, aone, wrap_id, get_loc0, get_loc, set_loc0, set_loc, cont_loc0, cont_loc, cont_here, cont_next, row_loc0, row_loc, row_here, row_next, TI.isAgg, aLoad, aStore, aNew, aFieldAddr, aIndexAddr, aIndex, aPart, aField, aLen, aUn, aConv, aAppend, aBuildSlice, aMakeSlice, aBuild, aSlice, AV.cs, AV.one, Value.oneCell', if_pos, if_neg, List.getElem?_cons_zero, List.getElem?_cons_succ, fillA, zrep_zero, zrep_succ0, zrep_one, List.set_cons_zero, List.set_cons_succ, List.length_cons, List.length_nil, mkE_cons, mkE_nil, allE, DK_normal, LK_exit, LK_ret, dg_at, mts_at, sb_eq, str_size, aBound, Option.map_none, Option.map_some, aMin, aMax, DK2_normal, ptrNe_pp, sepA_nil, sepA_cons, DK3_normal, sepN_nil, sepN_cons, objNe_pp, objNe_ps, objNe_sp, objNe_ss, objNe_vx, objNe_xv, c1, c2]
              exact next _ (by simp [crs, c1, c2]) (by simp (disch := omega) [go_nil, go_inBlock, go_skip, go_exit, go_ret, go_region_lit, go_seq, go_block, goX_nil, goX_code, goX_ops, goX_same, goX_other, go_cond, goB_true, goB_false, go_ops_nil, go_op, go_opg, goW_true, goW_false, goO_move, goO_assign, goO_call, goF_fn, goV_some, goP_none, goP_some, goO_pick, goO_alloc, goO_box, goO_build, goO_buildSlice, goO_load, goO_store, goO_nilCheck, goO_bin, goO_un, goO_convert, goO_makeFunc, goO_makeSlice, goO_slice, goO_fieldAddr, goO_field, goO_indexAddr, goO_index, goO_extract, goO_builtin, gD, gWant, undef, aop, aev_tmp, aev_const, aev_func, aconst, upd_app, env0, env0_nil, env0_cons, aBin_ii, aBin_ss, aBin_bb, abin, aend, ares, aone, wrap_id, get_loc0, get_loc, set_loc0, set_loc, cont_loc0, cont_loc, cont_here, cont_next, row_loc0, row_loc, row_here, row_next, TI.isAgg, aLoad, aStore, aNew, aFieldAddr, aIndexAddr, aIndex, aPart, aField, aLen, aUn, aConv, aAppend, aBuildSlice, aMakeSlice, aBuild, aSlice, AV.cs, AV.one, Value.oneCell', if_pos, if_neg, List.getElem?_cons_zero, List.getElem?_cons_succ, fillA, zrep_zero, zrep_succ0, zrep_one, List.set_cons_zero, List.set_cons_succ, List.length_cons, List.length_nil, mkE_cons, mkE_nil, allE, DK_normal, LK_exit, LK_ret, dg_at, mts_at, sb_eq, str_size, aBound, Option.map_none, Option.map_some, aMin, aMax, DK2_normal, ptrNe_pp, sepA_nil, sepA_cons, DK3_normal, sepN_nil, sepN_cons, objNe_pp, objNe_ps, objNe_sp, objNe_ss, objNe_vx, objNe_xv])
          · simp (disch := omega) [go_nil, go_inBlock, go_skip, go_exit, go_ret, go_region_lit, go_seq, go_block, goX_nil, goX_code, goX_ops, goX_same, goX_other, go_cond, goB_true, goB_false, go_ops_nil, go_op, go_opg, goW_true, goW_false, goO_move, goO_assign, goO_call, goF_fn, goV_some, goP_none, goP_some, goO_pick, goO_alloc, goO_box, goO_build, goO_buildSlice, goO_load, goO_store, goO_nilCheck, goO_bin, goO_un, goO_convert, goO_makeFunc, goO_makeSlice, goO_slice, goO_fieldAddr, goO_field, goO_indexAddr, goO_index, goO_extract, goO_builtin, gD, gWant, undef, aop, aev_tmp, aev_const, aev_func, aconst, upd_app, env0, env0_nil, env0_cons, aBin_ii, aBin_ss, aBin_bb, abin, aend, ares, aone, wrap_id, get_loc0, get_loc, set_loc0, set_loc, cont_loc0, cont_loc, cont_here, cont_next, row_loc0, row_loc, row_here, row_next, TI.isAgg, aLoad, aStore, aNew, aFieldAddr, aIndexAddr, aIndex, aPart, aField, aLen, aUn, aConv, aAppend, aBuildSlice, aMakeSlice, aBuild, aSlice, AV.cs, AV.one, Value.oneCell', if_pos, if_neg, List.getElem?_cons_zero, List.getElem?_cons_succ, fillA, zrep_zero, zrep_succ0, zrep_one, List.set_cons_zero, List.set_cons_succ, List.length_cons, List.length_nil, mkE_cons, mkE_nil, allE, DK_normal, LK_exit, LK_ret, dg_at, mts_at, sb_eq, str_size, aBound, Option.map_none, Option.map_some, aMin, aMax, DK2_normal, ptrNe_pp, sepA_nil, sepA_cons, DK3_normal, sepN_nil, sepN_cons, objNe_pp, objNe_ps, objNe_sp, objNe_ss, objNe_vx, objNe_xv, c1]
            exact next _ (by simp [crs, c1]) (by simp (disch := omega) [go_nil, go_inBlock, go_skip, go_exit, go_ret, go_region_lit, go_seq, go_block, goX_nil, goX_code, goX_ops, goX_same, goX_other, go_cond, goB_true, goB_false, go_ops_nil, go_op, go_opg, goW_true, goW_false, goO_move, goO_assign, goO_call, goF_fn, goV_some, goP_none, goP_some, goO_pick, goO_alloc, goO_box, goO_build, goO_buildSlice, goO_load, goO_store, goO_nilCheck, goO_bin, goO_un, goO_convert, goO_makeFunc, goO_makeSlice, goO_slice, goO_fieldAddr, goO_field, goO_indexAddr, goO_index, goO_extract, goO_builtin, gD, gWant, undef, aop, aev_tmp, aev_const, aev_func, aconst, upd_app, env0, env0_nil, env0_cons, aBin_ii, aBin_ss, aBin_bb, abin, aend, ares, aone, wrap_id, get_loc0, get_loc, set_loc0, set_loc, cont_loc0, cont_loc, cont_here, cont_next, row_loc0, row_loc, row_here, row_next, TI.isAgg, aLoad, aStore, aNew, aFieldAddr, aIndexAddr, aIndex, aPart, aField, aLen, aUn, aConv, aAppend, aBuildSlice, aMakeSlice, aBuild, aSlice, AV.cs, AV.one, Value.oneCell', if_pos, if_neg, List.getElem?_cons_zero, List.getElem?_cons_succ, fillA, zrep_zero, zrep_succ0, zrep_one, List.set_cons_zero, List.set_cons_succ, List.length_cons, List.length_nil, mkE_cons, mkE_nil, allE, DK_normal, LK_exit, LK_ret, dg_at, mts_at, sb_eq, str_size, aBound, Option.map_none, Option.map_some, aMin, aMax, DK2_normal, ptrNe_pp, sepA_nil, sepA_cons, DK3_normal, sepN_nil, sepN_cons, objNe_pp, objNe_ps, objNe_sp, objNe_ss, objNe_vx, objNe_xv])
        · simp (disch := omega) [go_nil, go_inBlock, go_skip, go_exit, go_ret, go_region_lit, go_seq, go_block, goX_nil, goX_code, goX_ops, goX_same, goX_other, go_cond, goB_true, goB_false, go_ops_nil, go_op, go_opg, goW_true, goW_false, goO_move, goO_assign, goO_call, goF_fn, goV_some, goP_none, goP_some, goO_pick, goO_alloc, goO_box, goO_build, goO_buildSlice, goO_load, goO_store, goO_nilCheck, goO_bin, goO_un, goO_convert, goO_makeFunc, goO_makeSlice, goO_slice, goO_fieldAddr, goO_field, goO_indexAddr, goO_index, goO_extract, goO_builtin, gD, gWant, undef, aop, aev_tmp, aev_const, aev_func, aconst, upd_app, env0, env0_nil, env0_cons, aBin_ii, aBin_ss, aBin_bb, abin, aend, ares, aone, wrap_id, get_loc0, get_loc, set_loc0, set_loc, cont_loc0, cont_loc, cont_here, cont_next, row_loc0, row_loc, row_here, row_next, TI.isAgg, aLoad, aStore, aNew, aFieldAddr, aIndexAddr, aIndex, aPart, aField, aLen, aUn, aConv, aAppend, aBuildSlice, aMakeSlice, aBuild, aSlice, AV.cs, AV.one, Value.oneCell', if_pos, if_neg, List.getElem?_cons_zero, List.getElem?_cons_succ, fillA, zrep_zero, zrep_succ0, zrep_one, List.set_cons_zero, List.set_cons_succ, List.length_cons, List.length_nil, mkE_cons, mkE_nil, allE, DK_normal, LK_exit, LK_ret, dg_at, mts_at, sb_eq, str_size, aBound, Option.map_none, Option.map_some, aMin, aMax, DK2_normal, ptrNe_pp, sepA_nil, sepA_cons, DK3_normal, sepN_nil, sepN_cons, objNe_pp, objNe_ps, objNe_sp, objNe_ss, objNe_vx, objNe_xv, hc3]
          exact ⟨⟨i + 1, by omega, fun a ha b hb => by
              by_cases e : a = i
              · subst e; exact hk2 b (by omega)
              · exact hb2 a (by omega) b hb⟩, Wk.same rfl (by simp (disch := omega) [go_nil, go_inBlock, go_skip, go_exit, go_ret, go_region_lit, go_seq, go_block, goX_nil, goX_code, goX_ops, goX_same, goX_other, go_cond, goB_true, goB_false, go_ops_nil, go_op, go_opg, goW_true, goW_false, goO_move, goO_assign, goO_call, goF_fn, goV_some, goP_none, goP_some, goO_pick, goO_alloc, goO_box, goO_build, goO_buildSlice, goO_load, goO_store, goO_nilCheck, goO_bin, goO_un, goO_convert, goO_makeFunc, goO_makeSlice, goO_slice, goO_fieldAddr, goO_field, goO_indexAddr, goO_index, goO_extract, goO_builtin, gD, gWant, undef, aop, aev_tmp, aev_const, aev_func, aconst, upd_app, env0, env0_nil, env0_cons, aBin_ii, aBin_ss, aBin_bb, abin, aend, ares, aone, wrap_id, get_loc0, get_loc, set_loc0, set_loc, cont_loc0, cont_loc, cont_here, cont_next, row_loc0, row_loc, row_here, row_next, TI.isAgg, aLoad, aStore, aNew, aFieldAddr, aIndexAddr, aIndex, aPart, aField, aLen, aUn, aConv, aAppend, aBuildSlice, aMakeSlice, aBuild, aSlice, AV.cs, AV.one, Value.oneCell', if_pos, if_neg, List.getElem?_cons_zero, List.getElem?_cons_succ, fillA, zrep_zero, zrep_succ0, zrep_one, List.set_cons_zero, List.set_cons_succ, List.length_cons, List.length_nil, mkE_cons, mkE_nil, allE, DK_normal, LK_exit, LK_ret, dg_at, mts_at, sb_eq, str_size, aBound, Option.map_none, Option.map_some, aMin, aMax, DK2_normal, ptrNe_pp, sepA_nil, sepA_cons, DK3_normal, sepN_nil, sepN_cons, objNe_pp, objNe_ps, objNe_sp, objNe_ss, objNe_vx, objNe_xv]), by simp; omega⟩
      · have hI : isS n f = true := by
          simp only [isS, h0, h1, hall, decide_true, Bool.true_and, List.all_eq_true, List.mem_range, Bool.not_eq_true']
          exact fun a ha b hb => hb2 a (by omega) b hb
        rw [hI] at hk
        simp (disch := omega) [go_nil, go_inBlock, go_skip, go_exit, go_ret, go_region_lit, go_seq, go_block, goX_nil, goX_code, goX_ops, goX_same, goX_other, go_cond, goB_true, goB_false, go_ops_nil, go_op, go_opg, goW_true, goW_false, goO_move, goO_assign, goO_call, goF_fn, goV_some, goP_none, goP_some, goO_pick, goO_alloc, goO_box, goO_build, goO_buildSlice, goO_load, goO_store, goO_nilCheck, goO_bin, goO_un, goO_convert, goO_makeFunc, goO_makeSlice, goO_slice, goO_fieldAddr, goO_field, goO_indexAddr, goO_index, goO_extract, goO_builtin, gD, gWant, undef, aop, aev_tmp, aev_const, aev_func, aconst, upd_app, env0, env0_nil, env0_cons, aBin_ii, aBin_ss, aBin_bb, abin, aend, ares, aone, wrap_id, get_loc0, get_loc, set_loc0, set_loc, cont_loc0, cont_loc, cont_here, cont_next, row_loc0, row_loc, row_here, row_next, TI.isAgg, aLoad, aStore, aNew, aFieldAddr, aIndexAddr, aIndex, aPart, aField, aLen, aUn, aConv, aAppend, aBuildSlice, aMakeSlice, aBuild, aSlice, AV.cs, AV.one, Value.oneCell', if_pos, if_neg, List.getElem?_cons_zero, List.getElem?_cons_succ, fillA, zrep_zero, zrep_succ0, zrep_one, List.set_cons_zero, List.set_cons_succ, List.length_cons, List.length_nil, mkE_cons, mkE_nil, allE, DK_normal, LK_exit, LK_ret, dg_at, mts_at, sb_eq, str_size, aBound, Option.map_none, Option.map_some, aMin, aMax, DK2_normal, ptrNe_pp, sepA_nil, sepA_cons, DK3_normal, sepN_nil, sepN_cons, objNe_pp, objNe_ps, objNe_sp, objNe_ss, objNe_vx, objNe_xv, hc2]
        exact dropE (n := m.length) m _ rfl (Nat.le_refl _) hcl (by simp [AV.sc, scs]) hk
  · have d3 : (decide ((1:Int) ≤ n) && decide (n ≤ 8)) = false := by
      rw [Bool.and_eq_false_iff]; simp; omega
    have hI : isS n f = false := by simp [isS, d3]
    rw [hI] at hk
    simp (disch := omega) [go_nil, go_inBlock, go_skip, go_exit, go_ret, go_region_lit, go_seq, go_block, goX_nil, goX_code, goX_ops, goX_same, goX_other, go_cond, goB_true, goB_false, go_ops_nil, go_op, go_opg, goW_true, goW_false, goO_move, goO_assign, goO_call, goF_fn, goV_some, goP_none, goP_some, goO_pick, goO_alloc, goO_box, goO_build, goO_buildSlice, goO_load, goO_store, goO_nilCheck, goO_bin, goO_un, goO_convert, goO_makeFunc, goO_makeSlice, goO_slice, goO_fieldAddr, goO_field, goO_indexAddr, goO_index, goO_extract, goO_builtin, gD, gWant, undef, aop, aev_tmp, aev_const, aev_func, aconst, upd_app, env0, env0_nil, env0_cons, aBin_ii, aBin_ss, aBin_bb, abin, aend, ares, aone, wrap_id, get_loc0, get_loc, set_loc0, set_loc, cont_loc0, cont_loc, cont_here, cont_next, row_loc0, row_loc, row_here, row_next, TI.isAgg, aLoad, aStore, aNew, aFieldAddr, aIndexAddr, aIndex, aPart, aField, aLen, aUn, aConv, aAppend, aBuildSlice, aMakeSlice, aBuild, aSlice, AV.cs, AV.one, Value.oneCell', if_pos, if_neg, List.getElem?_cons_zero, List.getElem?_cons_succ, fillA, zrep_zero, zrep_succ0, zrep_one, List.set_cons_zero, List.set_cons_succ, List.length_cons, List.length_nil, mkE_cons, mkE_nil, allE, DK_normal, LK_exit, LK_ret, dg_at, mts_at, sb_eq, str_size, aBound, Option.map_none, Option.map_some, aMin, aMax, DK2_normal, ptrNe_pp, sepA_nil, sepA_cons, DK3_normal, sepN_nil, sepN_cons, objNe_pp, objNe_ps, objNe_sp, objNe_ss, objNe_vx, objNe_xv, d3]
    exact dropE (n := m.length) m _ rfl (Nat.le_refl _) hcl (by simp [AV.sc, scs]) hk

end Go.Proofs.Ytcdejfehblnphaa

/- Brackets matched and lines without crossings: the plain law. -/
namespace Go.Proofs.Ytcdejfehblnphaa
open Go Go.RowKit

/-- Who is joined with whom, without crossings. -/
structure NC (N : Nat) (g : Nat → Int) : Prop where
  bd : ∀ k, k < N → 0 ≤ g k ∧ g k < N ∧ g k ≠ k
  inv : ∀ k, k < N → g (g k).toNat = k
  nc : ∀ a c : Nat, a < c → (c : Int) < g a → a < N → g c < g a

theorem pst_of_nc {N : Nat} {g t : Nat → Int} (h : NC N g) (ht : ∀ k, k < N → t k = if (k : Int) < g k then 40 else 41) :
    ∀ k, k ≤ N → ∃ out stk, pst t k = some (out, stk) ∧ List.Pairwise (· > ·) stk ∧ (∀ i, i ∈ stk ↔ (i < k ∧ (k : Int) ≤ g i)) ∧ (∀ j, j < k → g j < k → out j = g j)
  | 0, _ => ⟨fun _ => 0, [], rfl, List.Pairwise.nil, by simp, by omega⟩
  | k + 1, hk => by
    obtain ⟨out, stk, hp, hs, hm, ho⟩ := pst_of_nc h ht k (by omega)
    have hb := h.bd k (by omega)
    have hi := h.inv k (by omega)
    by_cases hlt : (k : Int) < g k
    · have ht' : t k = 40 := by rw [ht k (by omega), if_pos hlt]
      refine ⟨out, k :: stk, by simp [pst, hp, ht'], ?_, ?_, ?_⟩
      · rw [List.pairwise_cons]; exact ⟨fun i hi => ((hm i).1 hi).1, hs⟩
      · intro i
        rw [List.mem_cons, hm]
        constructor
        · rintro (rfl | ⟨h1, h2⟩)
          · omega
          · refine ⟨by omega, ?_⟩
            have := h.inv i (by omega)
            by_cases e : g i = k
            · rw [e] at this; simp at this; omega
            · omega
        · rintro ⟨h1, h2⟩
          by_cases e : i = k
          · exact .inl e
          · exact .inr ⟨by omega, by omega⟩
      · intro j hj hgj
        by_cases e : j = k
        · subst e; omega
        · refine ho j (by omega) ?_
          by_cases e2 : g j = k
          · have := h.inv j (by omega)
            rw [e2] at this; simp at this; omega
          · omega
    · have ht' : t k = 41 := by rw [ht k (by omega), if_neg hlt]
      have hmem : (g k).toNat ∈ stk := (hm _).2 ⟨by omega, by omega⟩
      cases stk with
      | nil => simp at hmem
      | cons i r =>
        rw [List.pairwise_cons] at hs
        have hik := (hm i).1 (by simp)
        have e : (i : Int) = g k := by
          by_cases e : (i : Int) = g k
          · exact e
          · exfalso
            have hlt2 : (g k).toNat < i := by
              rw [List.mem_cons] at hmem
              rcases hmem with h1 | h1
              · omega
              · have := hs.1 _ h1; omega
            have h3 := h.nc (g k).toNat i hlt2 (by rw [hi]; omega) (by omega)
            rw [hi] at h3; omega
        have ei : i = (g k).toNat := by omega
        have hgi : g i = k := by rw [ei]; exact hi
        refine ⟨fset (fset out i k) k i, r, by simp [pst, hp, ht'], hs.2, ?_, ?_⟩
        · intro j
          constructor
          · intro hj
            have h1 := (hm j).1 (by simp [hj])
            have h2 := hs.1 j hj
            refine ⟨by omega, ?_⟩
            by_cases e2 : g j = k
            · have := h.inv j (by omega)
              rw [e2] at this; simp at this; omega
            · omega
          · rintro ⟨h1, h2⟩
            have h3 : j ≠ k := by intro e3; subst e3; omega
            have h4 := (hm j).2 ⟨by omega, by omega⟩
            rw [List.mem_cons] at h4
            rcases h4 with h4 | h4
            · subst h4; omega
            · exact h4
        · intro j hj hgj
          simp only [fset]
          by_cases e1 : j = k
          · subst e1; simp; exact e
          · rw [if_neg e1]
            by_cases e2 : j = i
            · subst e2; simp [hgi]
            · rw [if_neg e2]
              refine ho j (by omega) ?_
              by_cases e3 : g j = k
              · have := h.inv j (by omega)
                rw [e3] at this; simp at this; omega
              · omega

/-- What a run of the matching keeps. -/
theorem nc_of_pst (t : Nat → Int) : ∀ k out stk, pst t k = some (out, stk) → List.Pairwise (· > ·) stk ∧ (∀ i, i ∈ stk → i < k) ∧
    (∀ i, i < k → i ∉ stk → 0 ≤ out i ∧ out i < k ∧ out i ≠ i ∧ (out i).toNat ∉ stk ∧ out (out i).toNat = i) ∧
    (∀ i c : Nat, i < c → (c : Int) < out i → i < k → i ∉ stk → c ∉ stk ∧ out c < out i)
  | 0, out, stk, h => by simp [pst] at h; obtain ⟨_, rfl⟩ := h; exact ⟨List.Pairwise.nil, by simp, by omega, by omega⟩
  | k + 1, out', stk', h => by
    simp only [pst] at h
    cases hp : pst t k with
    | none => simp [hp] at h
    | some s =>
      obtain ⟨out, stk⟩ := s
      obtain ⟨h1, h2, h3, h4⟩ := nc_of_pst t k out stk hp
      simp only [hp] at h
      split at h
      · simp at h; obtain ⟨rfl, rfl⟩ := h
        refine ⟨?_, ?_, ?_, ?_⟩
        · rw [List.pairwise_cons]; exact ⟨fun i hi => h2 i hi, h1⟩
        · intro i hi; rw [List.mem_cons] at hi; rcases hi with rfl | hi
          · omega
          · have := h2 i hi; omega
        · intro i hi hm
          rw [List.mem_cons, not_or] at hm
          obtain ⟨a, b, c, d, e⟩ := h3 i (by omega) hm.2
          refine ⟨a, by omega, c, ?_, e⟩
          rw [List.mem_cons, not_or]; exact ⟨by omega, d⟩
        · intro i c hic hc hi hm
          rw [List.mem_cons, not_or] at hm
          obtain ⟨a, b⟩ := h4 i c hic hc (by omega) hm.2
          have hb := h3 i (by omega) hm.2
          refine ⟨?_, b⟩
          rw [List.mem_cons, not_or]; exact ⟨by omega, a⟩
      · split at h
        · simp at h
        · cases stk with
          | nil => simp at h
          | cons i r =>
            simp at h; obtain ⟨rfl, rfl⟩ := h
            rw [List.pairwise_cons] at h1
            have hik := h2 i (by simp)
            have hir : i ∉ r := fun hi => by have := h1.1 i hi; omega
            have val : ∀ j, j ≠ i → j ≠ k → fset (fset out i k) k i j = out j := by
              intro j e1 e2; simp [fset, e1, e2]
            have vk : fset (fset out i k) k i k = i := by simp [fset]
            have vi : fset (fset out i k) k i i = k := by simp [fset]; omega
            refine ⟨h1.2, fun j hj => by have := h2 j (by simp [hj]); omega, ?_, ?_⟩
            · intro j hj hm
              by_cases e1 : j = i
              · subst e1
                rw [vi]
                refine ⟨by omega, by omega, by omega, ?_, by simpa using vk⟩
                simp; intro hk; have := h2 k (by simp [hk]); omega
              · by_cases e2 : j = k
                · subst e2
                  rw [vk]
                  exact ⟨by omega, by omega, by omega, by simpa using hir, by simpa using vi⟩
                · rw [val j e1 e2]
                  have hmem : j ∉ i :: r := by simp [e1, hm]
                  obtain ⟨a, b, c, d, e⟩ := h3 j (by omega) hmem
                  rw [List.mem_cons, not_or] at d
                  refine ⟨a, by omega, c, d.2, ?_⟩
                  rw [val _ d.1 (by omega)]; exact e
            · intro j c hjc hc hj hm
              by_cases e1 : j = i
              · subst e1
                rw [vi] at hc ⊢
                have hcr : c ∉ r := fun hcr => by have := h1.1 c hcr; omega
                refine ⟨hcr, ?_⟩
                rw [val c (by omega) (by omega)]
                have := h3 c (by omega) (by simp [hcr]; omega)
                omega
              · by_cases e2 : j = k
                · subst e2; rw [vk] at hc; omega
                · rw [val j e1 e2] at hc ⊢
                  have hmem : j ∉ i :: r := by simp [e1, hm]
                  obtain ⟨a, b⟩ := h4 j c hjc hc (by omega) hmem
                  have hb := h3 j (by omega) hmem
                  rw [List.mem_cons, not_or] at a
                  refine ⟨a.2, ?_⟩
                  rw [val c a.1 (by omega)]; exact b

theorem nc_of_done {t out : Nat → Int} {N : Nat} (h : pst t N = some (out, [])) : NC N out := by
  obtain ⟨_, _, h3, h4⟩ := nc_of_pst t N out [] h
  exact ⟨fun k hk => by have := h3 k hk (by simp); omega, fun k hk => (h3 k hk (by simp)).2.2.2.2, fun a c hac hc ha => (h4 a c hac hc ha (by simp)).2⟩

theorem done_of_nc {N : Nat} {g t : Nat → Int} (h : NC N g) (ht : ∀ k, k < N → t k = if (k : Int) < g k then 40 else 41) : ∃ out, pst t N = some (out, []) ∧ ∀ k, k < N → out k = g k := by
  obtain ⟨out, stk, h1, _, h3, h4⟩ := pst_of_nc h ht N (Nat.le_refl _)
  have : stk = [] := by
    cases stk with
    | nil => rfl
    | cons i r =>
      have := (h3 i).1 (by simp)
      have hb := h.bd i this.1
      omega
  subst this
  exact ⟨out, h1, fun k hk => h4 k hk (h.bd k hk).2.1⟩

end Go.Proofs.Ytcdejfehblnphaa

/- Both sides agree on what a diagram is: the plain law. -/
namespace Go.Proofs.Ytcdejfehblnphaa
open Go Go.RowKit

theorem plc_bd {n x : Int} (_hn : 1 ≤ n) (h0 : 0 ≤ x) (h1 : x < 2 * n) : 0 ≤ plc n x ∧ plc n x < 2 * n ∧ plc n (plc n x) = x := by
  unfold plc; by_cases h : x < n
  · simp only [if_pos h]; exact ⟨h0, h1, trivial⟩
  · simp only [if_neg h]; split <;> omega

theorem jn_val (n : Nat) (p : Nat → Int) : ∀ K, K ≤ 2 * n → ∀ i : Nat, jn n p K i = if i < 2 * n ∧ plc n i < K then plc n (p (plc n i).toNat) else 0
  | 0, _, i => by
    rw [if_neg]; · rfl
    intro h; have := plc_bd (n := n) (x := i) (by omega) (by omega) (by omega); omega
  | K + 1, hK, i => by
    have ih := jn_val n p K (by omega) i
    have hK2 := plc_bd (n := n) (x := K) (by omega) (by omega) (by omega)
    simp only [jn, fset]
    by_cases e : i = (plc n K).toNat
    · have e2 : (i : Int) = plc n K := by omega
      have e3 : plc n (i : Int) = K := by rw [e2]; exact hK2.2.2
      rw [if_pos e, if_pos ⟨by omega, by rw [e3]; omega⟩, e3]; simp
    · rw [if_neg e, ih]
      by_cases hi : i < 2 * n
      · have hi2 := plc_bd (n := n) (x := i) (by omega) (by omega) (by omega)
        have hne : plc n (i : Int) ≠ K := by
          intro e3; apply e; rw [← e3, hi2.2.2]; simp
        by_cases hlt : plc n (i : Int) < K
        · rw [if_pos ⟨hi, hlt⟩, if_pos ⟨hi, by omega⟩]
        · rw [if_neg (fun h => hlt h.2), if_neg (fun h => by have := h.2; omega)]
      · rw [if_neg (fun h => hi h.1), if_neg (fun h => hi h.1)]

theorem isD_of_isS (n : Nat) (f : Nat → Int) (hf : ∀ i, 0 ≤ f i ∧ f i ≤ 255) (h : isS n f = true) : isD n f = true := by
  simp only [isS, Bool.and_eq_true, decide_eq_true_eq, List.all_eq_true, List.mem_range, Bool.not_eq_true'] at h
  obtain ⟨⟨⟨hn1, hn2⟩, hs⟩, hc⟩ := h
  have eN : (2 * (n : Int)).toNat = 2 * n := by omega
  rw [eN] at hc
  have hs1 : ∀ i, i < 2 * n → f i < 2 * n ∧ f i ≠ i ∧ f (f i).toNat = i := by
    intro i hi
    have := hs i (by omega)
    rw [sp1, if_neg (by omega)] at this
    simpa using this
  have hs2 : ∀ i, 2 * n ≤ i → i < 16 → f i = 0 := by
    intro i hi hi2
    have := hs i hi2
    rw [sp1, if_pos (by omega)] at this
    simpa using this
  have hP : ∀ k : Nat, k < 2 * n → 0 ≤ plc n k ∧ plc n k < 2 * n ∧ plc n (plc n k) = k := fun k hk => plc_bd (by omega) (by omega) (by omega)
  have hF : ∀ i : Nat, i < 2 * n → 0 ≤ plc n (f i) ∧ plc n (f i) < 2 * n ∧ plc n (plc n (f i)) = f i := fun i hi => plc_bd (by omega) (hf i).1 (hs1 i hi).1
  have NCg : NC (2 * n) (fun k => plc n (f (plc n k).toNat)) := by
    have inv : ∀ k : Nat, k < 2 * n → plc n (f (plc n ((plc n (f (plc n k).toNat)).toNat : Int)).toNat) = k := by
      intro k hk
      have h1 := hP k hk
      have h2 := hF (plc n k).toNat (by omega)
      have h3 := hs1 (plc n k).toNat (by omega)
      have e1 : ((plc n (f (plc n k).toNat)).toNat : Int) = plc n (f (plc n k).toNat) := by omega
      rw [e1, h2.2.2, h3.2.2]
      have e2 : (((plc n k).toNat : Nat) : Int) = plc n k := by omega
      rw [e2, h1.2.2]
    refine ⟨fun k hk => ?_, inv, fun a c hac hcg ha => ?_⟩
    · have h1 := hP k hk
      have h2 := hF (plc n k).toNat (by omega)
      have h3 := hs1 (plc n k).toNat (by omega)
      refine ⟨h2.1, by omega, fun e => h3.2.1 ?_⟩
      have e2 := h2.2.2
      rw [e] at e2; omega
    · change (c : Int) < plc n (f (plc n a).toNat) at hcg
      change plc n (f (plc n c).toNat) < plc n (f (plc n a).toNat)
      have ha1 := hP a ha
      have ha2 := hF (plc n a).toNat (by omega)
      have hc0 : c < 2 * n := by omega
      have hc1 := hP c hc0
      have hc2 := hF (plc n c).toNat (by omega)
      have key := hc (plc n a).toNat (by omega) (plc n c).toNat (by omega)
      have ea : (((plc n a).toNat : Nat) : Int) = plc n a := by omega
      have ec : (((plc n c).toNat : Nat) : Int) = plc n c := by omega
      have hne : plc n (f (plc n a).toNat) ≠ plc n (f (plc n c).toNat) := by
        intro e
        have i1 := inv a ha
        have i2 := inv c hc0
        rw [e] at i1; omega
      by_cases hlt : plc n (f (plc n c).toNat) < plc n (f (plc n a).toNat)
      · exact hlt
      · exfalso
        have : crs n f (plc n a).toNat (plc n c).toNat = true := by
          simp only [crs, en1, en2, ea, ec, ha1.2.2, hc1.2.2, Bool.and_eq_true, decide_eq_true_eq]
          rw [if_neg (by omega), if_neg (by omega), if_pos (by omega), if_pos (by omega)]
          omega
        rw [this] at key; simp at key
  obtain ⟨out, ho1, ho2⟩ := done_of_nc NCg (t := sg n f) (fun k hk => rfl)
  simp only [isD, Bool.and_eq_true, decide_eq_true_eq, List.all_eq_true, List.mem_range]
  refine ⟨⟨⟨hn1, hn2⟩, fun i hi => ?_⟩, ?_⟩
  · unfold bnd1; split
    · simp [hs2 i (by omega) hi]
    · have := hs1 i (by omega); simp; omega
  · have e2 : ((n : Int)).toNat = n := by omega
    rw [eN, ho1, e2]
    simp only [List.all_eq_true, List.mem_range, beq_iff_eq]
    intro i hi
    rw [jn_val n out (2 * n) (Nat.le_refl _) i]
    by_cases hi2 : i < 2 * n
    · have h1 := hP i hi2
      rw [if_pos ⟨hi2, by omega⟩, ho2 _ (by omega)]
      have e3 : (((plc n i).toNat : Nat) : Int) = plc n i := by omega
      rw [e3, h1.2.2]
      simpa using (hF i hi2).2.2
    · rw [if_neg (fun h => hi2 h.1), hs2 i (by omega) hi]

theorem isS_of_isD (n : Nat) (f : Nat → Int) (hf : ∀ i, 0 ≤ f i ∧ f i ≤ 255) (h : isD n f = true) : isS n f = true := by
  simp only [isD, Bool.and_eq_true, decide_eq_true_eq, List.all_eq_true, List.mem_range] at h
  obtain ⟨⟨⟨hn1, hn2⟩, hs⟩, hc⟩ := h
  have eN : (2 * (n : Int)).toNat = 2 * n := by omega
  have e2 : ((n : Int)).toNat = n := by omega
  rw [eN, e2] at hc
  split at hc
  · rename_i out ho
    simp only [List.all_eq_true, List.mem_range, beq_iff_eq] at hc
    have N := nc_of_done ho
    have hP : ∀ k : Nat, k < 2 * n → 0 ≤ plc n k ∧ plc n k < 2 * n ∧ plc n (plc n k) = k := fun k hk => plc_bd (by omega) (by omega) (by omega)
    have hO : ∀ k : Nat, k < 2 * n → 0 ≤ plc n (out k) ∧ plc n (out k) < 2 * n ∧ plc n (plc n (out k)) = out k := fun k hk => plc_bd (by omega) (N.bd k hk).1 (by have := (N.bd k hk).2.1; omega)
    have hv : ∀ i : Nat, i < 2 * n → f i = plc n (out (plc n i).toNat) := by
      intro i hi
      have h1 := hP i hi
      rw [← hc i (by omega), jn_val n out (2 * n) (Nat.le_refl _) i, if_pos ⟨hi, by omega⟩]
    have hg : ∀ i : Nat, i < 2 * n → plc n (f i) = out (plc n i).toNat := by
      intro i hi
      rw [hv i hi]; exact (hO _ (by have := hP i hi; omega)).2.2
    simp only [isS, Bool.and_eq_true, decide_eq_true_eq, List.all_eq_true, List.mem_range, Bool.not_eq_true']
    refine ⟨⟨⟨hn1, hn2⟩, fun i hi => ?_⟩, ?_⟩
    · unfold sp1; split
      · have := hs i hi
        rw [bnd1, if_pos (by assumption)] at this; exact this
      · have hi2 : i < 2 * n := by omega
        have h1 := hP i hi2
        have h2 := hO (plc n i).toNat (by omega)
        have h3 := N.bd (plc n i).toNat (by omega)
        have h4 := N.inv (plc n i).toNat (by omega)
        have hvi := hv i hi2
        simp only [Bool.and_eq_true, decide_eq_true_eq, bne_iff_ne, beq_iff_eq]
        refine ⟨by omega, fun e => h3.2.2 ?_, ?_⟩
        · rw [← h2.2.2, ← hvi, e]; omega
        · have e5 : (((f i).toNat : Nat) : Int) = f i := by have := (hf i).1; omega
          rw [hv (f i).toNat (by omega), e5, hg i hi2, h4]
          have e6 : (((plc n i).toNat : Nat) : Int) = plc n i := by omega
          rw [e6, h1.2.2]
    · rw [eN]
      intro i hi k hk
      have hi1 := hP i hi
      have hk1 := hP k hk
      have ib := N.bd (plc n i).toNat (by omega)
      have kb := N.bd (plc n k).toNat (by omega)
      have ii := N.inv (plc n i).toNat (by omega)
      have ki := N.inv (plc n k).toNat (by omega)
      cases hcr : crs n f i k with
      | false => rfl
      | true =>
        exfalso
        simp only [crs, en1, en2, hg i hi, hg k hk, Bool.and_eq_true, decide_eq_true_eq] at hcr
        have n1 := N.nc (plc n i).toNat (plc n k).toNat
        have n2 := N.nc (plc n i).toNat (out (plc n k).toNat).toNat
        have n3 := N.nc (out (plc n i).toNat).toNat (plc n k).toNat
        have n4 := N.nc (out (plc n i).toNat).toNat (out (plc n k).toNat).toNat
        rw [ii] at n3 n4
        rw [ki] at n2 n4
        split at hcr <;> split at hcr <;> split at hcr <;> split at hcr <;> omega
  · simp at hc

/-- Both sides agree on what a diagram is. -/
theorem isD_eq_isS (n : Int) (f : Nat → Int) (hf : ∀ i, 0 ≤ f i ∧ f i ≤ 255) : isD n f = isS n f := by
  by_cases hn : 1 ≤ n
  · obtain ⟨k, rfl⟩ := Int.eq_ofNat_of_zero_le (show 0 ≤ n by omega)
    cases h1 : isD k f with
    | true => rw [isS_of_isD k f hf h1]
    | false =>
      cases h2 : isS k f with
      | false => rfl
      | true => rw [isD_of_isS k f hf h2] at h1; simp at h1
  · simp [isD, isS, hn]

end Go.Proofs.Ytcdejfehblnphaa

/- From what a law's run does to what its statement says. -/
namespace Go.Proofs.Ytcdejfehblnphaa
open Go Go.RowKit Go.ChangeShapes Go.WideShapes Go.ChangeAt
set_option maxRecDepth 100000

theorem Try.own : ownKnob Try.prog.godebug = none := by kernel_rfl
theorem Try.laidOut : laidOutB Try.prog = true := by kernel_rfl

/-- Arguments read as they did where nothing below has turned. -/
theorem trodAll_stay {H : Type} {enc : TypeId × Value → H} {P : Program} (hl : laidOutB P = true) {W W' : World} (hb : Below W.heap.size W W') {sp : Nat → Bool} :
    ∀ (ts : List TypeId) (vs : List Value) (ds : List (DataW H)) (ps : List MemPlace), (∀ t ∈ ts, P.readableRec t = true ∧ t < P.types.size) → (∀ x ∈ ps, x.block < W.heap.size) → (∀ x ∈ ps, sp x.block = true) →
      DataW.TrodAll enc P W 0 (fun _ => true) true ts vs ds ps → DataW.TrodAll enc P W' 0 sp true ts vs ds ps
  | [], [], [], ps, _, _, _, h => h
  | t :: ts, v :: vs, d :: ds, ps, hr, hlt, hsp, h => by
    obtain ⟨p, q, h1, h2, rfl⟩ := h
    exact ⟨p, q, WideElems.Trod_stays hl (hr t (by simp)).1 (hr t (by simp)).2 h1 (fun x hx => hb.same (hlt x (by simp [hx]))) (fun x hx => hsp x (by simp [hx])),
      trodAll_stay hl hb ts vs ds q (fun t ht => hr t (by simp [ht])) (fun x hx => hlt x (by simp [hx])) (fun x hx => hsp x (by simp [hx])) h2, rfl⟩

/-- What a law that holds leaves behind is what its statement asks for. -/
theorem post_true {H : Type} {enc : TypeId × Value → H} {f : Func} {s : ChangeSpec} {W W' : World} {args : Array Value} {ds gs : List (DataW H)} {before : List MemPlace} (hW : DataW.Whole enc Try.prog f.params.toList s.vars false W args.toList ds gs before) (hv : s.vars = [])
    (hb : Below W.heap.size W W') (hs : s.fn H (ds ++ gs) = { results := [.lit (.bool true)], args := ds }) (hr : f.resultTypes = #[4]) (hp : ∀ t ∈ f.params.toList, Try.prog.readableRec t = true ∧ t < Try.prog.types.size) :
    s.post enc Try.prog f false true false false W args (.bool true) W' := by
  have hW' := hW
  obtain ⟨p, q, hA, hV, rfl, hfz, hnd⟩ := hW
  rw [hv] at hV
  obtain ⟨rfl, rfl⟩ := trodVars_none hV
  have hB : Try.prog.underlying 4 = some .bool := by kernel_rfl
  have hlt : ∀ x ∈ p, x.block < W.heap.size := fun x hx => hW'.lt x (by simp [hx])
  have hold : ∀ x ∈ p, (fun b => decide (b < W.heap.size)) x.block = true := fun x hx => by simpa using hlt x hx
  refine ⟨ds, [], _, [], p, [], hW', ?_, ?_, ?_, hb.frame _, fun h => by cases h⟩
  · rw [hs, hr]; exact trodAll_mk1 (shut_bool hB true)
  · rw [hs]; exact trodAll_stay Try.laidOut hb _ _ _ p hp hlt hold hA
  · rw [hv, hs]; rfl

theorem cell_int {w : World} {b : Nat} {t : TypeId} {k : IntKind} {v : Value} (ht : Try.prog.underlying t = some (.int k)) (h : Cell.okWide Try.prog w .any b t v) : ∃ n, v = .int k n ∧ k.min ≤ n ∧ n ≤ k.max := by
  unfold Cell.okWide at h
  rw [ht] at h
  simp only [Cell.ok, ht] at h
  split at h <;> simp_all [IntKind.has]

/-- A diagram handed in. -/
theorem open_dg {w : World} {b : Nat} {v : Value} {t : TypeId} (ρ : List Place) (hst : ∃ fs, Try.prog.underlying t = some (.struct fs)) (e1 : Try.prog.cellsOf t = 17) (e2 : Try.prog.cellTypes Try.prog.depth t = some (2 :: List.replicate 16 5)) (h : Value.okWide Try.prog w .any b t v) : ∃ n f, (∀ i, 0 ≤ f i ∧ f i ≤ 255) ∧ -9223372036854775808 ≤ n ∧ n ≤ 9223372036854775807 ∧ VR ρ (.agg (dg n f)) v := by
  obtain ⟨fs, hu⟩ := hst
  unfold Value.okWide at h
  rw [hu] at h
  obtain ⟨cs, rfl, hsz, ts, hts, -, hc⟩ := h
  rw [e1] at hsz
  rw [e2] at hts
  simp only [Option.some.injEq] at hts
  subst hts
  have u2 : Try.prog.underlying 2 = some (.int .i64) := by kernel_rfl
  have u5 : Try.prog.underlying 5 = some (.int .u8) := by kernel_rfl
  have m1 : IntKind.i64.min = -9223372036854775808 := by decide
  have m2 : IntKind.i64.max = 9223372036854775807 := by decide
  have m3 : IntKind.u8.min = 0 := by decide
  have m4 : IntKind.u8.max = 255 := by decide
  obtain ⟨u, hu0, hn⟩ := hc 0 cs[0] (by simp)
  simp at hu0; subst hu0
  obtain ⟨n, e0, hn1, hn2⟩ := cell_int u2 hn
  have hb : ∀ i : Nat, i < 16 → ∃ x : Int, cs[1 + i]? = some (.int .u8 x) ∧ 0 ≤ x ∧ x ≤ 255 := by
    intro i hi
    have hlt : 1 + i < cs.size := by omega
    obtain ⟨u, hu, hx⟩ := hc (1 + i) cs[1 + i] (Array.getElem?_eq_getElem hlt)
    have hu2 : some 5 = some u := by
      rw [← hu]
      simp only [List.length_cons, List.length_replicate]
      rw [show (1 + i) % (16 + 1) = i + 1 by omega, List.getElem?_cons_succ, List.getElem?_replicate, if_pos hi]
    simp only [Option.some.injEq] at hu2; subst hu2
    obtain ⟨x, ex, h1, h2⟩ := cell_int u5 hx
    exact ⟨x, by rw [Array.getElem?_eq_getElem hlt, ex], by rw [m3] at h1; exact h1, by rw [m4] at h2; exact h2⟩
  refine ⟨n, fun i => if h : i < 16 then Classical.choose (hb i h) else 0, fun i => ?_, by rw [m1] at hn1; exact hn1, by rw [m2] at hn2; exact hn2, ?_⟩
  · by_cases h : i < 16
    · simp only [dif_pos h]; exact (Classical.choose_spec (hb i h)).2
    · simp [h]
  · simp only [VR]
    refine ⟨cs, rfl, VRs.of_get (by simp; omega) fun j x v hx hv => ?_⟩
    cases j with
    | zero =>
      simp only [dg_0, Option.some.injEq] at hx; subst hx
      rw [Array.getElem?_toList, Array.getElem?_eq_getElem (by omega), e0] at hv
      simp only [VR]; simpa using hv.symm
    | succ i =>
      have hi : i < 16 := by
        have := (List.getElem?_eq_some_iff.1 hx).1; simp at this; omega
      rw [Nat.add_comm, dg_at _ _ hi] at hx
      simp only [Option.some.injEq] at hx; subst hx
      have h2 := (Classical.choose_spec (hb i hi)).1
      simp only [VR, dif_pos hi]
      rw [Array.getElem?_toList, Nat.add_comm, h2] at hv
      simpa using hv.symm

/-- A number that fits in 64 bits. -/
def i64 (n : Int) : Prop := -9223372036854775808 ≤ n ∧ n ≤ 9223372036854775807
theorem open_i64 {w : World} {b : Nat} {v : Value} {t : TypeId} (ht : Try.prog.underlying t = some (.int .i64)) (h : Value.okWide Try.prog w .any b t v) : ∃ n, v = .int .i64 n ∧ i64 n := by
  unfold Value.okWide at h
  rw [ht] at h
  obtain ⟨n, e, h1, h2⟩ := cell_int ht h
  have m1 : IntKind.i64.min = -9223372036854775808 := by decide
  have m2 : IntKind.i64.max = 9223372036854775807 := by decide
  exact ⟨n, e, by rw [m1] at h1; exact h1, by rw [m2] at h2; exact h2⟩

theorem law_of_acalls {f : FuncId} {args : Array Value} {avs : List AV} {W : World} (hv : VRs [] avs args.toList) (h : ACalls Try.prog f avs [] fun v _ => v = B true) {R : Ending → World → Prop} (hR : ∀ W', Below W.heap.size W W' → R (.returned (.bool true)) W') : Calls Try.prog f args W R := by
  have hs : Sim W.heap.size W [] [] W := ⟨Below.refl _ _, Nat.le_refl _, rfl, fun i o p hi => by simp at hi, fun i j o o' p q hi => by simp at hi⟩
  refine (h.2 _ _ _ _ _ hs hv).mono fun e W' ⟨v, v', m', ρ', h1, h2, _, h4, h5⟩ => ?_
  subst h1; subst h5
  simp only [VR] at h4; subst h4
  exact hR W' h2.below

end Go.Proofs.Ytcdejfehblnphaa

/- The statement on CellCharacter, out of the law's run. -/
namespace Go.Proofs.Ytcdejfehblnphaa
open Go Go.RowKit Go.ChangeShapes Go.WideShapes Go.ChangeAt
set_option maxRecDepth 100000

theorem cc_lifted (law : ∀ (p c k n : Int) (f : Nat → Int), i64 p → i64 c → i64 k → i64 n → (∀ i, 0 ≤ f i ∧ f i ≤ 255) → ACalls Try.prog 4 [I p, I c, .agg (dg n f), I k] [] fun v _ => v = B true)
    (os : Os) (started : os.Started) (H : Type) (enc : TypeId × Value → H) :
    ReturnsInHanded {} Try.checked os 4 .any (Rows.fnExactCellCharacterSpec.pre6 enc Try.prog Try.f4 Rows.fnExactCellCharacterRow.domain false) (Rows.fnExactCellCharacterSpec.post enc Try.prog Try.f4 false true false false) := by
  refine returnsInHanded_of_change (C := Try.checked) Try.own started (by kernel_rfl) Try.func4
    (ChangeSpec.witness6 (enc := enc) (C := Try.checked) false ⟨#[], #[.int .i64 0, .int .i64 0, .agg (#[.int .i64 0] ++ Array.replicate 16 (.int .u8 0)), .int .i64 0], []⟩ 8 (by kernel_rfl) (by kernel_rfl) (by kernel_rfl) (by kernel_rfl)) ?_
  intro W base args ds gs before hval0 hW hcnd _
  have hval : ∀ (j : Nat) t v, Try.f4.params[j]? = some t → args[j]? = some v → Value.okWide Try.prog W .any base t v := hval0
  have hW' := hW
  obtain ⟨p, q, hA0, hV, rfl, hfz, hnd⟩ := hW
  have hA : DataW.TrodAll enc Try.prog W 0 (fun _ => true) true Try.f4.params.toList args.toList ds p := hA0
  rw [Try.params4] at hA hval
  obtain ⟨v0, v1, v2, v3, d0, d1, d2, d3, p0, p1, p2, p3, rfl, rfl, rfl, h0, h1, h2, h3⟩ := trodAll_four hA
  have u2 : Try.prog.underlying 2 = some (.int .i64) := by kernel_rfl
  obtain ⟨a, rfl, wa⟩ := open_i64 u2 (hval 0 _ v0 rfl rfl)
  obtain ⟨b, rfl, wb⟩ := open_i64 u2 (hval 1 _ v1 rfl rfl)
  obtain ⟨n, f, hf, n1, n2, hr⟩ := open_dg [] (by obtain ⟨fs, hu, -⟩ := und_struct ti36 rfl; exact ⟨fs, hu⟩) (by kernel_rfl) (by kernel_rfl) (hval 2 _ v2 rfl rfl)
  obtain ⟨d, rfl, wd⟩ := open_i64 u2 (hval 3 _ v3 rfl rfl)
  obtain ⟨rfl, rfl⟩ := trodVars_none hV
  refine law_of_acalls (by simp only [VRs, and_true]; exact ⟨by simp [VR], by simp [VR], hr, by simp [VR]⟩) (law a b d n f wa wb wd ⟨n1, n2⟩ hf) fun W' hb => ⟨_, rfl, post_true hW' rfl hb rfl (by kernel_rfl) ?_⟩
  intro t ht
  have e : Try.f4.params.toList = [2, 2, 36, 2] := congrArg Array.toList Try.params4
  rw [e] at ht
  simp only [List.mem_cons, List.not_mem_nil, or_false] at ht
  rcases ht with rfl | rfl | rfl | rfl <;> exact ⟨by kernel_rfl, of_decide_eq_true (by kernel_rfl)⟩

/-- The statement follows when the law runs to true. -/
theorem cc_holds (law : ∀ (p c k n : Int) (f : Nat → Int), i64 p → i64 c → i64 k → i64 n → (∀ i, 0 ≤ f i ∧ f i ≤ 255) → ACalls Try.prog 4 [I p, I c, .agg (dg n f), I k] [] fun v _ => v = B true) : Rows.FnExactCellCharacterSaid :=
  OpenClaim.holds_of_wide 4 Try.f4 rfl rfl rfl rfl rfl rfl rfl ⟨rfl, rfl, rfl, rfl, rfl⟩ rfl rfl rfl rfl rfl (by kernel_rfl) Try.func4 (by kernel_rfl)
    (of_decide_eq_true (by kernel_rfl)) (by unfold Func.isWrapper; first | (rw [if_pos (by decide +kernel)]; kernel_rfl) | (rw [if_neg (by decide +kernel)]; exact ⟨rfl, rfl⟩))
    (fun os started H enc _ => cc_lifted law os started H enc)

end Go.Proofs.Ytcdejfehblnphaa

/- Primes, fields, ranges: both sides. -/
namespace Go.Proofs.Ytcdejfehblnphaa
open Go Go.RowKit

/-- A prime of at most 97. -/
def isP (p : Int) : Bool := decide (2 ≤ p) && decide (p ≤ 97) && (List.range 98).all fun k => decide (k < 2) || decide (p ≤ k) || decide (p % (k : Int) ≠ 0)

theorem isP_iff (p : Int) : isP p = true ↔ 2 ≤ p ∧ p ≤ 97 ∧ ∀ k : Nat, 2 ≤ k → (k : Int) < p → p % (k : Int) ≠ 0 := by
  simp only [isP, Bool.and_eq_true, decide_eq_true_eq, List.all_eq_true, List.mem_range, Bool.or_eq_true]
  constructor
  · rintro ⟨⟨h1, h2⟩, h3⟩
    refine ⟨h1, h2, fun k h4 h5 => ?_⟩
    rcases h3 k (by omega) with (h | h) | h
    · omega
    · omega
    · exact h
  · rintro ⟨h1, h2, h3⟩
    refine ⟨⟨h1, h2⟩, fun k _ => ?_⟩
    by_cases a : k < 2
    · exact .inl (.inl a)
    · by_cases b : p ≤ k
      · exact .inl (.inr b)
      · exact .inr (h3 k (by omega) (by omega))

theorem prime_small (p : Nat) (hp : p < 98) (k : Nat) (hk : k < 11) (h2 : 2 ≤ p) (hlt : p < k * k) (h : ∀ j : Nat, j < k → 2 ≤ j → p % j ≠ 0) : ∀ j : Nat, j < p → 2 ≤ j → p % j ≠ 0 := by
  have all : ((List.range 98).all fun p => (List.range 11).all fun k => decide (p < 2) || decide (k * k ≤ p) || ((List.range k).any fun j => decide (2 ≤ j) && decide (p % j = 0)) || ((List.range p).all fun j => decide (j < 2) || decide (p % j ≠ 0))) = true := by decide +kernel
  rw [List.all_eq_true] at all
  have h3 := all p (by simpa using hp)
  rw [List.all_eq_true] at h3
  have h4 := h3 k (by simpa using hk)
  simp only [Bool.or_eq_true, decide_eq_true_eq, List.any_eq_true, List.mem_range, Bool.and_eq_true, List.all_eq_true] at h4
  intro j hj hj2
  rcases h4 with ((h4 | h4) | ⟨i, h5, h6, h7⟩) | h4
  · omega
  · omega
  · exact absurd h7 (h i h5 h6)
  · rcases h4 j hj with h5 | h5
    · omega
    · exact h5

theorem isPrime_c (p : Int) (m : List AO) (K : AV → List AO → Prop) (hk : K (B (isP p)) m) : ACalls Try.prog 82 [I p] m K := by
  refine ACalls.enter Try.func82 rfl rfl Try.ntmps82 (congrArg Array.toList Try.results82) (by simp) fun hc => ?_
  simp (disch := omega) [go_nil, go_inBlock, go_skip, go_exit, go_ret, go_region_lit, go_seq, go_block, goX_nil, goX_code, goX_ops, goX_same, goX_other, go_cond, goB_true, goB_false, go_ops_nil, go_op, go_opg, goW_true, goW_false, goO_move, goO_assign, goO_call, goF_fn, goV_some, goP_none, goP_some, goO_pick, goO_alloc, goO_box, goO_build, goO_buildSlice, goO_load, goO_store, goO_nilCheck, goO_bin, goO_un, goO_convert, goO_makeFunc, goO_makeSlice, goO_slice, goO_fieldAddr, goO_field, goO_indexAddr, goO_index, goO_extract, goO_builtin, gD, gWant, undef, aop, aev_tmp, aev_const, aev_func, aconst, upd_app, env0, env0_nil, env0_cons, aBin_ii, aBin_ss, aBin_bb, abin, aend, ares, aone, wrap_id, get_loc0, get_loc, set_loc0, set_loc, cont_loc0, cont_loc, cont_here, cont_next, row_loc0, row_loc, row_here, row_next, TI.isAgg, aLoad, aStore, aNew, aFieldAddr, aIndexAddr, aIndex, aPart, aField, aLen, aUn, aConv, aAppend, aBuildSlice, aMakeSlice, aBuild, aSlice, AV.cs, AV.one, Value.oneCell', if_pos, if_neg, List.getElem?_cons_zero, List.getElem?_cons_succ, fillA, zrep_zero, zrep_succ0, zrep_one, List.set_cons_zero, List.set_cons_succ, List.length_cons, List.length_nil, mkE_cons, mkE_nil, allE, DK_normal, LK_exit, LK_ret, dg_at, mts_at, sb_eq, str_size, aBound, Option.map_none, Option.map_some, aMin, aMax, DK2_normal, ptrNe_pp, sepA_nil, sepA_cons, DK3_normal, sepN_nil, sepN_cons, objNe_pp, objNe_ps, objNe_sp, objNe_ss, objNe_vx, objNe_xv]
  refine goCall_n rfl (in_c _ _ _ _ _ ?_)
  by_cases hr : 2 ≤ p ∧ p ≤ 97
  · obtain ⟨h0, h1⟩ := hr
    simp (disch := omega) [go_nil, go_inBlock, go_skip, go_exit, go_ret, go_region_lit, go_seq, go_block, goX_nil, goX_code, goX_ops, goX_same, goX_other, go_cond, goB_true, goB_false, go_ops_nil, go_op, go_opg, goW_true, goW_false, goO_move, goO_assign, goO_call, goF_fn, goV_some, goP_none, goP_some, goO_pick, goO_alloc, goO_box, goO_build, goO_buildSlice, goO_load, goO_store, goO_nilCheck, goO_bin, goO_un, goO_convert, goO_makeFunc, goO_makeSlice, goO_slice, goO_fieldAddr, goO_field, goO_indexAddr, goO_index, goO_extract, goO_builtin, gD, gWant, undef, aop, aev_tmp, aev_const, aev_func, aconst, upd_app, env0, env0_nil, env0_cons, aBin_ii, aBin_ss, aBin_bb, abin, aend, ares, aone, wrap_id, get_loc0, get_loc, set_loc0, set_loc, cont_loc0, cont_loc, cont_here, cont_next, row_loc0, row_loc, row_here, row_next, TI.isAgg, aLoad, aStore, aNew, aFieldAddr, aIndexAddr, aIndex, aPart, aField, aLen, aUn, aConv, aAppend, aBuildSlice, aMakeSlice, aBuild, aSlice, AV.cs, AV.one, Value.oneCell', if_pos, if_neg, List.getElem?_cons_zero, List.getElem?_cons_succ, fillA, zrep_zero, zrep_succ0, zrep_one, List.set_cons_zero, List.set_cons_succ, List.length_cons, List.length_nil, mkE_cons, mkE_nil, allE, DK_normal, LK_exit, LK_ret, dg_at, mts_at, sb_eq, str_size, aBound, Option.map_none, Option.map_some, aMin, aMax, DK2_normal, ptrNe_pp, sepA_nil, sepA_cons, DK3_normal, sepN_nil, sepN_cons, objNe_pp, objNe_ps, objNe_sp, objNe_ss, objNe_vx, objNe_xv, h0, h1]
    refine go_loop (α := {k : Nat // 2 ≤ k ∧ k ≤ 10 ∧ ∀ j : Nat, j < k → 2 ≤ j → p % (j : Int) ≠ 0}) (fun k => mkE [(0, I p), (3, I k.1)]) (fun _ => m) (fun k => 10 - k.1) ⟨2, by omega, by omega, by omega⟩ (Wk.same rfl (by simp (disch := omega) [go_nil, go_inBlock, go_skip, go_exit, go_ret, go_region_lit, go_seq, go_block, goX_nil, goX_code, goX_ops, goX_same, goX_other, go_cond, goB_true, goB_false, go_ops_nil, go_op, go_opg, goW_true, goW_false, goO_move, goO_assign, goO_call, goF_fn, goV_some, goP_none, goP_some, goO_pick, goO_alloc, goO_box, goO_build, goO_buildSlice, goO_load, goO_store, goO_nilCheck, goO_bin, goO_un, goO_convert, goO_makeFunc, goO_makeSlice, goO_slice, goO_fieldAddr, goO_field, goO_indexAddr, goO_index, goO_extract, goO_builtin, gD, gWant, undef, aop, aev_tmp, aev_const, aev_func, aconst, upd_app, env0, env0_nil, env0_cons, aBin_ii, aBin_ss, aBin_bb, abin, aend, ares, aone, wrap_id, get_loc0, get_loc, set_loc0, set_loc, cont_loc0, cont_loc, cont_here, cont_next, row_loc0, row_loc, row_here, row_next, TI.isAgg, aLoad, aStore, aNew, aFieldAddr, aIndexAddr, aIndex, aPart, aField, aLen, aUn, aConv, aAppend, aBuildSlice, aMakeSlice, aBuild, aSlice, AV.cs, AV.one, Value.oneCell', if_pos, if_neg, List.getElem?_cons_zero, List.getElem?_cons_succ, fillA, zrep_zero, zrep_succ0, zrep_one, List.set_cons_zero, List.set_cons_succ, List.length_cons, List.length_nil, mkE_cons, mkE_nil, allE, DK_normal, LK_exit, LK_ret, dg_at, mts_at, sb_eq, str_size, aBound, Option.map_none, Option.map_some, aMin, aMax, DK2_normal, ptrNe_pp, sepA_nil, sepA_cons, DK3_normal, sepN_nil, sepN_cons, objNe_pp, objNe_ps, objNe_sp, objNe_ss, objNe_vx, objNe_xv])) (fun ⟨k, hk1, hk2, hk3⟩ => ?_)
    have hsq : (k : Int) * k ≤ 100 := by
      have : k * k ≤ 10 * 10 := Nat.mul_le_mul hk2 hk2
      have e : ((k * k : Nat) : Int) = (k : Int) * k := by simp
      omega
    have hsq0 : 0 ≤ (k : Int) * k := Int.mul_nonneg (by omega) (by omega)
    have hwr : IntKind.i64.wrap ((k : Int) * k) = (k : Int) * k := wrap_id (by omega) (by omega)
    have hkn : ¬ (k : Int) = 0 := by omega
    have htm : p.tmod (k : Int) = p % k := tmod_pos (by omega) (by omega)
    by_cases hc : (k : Int) * k ≤ p
    · have hk9 : k ≤ 9 := by
        rcases Nat.lt_or_ge k 10 with h | h
        · omega
        · have : 10 * 10 ≤ k * k := Nat.mul_le_mul h h
          have e : ((k * k : Nat) : Int) = (k : Int) * k := by simp
          omega
      have hlt : (k : Int) < p := by
        have : 2 * k ≤ k * k := Nat.mul_le_mul hk1 (Nat.le_refl _)
        have e : ((k * k : Nat) : Int) = (k : Int) * k := by simp
        omega
      by_cases hd : p % (k : Int) = 0
      · have : isP p = false := by
          rw [Bool.eq_false_iff]; intro h
          exact ((isP_iff p).1 h).2.2 k hk1 hlt hd
        rw [this] at hk
        simp (disch := omega) [go_nil, go_inBlock, go_skip, go_exit, go_ret, go_region_lit, go_seq, go_block, goX_nil, goX_code, goX_ops, goX_same, goX_other, go_cond, goB_true, goB_false, go_ops_nil, go_op, go_opg, goW_true, goW_false, goO_move, goO_assign, goO_call, goF_fn, goV_some, goP_none, goP_some, goO_pick, goO_alloc, goO_box, goO_build, goO_buildSlice, goO_load, goO_store, goO_nilCheck, goO_bin, goO_un, goO_convert, goO_makeFunc, goO_makeSlice, goO_slice, goO_fieldAddr, goO_field, goO_indexAddr, goO_index, goO_extract, goO_builtin, gD, gWant, undef, aop, aev_tmp, aev_const, aev_func, aconst, upd_app, env0, env0_nil, env0_cons, aBin_ii, aBin_ss, aBin_bb, abin, aend, ares, aone, wrap_id, get_loc0, get_loc, set_loc0, set_loc, cont_loc0, cont_loc, cont_here, cont_next, row_loc0, row_loc, row_here, row_next, TI.isAgg, aLoad, aStore, aNew, aFieldAddr, aIndexAddr, aIndex, aPart, aField, aLen, aUn, aConv, aAppend, aBuildSlice, aMakeSlice, aBuild, aSlice, AV.cs, AV.one, Value.oneCell', if_pos, if_neg, List.getElem?_cons_zero, List.getElem?_cons_succ, fillA, zrep_zero, zrep_succ0, zrep_one, List.set_cons_zero, List.set_cons_succ, List.length_cons, List.length_nil, mkE_cons, mkE_nil, allE, DK_normal, LK_exit, LK_ret, dg_at, mts_at, sb_eq, str_size, aBound, Option.map_none, Option.map_some, aMin, aMax, DK2_normal, ptrNe_pp, sepA_nil, sepA_cons, DK3_normal, sepN_nil, sepN_cons, objNe_pp, objNe_ps, objNe_sp, objNe_ss, objNe_vx, objNe_xv, hwr, hkn, htm, hc, hd]
        exact keep hk
      · simp (disch := omega) [go_nil, go_inBlock, go_skip, go_exit, go_ret, go_region_lit, go_seq, go_block, goX_nil, goX_code, goX_ops, goX_same, goX_other, go_cond, goB_true, goB_false, go_ops_nil, go_op, go_opg, goW_true, goW_false, goO_move, goO_assign, goO_call, goF_fn, goV_some, goP_none, goP_some, goO_pick, goO_alloc, goO_box, goO_build, goO_buildSlice, goO_load, goO_store, goO_nilCheck, goO_bin, goO_un, goO_convert, goO_makeFunc, goO_makeSlice, goO_slice, goO_fieldAddr, goO_field, goO_indexAddr, goO_index, goO_extract, goO_builtin, gD, gWant, undef, aop, aev_tmp, aev_const, aev_func, aconst, upd_app, env0, env0_nil, env0_cons, aBin_ii, aBin_ss, aBin_bb, abin, aend, ares, aone, wrap_id, get_loc0, get_loc, set_loc0, set_loc, cont_loc0, cont_loc, cont_here, cont_next, row_loc0, row_loc, row_here, row_next, TI.isAgg, aLoad, aStore, aNew, aFieldAddr, aIndexAddr, aIndex, aPart, aField, aLen, aUn, aConv, aAppend, aBuildSlice, aMakeSlice, aBuild, aSlice, AV.cs, AV.one, Value.oneCell', if_pos, if_neg, List.getElem?_cons_zero, List.getElem?_cons_succ, fillA, zrep_zero, zrep_succ0, zrep_one, List.set_cons_zero, List.set_cons_succ, List.length_cons, List.length_nil, mkE_cons, mkE_nil, allE, DK_normal, LK_exit, LK_ret, dg_at, mts_at, sb_eq, str_size, aBound, Option.map_none, Option.map_some, aMin, aMax, DK2_normal, ptrNe_pp, sepA_nil, sepA_cons, DK3_normal, sepN_nil, sepN_cons, objNe_pp, objNe_ps, objNe_sp, objNe_ss, objNe_vx, objNe_xv, hwr, hkn, htm, hc, hd]
        exact ⟨⟨k + 1, by omega, by omega, fun j hj h2 => by
          by_cases e : j = k
          · subst e; exact hd
          · exact hk3 j (by omega) h2⟩, Wk.same rfl (by simp (disch := omega) [go_nil, go_inBlock, go_skip, go_exit, go_ret, go_region_lit, go_seq, go_block, goX_nil, goX_code, goX_ops, goX_same, goX_other, go_cond, goB_true, goB_false, go_ops_nil, go_op, go_opg, goW_true, goW_false, goO_move, goO_assign, goO_call, goF_fn, goV_some, goP_none, goP_some, goO_pick, goO_alloc, goO_box, goO_build, goO_buildSlice, goO_load, goO_store, goO_nilCheck, goO_bin, goO_un, goO_convert, goO_makeFunc, goO_makeSlice, goO_slice, goO_fieldAddr, goO_field, goO_indexAddr, goO_index, goO_extract, goO_builtin, gD, gWant, undef, aop, aev_tmp, aev_const, aev_func, aconst, upd_app, env0, env0_nil, env0_cons, aBin_ii, aBin_ss, aBin_bb, abin, aend, ares, aone, wrap_id, get_loc0, get_loc, set_loc0, set_loc, cont_loc0, cont_loc, cont_here, cont_next, row_loc0, row_loc, row_here, row_next, TI.isAgg, aLoad, aStore, aNew, aFieldAddr, aIndexAddr, aIndex, aPart, aField, aLen, aUn, aConv, aAppend, aBuildSlice, aMakeSlice, aBuild, aSlice, AV.cs, AV.one, Value.oneCell', if_pos, if_neg, List.getElem?_cons_zero, List.getElem?_cons_succ, fillA, zrep_zero, zrep_succ0, zrep_one, List.set_cons_zero, List.set_cons_succ, List.length_cons, List.length_nil, mkE_cons, mkE_nil, allE, DK_normal, LK_exit, LK_ret, dg_at, mts_at, sb_eq, str_size, aBound, Option.map_none, Option.map_some, aMin, aMax, DK2_normal, ptrNe_pp, sepA_nil, sepA_cons, DK3_normal, sepN_nil, sepN_cons, objNe_pp, objNe_ps, objNe_sp, objNe_ss, objNe_vx, objNe_xv]), by simp; omega⟩
    · have : isP p = true := by
        rw [isP_iff]
        refine ⟨h0, h1, fun j hj1 hj2 => ?_⟩
        obtain ⟨q, rfl⟩ := Int.eq_ofNat_of_zero_le (show 0 ≤ p by omega)
        have := prime_small q (by omega) k (by omega) (by omega) (by
          have e : ((k * k : Nat) : Int) = (k : Int) * k := by simp
          omega) (fun j hj h2 hz => hk3 j hj h2 (by omega)) j (by omega) hj1
        omega
      rw [this] at hk
      simp (disch := omega) [go_nil, go_inBlock, go_skip, go_exit, go_ret, go_region_lit, go_seq, go_block, goX_nil, goX_code, goX_ops, goX_same, goX_other, go_cond, goB_true, goB_false, go_ops_nil, go_op, go_opg, goW_true, goW_false, goO_move, goO_assign, goO_call, goF_fn, goV_some, goP_none, goP_some, goO_pick, goO_alloc, goO_box, goO_build, goO_buildSlice, goO_load, goO_store, goO_nilCheck, goO_bin, goO_un, goO_convert, goO_makeFunc, goO_makeSlice, goO_slice, goO_fieldAddr, goO_field, goO_indexAddr, goO_index, goO_extract, goO_builtin, gD, gWant, undef, aop, aev_tmp, aev_const, aev_func, aconst, upd_app, env0, env0_nil, env0_cons, aBin_ii, aBin_ss, aBin_bb, abin, aend, ares, aone, wrap_id, get_loc0, get_loc, set_loc0, set_loc, cont_loc0, cont_loc, cont_here, cont_next, row_loc0, row_loc, row_here, row_next, TI.isAgg, aLoad, aStore, aNew, aFieldAddr, aIndexAddr, aIndex, aPart, aField, aLen, aUn, aConv, aAppend, aBuildSlice, aMakeSlice, aBuild, aSlice, AV.cs, AV.one, Value.oneCell', if_pos, if_neg, List.getElem?_cons_zero, List.getElem?_cons_succ, fillA, zrep_zero, zrep_succ0, zrep_one, List.set_cons_zero, List.set_cons_succ, List.length_cons, List.length_nil, mkE_cons, mkE_nil, allE, DK_normal, LK_exit, LK_ret, dg_at, mts_at, sb_eq, str_size, aBound, Option.map_none, Option.map_some, aMin, aMax, DK2_normal, ptrNe_pp, sepA_nil, sepA_cons, DK3_normal, sepN_nil, sepN_cons, objNe_pp, objNe_ps, objNe_sp, objNe_ss, objNe_vx, objNe_xv, hwr, hc]
      exact keep hk
  · have d3 : (decide ((2:Int) ≤ p) && decide (p ≤ 97)) = false := by
      rw [Bool.and_eq_false_iff]; simp; omega
    have hI : isP p = false := by simp [isP, d3]
    rw [hI] at hk
    simp (disch := omega) [go_nil, go_inBlock, go_skip, go_exit, go_ret, go_region_lit, go_seq, go_block, goX_nil, goX_code, goX_ops, goX_same, goX_other, go_cond, goB_true, goB_false, go_ops_nil, go_op, go_opg, goW_true, goW_false, goO_move, goO_assign, goO_call, goF_fn, goV_some, goP_none, goP_some, goO_pick, goO_alloc, goO_box, goO_build, goO_buildSlice, goO_load, goO_store, goO_nilCheck, goO_bin, goO_un, goO_convert, goO_makeFunc, goO_makeSlice, goO_slice, goO_fieldAddr, goO_field, goO_indexAddr, goO_index, goO_extract, goO_builtin, gD, gWant, undef, aop, aev_tmp, aev_const, aev_func, aconst, upd_app, env0, env0_nil, env0_cons, aBin_ii, aBin_ss, aBin_bb, abin, aend, ares, aone, wrap_id, get_loc0, get_loc, set_loc0, set_loc, cont_loc0, cont_loc, cont_here, cont_next, row_loc0, row_loc, row_here, row_next, TI.isAgg, aLoad, aStore, aNew, aFieldAddr, aIndexAddr, aIndex, aPart, aField, aLen, aUn, aConv, aAppend, aBuildSlice, aMakeSlice, aBuild, aSlice, AV.cs, AV.one, Value.oneCell', if_pos, if_neg, List.getElem?_cons_zero, List.getElem?_cons_succ, fillA, zrep_zero, zrep_succ0, zrep_one, List.set_cons_zero, List.set_cons_succ, List.length_cons, List.length_nil, mkE_cons, mkE_nil, allE, DK_normal, LK_exit, LK_ret, dg_at, mts_at, sb_eq, str_size, aBound, Option.map_none, Option.map_some, aMin, aMax, DK2_normal, ptrNe_pp, sepA_nil, sepA_cons, DK3_normal, sepN_nil, sepN_cons, objNe_pp, objNe_ps, objNe_sp, objNe_ss, objNe_vx, objNe_xv, d3]
    exact keep hk

theorem l01Prime_c (p : Int) (m : List AO) (K : AV → List AO → Prop) (hk : K (B (isP p)) m) : ACalls Try.prog 54 [I p] m K := by
  refine ACalls.enter Try.func54 rfl rfl Try.ntmps54 (congrArg Array.toList Try.results54) (by simp) fun hc => ?_
  simp (disch := omega) [go_nil, go_inBlock, go_skip, go_exit, go_ret, go_region_lit, go_seq, go_block, goX_nil, goX_code, goX_ops, goX_same, goX_other, go_cond, goB_true, goB_false, go_ops_nil, go_op, go_opg, goW_true, goW_false, goO_move, goO_assign, goO_call, goF_fn, goV_some, goP_none, goP_some, goO_pick, goO_alloc, goO_box, goO_build, goO_buildSlice, goO_load, goO_store, goO_nilCheck, goO_bin, goO_un, goO_convert, goO_makeFunc, goO_makeSlice, goO_slice, goO_fieldAddr, goO_field, goO_indexAddr, goO_index, goO_extract, goO_builtin, gD, gWant, undef, aop, aev_tmp, aev_const, aev_func, aconst, upd_app, env0, env0_nil, env0_cons, aBin_ii, aBin_ss, aBin_bb, abin, aend, ares, aone, wrap_id, get_loc0, get_loc, set_loc0, set_loc, cont_loc0, cont_loc, cont_here, cont_next, row_loc0, row_loc, row_here, row_next, TI.isAgg, aLoad, aStore, aNew, aFieldAddr, aIndexAddr, aIndex, aPart, aField, aLen, aUn, aConv, aAppend, aBuildSlice, aMakeSlice, aBuild, aSlice, AV.cs, AV.one, Value.oneCell', if_pos, if_neg, List.getElem?_cons_zero, List.getElem?_cons_succ, fillA, zrep_zero, zrep_succ0, zrep_one, List.set_cons_zero, List.set_cons_succ, List.length_cons, List.length_nil, mkE_cons, mkE_nil, allE, DK_normal, LK_exit, LK_ret, dg_at, mts_at, sb_eq, str_size, aBound, Option.map_none, Option.map_some, aMin, aMax, DK2_normal, ptrNe_pp, sepA_nil, sepA_cons, DK3_normal, sepN_nil, sepN_cons, objNe_pp, objNe_ps, objNe_sp, objNe_ss, objNe_vx, objNe_xv]
  refine go_loop (α := {k : Nat // 2 ≤ k ∧ k ≤ 100 ∧ ∀ j : Nat, j < k → 2 ≤ j → (j : Int) < p → p % (j : Int) ≠ 0}) (fun k => mkE [(0, I p), (3, I k.1)]) (fun _ => m) (fun k => 100 - k.1) ⟨2, by omega, by omega, by omega⟩ (Wk.same rfl (by simp (disch := omega) [go_nil, go_inBlock, go_skip, go_exit, go_ret, go_region_lit, go_seq, go_block, goX_nil, goX_code, goX_ops, goX_same, goX_other, go_cond, goB_true, goB_false, go_ops_nil, go_op, go_opg, goW_true, goW_false, goO_move, goO_assign, goO_call, goF_fn, goV_some, goP_none, goP_some, goO_pick, goO_alloc, goO_box, goO_build, goO_buildSlice, goO_load, goO_store, goO_nilCheck, goO_bin, goO_un, goO_convert, goO_makeFunc, goO_makeSlice, goO_slice, goO_fieldAddr, goO_field, goO_indexAddr, goO_index, goO_extract, goO_builtin, gD, gWant, undef, aop, aev_tmp, aev_const, aev_func, aconst, upd_app, env0, env0_nil, env0_cons, aBin_ii, aBin_ss, aBin_bb, abin, aend, ares, aone, wrap_id, get_loc0, get_loc, set_loc0, set_loc, cont_loc0, cont_loc, cont_here, cont_next, row_loc0, row_loc, row_here, row_next, TI.isAgg, aLoad, aStore, aNew, aFieldAddr, aIndexAddr, aIndex, aPart, aField, aLen, aUn, aConv, aAppend, aBuildSlice, aMakeSlice, aBuild, aSlice, AV.cs, AV.one, Value.oneCell', if_pos, if_neg, List.getElem?_cons_zero, List.getElem?_cons_succ, fillA, zrep_zero, zrep_succ0, zrep_one, List.set_cons_zero, List.set_cons_succ, List.length_cons, List.length_nil, mkE_cons, mkE_nil, allE, DK_normal, LK_exit, LK_ret, dg_at, mts_at, sb_eq, str_size, aBound, Option.map_none, Option.map_some, aMin, aMax, DK2_normal, ptrNe_pp, sepA_nil, sepA_cons, DK3_normal, sepN_nil, sepN_cons, objNe_pp, objNe_ps, objNe_sp, objNe_ss, objNe_vx, objNe_xv])) (fun ⟨k, hk1, hk2, hk3⟩ => ?_)
  have hkn : ¬ (k : Int) = 0 := by omega
  have fin : (p ≤ k ∨ k = 100) → isP p = (decide (2 ≤ p) && decide (p ≤ 97)) := by
    intro hend
    by_cases hr : 2 ≤ p ∧ p ≤ 97
    · rw [(isP_iff p).2 ⟨hr.1, hr.2, fun j h1 h2 => hk3 j (by omega) h1 h2⟩]; simp [hr]
    · have d3 : (decide ((2:Int) ≤ p) && decide (p ≤ 97)) = false := by
        rw [Bool.and_eq_false_iff]; simp; omega
      simp [isP, d3]
  by_cases hc : (k : Int) < p
  · have htm : p.tmod (k : Int) = p % k := tmod_pos (by omega) (by omega)
    by_cases hc2 : (k : Int) < 100
    · by_cases hd : p % (k : Int) = 0
      · have : isP p = false := by
          rw [Bool.eq_false_iff]; intro h
          exact ((isP_iff p).1 h).2.2 k hk1 hc hd
        rw [this] at hk
        simp (disch := omega) [go_nil, go_inBlock, go_skip, go_exit, go_ret, go_region_lit, go_seq, go_block, goX_nil, goX_code, goX_ops, goX_same, goX_other, go_cond, goB_true, goB_false, go_ops_nil, go_op, go_opg, goW_true, goW_false, goO_move, goO_assign, goO_call, goF_fn, goV_some, goP_none, goP_some, goO_pick, goO_alloc, goO_box, goO_build, goO_buildSlice, goO_load, goO_store, goO_nilCheck, goO_bin, goO_un, goO_convert, goO_makeFunc, goO_makeSlice, goO_slice, goO_fieldAddr, goO_field, goO_indexAddr, goO_index, goO_extract, goO_builtin, gD, gWant, undef, aop, aev_tmp, aev_const, aev_func, aconst, upd_app, env0, env0_nil, env0_cons, aBin_ii, aBin_ss, aBin_bb, abin, aend, ares, aone, wrap_id, get_loc0, get_loc, set_loc0, set_loc, cont_loc0, cont_loc, cont_here, cont_next, row_loc0, row_loc, row_here, row_next, TI.isAgg, aLoad, aStore, aNew, aFieldAddr, aIndexAddr, aIndex, aPart, aField, aLen, aUn, aConv, aAppend, aBuildSlice, aMakeSlice, aBuild, aSlice, AV.cs, AV.one, Value.oneCell', if_pos, if_neg, List.getElem?_cons_zero, List.getElem?_cons_succ, fillA, zrep_zero, zrep_succ0, zrep_one, List.set_cons_zero, List.set_cons_succ, List.length_cons, List.length_nil, mkE_cons, mkE_nil, allE, DK_normal, LK_exit, LK_ret, dg_at, mts_at, sb_eq, str_size, aBound, Option.map_none, Option.map_some, aMin, aMax, DK2_normal, ptrNe_pp, sepA_nil, sepA_cons, DK3_normal, sepN_nil, sepN_cons, objNe_pp, objNe_ps, objNe_sp, objNe_ss, objNe_vx, objNe_xv, hkn, htm, hc, hc2, hd]
        exact keep hk
      · simp (disch := omega) [go_nil, go_inBlock, go_skip, go_exit, go_ret, go_region_lit, go_seq, go_block, goX_nil, goX_code, goX_ops, goX_same, goX_other, go_cond, goB_true, goB_false, go_ops_nil, go_op, go_opg, goW_true, goW_false, goO_move, goO_assign, goO_call, goF_fn, goV_some, goP_none, goP_some, goO_pick, goO_alloc, goO_box, goO_build, goO_buildSlice, goO_load, goO_store, goO_nilCheck, goO_bin, goO_un, goO_convert, goO_makeFunc, goO_makeSlice, goO_slice, goO_fieldAddr, goO_field, goO_indexAddr, goO_index, goO_extract, goO_builtin, gD, gWant, undef, aop, aev_tmp, aev_const, aev_func, aconst, upd_app, env0, env0_nil, env0_cons, aBin_ii, aBin_ss, aBin_bb, abin, aend, ares, aone, wrap_id, get_loc0, get_loc, set_loc0, set_loc, cont_loc0, cont_loc, cont_here, cont_next, row_loc0, row_loc, row_here, row_next, TI.isAgg, aLoad, aStore, aNew, aFieldAddr, aIndexAddr, aIndex, aPart, aField, aLen, aUn, aConv, aAppend, aBuildSlice, aMakeSlice, aBuild, aSlice, AV.cs, AV.one, Value.oneCell', if_pos, if_neg, List.getElem?_cons_zero, List.getElem?_cons_succ, fillA, zrep_zero, zrep_succ0, zrep_one, List.set_cons_zero, List.set_cons_succ, List.length_cons, List.length_nil, mkE_cons, mkE_nil, allE, DK_normal, LK_exit, LK_ret, dg_at, mts_at, sb_eq, str_size, aBound, Option.map_none, Option.map_some, aMin, aMax, DK2_normal, ptrNe_pp, sepA_nil, sepA_cons, DK3_normal, sepN_nil, sepN_cons, objNe_pp, objNe_ps, objNe_sp, objNe_ss, objNe_vx, objNe_xv, hkn, htm, hc, hc2, hd]
        exact ⟨⟨k + 1, by omega, by omega, fun j hj h2 h3 => by
          by_cases e : j = k
          · subst e; exact hd
          · exact hk3 j (by omega) h2 h3⟩, Wk.same rfl (by simp (disch := omega) [go_nil, go_inBlock, go_skip, go_exit, go_ret, go_region_lit, go_seq, go_block, goX_nil, goX_code, goX_ops, goX_same, goX_other, go_cond, goB_true, goB_false, go_ops_nil, go_op, go_opg, goW_true, goW_false, goO_move, goO_assign, goO_call, goF_fn, goV_some, goP_none, goP_some, goO_pick, goO_alloc, goO_box, goO_build, goO_buildSlice, goO_load, goO_store, goO_nilCheck, goO_bin, goO_un, goO_convert, goO_makeFunc, goO_makeSlice, goO_slice, goO_fieldAddr, goO_field, goO_indexAddr, goO_index, goO_extract, goO_builtin, gD, gWant, undef, aop, aev_tmp, aev_const, aev_func, aconst, upd_app, env0, env0_nil, env0_cons, aBin_ii, aBin_ss, aBin_bb, abin, aend, ares, aone, wrap_id, get_loc0, get_loc, set_loc0, set_loc, cont_loc0, cont_loc, cont_here, cont_next, row_loc0, row_loc, row_here, row_next, TI.isAgg, aLoad, aStore, aNew, aFieldAddr, aIndexAddr, aIndex, aPart, aField, aLen, aUn, aConv, aAppend, aBuildSlice, aMakeSlice, aBuild, aSlice, AV.cs, AV.one, Value.oneCell', if_pos, if_neg, List.getElem?_cons_zero, List.getElem?_cons_succ, fillA, zrep_zero, zrep_succ0, zrep_one, List.set_cons_zero, List.set_cons_succ, List.length_cons, List.length_nil, mkE_cons, mkE_nil, allE, DK_normal, LK_exit, LK_ret, dg_at, mts_at, sb_eq, str_size, aBound, Option.map_none, Option.map_some, aMin, aMax, DK2_normal, ptrNe_pp, sepA_nil, sepA_cons, DK3_normal, sepN_nil, sepN_cons, objNe_pp, objNe_ps, objNe_sp, objNe_ss, objNe_vx, objNe_xv]), by simp; omega⟩
    · rw [fin (by omega)] at hk
      simp (disch := omega) [go_nil, go_inBlock, go_skip, go_exit, go_ret, go_region_lit, go_seq, go_block, goX_nil, goX_code, goX_ops, goX_same, goX_other, go_cond, goB_true, goB_false, go_ops_nil, go_op, go_opg, goW_true, goW_false, goO_move, goO_assign, goO_call, goF_fn, goV_some, goP_none, goP_some, goO_pick, goO_alloc, goO_box, goO_build, goO_buildSlice, goO_load, goO_store, goO_nilCheck, goO_bin, goO_un, goO_convert, goO_makeFunc, goO_makeSlice, goO_slice, goO_fieldAddr, goO_field, goO_indexAddr, goO_index, goO_extract, goO_builtin, gD, gWant, undef, aop, aev_tmp, aev_const, aev_func, aconst, upd_app, env0, env0_nil, env0_cons, aBin_ii, aBin_ss, aBin_bb, abin, aend, ares, aone, wrap_id, get_loc0, get_loc, set_loc0, set_loc, cont_loc0, cont_loc, cont_here, cont_next, row_loc0, row_loc, row_here, row_next, TI.isAgg, aLoad, aStore, aNew, aFieldAddr, aIndexAddr, aIndex, aPart, aField, aLen, aUn, aConv, aAppend, aBuildSlice, aMakeSlice, aBuild, aSlice, AV.cs, AV.one, Value.oneCell', if_pos, if_neg, List.getElem?_cons_zero, List.getElem?_cons_succ, fillA, zrep_zero, zrep_succ0, zrep_one, List.set_cons_zero, List.set_cons_succ, List.length_cons, List.length_nil, mkE_cons, mkE_nil, allE, DK_normal, LK_exit, LK_ret, dg_at, mts_at, sb_eq, str_size, aBound, Option.map_none, Option.map_some, aMin, aMax, DK2_normal, ptrNe_pp, sepA_nil, sepA_cons, DK3_normal, sepN_nil, sepN_cons, objNe_pp, objNe_ps, objNe_sp, objNe_ss, objNe_vx, objNe_xv, hc, hc2]
      refine goCall_n rfl (l01In_c _ _ _ _ _ ?_)
      simp (disch := omega) [go_nil, go_inBlock, go_skip, go_exit, go_ret, go_region_lit, go_seq, go_block, goX_nil, goX_code, goX_ops, goX_same, goX_other, go_cond, goB_true, goB_false, go_ops_nil, go_op, go_opg, goW_true, goW_false, goO_move, goO_assign, goO_call, goF_fn, goV_some, goP_none, goP_some, goO_pick, goO_alloc, goO_box, goO_build, goO_buildSlice, goO_load, goO_store, goO_nilCheck, goO_bin, goO_un, goO_convert, goO_makeFunc, goO_makeSlice, goO_slice, goO_fieldAddr, goO_field, goO_indexAddr, goO_index, goO_extract, goO_builtin, gD, gWant, undef, aop, aev_tmp, aev_const, aev_func, aconst, upd_app, env0, env0_nil, env0_cons, aBin_ii, aBin_ss, aBin_bb, abin, aend, ares, aone, wrap_id, get_loc0, get_loc, set_loc0, set_loc, cont_loc0, cont_loc, cont_here, cont_next, row_loc0, row_loc, row_here, row_next, TI.isAgg, aLoad, aStore, aNew, aFieldAddr, aIndexAddr, aIndex, aPart, aField, aLen, aUn, aConv, aAppend, aBuildSlice, aMakeSlice, aBuild, aSlice, AV.cs, AV.one, Value.oneCell', if_pos, if_neg, List.getElem?_cons_zero, List.getElem?_cons_succ, fillA, zrep_zero, zrep_succ0, zrep_one, List.set_cons_zero, List.set_cons_succ, List.length_cons, List.length_nil, mkE_cons, mkE_nil, allE, DK_normal, LK_exit, LK_ret, dg_at, mts_at, sb_eq, str_size, aBound, Option.map_none, Option.map_some, aMin, aMax, DK2_normal, ptrNe_pp, sepA_nil, sepA_cons, DK3_normal, sepN_nil, sepN_cons, objNe_pp, objNe_ps, objNe_sp, objNe_ss, objNe_vx, objNe_xv]
      exact keep hk
  · rw [fin (by omega)] at hk
    simp (disch := omega) [go_nil, go_inBlock, go_skip, go_exit, go_ret, go_region_lit, go_seq, go_block, goX_nil, goX_code, goX_ops, goX_same, goX_other, go_cond, goB_true, goB_false, go_ops_nil, go_op, go_opg, goW_true, goW_false, goO_move, goO_assign, goO_call, goF_fn, goV_some, goP_none, goP_some, goO_pick, goO_alloc, goO_box, goO_build, goO_buildSlice, goO_load, goO_store, goO_nilCheck, goO_bin, goO_un, goO_convert, goO_makeFunc, goO_makeSlice, goO_slice, goO_fieldAddr, goO_field, goO_indexAddr, goO_index, goO_extract, goO_builtin, gD, gWant, undef, aop, aev_tmp, aev_const, aev_func, aconst, upd_app, env0, env0_nil, env0_cons, aBin_ii, aBin_ss, aBin_bb, abin, aend, ares, aone, wrap_id, get_loc0, get_loc, set_loc0, set_loc, cont_loc0, cont_loc, cont_here, cont_next, row_loc0, row_loc, row_here, row_next, TI.isAgg, aLoad, aStore, aNew, aFieldAddr, aIndexAddr, aIndex, aPart, aField, aLen, aUn, aConv, aAppend, aBuildSlice, aMakeSlice, aBuild, aSlice, AV.cs, AV.one, Value.oneCell', if_pos, if_neg, List.getElem?_cons_zero, List.getElem?_cons_succ, fillA, zrep_zero, zrep_succ0, zrep_one, List.set_cons_zero, List.set_cons_succ, List.length_cons, List.length_nil, mkE_cons, mkE_nil, allE, DK_normal, LK_exit, LK_ret, dg_at, mts_at, sb_eq, str_size, aBound, Option.map_none, Option.map_some, aMin, aMax, DK2_normal, ptrNe_pp, sepA_nil, sepA_cons, DK3_normal, sepN_nil, sepN_cons, objNe_pp, objNe_ps, objNe_sp, objNe_ss, objNe_vx, objNe_xv, hc]
    refine goCall_n rfl (l01In_c _ _ _ _ _ ?_)
    simp (disch := omega) [go_nil, go_inBlock, go_skip, go_exit, go_ret, go_region_lit, go_seq, go_block, goX_nil, goX_code, goX_ops, goX_same, goX_other, go_cond, goB_true, goB_false, go_ops_nil, go_op, go_opg, goW_true, goW_false, goO_move, goO_assign, goO_call, goF_fn, goV_some, goP_none, goP_some, goO_pick, goO_alloc, goO_box, goO_build, goO_buildSlice, goO_load, goO_store, goO_nilCheck, goO_bin, goO_un, goO_convert, goO_makeFunc, goO_makeSlice, goO_slice, goO_fieldAddr, goO_field, goO_indexAddr, goO_index, goO_extract, goO_builtin, gD, gWant, undef, aop, aev_tmp, aev_const, aev_func, aconst, upd_app, env0, env0_nil, env0_cons, aBin_ii, aBin_ss, aBin_bb, abin, aend, ares, aone, wrap_id, get_loc0, get_loc, set_loc0, set_loc, cont_loc0, cont_loc, cont_here, cont_next, row_loc0, row_loc, row_here, row_next, TI.isAgg, aLoad, aStore, aNew, aFieldAddr, aIndexAddr, aIndex, aPart, aField, aLen, aUn, aConv, aAppend, aBuildSlice, aMakeSlice, aBuild, aSlice, AV.cs, AV.one, Value.oneCell', if_pos, if_neg, List.getElem?_cons_zero, List.getElem?_cons_succ, fillA, zrep_zero, zrep_succ0, zrep_one, List.set_cons_zero, List.set_cons_succ, List.length_cons, List.length_nil, mkE_cons, mkE_nil, allE, DK_normal, LK_exit, LK_ret, dg_at, mts_at, sb_eq, str_size, aBound, Option.map_none, Option.map_some, aMin, aMax, DK2_normal, ptrNe_pp, sepA_nil, sepA_cons, DK3_normal, sepN_nil, sepN_cons, objNe_pp, objNe_ps, objNe_sp, objNe_ss, objNe_vx, objNe_xv]
    exact keep hk

end Go.Proofs.Ytcdejfehblnphaa

/- Fields, ranges, copies of diagrams: both sides. -/
namespace Go.Proofs.Ytcdejfehblnphaa
open Go Go.RowKit

def isF (p c : Int) : Bool := isP p && (decide (0 ≤ c) && decide (c ≤ p - 1))
theorem isP_bd {p : Int} (h : isP p = true) : 2 ≤ p ∧ p ≤ 97 := by have := (isP_iff p).1 h; omega

theorem fieldOk_c (p c : Int) (m : List AO) (K : AV → List AO → Prop) (hk : K (B (isF p c)) m) : ACalls Try.prog 58 [I p, I c] m K := by
  refine ACalls.enter Try.func58 rfl rfl Try.ntmps58 (congrArg Array.toList Try.results58) (by simp) fun hc => ?_
  simp (disch := omega) [go_nil, go_inBlock, go_skip, go_exit, go_ret, go_region_lit, go_seq, go_block, goX_nil, goX_code, goX_ops, goX_same, goX_other, go_cond, goB_true, goB_false, go_ops_nil, go_op, go_opg, goW_true, goW_false, goO_move, goO_assign, goO_call, goF_fn, goV_some, goP_none, goP_some, goO_pick, goO_alloc, goO_box, goO_build, goO_buildSlice, goO_load, goO_store, goO_nilCheck, goO_bin, goO_un, goO_convert, goO_makeFunc, goO_makeSlice, goO_slice, goO_fieldAddr, goO_field, goO_indexAddr, goO_index, goO_extract, goO_builtin, gD, gWant, undef, aop, aev_tmp, aev_const, aev_func, aconst, upd_app, env0, env0_nil, env0_cons, aBin_ii, aBin_ss, aBin_bb, abin, aend, ares, aone, wrap_id, get_loc0, get_loc, set_loc0, set_loc, cont_loc0, cont_loc, cont_here, cont_next, row_loc0, row_loc, row_here, row_next, TI.isAgg, aLoad, aStore, aNew, aFieldAddr, aIndexAddr, aIndex, aPart, aField, aLen, aUn, aConv, aAppend, aBuildSlice, aMakeSlice, aBuild, aSlice, AV.cs, AV.one, Value.oneCell', if_pos, if_neg, List.getElem?_cons_zero, List.getElem?_cons_succ, fillA, zrep_zero, zrep_succ0, zrep_one, List.set_cons_zero, List.set_cons_succ, List.length_cons, List.length_nil, mkE_cons, mkE_nil, allE, DK_normal, LK_exit, LK_ret, dg_at, mts_at, sb_eq, str_size, aBound, Option.map_none, Option.map_some, aMin, aMax, DK2_normal, ptrNe_pp, sepA_nil, sepA_cons, DK3_normal, sepN_nil, sepN_cons, objNe_pp, objNe_ps, objNe_sp, objNe_ss, objNe_vx, objNe_xv]
  refine goCall_n rfl (isPrime_c _ _ _ ?_)
  by_cases hp : isP p = true
  · have := isP_bd hp
    simp (disch := omega) [go_nil, go_inBlock, go_skip, go_exit, go_ret, go_region_lit, go_seq, go_block, goX_nil, goX_code, goX_ops, goX_same, goX_other, go_cond, goB_true, goB_false, go_ops_nil, go_op, go_opg, goW_true, goW_false, goO_move, goO_assign, goO_call, goF_fn, goV_some, goP_none, goP_some, goO_pick, goO_alloc, goO_box, goO_build, goO_buildSlice, goO_load, goO_store, goO_nilCheck, goO_bin, goO_un, goO_convert, goO_makeFunc, goO_makeSlice, goO_slice, goO_fieldAddr, goO_field, goO_indexAddr, goO_index, goO_extract, goO_builtin, gD, gWant, undef, aop, aev_tmp, aev_const, aev_func, aconst, upd_app, env0, env0_nil, env0_cons, aBin_ii, aBin_ss, aBin_bb, abin, aend, ares, aone, wrap_id, get_loc0, get_loc, set_loc0, set_loc, cont_loc0, cont_loc, cont_here, cont_next, row_loc0, row_loc, row_here, row_next, TI.isAgg, aLoad, aStore, aNew, aFieldAddr, aIndexAddr, aIndex, aPart, aField, aLen, aUn, aConv, aAppend, aBuildSlice, aMakeSlice, aBuild, aSlice, AV.cs, AV.one, Value.oneCell', if_pos, if_neg, List.getElem?_cons_zero, List.getElem?_cons_succ, fillA, zrep_zero, zrep_succ0, zrep_one, List.set_cons_zero, List.set_cons_succ, List.length_cons, List.length_nil, mkE_cons, mkE_nil, allE, DK_normal, LK_exit, LK_ret, dg_at, mts_at, sb_eq, str_size, aBound, Option.map_none, Option.map_some, aMin, aMax, DK2_normal, ptrNe_pp, sepA_nil, sepA_cons, DK3_normal, sepN_nil, sepN_cons, objNe_pp, objNe_ps, objNe_sp, objNe_ss, objNe_vx, objNe_xv, hp]
    refine goCall_n rfl (in_c _ _ _ _ _ ?_)
    simp (disch := omega) [go_nil, go_inBlock, go_skip, go_exit, go_ret, go_region_lit, go_seq, go_block, goX_nil, goX_code, goX_ops, goX_same, goX_other, go_cond, goB_true, goB_false, go_ops_nil, go_op, go_opg, goW_true, goW_false, goO_move, goO_assign, goO_call, goF_fn, goV_some, goP_none, goP_some, goO_pick, goO_alloc, goO_box, goO_build, goO_buildSlice, goO_load, goO_store, goO_nilCheck, goO_bin, goO_un, goO_convert, goO_makeFunc, goO_makeSlice, goO_slice, goO_fieldAddr, goO_field, goO_indexAddr, goO_index, goO_extract, goO_builtin, gD, gWant, undef, aop, aev_tmp, aev_const, aev_func, aconst, upd_app, env0, env0_nil, env0_cons, aBin_ii, aBin_ss, aBin_bb, abin, aend, ares, aone, wrap_id, get_loc0, get_loc, set_loc0, set_loc, cont_loc0, cont_loc, cont_here, cont_next, row_loc0, row_loc, row_here, row_next, TI.isAgg, aLoad, aStore, aNew, aFieldAddr, aIndexAddr, aIndex, aPart, aField, aLen, aUn, aConv, aAppend, aBuildSlice, aMakeSlice, aBuild, aSlice, AV.cs, AV.one, Value.oneCell', if_pos, if_neg, List.getElem?_cons_zero, List.getElem?_cons_succ, fillA, zrep_zero, zrep_succ0, zrep_one, List.set_cons_zero, List.set_cons_succ, List.length_cons, List.length_nil, mkE_cons, mkE_nil, allE, DK_normal, LK_exit, LK_ret, dg_at, mts_at, sb_eq, str_size, aBound, Option.map_none, Option.map_some, aMin, aMax, DK2_normal, ptrNe_pp, sepA_nil, sepA_cons, DK3_normal, sepN_nil, sepN_cons, objNe_pp, objNe_ps, objNe_sp, objNe_ss, objNe_vx, objNe_xv]
    simp only [isF, hp, Bool.true_and] at hk
    exact keep hk
  · have hp : isP p = false := by simpa using hp
    simp (disch := omega) [go_nil, go_inBlock, go_skip, go_exit, go_ret, go_region_lit, go_seq, go_block, goX_nil, goX_code, goX_ops, goX_same, goX_other, go_cond, goB_true, goB_false, go_ops_nil, go_op, go_opg, goW_true, goW_false, goO_move, goO_assign, goO_call, goF_fn, goV_some, goP_none, goP_some, goO_pick, goO_alloc, goO_box, goO_build, goO_buildSlice, goO_load, goO_store, goO_nilCheck, goO_bin, goO_un, goO_convert, goO_makeFunc, goO_makeSlice, goO_slice, goO_fieldAddr, goO_field, goO_indexAddr, goO_index, goO_extract, goO_builtin, gD, gWant, undef, aop, aev_tmp, aev_const, aev_func, aconst, upd_app, env0, env0_nil, env0_cons, aBin_ii, aBin_ss, aBin_bb, abin, aend, ares, aone, wrap_id, get_loc0, get_loc, set_loc0, set_loc, cont_loc0, cont_loc, cont_here, cont_next, row_loc0, row_loc, row_here, row_next, TI.isAgg, aLoad, aStore, aNew, aFieldAddr, aIndexAddr, aIndex, aPart, aField, aLen, aUn, aConv, aAppend, aBuildSlice, aMakeSlice, aBuild, aSlice, AV.cs, AV.one, Value.oneCell', if_pos, if_neg, List.getElem?_cons_zero, List.getElem?_cons_succ, fillA, zrep_zero, zrep_succ0, zrep_one, List.set_cons_zero, List.set_cons_succ, List.length_cons, List.length_nil, mkE_cons, mkE_nil, allE, DK_normal, LK_exit, LK_ret, dg_at, mts_at, sb_eq, str_size, aBound, Option.map_none, Option.map_some, aMin, aMax, DK2_normal, ptrNe_pp, sepA_nil, sepA_cons, DK3_normal, sepN_nil, sepN_cons, objNe_pp, objNe_ps, objNe_sp, objNe_ss, objNe_vx, objNe_xv, hp]
    simp only [isF, hp, Bool.false_and] at hk
    exact keep hk

theorem l04Numbers_c (p c : Int) (m : List AO) (K : AV → List AO → Prop) (hk : K (B (isF p c)) m) : ACalls Try.prog 42 [I p, I c] m K := by
  refine ACalls.enter Try.func42 rfl rfl Try.ntmps42 (congrArg Array.toList Try.results42) (by simp) fun hc => ?_
  simp (disch := omega) [go_nil, go_inBlock, go_skip, go_exit, go_ret, go_region_lit, go_seq, go_block, goX_nil, goX_code, goX_ops, goX_same, goX_other, go_cond, goB_true, goB_false, go_ops_nil, go_op, go_opg, goW_true, goW_false, goO_move, goO_assign, goO_call, goF_fn, goV_some, goP_none, goP_some, goO_pick, goO_alloc, goO_box, goO_build, goO_buildSlice, goO_load, goO_store, goO_nilCheck, goO_bin, goO_un, goO_convert, goO_makeFunc, goO_makeSlice, goO_slice, goO_fieldAddr, goO_field, goO_indexAddr, goO_index, goO_extract, goO_builtin, gD, gWant, undef, aop, aev_tmp, aev_const, aev_func, aconst, upd_app, env0, env0_nil, env0_cons, aBin_ii, aBin_ss, aBin_bb, abin, aend, ares, aone, wrap_id, get_loc0, get_loc, set_loc0, set_loc, cont_loc0, cont_loc, cont_here, cont_next, row_loc0, row_loc, row_here, row_next, TI.isAgg, aLoad, aStore, aNew, aFieldAddr, aIndexAddr, aIndex, aPart, aField, aLen, aUn, aConv, aAppend, aBuildSlice, aMakeSlice, aBuild, aSlice, AV.cs, AV.one, Value.oneCell', if_pos, if_neg, List.getElem?_cons_zero, List.getElem?_cons_succ, fillA, zrep_zero, zrep_succ0, zrep_one, List.set_cons_zero, List.set_cons_succ, List.length_cons, List.length_nil, mkE_cons, mkE_nil, allE, DK_normal, LK_exit, LK_ret, dg_at, mts_at, sb_eq, str_size, aBound, Option.map_none, Option.map_some, aMin, aMax, DK2_normal, ptrNe_pp, sepA_nil, sepA_cons, DK3_normal, sepN_nil, sepN_cons, objNe_pp, objNe_ps, objNe_sp, objNe_ss, objNe_vx, objNe_xv]
  refine goCall_n rfl (l01Prime_c _ _ _ ?_)
  by_cases hp : isP p = true
  · have := isP_bd hp
    simp (disch := omega) [go_nil, go_inBlock, go_skip, go_exit, go_ret, go_region_lit, go_seq, go_block, goX_nil, goX_code, goX_ops, goX_same, goX_other, go_cond, goB_true, goB_false, go_ops_nil, go_op, go_opg, goW_true, goW_false, goO_move, goO_assign, goO_call, goF_fn, goV_some, goP_none, goP_some, goO_pick, goO_alloc, goO_box, goO_build, goO_buildSlice, goO_load, goO_store, goO_nilCheck, goO_bin, goO_un, goO_convert, goO_makeFunc, goO_makeSlice, goO_slice, goO_fieldAddr, goO_field, goO_indexAddr, goO_index, goO_extract, goO_builtin, gD, gWant, undef, aop, aev_tmp, aev_const, aev_func, aconst, upd_app, env0, env0_nil, env0_cons, aBin_ii, aBin_ss, aBin_bb, abin, aend, ares, aone, wrap_id, get_loc0, get_loc, set_loc0, set_loc, cont_loc0, cont_loc, cont_here, cont_next, row_loc0, row_loc, row_here, row_next, TI.isAgg, aLoad, aStore, aNew, aFieldAddr, aIndexAddr, aIndex, aPart, aField, aLen, aUn, aConv, aAppend, aBuildSlice, aMakeSlice, aBuild, aSlice, AV.cs, AV.one, Value.oneCell', if_pos, if_neg, List.getElem?_cons_zero, List.getElem?_cons_succ, fillA, zrep_zero, zrep_succ0, zrep_one, List.set_cons_zero, List.set_cons_succ, List.length_cons, List.length_nil, mkE_cons, mkE_nil, allE, DK_normal, LK_exit, LK_ret, dg_at, mts_at, sb_eq, str_size, aBound, Option.map_none, Option.map_some, aMin, aMax, DK2_normal, ptrNe_pp, sepA_nil, sepA_cons, DK3_normal, sepN_nil, sepN_cons, objNe_pp, objNe_ps, objNe_sp, objNe_ss, objNe_vx, objNe_xv, hp]
    refine goCall_n rfl (l01In_c _ _ _ _ _ ?_)
    simp (disch := omega) [go_nil, go_inBlock, go_skip, go_exit, go_ret, go_region_lit, go_seq, go_block, goX_nil, goX_code, goX_ops, goX_same, goX_other, go_cond, goB_true, goB_false, go_ops_nil, go_op, go_opg, goW_true, goW_false, goO_move, goO_assign, goO_call, goF_fn, goV_some, goP_none, goP_some, goO_pick, goO_alloc, goO_box, goO_build, goO_buildSlice, goO_load, goO_store, goO_nilCheck, goO_bin, goO_un, goO_convert, goO_makeFunc, goO_makeSlice, goO_slice, goO_fieldAddr, goO_field, goO_indexAddr, goO_index, goO_extract, goO_builtin, gD, gWant, undef, aop, aev_tmp, aev_const, aev_func, aconst, upd_app, env0, env0_nil, env0_cons, aBin_ii, aBin_ss, aBin_bb, abin, aend, ares, aone, wrap_id, get_loc0, get_loc, set_loc0, set_loc, cont_loc0, cont_loc, cont_here, cont_next, row_loc0, row_loc, row_here, row_next, TI.isAgg, aLoad, aStore, aNew, aFieldAddr, aIndexAddr, aIndex, aPart, aField, aLen, aUn, aConv, aAppend, aBuildSlice, aMakeSlice, aBuild, aSlice, AV.cs, AV.one, Value.oneCell', if_pos, if_neg, List.getElem?_cons_zero, List.getElem?_cons_succ, fillA, zrep_zero, zrep_succ0, zrep_one, List.set_cons_zero, List.set_cons_succ, List.length_cons, List.length_nil, mkE_cons, mkE_nil, allE, DK_normal, LK_exit, LK_ret, dg_at, mts_at, sb_eq, str_size, aBound, Option.map_none, Option.map_some, aMin, aMax, DK2_normal, ptrNe_pp, sepA_nil, sepA_cons, DK3_normal, sepN_nil, sepN_cons, objNe_pp, objNe_ps, objNe_sp, objNe_ss, objNe_vx, objNe_xv]
    simp only [isF, hp, Bool.true_and] at hk
    exact keep hk
  · have hp : isP p = false := by simpa using hp
    simp (disch := omega) [go_nil, go_inBlock, go_skip, go_exit, go_ret, go_region_lit, go_seq, go_block, goX_nil, goX_code, goX_ops, goX_same, goX_other, go_cond, goB_true, goB_false, go_ops_nil, go_op, go_opg, goW_true, goW_false, goO_move, goO_assign, goO_call, goF_fn, goV_some, goP_none, goP_some, goO_pick, goO_alloc, goO_box, goO_build, goO_buildSlice, goO_load, goO_store, goO_nilCheck, goO_bin, goO_un, goO_convert, goO_makeFunc, goO_makeSlice, goO_slice, goO_fieldAddr, goO_field, goO_indexAddr, goO_index, goO_extract, goO_builtin, gD, gWant, undef, aop, aev_tmp, aev_const, aev_func, aconst, upd_app, env0, env0_nil, env0_cons, aBin_ii, aBin_ss, aBin_bb, abin, aend, ares, aone, wrap_id, get_loc0, get_loc, set_loc0, set_loc, cont_loc0, cont_loc, cont_here, cont_next, row_loc0, row_loc, row_here, row_next, TI.isAgg, aLoad, aStore, aNew, aFieldAddr, aIndexAddr, aIndex, aPart, aField, aLen, aUn, aConv, aAppend, aBuildSlice, aMakeSlice, aBuild, aSlice, AV.cs, AV.one, Value.oneCell', if_pos, if_neg, List.getElem?_cons_zero, List.getElem?_cons_succ, fillA, zrep_zero, zrep_succ0, zrep_one, List.set_cons_zero, List.set_cons_succ, List.length_cons, List.length_nil, mkE_cons, mkE_nil, allE, DK_normal, LK_exit, LK_ret, dg_at, mts_at, sb_eq, str_size, aBound, Option.map_none, Option.map_some, aMin, aMax, DK2_normal, ptrNe_pp, sepA_nil, sepA_cons, DK3_normal, sepN_nil, sepN_cons, objNe_pp, objNe_ps, objNe_sp, objNe_ss, objNe_vx, objNe_xv, hp]
    simp only [isF, hp, Bool.false_and] at hk
    exact keep hk

/-- A number of open points is right. -/
def okR (n k most : Int) : Bool := (decide (1 ≤ n) && decide (n ≤ most)) && ((decide (0 ≤ k) && decide (k ≤ n)) && decide ((n - k) % 2 = 0))

theorem openOk_c (n k most : Int) (m : List AO) (K : AV → List AO → Prop) (hm : most ≤ 100) (hk : K (B (okR n k most)) m) : ACalls Try.prog 74 [I n, I k, I most] m K := by
  refine ACalls.enter Try.func74 rfl rfl Try.ntmps74 (congrArg Array.toList Try.results74) (by simp) fun hc => ?_
  simp (disch := omega) [go_nil, go_inBlock, go_skip, go_exit, go_ret, go_region_lit, go_seq, go_block, goX_nil, goX_code, goX_ops, goX_same, goX_other, go_cond, goB_true, goB_false, go_ops_nil, go_op, go_opg, goW_true, goW_false, goO_move, goO_assign, goO_call, goF_fn, goV_some, goP_none, goP_some, goO_pick, goO_alloc, goO_box, goO_build, goO_buildSlice, goO_load, goO_store, goO_nilCheck, goO_bin, goO_un, goO_convert, goO_makeFunc, goO_makeSlice, goO_slice, goO_fieldAddr, goO_field, goO_indexAddr, goO_index, goO_extract, goO_builtin, gD, gWant, undef, aop, aev_tmp, aev_const, aev_func, aconst, upd_app, env0, env0_nil, env0_cons, aBin_ii, aBin_ss, aBin_bb, abin, aend, ares, aone, wrap_id, get_loc0, get_loc, set_loc0, set_loc, cont_loc0, cont_loc, cont_here, cont_next, row_loc0, row_loc, row_here, row_next, TI.isAgg, aLoad, aStore, aNew, aFieldAddr, aIndexAddr, aIndex, aPart, aField, aLen, aUn, aConv, aAppend, aBuildSlice, aMakeSlice, aBuild, aSlice, AV.cs, AV.one, Value.oneCell', if_pos, if_neg, List.getElem?_cons_zero, List.getElem?_cons_succ, fillA, zrep_zero, zrep_succ0, zrep_one, List.set_cons_zero, List.set_cons_succ, List.length_cons, List.length_nil, mkE_cons, mkE_nil, allE, DK_normal, LK_exit, LK_ret, dg_at, mts_at, sb_eq, str_size, aBound, Option.map_none, Option.map_some, aMin, aMax, DK2_normal, ptrNe_pp, sepA_nil, sepA_cons, DK3_normal, sepN_nil, sepN_cons, objNe_pp, objNe_ps, objNe_sp, objNe_ss, objNe_vx, objNe_xv]
  refine goCall_n rfl (in_c _ _ _ _ _ ?_)
  by_cases h1 : 1 ≤ n ∧ n ≤ most
  · have e1 : (decide (1 ≤ n) && decide (n ≤ most)) = true := by simp [h1]
    simp (disch := omega) [go_nil, go_inBlock, go_skip, go_exit, go_ret, go_region_lit, go_seq, go_block, goX_nil, goX_code, goX_ops, goX_same, goX_other, go_cond, goB_true, goB_false, go_ops_nil, go_op, go_opg, goW_true, goW_false, goO_move, goO_assign, goO_call, goF_fn, goV_some, goP_none, goP_some, goO_pick, goO_alloc, goO_box, goO_build, goO_buildSlice, goO_load, goO_store, goO_nilCheck, goO_bin, goO_un, goO_convert, goO_makeFunc, goO_makeSlice, goO_slice, goO_fieldAddr, goO_field, goO_indexAddr, goO_index, goO_extract, goO_builtin, gD, gWant, undef, aop, aev_tmp, aev_const, aev_func, aconst, upd_app, env0, env0_nil, env0_cons, aBin_ii, aBin_ss, aBin_bb, abin, aend, ares, aone, wrap_id, get_loc0, get_loc, set_loc0, set_loc, cont_loc0, cont_loc, cont_here, cont_next, row_loc0, row_loc, row_here, row_next, TI.isAgg, aLoad, aStore, aNew, aFieldAddr, aIndexAddr, aIndex, aPart, aField, aLen, aUn, aConv, aAppend, aBuildSlice, aMakeSlice, aBuild, aSlice, AV.cs, AV.one, Value.oneCell', if_pos, if_neg, List.getElem?_cons_zero, List.getElem?_cons_succ, fillA, zrep_zero, zrep_succ0, zrep_one, List.set_cons_zero, List.set_cons_succ, List.length_cons, List.length_nil, mkE_cons, mkE_nil, allE, DK_normal, LK_exit, LK_ret, dg_at, mts_at, sb_eq, str_size, aBound, Option.map_none, Option.map_some, aMin, aMax, DK2_normal, ptrNe_pp, sepA_nil, sepA_cons, DK3_normal, sepN_nil, sepN_cons, objNe_pp, objNe_ps, objNe_sp, objNe_ss, objNe_vx, objNe_xv, e1]
    refine goCall_n rfl (in_c _ _ _ _ _ ?_)
    by_cases h2 : 0 ≤ k ∧ k ≤ n
    · have e2 : (decide (0 ≤ k) && decide (k ≤ n)) = true := by simp [h2]
      have e3 : (n - k).tmod 2 = (n - k) % 2 := tmod_pos (by omega) (by omega)
      simp only [okR, e1, e2, Bool.true_and] at hk
      simp (disch := omega) [go_nil, go_inBlock, go_skip, go_exit, go_ret, go_region_lit, go_seq, go_block, goX_nil, goX_code, goX_ops, goX_same, goX_other, go_cond, goB_true, goB_false, go_ops_nil, go_op, go_opg, goW_true, goW_false, goO_move, goO_assign, goO_call, goF_fn, goV_some, goP_none, goP_some, goO_pick, goO_alloc, goO_box, goO_build, goO_buildSlice, goO_load, goO_store, goO_nilCheck, goO_bin, goO_un, goO_convert, goO_makeFunc, goO_makeSlice, goO_slice, goO_fieldAddr, goO_field, goO_indexAddr, goO_index, goO_extract, goO_builtin, gD, gWant, undef, aop, aev_tmp, aev_const, aev_func, aconst, upd_app, env0, env0_nil, env0_cons, aBin_ii, aBin_ss, aBin_bb, abin, aend, ares, aone, wrap_id, get_loc0, get_loc, set_loc0, set_loc, cont_loc0, cont_loc, cont_here, cont_next, row_loc0, row_loc, row_here, row_next, TI.isAgg, aLoad, aStore, aNew, aFieldAddr, aIndexAddr, aIndex, aPart, aField, aLen, aUn, aConv, aAppend, aBuildSlice, aMakeSlice, aBuild, aSlice, AV.cs, AV.one, Value.oneCell', if_pos, if_neg, List.getElem?_cons_zero, List.getElem?_cons_succ, fillA, zrep_zero, zrep_succ0, zrep_one, List.set_cons_zero, List.set_cons_succ, List.length_cons, List.length_nil, mkE_cons, mkE_nil, allE, DK_normal, LK_exit, LK_ret, dg_at, mts_at, sb_eq, str_size, aBound, Option.map_none, Option.map_some, aMin, aMax, DK2_normal, ptrNe_pp, sepA_nil, sepA_cons, DK3_normal, sepN_nil, sepN_cons, objNe_pp, objNe_ps, objNe_sp, objNe_ss, objNe_vx, objNe_xv, e2, e3]
      exact keep hk
    · have e2 : (decide (0 ≤ k) && decide (k ≤ n)) = false := by rw [Bool.and_eq_false_iff]; simp; omega
      simp only [okR, e1, e2, Bool.true_and, Bool.false_and] at hk
      simp (disch := omega) [go_nil, go_inBlock, go_skip, go_exit, go_ret, go_region_lit, go_seq, go_block, goX_nil, goX_code, goX_ops, goX_same, goX_other, go_cond, goB_true, goB_false, go_ops_nil, go_op, go_opg, goW_true, goW_false, goO_move, goO_assign, goO_call, goF_fn, goV_some, goP_none, goP_some, goO_pick, goO_alloc, goO_box, goO_build, goO_buildSlice, goO_load, goO_store, goO_nilCheck, goO_bin, goO_un, goO_convert, goO_makeFunc, goO_makeSlice, goO_slice, goO_fieldAddr, goO_field, goO_indexAddr, goO_index, goO_extract, goO_builtin, gD, gWant, undef, aop, aev_tmp, aev_const, aev_func, aconst, upd_app, env0, env0_nil, env0_cons, aBin_ii, aBin_ss, aBin_bb, abin, aend, ares, aone, wrap_id, get_loc0, get_loc, set_loc0, set_loc, cont_loc0, cont_loc, cont_here, cont_next, row_loc0, row_loc, row_here, row_next, TI.isAgg, aLoad, aStore, aNew, aFieldAddr, aIndexAddr, aIndex, aPart, aField, aLen, aUn, aConv, aAppend, aBuildSlice, aMakeSlice, aBuild, aSlice, AV.cs, AV.one, Value.oneCell', if_pos, if_neg, List.getElem?_cons_zero, List.getElem?_cons_succ, fillA, zrep_zero, zrep_succ0, zrep_one, List.set_cons_zero, List.set_cons_succ, List.length_cons, List.length_nil, mkE_cons, mkE_nil, allE, DK_normal, LK_exit, LK_ret, dg_at, mts_at, sb_eq, str_size, aBound, Option.map_none, Option.map_some, aMin, aMax, DK2_normal, ptrNe_pp, sepA_nil, sepA_cons, DK3_normal, sepN_nil, sepN_cons, objNe_pp, objNe_ps, objNe_sp, objNe_ss, objNe_vx, objNe_xv, e2]
      exact keep hk
  · have e1 : (decide (1 ≤ n) && decide (n ≤ most)) = false := by rw [Bool.and_eq_false_iff]; simp; omega
    simp only [okR, e1, Bool.false_and] at hk
    simp (disch := omega) [go_nil, go_inBlock, go_skip, go_exit, go_ret, go_region_lit, go_seq, go_block, goX_nil, goX_code, goX_ops, goX_same, goX_other, go_cond, goB_true, goB_false, go_ops_nil, go_op, go_opg, goW_true, goW_false, goO_move, goO_assign, goO_call, goF_fn, goV_some, goP_none, goP_some, goO_pick, goO_alloc, goO_box, goO_build, goO_buildSlice, goO_load, goO_store, goO_nilCheck, goO_bin, goO_un, goO_convert, goO_makeFunc, goO_makeSlice, goO_slice, goO_fieldAddr, goO_field, goO_indexAddr, goO_index, goO_extract, goO_builtin, gD, gWant, undef, aop, aev_tmp, aev_const, aev_func, aconst, upd_app, env0, env0_nil, env0_cons, aBin_ii, aBin_ss, aBin_bb, abin, aend, ares, aone, wrap_id, get_loc0, get_loc, set_loc0, set_loc, cont_loc0, cont_loc, cont_here, cont_next, row_loc0, row_loc, row_here, row_next, TI.isAgg, aLoad, aStore, aNew, aFieldAddr, aIndexAddr, aIndex, aPart, aField, aLen, aUn, aConv, aAppend, aBuildSlice, aMakeSlice, aBuild, aSlice, AV.cs, AV.one, Value.oneCell', if_pos, if_neg, List.getElem?_cons_zero, List.getElem?_cons_succ, fillA, zrep_zero, zrep_succ0, zrep_one, List.set_cons_zero, List.set_cons_succ, List.length_cons, List.length_nil, mkE_cons, mkE_nil, allE, DK_normal, LK_exit, LK_ret, dg_at, mts_at, sb_eq, str_size, aBound, Option.map_none, Option.map_some, aMin, aMax, DK2_normal, ptrNe_pp, sepA_nil, sepA_cons, DK3_normal, sepN_nil, sepN_cons, objNe_pp, objNe_ps, objNe_sp, objNe_ss, objNe_vx, objNe_xv, e1]
    exact keep hk

theorem l04Range_c (n k most : Int) (m : List AO) (K : AV → List AO → Prop) (hm : most ≤ 100) (hk : K (B (okR n k most)) m) : ACalls Try.prog 43 [I n, I k, I most] m K := by
  refine ACalls.enter Try.func43 rfl rfl Try.ntmps43 (congrArg Array.toList Try.results43) (by simp) fun hc => ?_
  simp (disch := omega) [go_nil, go_inBlock, go_skip, go_exit, go_ret, go_region_lit, go_seq, go_block, goX_nil, goX_code, goX_ops, goX_same, goX_other, go_cond, goB_true, goB_false, go_ops_nil, go_op, go_opg, goW_true, goW_false, goO_move, goO_assign, goO_call, goF_fn, goV_some, goP_none, goP_some, goO_pick, goO_alloc, goO_box, goO_build, goO_buildSlice, goO_load, goO_store, goO_nilCheck, goO_bin, goO_un, goO_convert, goO_makeFunc, goO_makeSlice, goO_slice, goO_fieldAddr, goO_field, goO_indexAddr, goO_index, goO_extract, goO_builtin, gD, gWant, undef, aop, aev_tmp, aev_const, aev_func, aconst, upd_app, env0, env0_nil, env0_cons, aBin_ii, aBin_ss, aBin_bb, abin, aend, ares, aone, wrap_id, get_loc0, get_loc, set_loc0, set_loc, cont_loc0, cont_loc, cont_here, cont_next, row_loc0, row_loc, row_here, row_next, TI.isAgg, aLoad, aStore, aNew, aFieldAddr, aIndexAddr, aIndex, aPart, aField, aLen, aUn, aConv, aAppend, aBuildSlice, aMakeSlice, aBuild, aSlice, AV.cs, AV.one, Value.oneCell', if_pos, if_neg, List.getElem?_cons_zero, List.getElem?_cons_succ, fillA, zrep_zero, zrep_succ0, zrep_one, List.set_cons_zero, List.set_cons_succ, List.length_cons, List.length_nil, mkE_cons, mkE_nil, allE, DK_normal, LK_exit, LK_ret, dg_at, mts_at, sb_eq, str_size, aBound, Option.map_none, Option.map_some, aMin, aMax, DK2_normal, ptrNe_pp, sepA_nil, sepA_cons, DK3_normal, sepN_nil, sepN_cons, objNe_pp, objNe_ps, objNe_sp, objNe_ss, objNe_vx, objNe_xv]
  refine goCall_n rfl (l01In_c _ _ _ _ _ ?_)
  by_cases h1 : 1 ≤ n ∧ n ≤ most
  · have e1 : (decide (1 ≤ n) && decide (n ≤ most)) = true := by simp [h1]
    simp (disch := omega) [go_nil, go_inBlock, go_skip, go_exit, go_ret, go_region_lit, go_seq, go_block, goX_nil, goX_code, goX_ops, goX_same, goX_other, go_cond, goB_true, goB_false, go_ops_nil, go_op, go_opg, goW_true, goW_false, goO_move, goO_assign, goO_call, goF_fn, goV_some, goP_none, goP_some, goO_pick, goO_alloc, goO_box, goO_build, goO_buildSlice, goO_load, goO_store, goO_nilCheck, goO_bin, goO_un, goO_convert, goO_makeFunc, goO_makeSlice, goO_slice, goO_fieldAddr, goO_field, goO_indexAddr, goO_index, goO_extract, goO_builtin, gD, gWant, undef, aop, aev_tmp, aev_const, aev_func, aconst, upd_app, env0, env0_nil, env0_cons, aBin_ii, aBin_ss, aBin_bb, abin, aend, ares, aone, wrap_id, get_loc0, get_loc, set_loc0, set_loc, cont_loc0, cont_loc, cont_here, cont_next, row_loc0, row_loc, row_here, row_next, TI.isAgg, aLoad, aStore, aNew, aFieldAddr, aIndexAddr, aIndex, aPart, aField, aLen, aUn, aConv, aAppend, aBuildSlice, aMakeSlice, aBuild, aSlice, AV.cs, AV.one, Value.oneCell', if_pos, if_neg, List.getElem?_cons_zero, List.getElem?_cons_succ, fillA, zrep_zero, zrep_succ0, zrep_one, List.set_cons_zero, List.set_cons_succ, List.length_cons, List.length_nil, mkE_cons, mkE_nil, allE, DK_normal, LK_exit, LK_ret, dg_at, mts_at, sb_eq, str_size, aBound, Option.map_none, Option.map_some, aMin, aMax, DK2_normal, ptrNe_pp, sepA_nil, sepA_cons, DK3_normal, sepN_nil, sepN_cons, objNe_pp, objNe_ps, objNe_sp, objNe_ss, objNe_vx, objNe_xv, e1]
    refine goCall_n rfl (l01In_c _ _ _ _ _ ?_)
    by_cases h2 : 0 ≤ k ∧ k ≤ n
    · have e2 : (decide (0 ≤ k) && decide (k ≤ n)) = true := by simp [h2]
      have e3 : (n - k).tmod 2 = (n - k) % 2 := tmod_pos (by omega) (by omega)
      simp only [okR, e1, e2, Bool.true_and] at hk
      simp (disch := omega) [go_nil, go_inBlock, go_skip, go_exit, go_ret, go_region_lit, go_seq, go_block, goX_nil, goX_code, goX_ops, goX_same, goX_other, go_cond, goB_true, goB_false, go_ops_nil, go_op, go_opg, goW_true, goW_false, goO_move, goO_assign, goO_call, goF_fn, goV_some, goP_none, goP_some, goO_pick, goO_alloc, goO_box, goO_build, goO_buildSlice, goO_load, goO_store, goO_nilCheck, goO_bin, goO_un, goO_convert, goO_makeFunc, goO_makeSlice, goO_slice, goO_fieldAddr, goO_field, goO_indexAddr, goO_index, goO_extract, goO_builtin, gD, gWant, undef, aop, aev_tmp, aev_const, aev_func, aconst, upd_app, env0, env0_nil, env0_cons, aBin_ii, aBin_ss, aBin_bb, abin, aend, ares, aone, wrap_id, get_loc0, get_loc, set_loc0, set_loc, cont_loc0, cont_loc, cont_here, cont_next, row_loc0, row_loc, row_here, row_next, TI.isAgg, aLoad, aStore, aNew, aFieldAddr, aIndexAddr, aIndex, aPart, aField, aLen, aUn, aConv, aAppend, aBuildSlice, aMakeSlice, aBuild, aSlice, AV.cs, AV.one, Value.oneCell', if_pos, if_neg, List.getElem?_cons_zero, List.getElem?_cons_succ, fillA, zrep_zero, zrep_succ0, zrep_one, List.set_cons_zero, List.set_cons_succ, List.length_cons, List.length_nil, mkE_cons, mkE_nil, allE, DK_normal, LK_exit, LK_ret, dg_at, mts_at, sb_eq, str_size, aBound, Option.map_none, Option.map_some, aMin, aMax, DK2_normal, ptrNe_pp, sepA_nil, sepA_cons, DK3_normal, sepN_nil, sepN_cons, objNe_pp, objNe_ps, objNe_sp, objNe_ss, objNe_vx, objNe_xv, e2, e3]
      exact keep hk
    · have e2 : (decide (0 ≤ k) && decide (k ≤ n)) = false := by rw [Bool.and_eq_false_iff]; simp; omega
      simp only [okR, e1, e2, Bool.true_and, Bool.false_and] at hk
      simp (disch := omega) [go_nil, go_inBlock, go_skip, go_exit, go_ret, go_region_lit, go_seq, go_block, goX_nil, goX_code, goX_ops, goX_same, goX_other, go_cond, goB_true, goB_false, go_ops_nil, go_op, go_opg, goW_true, goW_false, goO_move, goO_assign, goO_call, goF_fn, goV_some, goP_none, goP_some, goO_pick, goO_alloc, goO_box, goO_build, goO_buildSlice, goO_load, goO_store, goO_nilCheck, goO_bin, goO_un, goO_convert, goO_makeFunc, goO_makeSlice, goO_slice, goO_fieldAddr, goO_field, goO_indexAddr, goO_index, goO_extract, goO_builtin, gD, gWant, undef, aop, aev_tmp, aev_const, aev_func, aconst, upd_app, env0, env0_nil, env0_cons, aBin_ii, aBin_ss, aBin_bb, abin, aend, ares, aone, wrap_id, get_loc0, get_loc, set_loc0, set_loc, cont_loc0, cont_loc, cont_here, cont_next, row_loc0, row_loc, row_here, row_next, TI.isAgg, aLoad, aStore, aNew, aFieldAddr, aIndexAddr, aIndex, aPart, aField, aLen, aUn, aConv, aAppend, aBuildSlice, aMakeSlice, aBuild, aSlice, AV.cs, AV.one, Value.oneCell', if_pos, if_neg, List.getElem?_cons_zero, List.getElem?_cons_succ, fillA, zrep_zero, zrep_succ0, zrep_one, List.set_cons_zero, List.set_cons_succ, List.length_cons, List.length_nil, mkE_cons, mkE_nil, allE, DK_normal, LK_exit, LK_ret, dg_at, mts_at, sb_eq, str_size, aBound, Option.map_none, Option.map_some, aMin, aMax, DK2_normal, ptrNe_pp, sepA_nil, sepA_cons, DK3_normal, sepN_nil, sepN_cons, objNe_pp, objNe_ps, objNe_sp, objNe_ss, objNe_vx, objNe_xv, e2]
      exact keep hk
  · have e1 : (decide (1 ≤ n) && decide (n ≤ most)) = false := by rw [Bool.and_eq_false_iff]; simp; omega
    simp only [okR, e1, Bool.false_and] at hk
    simp (disch := omega) [go_nil, go_inBlock, go_skip, go_exit, go_ret, go_region_lit, go_seq, go_block, goX_nil, goX_code, goX_ops, goX_same, goX_other, go_cond, goB_true, goB_false, go_ops_nil, go_op, go_opg, goW_true, goW_false, goO_move, goO_assign, goO_call, goF_fn, goV_some, goP_none, goP_some, goO_pick, goO_alloc, goO_box, goO_build, goO_buildSlice, goO_load, goO_store, goO_nilCheck, goO_bin, goO_un, goO_convert, goO_makeFunc, goO_makeSlice, goO_slice, goO_fieldAddr, goO_field, goO_indexAddr, goO_index, goO_extract, goO_builtin, gD, gWant, undef, aop, aev_tmp, aev_const, aev_func, aconst, upd_app, env0, env0_nil, env0_cons, aBin_ii, aBin_ss, aBin_bb, abin, aend, ares, aone, wrap_id, get_loc0, get_loc, set_loc0, set_loc, cont_loc0, cont_loc, cont_here, cont_next, row_loc0, row_loc, row_here, row_next, TI.isAgg, aLoad, aStore, aNew, aFieldAddr, aIndexAddr, aIndex, aPart, aField, aLen, aUn, aConv, aAppend, aBuildSlice, aMakeSlice, aBuild, aSlice, AV.cs, AV.one, Value.oneCell', if_pos, if_neg, List.getElem?_cons_zero, List.getElem?_cons_succ, fillA, zrep_zero, zrep_succ0, zrep_one, List.set_cons_zero, List.set_cons_succ, List.length_cons, List.length_nil, mkE_cons, mkE_nil, allE, DK_normal, LK_exit, LK_ret, dg_at, mts_at, sb_eq, str_size, aBound, Option.map_none, Option.map_some, aMin, aMax, DK2_normal, ptrNe_pp, sepA_nil, sepA_cons, DK3_normal, sepN_nil, sepN_cons, objNe_pp, objNe_ps, objNe_sp, objNe_ss, objNe_vx, objNe_xv, e1]
    exact keep hk

theorem tableOk_c (p c n k : Int) (m : List AO) (K : AV → List AO → Prop) (hk : K (B (isF p c && okR n k 6)) m) : ACalls Try.prog 48 [I p, I c, I n, I k] m K := by
  refine ACalls.enter Try.func48 rfl rfl Try.ntmps48 (congrArg Array.toList Try.results48) (by simp) fun hc => ?_
  simp (disch := omega) [go_nil, go_inBlock, go_skip, go_exit, go_ret, go_region_lit, go_seq, go_block, goX_nil, goX_code, goX_ops, goX_same, goX_other, go_cond, goB_true, goB_false, go_ops_nil, go_op, go_opg, goW_true, goW_false, goO_move, goO_assign, goO_call, goF_fn, goV_some, goP_none, goP_some, goO_pick, goO_alloc, goO_box, goO_build, goO_buildSlice, goO_load, goO_store, goO_nilCheck, goO_bin, goO_un, goO_convert, goO_makeFunc, goO_makeSlice, goO_slice, goO_fieldAddr, goO_field, goO_indexAddr, goO_index, goO_extract, goO_builtin, gD, gWant, undef, aop, aev_tmp, aev_const, aev_func, aconst, upd_app, env0, env0_nil, env0_cons, aBin_ii, aBin_ss, aBin_bb, abin, aend, ares, aone, wrap_id, get_loc0, get_loc, set_loc0, set_loc, cont_loc0, cont_loc, cont_here, cont_next, row_loc0, row_loc, row_here, row_next, TI.isAgg, aLoad, aStore, aNew, aFieldAddr, aIndexAddr, aIndex, aPart, aField, aLen, aUn, aConv, aAppend, aBuildSlice, aMakeSlice, aBuild, aSlice, AV.cs, AV.one, Value.oneCell', if_pos, if_neg, List.getElem?_cons_zero, List.getElem?_cons_succ, fillA, zrep_zero, zrep_succ0, zrep_one, List.set_cons_zero, List.set_cons_succ, List.length_cons, List.length_nil, mkE_cons, mkE_nil, allE, DK_normal, LK_exit, LK_ret, dg_at, mts_at, sb_eq, str_size, aBound, Option.map_none, Option.map_some, aMin, aMax, DK2_normal, ptrNe_pp, sepA_nil, sepA_cons, DK3_normal, sepN_nil, sepN_cons, objNe_pp, objNe_ps, objNe_sp, objNe_ss, objNe_vx, objNe_xv]
  refine goCall_n rfl (fieldOk_c _ _ _ _ ?_)
  cases hp : isF p c with
  | true =>
    simp (disch := omega) [go_nil, go_inBlock, go_skip, go_exit, go_ret, go_region_lit, go_seq, go_block, goX_nil, goX_code, goX_ops, goX_same, goX_other, go_cond, goB_true, goB_false, go_ops_nil, go_op, go_opg, goW_true, goW_false, goO_move, goO_assign, goO_call, goF_fn, goV_some, goP_none, goP_some, goO_pick, goO_alloc, goO_box, goO_build, goO_buildSlice, goO_load, goO_store, goO_nilCheck, goO_bin, goO_un, goO_convert, goO_makeFunc, goO_makeSlice, goO_slice, goO_fieldAddr, goO_field, goO_indexAddr, goO_index, goO_extract, goO_builtin, gD, gWant, undef, aop, aev_tmp, aev_const, aev_func, aconst, upd_app, env0, env0_nil, env0_cons, aBin_ii, aBin_ss, aBin_bb, abin, aend, ares, aone, wrap_id, get_loc0, get_loc, set_loc0, set_loc, cont_loc0, cont_loc, cont_here, cont_next, row_loc0, row_loc, row_here, row_next, TI.isAgg, aLoad, aStore, aNew, aFieldAddr, aIndexAddr, aIndex, aPart, aField, aLen, aUn, aConv, aAppend, aBuildSlice, aMakeSlice, aBuild, aSlice, AV.cs, AV.one, Value.oneCell', if_pos, if_neg, List.getElem?_cons_zero, List.getElem?_cons_succ, fillA, zrep_zero, zrep_succ0, zrep_one, List.set_cons_zero, List.set_cons_succ, List.length_cons, List.length_nil, mkE_cons, mkE_nil, allE, DK_normal, LK_exit, LK_ret, dg_at, mts_at, sb_eq, str_size, aBound, Option.map_none, Option.map_some, aMin, aMax, DK2_normal, ptrNe_pp, sepA_nil, sepA_cons, DK3_normal, sepN_nil, sepN_cons, objNe_pp, objNe_ps, objNe_sp, objNe_ss, objNe_vx, objNe_xv]
    refine goCall_n rfl (openOk_c _ _ _ _ _ (by omega) ?_)
    simp (disch := omega) [go_nil, go_inBlock, go_skip, go_exit, go_ret, go_region_lit, go_seq, go_block, goX_nil, goX_code, goX_ops, goX_same, goX_other, go_cond, goB_true, goB_false, go_ops_nil, go_op, go_opg, goW_true, goW_false, goO_move, goO_assign, goO_call, goF_fn, goV_some, goP_none, goP_some, goO_pick, goO_alloc, goO_box, goO_build, goO_buildSlice, goO_load, goO_store, goO_nilCheck, goO_bin, goO_un, goO_convert, goO_makeFunc, goO_makeSlice, goO_slice, goO_fieldAddr, goO_field, goO_indexAddr, goO_index, goO_extract, goO_builtin, gD, gWant, undef, aop, aev_tmp, aev_const, aev_func, aconst, upd_app, env0, env0_nil, env0_cons, aBin_ii, aBin_ss, aBin_bb, abin, aend, ares, aone, wrap_id, get_loc0, get_loc, set_loc0, set_loc, cont_loc0, cont_loc, cont_here, cont_next, row_loc0, row_loc, row_here, row_next, TI.isAgg, aLoad, aStore, aNew, aFieldAddr, aIndexAddr, aIndex, aPart, aField, aLen, aUn, aConv, aAppend, aBuildSlice, aMakeSlice, aBuild, aSlice, AV.cs, AV.one, Value.oneCell', if_pos, if_neg, List.getElem?_cons_zero, List.getElem?_cons_succ, fillA, zrep_zero, zrep_succ0, zrep_one, List.set_cons_zero, List.set_cons_succ, List.length_cons, List.length_nil, mkE_cons, mkE_nil, allE, DK_normal, LK_exit, LK_ret, dg_at, mts_at, sb_eq, str_size, aBound, Option.map_none, Option.map_some, aMin, aMax, DK2_normal, ptrNe_pp, sepA_nil, sepA_cons, DK3_normal, sepN_nil, sepN_cons, objNe_pp, objNe_ps, objNe_sp, objNe_ss, objNe_vx, objNe_xv]
    simp only [hp, Bool.true_and] at hk
    exact keep hk
  | false =>
    simp (disch := omega) [go_nil, go_inBlock, go_skip, go_exit, go_ret, go_region_lit, go_seq, go_block, goX_nil, goX_code, goX_ops, goX_same, goX_other, go_cond, goB_true, goB_false, go_ops_nil, go_op, go_opg, goW_true, goW_false, goO_move, goO_assign, goO_call, goF_fn, goV_some, goP_none, goP_some, goO_pick, goO_alloc, goO_box, goO_build, goO_buildSlice, goO_load, goO_store, goO_nilCheck, goO_bin, goO_un, goO_convert, goO_makeFunc, goO_makeSlice, goO_slice, goO_fieldAddr, goO_field, goO_indexAddr, goO_index, goO_extract, goO_builtin, gD, gWant, undef, aop, aev_tmp, aev_const, aev_func, aconst, upd_app, env0, env0_nil, env0_cons, aBin_ii, aBin_ss, aBin_bb, abin, aend, ares, aone, wrap_id, get_loc0, get_loc, set_loc0, set_loc, cont_loc0, cont_loc, cont_here, cont_next, row_loc0, row_loc, row_here, row_next, TI.isAgg, aLoad, aStore, aNew, aFieldAddr, aIndexAddr, aIndex, aPart, aField, aLen, aUn, aConv, aAppend, aBuildSlice, aMakeSlice, aBuild, aSlice, AV.cs, AV.one, Value.oneCell', if_pos, if_neg, List.getElem?_cons_zero, List.getElem?_cons_succ, fillA, zrep_zero, zrep_succ0, zrep_one, List.set_cons_zero, List.set_cons_succ, List.length_cons, List.length_nil, mkE_cons, mkE_nil, allE, DK_normal, LK_exit, LK_ret, dg_at, mts_at, sb_eq, str_size, aBound, Option.map_none, Option.map_some, aMin, aMax, DK2_normal, ptrNe_pp, sepA_nil, sepA_cons, DK3_normal, sepN_nil, sepN_cons, objNe_pp, objNe_ps, objNe_sp, objNe_ss, objNe_vx, objNe_xv]
    simp only [hp, Bool.false_and] at hk
    exact keep hk

/-- The first mates copied. -/
def cpy (f : Nat → Int) (k : Nat) : Nat → Int := fun j => if j < k then f j else 0
theorem cpy_zero (f : Nat → Int) : cpy f 0 = fun _ => 0 := by funext j; simp [cpy]
theorem cpy_succ (f : Nat → Int) (k : Nat) : fset (cpy f k) k (f k) = cpy f (k + 1) := by
  funext j
  simp only [fset, cpy]
  by_cases e : j = k
  · subst e; simp
  · rw [if_neg e]
    by_cases h : j < k
    · rw [if_pos h, if_pos (by omega)]
    · rw [if_neg h, if_neg (by omega)]
theorem cpy_all (f : Nat → Int) : mts (cpy f 16) = mts f := by
  simp only [mts]; apply List.map_congr_left; intro j hj; simp only [cpy]; rw [if_pos (by simpa using hj)]

theorem toByteA16_c (f : Nat → Int) (m : List AO) (K : AV → List AO → Prop) (hk : K (.agg (mts f)) m) : ACalls Try.prog 22 [.agg (mts f)] m K := by
  refine ACalls.enter Try.func22 rfl rfl Try.ntmps22 (congrArg Array.toList Try.results22) (by simp) fun hc => ?_
  have hcl : Closed m := ‹_›
  simp (disch := omega) [go_nil, go_inBlock, go_skip, go_exit, go_ret, go_region_lit, go_seq, go_block, goX_nil, goX_code, goX_ops, goX_same, goX_other, go_cond, goB_true, goB_false, go_ops_nil, go_op, go_opg, goW_true, goW_false, goO_move, goO_assign, goO_call, goF_fn, goV_some, goP_none, goP_some, goO_pick, goO_alloc, goO_box, goO_build, goO_buildSlice, goO_load, goO_store, goO_nilCheck, goO_bin, goO_un, goO_convert, goO_makeFunc, goO_makeSlice, goO_slice, goO_fieldAddr, goO_field, goO_indexAddr, goO_index, goO_extract, goO_builtin, gD, gWant, undef, aop, aev_tmp, aev_const, aev_func, aconst, upd_app, env0, env0_nil, env0_cons, aBin_ii, aBin_ss, aBin_bb, abin, aend, ares, aone, wrap_id, get_loc0, get_loc, set_loc0, set_loc, cont_loc0, cont_loc, cont_here, cont_next, row_loc0, row_loc, row_here, row_next, TI.isAgg, aLoad, aStore, aNew, aFieldAddr, aIndexAddr, aIndex, aPart, aField, aLen, aUn, aConv, aAppend, aBuildSlice, aMakeSlice, aBuild, aSlice, AV.cs, AV.one, Value.oneCell', if_pos, if_neg, List.getElem?_cons_zero, List.getElem?_cons_succ, fillA, zrep_zero, zrep_succ0, zrep_one, List.set_cons_zero, List.set_cons_succ, List.length_cons, List.length_nil, mkE_cons, mkE_nil, allE, DK_normal, LK_exit, LK_ret, dg_at, mts_at, sb_eq, str_size, aBound, Option.map_none, Option.map_some, aMin, aMax, DK2_normal, ptrNe_pp, sepA_nil, sepA_cons, DK3_normal, sepN_nil, sepN_cons, objNe_pp, objNe_ps, objNe_sp, objNe_ss, objNe_vx, objNe_xv]
  refine go_loop (α := {k : Nat // k ≤ 16}) (fun k => mkE [(1, .ptr m.length 0 0), (2, .ptr (m.length + 1) 0 0), (3, .ptr (m.length + 2) 0 0), (4, I k.1)]) (fun k => m ++ [.cells (mts f) 0 1, .cells (mts fun _ => 0) 0 1, .cells (mts (cpy f k.1)) 0 1]) (fun k => 16 - k.1) ⟨0, by omega⟩ (Wk.same (by simp only [cpy_zero]) (by simp (disch := omega) [go_nil, go_inBlock, go_skip, go_exit, go_ret, go_region_lit, go_seq, go_block, goX_nil, goX_code, goX_ops, goX_same, goX_other, go_cond, goB_true, goB_false, go_ops_nil, go_op, go_opg, goW_true, goW_false, goO_move, goO_assign, goO_call, goF_fn, goV_some, goP_none, goP_some, goO_pick, goO_alloc, goO_box, goO_build, goO_buildSlice, goO_load, goO_store, goO_nilCheck, goO_bin, goO_un, goO_convert, goO_makeFunc, goO_makeSlice, goO_slice, goO_fieldAddr, goO_field, goO_indexAddr, goO_index, goO_extract, goO_builtin, gD, gWant, undef, aop, aev_tmp, aev_const, aev_func, aconst, upd_app, env0, env0_nil, env0_cons, aBin_ii, aBin_ss, aBin_bb, abin, aend, ares, aone, wrap_id, get_loc0, get_loc, set_loc0, set_loc, cont_loc0, cont_loc, cont_here, cont_next, row_loc0, row_loc, row_here, row_next, TI.isAgg, aLoad, aStore, aNew, aFieldAddr, aIndexAddr, aIndex, aPart, aField, aLen, aUn, aConv, aAppend, aBuildSlice, aMakeSlice, aBuild, aSlice, AV.cs, AV.one, Value.oneCell', if_pos, if_neg, List.getElem?_cons_zero, List.getElem?_cons_succ, fillA, zrep_zero, zrep_succ0, zrep_one, List.set_cons_zero, List.set_cons_succ, List.length_cons, List.length_nil, mkE_cons, mkE_nil, allE, DK_normal, LK_exit, LK_ret, dg_at, mts_at, sb_eq, str_size, aBound, Option.map_none, Option.map_some, aMin, aMax, DK2_normal, ptrNe_pp, sepA_nil, sepA_cons, DK3_normal, sepN_nil, sepN_cons, objNe_pp, objNe_ps, objNe_sp, objNe_ss, objNe_vx, objNe_xv])) (fun ⟨k, hk1⟩ => ?_)
  by_cases hc : k < 16
  · have hci : (k : Int) < 16 := by omega
    simp (disch := omega) [go_nil, go_inBlock, go_skip, go_exit, go_ret, go_region_lit, go_seq, go_block, goX_nil, goX_code, goX_ops, goX_same, goX_other, go_cond, goB_true, goB_false, go_ops_nil, go_op, go_opg, goW_true, goW_false, goO_move, goO_assign, goO_call, goF_fn, goV_some, goP_none, goP_some, goO_pick, goO_alloc, goO_box, goO_build, goO_buildSlice, goO_load, goO_store, goO_nilCheck, goO_bin, goO_un, goO_convert, goO_makeFunc, goO_makeSlice, goO_slice, goO_fieldAddr, goO_field, goO_indexAddr, goO_index, goO_extract, goO_builtin, gD, gWant, undef, aop, aev_tmp, aev_const, aev_func, aconst, upd_app, env0, env0_nil, env0_cons, aBin_ii, aBin_ss, aBin_bb, abin, aend, ares, aone, wrap_id, get_loc0, get_loc, set_loc0, set_loc, cont_loc0, cont_loc, cont_here, cont_next, row_loc0, row_loc, row_here, row_next, TI.isAgg, aLoad, aStore, aNew, aFieldAddr, aIndexAddr, aIndex, aPart, aField, aLen, aUn, aConv, aAppend, aBuildSlice, aMakeSlice, aBuild, aSlice, AV.cs, AV.one, Value.oneCell', if_pos, if_neg, List.getElem?_cons_zero, List.getElem?_cons_succ, fillA, zrep_zero, zrep_succ0, zrep_one, List.set_cons_zero, List.set_cons_succ, List.length_cons, List.length_nil, mkE_cons, mkE_nil, allE, DK_normal, LK_exit, LK_ret, dg_at, mts_at, sb_eq, str_size, aBound, Option.map_none, Option.map_some, aMin, aMax, DK2_normal, ptrNe_pp, sepA_nil, sepA_cons, DK3_normal, sepN_nil, sepN_cons, objNe_pp, objNe_ps, objNe_sp, objNe_ss, objNe_vx, objNe_xv, hci]
    exact ⟨⟨k + 1, hc⟩, Wk.same (by simp only [cpy_succ]) (by simp (disch := omega) [go_nil, go_inBlock, go_skip, go_exit, go_ret, go_region_lit, go_seq, go_block, goX_nil, goX_code, goX_ops, goX_same, goX_other, go_cond, goB_true, goB_false, go_ops_nil, go_op, go_opg, goW_true, goW_false, goO_move, goO_assign, goO_call, goF_fn, goV_some, goP_none, goP_some, goO_pick, goO_alloc, goO_box, goO_build, goO_buildSlice, goO_load, goO_store, goO_nilCheck, goO_bin, goO_un, goO_convert, goO_makeFunc, goO_makeSlice, goO_slice, goO_fieldAddr, goO_field, goO_indexAddr, goO_index, goO_extract, goO_builtin, gD, gWant, undef, aop, aev_tmp, aev_const, aev_func, aconst, upd_app, env0, env0_nil, env0_cons, aBin_ii, aBin_ss, aBin_bb, abin, aend, ares, aone, wrap_id, get_loc0, get_loc, set_loc0, set_loc, cont_loc0, cont_loc, cont_here, cont_next, row_loc0, row_loc, row_here, row_next, TI.isAgg, aLoad, aStore, aNew, aFieldAddr, aIndexAddr, aIndex, aPart, aField, aLen, aUn, aConv, aAppend, aBuildSlice, aMakeSlice, aBuild, aSlice, AV.cs, AV.one, Value.oneCell', if_pos, if_neg, List.getElem?_cons_zero, List.getElem?_cons_succ, fillA, zrep_zero, zrep_succ0, zrep_one, List.set_cons_zero, List.set_cons_succ, List.length_cons, List.length_nil, mkE_cons, mkE_nil, allE, DK_normal, LK_exit, LK_ret, dg_at, mts_at, sb_eq, str_size, aBound, Option.map_none, Option.map_some, aMin, aMax, DK2_normal, ptrNe_pp, sepA_nil, sepA_cons, DK3_normal, sepN_nil, sepN_cons, objNe_pp, objNe_ps, objNe_sp, objNe_ss, objNe_vx, objNe_xv]), by simp; omega⟩
  · have e : k = 16 := by omega
    subst e
    simp (disch := omega) [go_nil, go_inBlock, go_skip, go_exit, go_ret, go_region_lit, go_seq, go_block, goX_nil, goX_code, goX_ops, goX_same, goX_other, go_cond, goB_true, goB_false, go_ops_nil, go_op, go_opg, goW_true, goW_false, goO_move, goO_assign, goO_call, goF_fn, goV_some, goP_none, goP_some, goO_pick, goO_alloc, goO_box, goO_build, goO_buildSlice, goO_load, goO_store, goO_nilCheck, goO_bin, goO_un, goO_convert, goO_makeFunc, goO_makeSlice, goO_slice, goO_fieldAddr, goO_field, goO_indexAddr, goO_index, goO_extract, goO_builtin, gD, gWant, undef, aop, aev_tmp, aev_const, aev_func, aconst, upd_app, env0, env0_nil, env0_cons, aBin_ii, aBin_ss, aBin_bb, abin, aend, ares, aone, wrap_id, get_loc0, get_loc, set_loc0, set_loc, cont_loc0, cont_loc, cont_here, cont_next, row_loc0, row_loc, row_here, row_next, TI.isAgg, aLoad, aStore, aNew, aFieldAddr, aIndexAddr, aIndex, aPart, aField, aLen, aUn, aConv, aAppend, aBuildSlice, aMakeSlice, aBuild, aSlice, AV.cs, AV.one, Value.oneCell', if_pos, if_neg, List.getElem?_cons_zero, List.getElem?_cons_succ, fillA, zrep_zero, zrep_succ0, zrep_one, List.set_cons_zero, List.set_cons_succ, List.length_cons, List.length_nil, mkE_cons, mkE_nil, allE, DK_normal, LK_exit, LK_ret, dg_at, mts_at, sb_eq, str_size, aBound, Option.map_none, Option.map_some, aMin, aMax, DK2_normal, ptrNe_pp, sepA_nil, sepA_cons, DK3_normal, sepN_nil, sepN_cons, objNe_pp, objNe_ps, objNe_sp, objNe_ss, objNe_vx, objNe_xv, cpy_all]
    exact dropE (n := m.length) m _ rfl (Nat.le_refl _) hcl (by simp [AV.sc, scs]) hk

theorem spl_cons (x : AV) (o : Nat) : ∀ (ys xs : List AV), spl (x :: xs) (o + 1) ys = x :: spl xs o ys
  | [], xs => rfl
  | y :: ys, xs => by simp only [spl, List.set_cons_succ]; rw [spl_cons x (o + 1) ys]
theorem splice_dg1 (n : Int) (f f' : Nat → Int) : splice (dg n f) 1 (mts f') = dg n f' := by
  rw [splice_eq, dg, spl_cons, ← splice_eq, splice_mts]; rfl

theorem toDiagram_c (n : Int) (f : Nat → Int) (m : List AO) (K : AV → List AO → Prop) (hk : K (.agg (dg n f)) m) : ACalls Try.prog 11 [.agg (dg n f)] m K := by
  refine ACalls.enter Try.func11 rfl rfl Try.ntmps11 (congrArg Array.toList Try.results11) (by simp) fun hc => ?_
  have hcl : Closed m := ‹_›
  simp (disch := omega) [go_nil, go_inBlock, go_skip, go_exit, go_ret, go_region_lit, go_seq, go_block, goX_nil, goX_code, goX_ops, goX_same, goX_other, go_cond, goB_true, goB_false, go_ops_nil, go_op, go_opg, goW_true, goW_false, goO_move, goO_assign, goO_call, goF_fn, goV_some, goP_none, goP_some, goO_pick, goO_alloc, goO_box, goO_build, goO_buildSlice, goO_load, goO_store, goO_nilCheck, goO_bin, goO_un, goO_convert, goO_makeFunc, goO_makeSlice, goO_slice, goO_fieldAddr, goO_field, goO_indexAddr, goO_index, goO_extract, goO_builtin, gD, gWant, undef, aop, aev_tmp, aev_const, aev_func, aconst, upd_app, env0, env0_nil, env0_cons, aBin_ii, aBin_ss, aBin_bb, abin, aend, ares, aone, wrap_id, get_loc0, get_loc, set_loc0, set_loc, cont_loc0, cont_loc, cont_here, cont_next, row_loc0, row_loc, row_here, row_next, TI.isAgg, aLoad, aStore, aNew, aFieldAddr, aIndexAddr, aIndex, aPart, aField, aLen, aUn, aConv, aAppend, aBuildSlice, aMakeSlice, aBuild, aSlice, AV.cs, AV.one, Value.oneCell', if_pos, if_neg, List.getElem?_cons_zero, List.getElem?_cons_succ, fillA, zrep_zero, zrep_succ0, zrep_one, List.set_cons_zero, List.set_cons_succ, List.length_cons, List.length_nil, mkE_cons, mkE_nil, allE, DK_normal, LK_exit, LK_ret, dg_at, mts_at, sb_eq, str_size, aBound, Option.map_none, Option.map_some, aMin, aMax, DK2_normal, ptrNe_pp, sepA_nil, sepA_cons, DK3_normal, sepN_nil, sepN_cons, objNe_pp, objNe_ps, objNe_sp, objNe_ss, objNe_vx, objNe_xv]
  refine goCall_n rfl (toByteA16_c f _ _ ?_)
  simp (disch := omega) [go_nil, go_inBlock, go_skip, go_exit, go_ret, go_region_lit, go_seq, go_block, goX_nil, goX_code, goX_ops, goX_same, goX_other, go_cond, goB_true, goB_false, go_ops_nil, go_op, go_opg, goW_true, goW_false, goO_move, goO_assign, goO_call, goF_fn, goV_some, goP_none, goP_some, goO_pick, goO_alloc, goO_box, goO_build, goO_buildSlice, goO_load, goO_store, goO_nilCheck, goO_bin, goO_un, goO_convert, goO_makeFunc, goO_makeSlice, goO_slice, goO_fieldAddr, goO_field, goO_indexAddr, goO_index, goO_extract, goO_builtin, gD, gWant, undef, aop, aev_tmp, aev_const, aev_func, aconst, upd_app, env0, env0_nil, env0_cons, aBin_ii, aBin_ss, aBin_bb, abin, aend, ares, aone, wrap_id, get_loc0, get_loc, set_loc0, set_loc, cont_loc0, cont_loc, cont_here, cont_next, row_loc0, row_loc, row_here, row_next, TI.isAgg, aLoad, aStore, aNew, aFieldAddr, aIndexAddr, aIndex, aPart, aField, aLen, aUn, aConv, aAppend, aBuildSlice, aMakeSlice, aBuild, aSlice, AV.cs, AV.one, Value.oneCell', if_pos, if_neg, List.getElem?_cons_zero, List.getElem?_cons_succ, fillA, zrep_zero, zrep_succ0, zrep_one, List.set_cons_zero, List.set_cons_succ, List.length_cons, List.length_nil, mkE_cons, mkE_nil, allE, DK_normal, LK_exit, LK_ret, dg_at, mts_at, sb_eq, str_size, aBound, Option.map_none, Option.map_some, aMin, aMax, DK2_normal, ptrNe_pp, sepA_nil, sepA_cons, DK3_normal, sepN_nil, sepN_cons, objNe_pp, objNe_ps, objNe_sp, objNe_ss, objNe_vx, objNe_xv, splice_dg1]
  exact dropE (n := m.length) m _ rfl (Nat.le_refl _) hcl (by simp [AV.sc, scs]) hk

end Go.Proofs.Ytcdejfehblnphaa

/- What is invalid. -/
namespace Go.Proofs.Ytcdejfehblnphaa
open Go Go.RowKit

abbrev Dia := Int × (Nat → Int)
/-- Diagrams in a row. -/
def dgs (l : List Dia) : List AV := (l.map fun d => dg d.1 d.2).flatten
theorem dgs_cons (d : Dia) (l : List Dia) : dgs (d :: l) = dg d.1 d.2 ++ dgs l := rfl
theorem dgs_len (l : List Dia) : (dgs l).length = 17 * l.length := by
  induction l with
  | nil => rfl
  | cons d l ih => rw [dgs_cons, List.length_append, dg_len, ih, List.length_cons]; omega
theorem dgs_at : ∀ (l : List Dia) (i : Nat) (h : i < l.length), ((dgs l).drop (i * 17)).take 17 = dg l[i].1 l[i].2
  | d :: l, 0, _ => by simp only [Nat.zero_mul, List.drop_zero, dgs_cons]; exact List.take_left' (by simp)
  | d :: l, i + 1, h => by
    rw [dgs_cons, Nat.succ_mul, Nat.add_comm (i * 17) 17, ← List.drop_drop, List.drop_left' (by simp)]
    exact dgs_at l i (by simpa using h)

theorem invalid1_c (n : Int) (f : Nat → Int) (m : List AO) (K : AV → List AO → Prop) (hf : ∀ i, 0 ≤ f i ∧ f i ≤ 255) (hk : K (B (!isD n f)) m) : ACalls Try.prog 73 [.agg (dg n f)] m K := by
  refine ACalls.enter Try.func73 rfl rfl Try.ntmps73 (congrArg Array.toList Try.results73) (by simp) fun hc => ?_
  have hcl : Closed m := ‹_›
  simp (disch := omega) [go_nil, go_inBlock, go_skip, go_exit, go_ret, go_region_lit, go_seq, go_block, goX_nil, goX_code, goX_ops, goX_same, goX_other, go_cond, goB_true, goB_false, go_ops_nil, go_op, go_opg, goW_true, goW_false, goO_move, goO_assign, goO_call, goF_fn, goV_some, goP_none, goP_some, goO_pick, goO_alloc, goO_box, goO_build, goO_buildSlice, goO_load, goO_store, goO_nilCheck, goO_bin, goO_un, goO_convert, goO_makeFunc, goO_makeSlice, goO_slice, goO_fieldAddr, goO_field, goO_indexAddr, goO_index, goO_extract, goO_builtin, gD, gWant, undef, aop, aev_tmp, aev_const, aev_func, aconst, upd_app, env0, env0_nil, env0_cons, aBin_ii, aBin_ss, aBin_bb, abin, aend, ares, aone, wrap_id, get_loc0, get_loc, set_loc0, set_loc, cont_loc0, cont_loc, cont_here, cont_next, row_loc0, row_loc, row_here, row_next, TI.isAgg, aLoad, aStore, aNew, aFieldAddr, aIndexAddr, aIndex, aPart, aField, aLen, aUn, aConv, aAppend, aBuildSlice, aMakeSlice, aBuild, aSlice, AV.cs, AV.one, Value.oneCell', if_pos, if_neg, List.getElem?_cons_zero, List.getElem?_cons_succ, fillA, zrep_zero, zrep_succ0, zrep_one, List.set_cons_zero, List.set_cons_succ, List.length_cons, List.length_nil, mkE_cons, mkE_nil, allE, DK_normal, LK_exit, LK_ret, dg_at, mts_at, sb_eq, str_size, aBound, Option.map_none, Option.map_some, aMin, aMax, DK2_normal, ptrNe_pp, sepA_nil, sepA_cons, DK3_normal, sepN_nil, sepN_cons, objNe_pp, objNe_ps, objNe_sp, objNe_ss, objNe_vx, objNe_xv]
  refine goCall_n rfl (IsDiagram_c n f _ _ hf ?_)
  simp (disch := omega) [go_nil, go_inBlock, go_skip, go_exit, go_ret, go_region_lit, go_seq, go_block, goX_nil, goX_code, goX_ops, goX_same, goX_other, go_cond, goB_true, goB_false, go_ops_nil, go_op, go_opg, goW_true, goW_false, goO_move, goO_assign, goO_call, goF_fn, goV_some, goP_none, goP_some, goO_pick, goO_alloc, goO_box, goO_build, goO_buildSlice, goO_load, goO_store, goO_nilCheck, goO_bin, goO_un, goO_convert, goO_makeFunc, goO_makeSlice, goO_slice, goO_fieldAddr, goO_field, goO_indexAddr, goO_index, goO_extract, goO_builtin, gD, gWant, undef, aop, aev_tmp, aev_const, aev_func, aconst, upd_app, env0, env0_nil, env0_cons, aBin_ii, aBin_ss, aBin_bb, abin, aend, ares, aone, wrap_id, get_loc0, get_loc, set_loc0, set_loc, cont_loc0, cont_loc, cont_here, cont_next, row_loc0, row_loc, row_here, row_next, TI.isAgg, aLoad, aStore, aNew, aFieldAddr, aIndexAddr, aIndex, aPart, aField, aLen, aUn, aConv, aAppend, aBuildSlice, aMakeSlice, aBuild, aSlice, AV.cs, AV.one, Value.oneCell', if_pos, if_neg, List.getElem?_cons_zero, List.getElem?_cons_succ, fillA, zrep_zero, zrep_succ0, zrep_one, List.set_cons_zero, List.set_cons_succ, List.length_cons, List.length_nil, mkE_cons, mkE_nil, allE, DK_normal, LK_exit, LK_ret, dg_at, mts_at, sb_eq, str_size, aBound, Option.map_none, Option.map_some, aMin, aMax, DK2_normal, ptrNe_pp, sepA_nil, sepA_cons, DK3_normal, sepN_nil, sepN_cons, objNe_pp, objNe_ps, objNe_sp, objNe_ss, objNe_vx, objNe_xv]
  exact dropE (n := m.length) m _ rfl (Nat.le_refl _) hcl (by simp [AV.sc, scs]) hk

/-- The first that is none, or -1. -/
def firstBad (l : List Dia) : Int := match l.findIdx? (fun d => !isD d.1 d.2) with
  | some i => i
  | none => -1

theorem indexBad_c (a g : Nat) (l : List Dia) (m : List AO) (K : AV → List AO → Prop) (h : content m a g = some (dgs l)) (hl : l.length ≤ 1000000) (hf : ∀ d ∈ l, ∀ i, 0 ≤ d.2 i ∧ d.2 i ≤ 255) (hk : K (I (firstBad l)) m) :
    ACalls Try.prog 90 [.slice a 0 l.length g, .fn 73 []] m K := by
  refine ACalls.enter Try.func90 rfl rfl Try.ntmps90 (congrArg Array.toList Try.results90) (by simp) fun hc => ?_
  have hcl : Closed m := ‹_›
  simp (disch := omega) [go_nil, go_inBlock, go_skip, go_exit, go_ret, go_region_lit, go_seq, go_block, goX_nil, goX_code, goX_ops, goX_same, goX_other, go_cond, goB_true, goB_false, go_ops_nil, go_op, go_opg, goW_true, goW_false, goO_move, goO_assign, goO_call, goF_fn, goV_some, goP_none, goP_some, goO_pick, goO_alloc, goO_box, goO_build, goO_buildSlice, goO_load, goO_store, goO_nilCheck, goO_bin, goO_un, goO_convert, goO_makeFunc, goO_makeSlice, goO_slice, goO_fieldAddr, goO_field, goO_indexAddr, goO_index, goO_extract, goO_builtin, gD, gWant, undef, aop, aev_tmp, aev_const, aev_func, aconst, upd_app, env0, env0_nil, env0_cons, aBin_ii, aBin_ss, aBin_bb, abin, aend, ares, aone, wrap_id, get_loc0, get_loc, set_loc0, set_loc, cont_loc0, cont_loc, cont_here, cont_next, row_loc0, row_loc, row_here, row_next, TI.isAgg, aLoad, aStore, aNew, aFieldAddr, aIndexAddr, aIndex, aPart, aField, aLen, aUn, aConv, aAppend, aBuildSlice, aMakeSlice, aBuild, aSlice, AV.cs, AV.one, Value.oneCell', if_pos, if_neg, List.getElem?_cons_zero, List.getElem?_cons_succ, fillA, zrep_zero, zrep_succ0, zrep_one, List.set_cons_zero, List.set_cons_succ, List.length_cons, List.length_nil, mkE_cons, mkE_nil, allE, DK_normal, LK_exit, LK_ret, dg_at, mts_at, sb_eq, str_size, aBound, Option.map_none, Option.map_some, aMin, aMax, DK2_normal, ptrNe_pp, sepA_nil, sepA_cons, DK3_normal, sepN_nil, sepN_cons, objNe_pp, objNe_ps, objNe_sp, objNe_ss, objNe_vx, objNe_xv, h]
  refine go_loop (α := {k : Nat // k ≤ l.length ∧ ∀ j (hj : j < l.length), j < k → isD l[j].1 l[j].2 = true}) (fun k => mkE [(0, .slice a 0 l.length g), (1, .fn 73 []), (7, I l.length), (8, I k.1)]) (fun _ => m) (fun k => l.length - k.1) ⟨0, Nat.zero_le _, by omega⟩ (Wk.same rfl (by simp (disch := omega) [go_nil, go_inBlock, go_skip, go_exit, go_ret, go_region_lit, go_seq, go_block, goX_nil, goX_code, goX_ops, goX_same, goX_other, go_cond, goB_true, goB_false, go_ops_nil, go_op, go_opg, goW_true, goW_false, goO_move, goO_assign, goO_call, goF_fn, goV_some, goP_none, goP_some, goO_pick, goO_alloc, goO_box, goO_build, goO_buildSlice, goO_load, goO_store, goO_nilCheck, goO_bin, goO_un, goO_convert, goO_makeFunc, goO_makeSlice, goO_slice, goO_fieldAddr, goO_field, goO_indexAddr, goO_index, goO_extract, goO_builtin, gD, gWant, undef, aop, aev_tmp, aev_const, aev_func, aconst, upd_app, env0, env0_nil, env0_cons, aBin_ii, aBin_ss, aBin_bb, abin, aend, ares, aone, wrap_id, get_loc0, get_loc, set_loc0, set_loc, cont_loc0, cont_loc, cont_here, cont_next, row_loc0, row_loc, row_here, row_next, TI.isAgg, aLoad, aStore, aNew, aFieldAddr, aIndexAddr, aIndex, aPart, aField, aLen, aUn, aConv, aAppend, aBuildSlice, aMakeSlice, aBuild, aSlice, AV.cs, AV.one, Value.oneCell', if_pos, if_neg, List.getElem?_cons_zero, List.getElem?_cons_succ, fillA, zrep_zero, zrep_succ0, zrep_one, List.set_cons_zero, List.set_cons_succ, List.length_cons, List.length_nil, mkE_cons, mkE_nil, allE, DK_normal, LK_exit, LK_ret, dg_at, mts_at, sb_eq, str_size, aBound, Option.map_none, Option.map_some, aMin, aMax, DK2_normal, ptrNe_pp, sepA_nil, sepA_cons, DK3_normal, sepN_nil, sepN_cons, objNe_pp, objNe_ps, objNe_sp, objNe_ss, objNe_vx, objNe_xv])) (fun ⟨k, hk1, hk2⟩ => ?_)
  by_cases hc : k < l.length
  · have hb : k * 17 + 17 ≤ (dgs l).length := by rw [dgs_len]; omega
    simp (disch := omega) [go_nil, go_inBlock, go_skip, go_exit, go_ret, go_region_lit, go_seq, go_block, goX_nil, goX_code, goX_ops, goX_same, goX_other, go_cond, goB_true, goB_false, go_ops_nil, go_op, go_opg, goW_true, goW_false, goO_move, goO_assign, goO_call, goF_fn, goV_some, goP_none, goP_some, goO_pick, goO_alloc, goO_box, goO_build, goO_buildSlice, goO_load, goO_store, goO_nilCheck, goO_bin, goO_un, goO_convert, goO_makeFunc, goO_makeSlice, goO_slice, goO_fieldAddr, goO_field, goO_indexAddr, goO_index, goO_extract, goO_builtin, gD, gWant, undef, aop, aev_tmp, aev_const, aev_func, aconst, upd_app, env0, env0_nil, env0_cons, aBin_ii, aBin_ss, aBin_bb, abin, aend, ares, aone, wrap_id, get_loc0, get_loc, set_loc0, set_loc, cont_loc0, cont_loc, cont_here, cont_next, row_loc0, row_loc, row_here, row_next, TI.isAgg, aLoad, aStore, aNew, aFieldAddr, aIndexAddr, aIndex, aPart, aField, aLen, aUn, aConv, aAppend, aBuildSlice, aMakeSlice, aBuild, aSlice, AV.cs, AV.one, Value.oneCell', if_pos, if_neg, List.getElem?_cons_zero, List.getElem?_cons_succ, fillA, zrep_zero, zrep_succ0, zrep_one, List.set_cons_zero, List.set_cons_succ, List.length_cons, List.length_nil, mkE_cons, mkE_nil, allE, DK_normal, LK_exit, LK_ret, dg_at, mts_at, sb_eq, str_size, aBound, Option.map_none, Option.map_some, aMin, aMax, DK2_normal, ptrNe_pp, sepA_nil, sepA_cons, DK3_normal, sepN_nil, sepN_cons, objNe_pp, objNe_ps, objNe_sp, objNe_ss, objNe_vx, objNe_xv, h, hc, hb, dgs_at _ _ hc]
    refine goCall_n rfl (invalid1_c _ _ _ _ (hf _ (List.getElem_mem hc)) ?_)
    cases hd : isD l[k].1 l[k].2 with
    | true =>
      simp (disch := omega) [go_nil, go_inBlock, go_skip, go_exit, go_ret, go_region_lit, go_seq, go_block, goX_nil, goX_code, goX_ops, goX_same, goX_other, go_cond, goB_true, goB_false, go_ops_nil, go_op, go_opg, goW_true, goW_false, goO_move, goO_assign, goO_call, goF_fn, goV_some, goP_none, goP_some, goO_pick, goO_alloc, goO_box, goO_build, goO_buildSlice, goO_load, goO_store, goO_nilCheck, goO_bin, goO_un, goO_convert, goO_makeFunc, goO_makeSlice, goO_slice, goO_fieldAddr, goO_field, goO_indexAddr, goO_index, goO_extract, goO_builtin, gD, gWant, undef, aop, aev_tmp, aev_const, aev_func, aconst, upd_app, env0, env0_nil, env0_cons, aBin_ii, aBin_ss, aBin_bb, abin, aend, ares, aone, wrap_id, get_loc0, get_loc, set_loc0, set_loc, cont_loc0, cont_loc, cont_here, cont_next, row_loc0, row_loc, row_here, row_next, TI.isAgg, aLoad, aStore, aNew, aFieldAddr, aIndexAddr, aIndex, aPart, aField, aLen, aUn, aConv, aAppend, aBuildSlice, aMakeSlice, aBuild, aSlice, AV.cs, AV.one, Value.oneCell', if_pos, if_neg, List.getElem?_cons_zero, List.getElem?_cons_succ, fillA, zrep_zero, zrep_succ0, zrep_one, List.set_cons_zero, List.set_cons_succ, List.length_cons, List.length_nil, mkE_cons, mkE_nil, allE, DK_normal, LK_exit, LK_ret, dg_at, mts_at, sb_eq, str_size, aBound, Option.map_none, Option.map_some, aMin, aMax, DK2_normal, ptrNe_pp, sepA_nil, sepA_cons, DK3_normal, sepN_nil, sepN_cons, objNe_pp, objNe_ps, objNe_sp, objNe_ss, objNe_vx, objNe_xv]
      exact ⟨⟨k + 1, hc, fun j hj hjk => by
        by_cases e : j = k
        · subst e; exact hd
        · exact hk2 j hj (by omega)⟩, Wk.same rfl (by simp (disch := omega) [go_nil, go_inBlock, go_skip, go_exit, go_ret, go_region_lit, go_seq, go_block, goX_nil, goX_code, goX_ops, goX_same, goX_other, go_cond, goB_true, goB_false, go_ops_nil, go_op, go_opg, goW_true, goW_false, goO_move, goO_assign, goO_call, goF_fn, goV_some, goP_none, goP_some, goO_pick, goO_alloc, goO_box, goO_build, goO_buildSlice, goO_load, goO_store, goO_nilCheck, goO_bin, goO_un, goO_convert, goO_makeFunc, goO_makeSlice, goO_slice, goO_fieldAddr, goO_field, goO_indexAddr, goO_index, goO_extract, goO_builtin, gD, gWant, undef, aop, aev_tmp, aev_const, aev_func, aconst, upd_app, env0, env0_nil, env0_cons, aBin_ii, aBin_ss, aBin_bb, abin, aend, ares, aone, wrap_id, get_loc0, get_loc, set_loc0, set_loc, cont_loc0, cont_loc, cont_here, cont_next, row_loc0, row_loc, row_here, row_next, TI.isAgg, aLoad, aStore, aNew, aFieldAddr, aIndexAddr, aIndex, aPart, aField, aLen, aUn, aConv, aAppend, aBuildSlice, aMakeSlice, aBuild, aSlice, AV.cs, AV.one, Value.oneCell', if_pos, if_neg, List.getElem?_cons_zero, List.getElem?_cons_succ, fillA, zrep_zero, zrep_succ0, zrep_one, List.set_cons_zero, List.set_cons_succ, List.length_cons, List.length_nil, mkE_cons, mkE_nil, allE, DK_normal, LK_exit, LK_ret, dg_at, mts_at, sb_eq, str_size, aBound, Option.map_none, Option.map_some, aMin, aMax, DK2_normal, ptrNe_pp, sepA_nil, sepA_cons, DK3_normal, sepN_nil, sepN_cons, objNe_pp, objNe_ps, objNe_sp, objNe_ss, objNe_vx, objNe_xv]), by simp; omega⟩
    | false =>
      have e : firstBad l = k := by
        have : l.findIdx? (fun d => !isD d.1 d.2) = some k := by
          rw [List.findIdx?_eq_some_iff_getElem]
          exact ⟨hc, by simp [hd], fun j hj => by simp [hk2 j (by omega) hj]⟩
        simp [firstBad, this]
      rw [e] at hk
      simp (disch := omega) [go_nil, go_inBlock, go_skip, go_exit, go_ret, go_region_lit, go_seq, go_block, goX_nil, goX_code, goX_ops, goX_same, goX_other, go_cond, goB_true, goB_false, go_ops_nil, go_op, go_opg, goW_true, goW_false, goO_move, goO_assign, goO_call, goF_fn, goV_some, goP_none, goP_some, goO_pick, goO_alloc, goO_box, goO_build, goO_buildSlice, goO_load, goO_store, goO_nilCheck, goO_bin, goO_un, goO_convert, goO_makeFunc, goO_makeSlice, goO_slice, goO_fieldAddr, goO_field, goO_indexAddr, goO_index, goO_extract, goO_builtin, gD, gWant, undef, aop, aev_tmp, aev_const, aev_func, aconst, upd_app, env0, env0_nil, env0_cons, aBin_ii, aBin_ss, aBin_bb, abin, aend, ares, aone, wrap_id, get_loc0, get_loc, set_loc0, set_loc, cont_loc0, cont_loc, cont_here, cont_next, row_loc0, row_loc, row_here, row_next, TI.isAgg, aLoad, aStore, aNew, aFieldAddr, aIndexAddr, aIndex, aPart, aField, aLen, aUn, aConv, aAppend, aBuildSlice, aMakeSlice, aBuild, aSlice, AV.cs, AV.one, Value.oneCell', if_pos, if_neg, List.getElem?_cons_zero, List.getElem?_cons_succ, fillA, zrep_zero, zrep_succ0, zrep_one, List.set_cons_zero, List.set_cons_succ, List.length_cons, List.length_nil, mkE_cons, mkE_nil, allE, DK_normal, LK_exit, LK_ret, dg_at, mts_at, sb_eq, str_size, aBound, Option.map_none, Option.map_some, aMin, aMax, DK2_normal, ptrNe_pp, sepA_nil, sepA_cons, DK3_normal, sepN_nil, sepN_cons, objNe_pp, objNe_ps, objNe_sp, objNe_ss, objNe_vx, objNe_xv]
      exact keep hk
  · have e : firstBad l = -1 := by
      have : l.findIdx? (fun d => !isD d.1 d.2) = none := by
        rw [List.findIdx?_eq_none_iff]
        intro d hd
        obtain ⟨j, hj, rfl⟩ := List.mem_iff_getElem.1 hd
        simp [hk2 j hj (by omega)]
      simp [firstBad, this]
    rw [e] at hk
    simp (disch := omega) [go_nil, go_inBlock, go_skip, go_exit, go_ret, go_region_lit, go_seq, go_block, goX_nil, goX_code, goX_ops, goX_same, goX_other, go_cond, goB_true, goB_false, go_ops_nil, go_op, go_opg, goW_true, goW_false, goO_move, goO_assign, goO_call, goF_fn, goV_some, goP_none, goP_some, goO_pick, goO_alloc, goO_box, goO_build, goO_buildSlice, goO_load, goO_store, goO_nilCheck, goO_bin, goO_un, goO_convert, goO_makeFunc, goO_makeSlice, goO_slice, goO_fieldAddr, goO_field, goO_indexAddr, goO_index, goO_extract, goO_builtin, gD, gWant, undef, aop, aev_tmp, aev_const, aev_func, aconst, upd_app, env0, env0_nil, env0_cons, aBin_ii, aBin_ss, aBin_bb, abin, aend, ares, aone, wrap_id, get_loc0, get_loc, set_loc0, set_loc, cont_loc0, cont_loc, cont_here, cont_next, row_loc0, row_loc, row_here, row_next, TI.isAgg, aLoad, aStore, aNew, aFieldAddr, aIndexAddr, aIndex, aPart, aField, aLen, aUn, aConv, aAppend, aBuildSlice, aMakeSlice, aBuild, aSlice, AV.cs, AV.one, Value.oneCell', if_pos, if_neg, List.getElem?_cons_zero, List.getElem?_cons_succ, fillA, zrep_zero, zrep_succ0, zrep_one, List.set_cons_zero, List.set_cons_succ, List.length_cons, List.length_nil, mkE_cons, mkE_nil, allE, DK_normal, LK_exit, LK_ret, dg_at, mts_at, sb_eq, str_size, aBound, Option.map_none, Option.map_some, aMin, aMax, DK2_normal, ptrNe_pp, sepA_nil, sepA_cons, DK3_normal, sepN_nil, sepN_cons, objNe_pp, objNe_ps, objNe_sp, objNe_ss, objNe_vx, objNe_xv, hc]
    exact keep hk

theorem containsBad_c (a g : Nat) (l : List Dia) (m : List AO) (K : AV → List AO → Prop) (h : content m a g = some (dgs l)) (hl : l.length ≤ 1000000) (hf : ∀ d ∈ l, ∀ i, 0 ≤ d.2 i ∧ d.2 i ≤ 255) (hk : K (B (decide (0 ≤ firstBad l))) m) :
    ACalls Try.prog 72 [.slice a 0 l.length g, .fn 73 []] m K := by
  refine ACalls.enter Try.func72 rfl rfl Try.ntmps72 (congrArg Array.toList Try.results72) (by simp) fun hc => ?_
  simp (disch := omega) [go_nil, go_inBlock, go_skip, go_exit, go_ret, go_region_lit, go_seq, go_block, goX_nil, goX_code, goX_ops, goX_same, goX_other, go_cond, goB_true, goB_false, go_ops_nil, go_op, go_opg, goW_true, goW_false, goO_move, goO_assign, goO_call, goF_fn, goV_some, goP_none, goP_some, goO_pick, goO_alloc, goO_box, goO_build, goO_buildSlice, goO_load, goO_store, goO_nilCheck, goO_bin, goO_un, goO_convert, goO_makeFunc, goO_makeSlice, goO_slice, goO_fieldAddr, goO_field, goO_indexAddr, goO_index, goO_extract, goO_builtin, gD, gWant, undef, aop, aev_tmp, aev_const, aev_func, aconst, upd_app, env0, env0_nil, env0_cons, aBin_ii, aBin_ss, aBin_bb, abin, aend, ares, aone, wrap_id, get_loc0, get_loc, set_loc0, set_loc, cont_loc0, cont_loc, cont_here, cont_next, row_loc0, row_loc, row_here, row_next, TI.isAgg, aLoad, aStore, aNew, aFieldAddr, aIndexAddr, aIndex, aPart, aField, aLen, aUn, aConv, aAppend, aBuildSlice, aMakeSlice, aBuild, aSlice, AV.cs, AV.one, Value.oneCell', if_pos, if_neg, List.getElem?_cons_zero, List.getElem?_cons_succ, fillA, zrep_zero, zrep_succ0, zrep_one, List.set_cons_zero, List.set_cons_succ, List.length_cons, List.length_nil, mkE_cons, mkE_nil, allE, DK_normal, LK_exit, LK_ret, dg_at, mts_at, sb_eq, str_size, aBound, Option.map_none, Option.map_some, aMin, aMax, DK2_normal, ptrNe_pp, sepA_nil, sepA_cons, DK3_normal, sepN_nil, sepN_cons, objNe_pp, objNe_ps, objNe_sp, objNe_ss, objNe_vx, objNe_xv]
  refine goCall_n rfl (indexBad_c a g l _ _ h hl hf ?_)
  simp (disch := omega) [go_nil, go_inBlock, go_skip, go_exit, go_ret, go_region_lit, go_seq, go_block, goX_nil, goX_code, goX_ops, goX_same, goX_other, go_cond, goB_true, goB_false, go_ops_nil, go_op, go_opg, goW_true, goW_false, goO_move, goO_assign, goO_call, goF_fn, goV_some, goP_none, goP_some, goO_pick, goO_alloc, goO_box, goO_build, goO_buildSlice, goO_load, goO_store, goO_nilCheck, goO_bin, goO_un, goO_convert, goO_makeFunc, goO_makeSlice, goO_slice, goO_fieldAddr, goO_field, goO_indexAddr, goO_index, goO_extract, goO_builtin, gD, gWant, undef, aop, aev_tmp, aev_const, aev_func, aconst, upd_app, env0, env0_nil, env0_cons, aBin_ii, aBin_ss, aBin_bb, abin, aend, ares, aone, wrap_id, get_loc0, get_loc, set_loc0, set_loc, cont_loc0, cont_loc, cont_here, cont_next, row_loc0, row_loc, row_here, row_next, TI.isAgg, aLoad, aStore, aNew, aFieldAddr, aIndexAddr, aIndex, aPart, aField, aLen, aUn, aConv, aAppend, aBuildSlice, aMakeSlice, aBuild, aSlice, AV.cs, AV.one, Value.oneCell', if_pos, if_neg, List.getElem?_cons_zero, List.getElem?_cons_succ, fillA, zrep_zero, zrep_succ0, zrep_one, List.set_cons_zero, List.set_cons_succ, List.length_cons, List.length_nil, mkE_cons, mkE_nil, allE, DK_normal, LK_exit, LK_ret, dg_at, mts_at, sb_eq, str_size, aBound, Option.map_none, Option.map_some, aMin, aMax, DK2_normal, ptrNe_pp, sepA_nil, sepA_cons, DK3_normal, sepN_nil, sepN_cons, objNe_pp, objNe_ps, objNe_sp, objNe_ss, objNe_vx, objNe_xv]
  exact keep hk

theorem firstBad_iff (l : List Dia) : decide (0 ≤ firstBad l) = !(l.all fun d => isD d.1 d.2) := by
  unfold firstBad
  cases h : l.findIdx? (fun d => !isD d.1 d.2) with
  | none =>
    rw [List.findIdx?_eq_none_iff] at h
    have : (l.all fun d => isD d.1 d.2) = true := by rw [List.all_eq_true]; intro d hd; simpa using h d hd
    simp [this]
  | some i =>
    rw [List.findIdx?_eq_some_iff_getElem] at h
    obtain ⟨hi, h1, _⟩ := h
    have : (l.all fun d => isD d.1 d.2) = false := by
      rw [Bool.eq_false_iff]; intro ha
      rw [List.all_eq_true] at ha
      rw [ha _ (List.getElem_mem hi)] at h1; simp at h1
    simp [this]

theorem invalid_c (a g : Nat) (l : List Dia) (m : List AO) (K : AV → List AO → Prop) (h : content m a g = some (dgs l)) (hl : l.length ≤ 1000000) (hf : ∀ d ∈ l, ∀ i, 0 ≤ d.2 i ∧ d.2 i ≤ 255) (hk : K (I (if (l.all fun d => isD d.1 d.2) = true then 0 else 1)) m) :
    ACalls Try.prog 47 [.slice a 0 l.length g] m K := by
  refine ACalls.enter Try.func47 rfl rfl Try.ntmps47 (congrArg Array.toList Try.results47) (by simp) fun hc => ?_
  simp (disch := omega) [go_nil, go_inBlock, go_skip, go_exit, go_ret, go_region_lit, go_seq, go_block, goX_nil, goX_code, goX_ops, goX_same, goX_other, go_cond, goB_true, goB_false, go_ops_nil, go_op, go_opg, goW_true, goW_false, goO_move, goO_assign, goO_call, goF_fn, goV_some, goP_none, goP_some, goO_pick, goO_alloc, goO_box, goO_build, goO_buildSlice, goO_load, goO_store, goO_nilCheck, goO_bin, goO_un, goO_convert, goO_makeFunc, goO_makeSlice, goO_slice, goO_fieldAddr, goO_field, goO_indexAddr, goO_index, goO_extract, goO_builtin, gD, gWant, undef, aop, aev_tmp, aev_const, aev_func, aconst, upd_app, env0, env0_nil, env0_cons, aBin_ii, aBin_ss, aBin_bb, abin, aend, ares, aone, wrap_id, get_loc0, get_loc, set_loc0, set_loc, cont_loc0, cont_loc, cont_here, cont_next, row_loc0, row_loc, row_here, row_next, TI.isAgg, aLoad, aStore, aNew, aFieldAddr, aIndexAddr, aIndex, aPart, aField, aLen, aUn, aConv, aAppend, aBuildSlice, aMakeSlice, aBuild, aSlice, AV.cs, AV.one, Value.oneCell', if_pos, if_neg, List.getElem?_cons_zero, List.getElem?_cons_succ, fillA, zrep_zero, zrep_succ0, zrep_one, List.set_cons_zero, List.set_cons_succ, List.length_cons, List.length_nil, mkE_cons, mkE_nil, allE, DK_normal, LK_exit, LK_ret, dg_at, mts_at, sb_eq, str_size, aBound, Option.map_none, Option.map_some, aMin, aMax, DK2_normal, ptrNe_pp, sepA_nil, sepA_cons, DK3_normal, sepN_nil, sepN_cons, objNe_pp, objNe_ps, objNe_sp, objNe_ss, objNe_vx, objNe_xv]
  refine goCall_n rfl (containsBad_c a g l _ _ h hl hf ?_)
  rw [firstBad_iff]
  cases ha : l.all fun d => isD d.1 d.2 with
  | true =>
    rw [ha] at hk
    simp (disch := omega) [go_nil, go_inBlock, go_skip, go_exit, go_ret, go_region_lit, go_seq, go_block, goX_nil, goX_code, goX_ops, goX_same, goX_other, go_cond, goB_true, goB_false, go_ops_nil, go_op, go_opg, goW_true, goW_false, goO_move, goO_assign, goO_call, goF_fn, goV_some, goP_none, goP_some, goO_pick, goO_alloc, goO_box, goO_build, goO_buildSlice, goO_load, goO_store, goO_nilCheck, goO_bin, goO_un, goO_convert, goO_makeFunc, goO_makeSlice, goO_slice, goO_fieldAddr, goO_field, goO_indexAddr, goO_index, goO_extract, goO_builtin, gD, gWant, undef, aop, aev_tmp, aev_const, aev_func, aconst, upd_app, env0, env0_nil, env0_cons, aBin_ii, aBin_ss, aBin_bb, abin, aend, ares, aone, wrap_id, get_loc0, get_loc, set_loc0, set_loc, cont_loc0, cont_loc, cont_here, cont_next, row_loc0, row_loc, row_here, row_next, TI.isAgg, aLoad, aStore, aNew, aFieldAddr, aIndexAddr, aIndex, aPart, aField, aLen, aUn, aConv, aAppend, aBuildSlice, aMakeSlice, aBuild, aSlice, AV.cs, AV.one, Value.oneCell', if_pos, if_neg, List.getElem?_cons_zero, List.getElem?_cons_succ, fillA, zrep_zero, zrep_succ0, zrep_one, List.set_cons_zero, List.set_cons_succ, List.length_cons, List.length_nil, mkE_cons, mkE_nil, allE, DK_normal, LK_exit, LK_ret, dg_at, mts_at, sb_eq, str_size, aBound, Option.map_none, Option.map_some, aMin, aMax, DK2_normal, ptrNe_pp, sepA_nil, sepA_cons, DK3_normal, sepN_nil, sepN_cons, objNe_pp, objNe_ps, objNe_sp, objNe_ss, objNe_vx, objNe_xv]
    exact keep hk
  | false =>
    rw [ha] at hk
    simp (disch := omega) [go_nil, go_inBlock, go_skip, go_exit, go_ret, go_region_lit, go_seq, go_block, goX_nil, goX_code, goX_ops, goX_same, goX_other, go_cond, goB_true, goB_false, go_ops_nil, go_op, go_opg, goW_true, goW_false, goO_move, goO_assign, goO_call, goF_fn, goV_some, goP_none, goP_some, goO_pick, goO_alloc, goO_box, goO_build, goO_buildSlice, goO_load, goO_store, goO_nilCheck, goO_bin, goO_un, goO_convert, goO_makeFunc, goO_makeSlice, goO_slice, goO_fieldAddr, goO_field, goO_indexAddr, goO_index, goO_extract, goO_builtin, gD, gWant, undef, aop, aev_tmp, aev_const, aev_func, aconst, upd_app, env0, env0_nil, env0_cons, aBin_ii, aBin_ss, aBin_bb, abin, aend, ares, aone, wrap_id, get_loc0, get_loc, set_loc0, set_loc, cont_loc0, cont_loc, cont_here, cont_next, row_loc0, row_loc, row_here, row_next, TI.isAgg, aLoad, aStore, aNew, aFieldAddr, aIndexAddr, aIndex, aPart, aField, aLen, aUn, aConv, aAppend, aBuildSlice, aMakeSlice, aBuild, aSlice, AV.cs, AV.one, Value.oneCell', if_pos, if_neg, List.getElem?_cons_zero, List.getElem?_cons_succ, fillA, zrep_zero, zrep_succ0, zrep_one, List.set_cons_zero, List.set_cons_succ, List.length_cons, List.length_nil, mkE_cons, mkE_nil, allE, DK_normal, LK_exit, LK_ret, dg_at, mts_at, sb_eq, str_size, aBound, Option.map_none, Option.map_some, aMin, aMax, DK2_normal, ptrNe_pp, sepA_nil, sepA_cons, DK3_normal, sepN_nil, sepN_cons, objNe_pp, objNe_ps, objNe_sp, objNe_ss, objNe_vx, objNe_xv]
    exact keep hk

end Go.Proofs.Ytcdejfehblnphaa

/- Powers: both sides. -/
namespace Go.Proofs.Ytcdejfehblnphaa
open Go Go.RowKit

def pw (a p : Int) : Nat → Int
  | 0 => 1
  | k + 1 => pw a p k * a % p
theorem pw_bd {a p : Int} (hp : 2 ≤ p) : ∀ k, 0 ≤ pw a p k ∧ pw a p k < p
  | 0 => by simp [pw]; omega
  | k + 1 => ⟨Int.emod_nonneg _ (by omega), Int.emod_lt_of_pos _ (by omega)⟩

theorem mul_bd {x a : Int} (hx : 0 ≤ x ∧ x < 97) (ha : 0 ≤ a ∧ a ≤ 1000000) : 0 ≤ x * a ∧ x * a ≤ 97000000 :=
  ⟨Int.mul_nonneg hx.1 ha.1, by
    have h1 : x * a ≤ 97 * a := Int.mul_le_mul_of_nonneg_right (by omega) ha.1
    omega⟩

theorem power_c (a p : Int) (k : Nat) (m : List AO) (K : AV → List AO → Prop) (hp : 2 ≤ p ∧ p ≤ 97) (ha : 0 ≤ a ∧ a ≤ 1000000) (hkb : k ≤ 1000000000) (hk : K (I (pw a p k)) m) : ACalls Try.prog 52 [I a, I k, I p] m K := by
  refine ACalls.enter Try.func52 rfl rfl Try.ntmps52 (congrArg Array.toList Try.results52) (by simp) fun hc => ?_
  simp (disch := omega) [go_nil, go_inBlock, go_skip, go_exit, go_ret, go_region_lit, go_seq, go_block, goX_nil, goX_code, goX_ops, goX_same, goX_other, go_cond, goB_true, goB_false, go_ops_nil, go_op, go_opg, goW_true, goW_false, goO_move, goO_assign, goO_call, goF_fn, goV_some, goP_none, goP_some, goO_pick, goO_alloc, goO_box, goO_build, goO_buildSlice, goO_load, goO_store, goO_nilCheck, goO_bin, goO_un, goO_convert, goO_makeFunc, goO_makeSlice, goO_slice, goO_fieldAddr, goO_field, goO_indexAddr, goO_index, goO_extract, goO_builtin, gD, gWant, undef, aop, aev_tmp, aev_const, aev_func, aconst, upd_app, env0, env0_nil, env0_cons, aBin_ii, aBin_ss, aBin_bb, abin, aend, ares, aone, wrap_id, get_loc0, get_loc, set_loc0, set_loc, cont_loc0, cont_loc, cont_here, cont_next, row_loc0, row_loc, row_here, row_next, TI.isAgg, aLoad, aStore, aNew, aFieldAddr, aIndexAddr, aIndex, aPart, aField, aLen, aUn, aConv, aAppend, aBuildSlice, aMakeSlice, aBuild, aSlice, AV.cs, AV.one, Value.oneCell', if_pos, if_neg, List.getElem?_cons_zero, List.getElem?_cons_succ, fillA, zrep_zero, zrep_succ0, zrep_one, List.set_cons_zero, List.set_cons_succ, List.length_cons, List.length_nil, mkE_cons, mkE_nil, allE, DK_normal, LK_exit, LK_ret, dg_at, mts_at, sb_eq, str_size, aBound, Option.map_none, Option.map_some, aMin, aMax, DK2_normal, ptrNe_pp, sepA_nil, sepA_cons, DK3_normal, sepN_nil, sepN_cons, objNe_pp, objNe_ps, objNe_sp, objNe_ss, objNe_vx, objNe_xv]
  refine go_loop (α := {j : Nat // j ≤ k}) (fun j => mkE [(0, I a), (2, I p), (7, I (pw a p j.1)), (8, I k), (9, I j.1)]) (fun _ => m) (fun j => k - j.1) ⟨0, Nat.zero_le _⟩ (Wk.same rfl (by simp (disch := omega) [go_nil, go_inBlock, go_skip, go_exit, go_ret, go_region_lit, go_seq, go_block, goX_nil, goX_code, goX_ops, goX_same, goX_other, go_cond, goB_true, goB_false, go_ops_nil, go_op, go_opg, goW_true, goW_false, goO_move, goO_assign, goO_call, goF_fn, goV_some, goP_none, goP_some, goO_pick, goO_alloc, goO_box, goO_build, goO_buildSlice, goO_load, goO_store, goO_nilCheck, goO_bin, goO_un, goO_convert, goO_makeFunc, goO_makeSlice, goO_slice, goO_fieldAddr, goO_field, goO_indexAddr, goO_index, goO_extract, goO_builtin, gD, gWant, undef, aop, aev_tmp, aev_const, aev_func, aconst, upd_app, env0, env0_nil, env0_cons, aBin_ii, aBin_ss, aBin_bb, abin, aend, ares, aone, wrap_id, get_loc0, get_loc, set_loc0, set_loc, cont_loc0, cont_loc, cont_here, cont_next, row_loc0, row_loc, row_here, row_next, TI.isAgg, aLoad, aStore, aNew, aFieldAddr, aIndexAddr, aIndex, aPart, aField, aLen, aUn, aConv, aAppend, aBuildSlice, aMakeSlice, aBuild, aSlice, AV.cs, AV.one, Value.oneCell', if_pos, if_neg, List.getElem?_cons_zero, List.getElem?_cons_succ, fillA, zrep_zero, zrep_succ0, zrep_one, List.set_cons_zero, List.set_cons_succ, List.length_cons, List.length_nil, mkE_cons, mkE_nil, allE, DK_normal, LK_exit, LK_ret, dg_at, mts_at, sb_eq, str_size, aBound, Option.map_none, Option.map_some, aMin, aMax, DK2_normal, ptrNe_pp, sepA_nil, sepA_cons, DK3_normal, sepN_nil, sepN_cons, objNe_pp, objNe_ps, objNe_sp, objNe_ss, objNe_vx, objNe_xv, pw])) (fun ⟨j, hj⟩ => ?_)
  have hb := pw_bd (a := a) hp.1 j
  have hm := mul_bd (x := pw a p j) ⟨hb.1, by omega⟩ ha
  have hp0 : ¬ p = 0 := by omega
  have e : (pw a p j * a).tmod p = pw a p (j + 1) := by rw [tmod_pos hm.1 (by omega)]; rfl
  by_cases hc : j < k
  · simp (disch := omega) [go_nil, go_inBlock, go_skip, go_exit, go_ret, go_region_lit, go_seq, go_block, goX_nil, goX_code, goX_ops, goX_same, goX_other, go_cond, goB_true, goB_false, go_ops_nil, go_op, go_opg, goW_true, goW_false, goO_move, goO_assign, goO_call, goF_fn, goV_some, goP_none, goP_some, goO_pick, goO_alloc, goO_box, goO_build, goO_buildSlice, goO_load, goO_store, goO_nilCheck, goO_bin, goO_un, goO_convert, goO_makeFunc, goO_makeSlice, goO_slice, goO_fieldAddr, goO_field, goO_indexAddr, goO_index, goO_extract, goO_builtin, gD, gWant, undef, aop, aev_tmp, aev_const, aev_func, aconst, upd_app, env0, env0_nil, env0_cons, aBin_ii, aBin_ss, aBin_bb, abin, aend, ares, aone, wrap_id, get_loc0, get_loc, set_loc0, set_loc, cont_loc0, cont_loc, cont_here, cont_next, row_loc0, row_loc, row_here, row_next, TI.isAgg, aLoad, aStore, aNew, aFieldAddr, aIndexAddr, aIndex, aPart, aField, aLen, aUn, aConv, aAppend, aBuildSlice, aMakeSlice, aBuild, aSlice, AV.cs, AV.one, Value.oneCell', if_pos, if_neg, List.getElem?_cons_zero, List.getElem?_cons_succ, fillA, zrep_zero, zrep_succ0, zrep_one, List.set_cons_zero, List.set_cons_succ, List.length_cons, List.length_nil, mkE_cons, mkE_nil, allE, DK_normal, LK_exit, LK_ret, dg_at, mts_at, sb_eq, str_size, aBound, Option.map_none, Option.map_some, aMin, aMax, DK2_normal, ptrNe_pp, sepA_nil, sepA_cons, DK3_normal, sepN_nil, sepN_cons, objNe_pp, objNe_ps, objNe_sp, objNe_ss, objNe_vx, objNe_xv, hc, hp0, e]
    exact ⟨⟨j + 1, hc⟩, Wk.same rfl (by simp (disch := omega) [go_nil, go_inBlock, go_skip, go_exit, go_ret, go_region_lit, go_seq, go_block, goX_nil, goX_code, goX_ops, goX_same, goX_other, go_cond, goB_true, goB_false, go_ops_nil, go_op, go_opg, goW_true, goW_false, goO_move, goO_assign, goO_call, goF_fn, goV_some, goP_none, goP_some, goO_pick, goO_alloc, goO_box, goO_build, goO_buildSlice, goO_load, goO_store, goO_nilCheck, goO_bin, goO_un, goO_convert, goO_makeFunc, goO_makeSlice, goO_slice, goO_fieldAddr, goO_field, goO_indexAddr, goO_index, goO_extract, goO_builtin, gD, gWant, undef, aop, aev_tmp, aev_const, aev_func, aconst, upd_app, env0, env0_nil, env0_cons, aBin_ii, aBin_ss, aBin_bb, abin, aend, ares, aone, wrap_id, get_loc0, get_loc, set_loc0, set_loc, cont_loc0, cont_loc, cont_here, cont_next, row_loc0, row_loc, row_here, row_next, TI.isAgg, aLoad, aStore, aNew, aFieldAddr, aIndexAddr, aIndex, aPart, aField, aLen, aUn, aConv, aAppend, aBuildSlice, aMakeSlice, aBuild, aSlice, AV.cs, AV.one, Value.oneCell', if_pos, if_neg, List.getElem?_cons_zero, List.getElem?_cons_succ, fillA, zrep_zero, zrep_succ0, zrep_one, List.set_cons_zero, List.set_cons_succ, List.length_cons, List.length_nil, mkE_cons, mkE_nil, allE, DK_normal, LK_exit, LK_ret, dg_at, mts_at, sb_eq, str_size, aBound, Option.map_none, Option.map_some, aMin, aMax, DK2_normal, ptrNe_pp, sepA_nil, sepA_cons, DK3_normal, sepN_nil, sepN_cons, objNe_pp, objNe_ps, objNe_sp, objNe_ss, objNe_vx, objNe_xv]), by simp; omega⟩
  · have e2 : j = k := by omega
    subst e2
    simp (disch := omega) [go_nil, go_inBlock, go_skip, go_exit, go_ret, go_region_lit, go_seq, go_block, goX_nil, goX_code, goX_ops, goX_same, goX_other, go_cond, goB_true, goB_false, go_ops_nil, go_op, go_opg, goW_true, goW_false, goO_move, goO_assign, goO_call, goF_fn, goV_some, goP_none, goP_some, goO_pick, goO_alloc, goO_box, goO_build, goO_buildSlice, goO_load, goO_store, goO_nilCheck, goO_bin, goO_un, goO_convert, goO_makeFunc, goO_makeSlice, goO_slice, goO_fieldAddr, goO_field, goO_indexAddr, goO_index, goO_extract, goO_builtin, gD, gWant, undef, aop, aev_tmp, aev_const, aev_func, aconst, upd_app, env0, env0_nil, env0_cons, aBin_ii, aBin_ss, aBin_bb, abin, aend, ares, aone, wrap_id, get_loc0, get_loc, set_loc0, set_loc, cont_loc0, cont_loc, cont_here, cont_next, row_loc0, row_loc, row_here, row_next, TI.isAgg, aLoad, aStore, aNew, aFieldAddr, aIndexAddr, aIndex, aPart, aField, aLen, aUn, aConv, aAppend, aBuildSlice, aMakeSlice, aBuild, aSlice, AV.cs, AV.one, Value.oneCell', if_pos, if_neg, List.getElem?_cons_zero, List.getElem?_cons_succ, fillA, zrep_zero, zrep_succ0, zrep_one, List.set_cons_zero, List.set_cons_succ, List.length_cons, List.length_nil, mkE_cons, mkE_nil, allE, DK_normal, LK_exit, LK_ret, dg_at, mts_at, sb_eq, str_size, aBound, Option.map_none, Option.map_some, aMin, aMax, DK2_normal, ptrNe_pp, sepA_nil, sepA_cons, DK3_normal, sepN_nil, sepN_cons, objNe_pp, objNe_ps, objNe_sp, objNe_ss, objNe_vx, objNe_xv]
    exact keep hk

theorem l02Power_c (a p : Int) (k : Nat) (m : List AO) (K : AV → List AO → Prop) (hp : 2 ≤ p ∧ p ≤ 97) (ha : 0 ≤ a ∧ a ≤ 1000000) (hkb : k ≤ 1000000000) (hk : K (I (pw a p k)) m) : ACalls Try.prog 46 [I p, I a, I k] m K := by
  refine ACalls.enter Try.func46 rfl rfl Try.ntmps46 (congrArg Array.toList Try.results46) (by simp) fun hc => ?_
  have h1 : (1 : Int).tmod p = 1 := by rw [tmod_pos (by omega) (by omega)]; exact Int.emod_eq_of_lt (by omega) (by omega)
  have hp0 : ¬ p = 0 := by omega
  simp (disch := omega) [go_nil, go_inBlock, go_skip, go_exit, go_ret, go_region_lit, go_seq, go_block, goX_nil, goX_code, goX_ops, goX_same, goX_other, go_cond, goB_true, goB_false, go_ops_nil, go_op, go_opg, goW_true, goW_false, goO_move, goO_assign, goO_call, goF_fn, goV_some, goP_none, goP_some, goO_pick, goO_alloc, goO_box, goO_build, goO_buildSlice, goO_load, goO_store, goO_nilCheck, goO_bin, goO_un, goO_convert, goO_makeFunc, goO_makeSlice, goO_slice, goO_fieldAddr, goO_field, goO_indexAddr, goO_index, goO_extract, goO_builtin, gD, gWant, undef, aop, aev_tmp, aev_const, aev_func, aconst, upd_app, env0, env0_nil, env0_cons, aBin_ii, aBin_ss, aBin_bb, abin, aend, ares, aone, wrap_id, get_loc0, get_loc, set_loc0, set_loc, cont_loc0, cont_loc, cont_here, cont_next, row_loc0, row_loc, row_here, row_next, TI.isAgg, aLoad, aStore, aNew, aFieldAddr, aIndexAddr, aIndex, aPart, aField, aLen, aUn, aConv, aAppend, aBuildSlice, aMakeSlice, aBuild, aSlice, AV.cs, AV.one, Value.oneCell', if_pos, if_neg, List.getElem?_cons_zero, List.getElem?_cons_succ, fillA, zrep_zero, zrep_succ0, zrep_one, List.set_cons_zero, List.set_cons_succ, List.length_cons, List.length_nil, mkE_cons, mkE_nil, allE, DK_normal, LK_exit, LK_ret, dg_at, mts_at, sb_eq, str_size, aBound, Option.map_none, Option.map_some, aMin, aMax, DK2_normal, ptrNe_pp, sepA_nil, sepA_cons, DK3_normal, sepN_nil, sepN_cons, objNe_pp, objNe_ps, objNe_sp, objNe_ss, objNe_vx, objNe_xv, h1, hp0]
  refine go_loop (α := {j : Nat // j ≤ k}) (fun j => mkE [(0, I p), (1, I a), (2, I (k - j.1 : Nat)), (7, I (pw a p j.1))]) (fun _ => m) (fun j => k - j.1) ⟨0, Nat.zero_le _⟩ (Wk.same rfl (by simp (disch := omega) [go_nil, go_inBlock, go_skip, go_exit, go_ret, go_region_lit, go_seq, go_block, goX_nil, goX_code, goX_ops, goX_same, goX_other, go_cond, goB_true, goB_false, go_ops_nil, go_op, go_opg, goW_true, goW_false, goO_move, goO_assign, goO_call, goF_fn, goV_some, goP_none, goP_some, goO_pick, goO_alloc, goO_box, goO_build, goO_buildSlice, goO_load, goO_store, goO_nilCheck, goO_bin, goO_un, goO_convert, goO_makeFunc, goO_makeSlice, goO_slice, goO_fieldAddr, goO_field, goO_indexAddr, goO_index, goO_extract, goO_builtin, gD, gWant, undef, aop, aev_tmp, aev_const, aev_func, aconst, upd_app, env0, env0_nil, env0_cons, aBin_ii, aBin_ss, aBin_bb, abin, aend, ares, aone, wrap_id, get_loc0, get_loc, set_loc0, set_loc, cont_loc0, cont_loc, cont_here, cont_next, row_loc0, row_loc, row_here, row_next, TI.isAgg, aLoad, aStore, aNew, aFieldAddr, aIndexAddr, aIndex, aPart, aField, aLen, aUn, aConv, aAppend, aBuildSlice, aMakeSlice, aBuild, aSlice, AV.cs, AV.one, Value.oneCell', if_pos, if_neg, List.getElem?_cons_zero, List.getElem?_cons_succ, fillA, zrep_zero, zrep_succ0, zrep_one, List.set_cons_zero, List.set_cons_succ, List.length_cons, List.length_nil, mkE_cons, mkE_nil, allE, DK_normal, LK_exit, LK_ret, dg_at, mts_at, sb_eq, str_size, aBound, Option.map_none, Option.map_some, aMin, aMax, DK2_normal, ptrNe_pp, sepA_nil, sepA_cons, DK3_normal, sepN_nil, sepN_cons, objNe_pp, objNe_ps, objNe_sp, objNe_ss, objNe_vx, objNe_xv, pw])) (fun ⟨j, hj⟩ => ?_)
  have hb := pw_bd (a := a) hp.1 j
  have hm := mul_bd (x := pw a p j) ⟨hb.1, by omega⟩ ha
  have e : (pw a p j * a).tmod p = pw a p (j + 1) := by rw [tmod_pos hm.1 (by omega)]; rfl
  by_cases hc : j < k
  · have hc2 : 0 < k - j := by omega
    have e3 : ((k - j : Nat) : Int) - 1 = ((k - (j + 1) : Nat) : Int) := by omega
    simp (disch := omega) [go_nil, go_inBlock, go_skip, go_exit, go_ret, go_region_lit, go_seq, go_block, goX_nil, goX_code, goX_ops, goX_same, goX_other, go_cond, goB_true, goB_false, go_ops_nil, go_op, go_opg, goW_true, goW_false, goO_move, goO_assign, goO_call, goF_fn, goV_some, goP_none, goP_some, goO_pick, goO_alloc, goO_box, goO_build, goO_buildSlice, goO_load, goO_store, goO_nilCheck, goO_bin, goO_un, goO_convert, goO_makeFunc, goO_makeSlice, goO_slice, goO_fieldAddr, goO_field, goO_indexAddr, goO_index, goO_extract, goO_builtin, gD, gWant, undef, aop, aev_tmp, aev_const, aev_func, aconst, upd_app, env0, env0_nil, env0_cons, aBin_ii, aBin_ss, aBin_bb, abin, aend, ares, aone, wrap_id, get_loc0, get_loc, set_loc0, set_loc, cont_loc0, cont_loc, cont_here, cont_next, row_loc0, row_loc, row_here, row_next, TI.isAgg, aLoad, aStore, aNew, aFieldAddr, aIndexAddr, aIndex, aPart, aField, aLen, aUn, aConv, aAppend, aBuildSlice, aMakeSlice, aBuild, aSlice, AV.cs, AV.one, Value.oneCell', if_pos, if_neg, List.getElem?_cons_zero, List.getElem?_cons_succ, fillA, zrep_zero, zrep_succ0, zrep_one, List.set_cons_zero, List.set_cons_succ, List.length_cons, List.length_nil, mkE_cons, mkE_nil, allE, DK_normal, LK_exit, LK_ret, dg_at, mts_at, sb_eq, str_size, aBound, Option.map_none, Option.map_some, aMin, aMax, DK2_normal, ptrNe_pp, sepA_nil, sepA_cons, DK3_normal, sepN_nil, sepN_cons, objNe_pp, objNe_ps, objNe_sp, objNe_ss, objNe_vx, objNe_xv, hc2, hp0, e, e3]
    exact ⟨⟨j + 1, hc⟩, Wk.same rfl (by simp (disch := omega) [go_nil, go_inBlock, go_skip, go_exit, go_ret, go_region_lit, go_seq, go_block, goX_nil, goX_code, goX_ops, goX_same, goX_other, go_cond, goB_true, goB_false, go_ops_nil, go_op, go_opg, goW_true, goW_false, goO_move, goO_assign, goO_call, goF_fn, goV_some, goP_none, goP_some, goO_pick, goO_alloc, goO_box, goO_build, goO_buildSlice, goO_load, goO_store, goO_nilCheck, goO_bin, goO_un, goO_convert, goO_makeFunc, goO_makeSlice, goO_slice, goO_fieldAddr, goO_field, goO_indexAddr, goO_index, goO_extract, goO_builtin, gD, gWant, undef, aop, aev_tmp, aev_const, aev_func, aconst, upd_app, env0, env0_nil, env0_cons, aBin_ii, aBin_ss, aBin_bb, abin, aend, ares, aone, wrap_id, get_loc0, get_loc, set_loc0, set_loc, cont_loc0, cont_loc, cont_here, cont_next, row_loc0, row_loc, row_here, row_next, TI.isAgg, aLoad, aStore, aNew, aFieldAddr, aIndexAddr, aIndex, aPart, aField, aLen, aUn, aConv, aAppend, aBuildSlice, aMakeSlice, aBuild, aSlice, AV.cs, AV.one, Value.oneCell', if_pos, if_neg, List.getElem?_cons_zero, List.getElem?_cons_succ, fillA, zrep_zero, zrep_succ0, zrep_one, List.set_cons_zero, List.set_cons_succ, List.length_cons, List.length_nil, mkE_cons, mkE_nil, allE, DK_normal, LK_exit, LK_ret, dg_at, mts_at, sb_eq, str_size, aBound, Option.map_none, Option.map_some, aMin, aMax, DK2_normal, ptrNe_pp, sepA_nil, sepA_cons, DK3_normal, sepN_nil, sepN_cons, objNe_pp, objNe_ps, objNe_sp, objNe_ss, objNe_vx, objNe_xv]), by simp; omega⟩
  · have e2 : j = k := by omega
    subst e2
    have e4 : j - j = 0 := by omega
    simp (disch := omega) [go_nil, go_inBlock, go_skip, go_exit, go_ret, go_region_lit, go_seq, go_block, goX_nil, goX_code, goX_ops, goX_same, goX_other, go_cond, goB_true, goB_false, go_ops_nil, go_op, go_opg, goW_true, goW_false, goO_move, goO_assign, goO_call, goF_fn, goV_some, goP_none, goP_some, goO_pick, goO_alloc, goO_box, goO_build, goO_buildSlice, goO_load, goO_store, goO_nilCheck, goO_bin, goO_un, goO_convert, goO_makeFunc, goO_makeSlice, goO_slice, goO_fieldAddr, goO_field, goO_indexAddr, goO_index, goO_extract, goO_builtin, gD, gWant, undef, aop, aev_tmp, aev_const, aev_func, aconst, upd_app, env0, env0_nil, env0_cons, aBin_ii, aBin_ss, aBin_bb, abin, aend, ares, aone, wrap_id, get_loc0, get_loc, set_loc0, set_loc, cont_loc0, cont_loc, cont_here, cont_next, row_loc0, row_loc, row_here, row_next, TI.isAgg, aLoad, aStore, aNew, aFieldAddr, aIndexAddr, aIndex, aPart, aField, aLen, aUn, aConv, aAppend, aBuildSlice, aMakeSlice, aBuild, aSlice, AV.cs, AV.one, Value.oneCell', if_pos, if_neg, List.getElem?_cons_zero, List.getElem?_cons_succ, fillA, zrep_zero, zrep_succ0, zrep_one, List.set_cons_zero, List.set_cons_succ, List.length_cons, List.length_nil, mkE_cons, mkE_nil, allE, DK_normal, LK_exit, LK_ret, dg_at, mts_at, sb_eq, str_size, aBound, Option.map_none, Option.map_some, aMin, aMax, DK2_normal, ptrNe_pp, sepA_nil, sepA_cons, DK3_normal, sepN_nil, sepN_cons, objNe_pp, objNe_ps, objNe_sp, objNe_ss, objNe_vx, objNe_xv, e4]
    exact keep hk

end Go.Proofs.Ytcdejfehblnphaa

/- Halves of diagrams: both sides. -/
namespace Go.Proofs.Ytcdejfehblnphaa
open Go Go.RowKit

/-- The sign of a point in the half that begins at a point. -/
def hs (n : Nat) (f : Nat → Int) (a i : Nat) : Int := if f (a + i) / n ≠ (a : Int) / n then 124 else if ((a + i : Nat) : Int) < f (a + i) then 40 else 41
def hss (n : Nat) (f : Nat → Int) (a k : Nat) : List Int := (List.range k).map (hs n f a)
theorem hss_succ (n : Nat) (f : Nat → Int) (a k : Nat) : hss n f a (k + 1) = hss n f a k ++ [hs n f a k] := by simp [hss, List.range_succ]
@[simp] theorem hss_len (n : Nat) (f : Nat → Int) (a k : Nat) : (hss n f a k).length = k := by simp [hss]

theorem halfOf_c (p n a : Nat) (f : Nat → Int) (m : List AO) (K : AV → List AO → Prop) (h : content m p 0 = some (dg n f)) (h0 : 1 ≤ n) (h1 : n ≤ 8) (ha : a + n ≤ 16) (hf : ∀ i, 0 ≤ f i ∧ f i ≤ 255) (hk : K (Str (uby (hss n f a n))) m) : ACalls Try.prog 78 [.ptr p 0 0, I a] m K := by
  refine ACalls.enter Try.func78 rfl rfl Try.ntmps78 (congrArg Array.toList Try.results78) (by simp) fun hc => ?_
  have hp : p < m.length := content_lt h
  have hcl : Closed m := ‹_›
  simp (disch := omega) [go_nil, go_inBlock, go_skip, go_exit, go_ret, go_region_lit, go_seq, go_block, goX_nil, goX_code, goX_ops, goX_same, goX_other, go_cond, goB_true, goB_false, go_ops_nil, go_op, go_opg, goW_true, goW_false, goO_move, goO_assign, goO_call, goF_fn, goV_some, goP_none, goP_some, goO_pick, goO_alloc, goO_box, goO_build, goO_buildSlice, goO_load, goO_store, goO_nilCheck, goO_bin, goO_un, goO_convert, goO_makeFunc, goO_makeSlice, goO_slice, goO_fieldAddr, goO_field, goO_indexAddr, goO_index, goO_extract, goO_builtin, gD, gWant, undef, aop, aev_tmp, aev_const, aev_func, aconst, upd_app, env0, env0_nil, env0_cons, aBin_ii, aBin_ss, aBin_bb, abin, aend, ares, aone, wrap_id, get_loc0, get_loc, set_loc0, set_loc, cont_loc0, cont_loc, cont_here, cont_next, row_loc0, row_loc, row_here, row_next, TI.isAgg, aLoad, aStore, aNew, aFieldAddr, aIndexAddr, aIndex, aPart, aField, aLen, aUn, aConv, aAppend, aBuildSlice, aMakeSlice, aBuild, aSlice, AV.cs, AV.one, Value.oneCell', if_pos, if_neg, List.getElem?_cons_zero, List.getElem?_cons_succ, fillA, zrep_zero, zrep_succ0, zrep_one, List.set_cons_zero, List.set_cons_succ, List.length_cons, List.length_nil, mkE_cons, mkE_nil, allE, DK_normal, LK_exit, LK_ret, dg_at, mts_at, sb_eq, str_size, aBound, Option.map_none, Option.map_some, aMin, aMax, DK2_normal, ptrNe_pp, sepA_nil, sepA_cons, DK3_normal, sepN_nil, sepN_cons, objNe_pp, objNe_ps, objNe_sp, objNe_ss, objNe_vx, objNe_xv]
  refine goCall_n rfl (n_c p n f m _ h ?_)
  simp (disch := omega) [go_nil, go_inBlock, go_skip, go_exit, go_ret, go_region_lit, go_seq, go_block, goX_nil, goX_code, goX_ops, goX_same, goX_other, go_cond, goB_true, goB_false, go_ops_nil, go_op, go_opg, goW_true, goW_false, goO_move, goO_assign, goO_call, goF_fn, goV_some, goP_none, goP_some, goO_pick, goO_alloc, goO_box, goO_build, goO_buildSlice, goO_load, goO_store, goO_nilCheck, goO_bin, goO_un, goO_convert, goO_makeFunc, goO_makeSlice, goO_slice, goO_fieldAddr, goO_field, goO_indexAddr, goO_index, goO_extract, goO_builtin, gD, gWant, undef, aop, aev_tmp, aev_const, aev_func, aconst, upd_app, env0, env0_nil, env0_cons, aBin_ii, aBin_ss, aBin_bb, abin, aend, ares, aone, wrap_id, get_loc0, get_loc, set_loc0, set_loc, cont_loc0, cont_loc, cont_here, cont_next, row_loc0, row_loc, row_here, row_next, TI.isAgg, aLoad, aStore, aNew, aFieldAddr, aIndexAddr, aIndex, aPart, aField, aLen, aUn, aConv, aAppend, aBuildSlice, aMakeSlice, aBuild, aSlice, AV.cs, AV.one, Value.oneCell', if_pos, if_neg, List.getElem?_cons_zero, List.getElem?_cons_succ, fillA, zrep_zero, zrep_succ0, zrep_one, List.set_cons_zero, List.set_cons_succ, List.length_cons, List.length_nil, mkE_cons, mkE_nil, allE, DK_normal, LK_exit, LK_ret, dg_at, mts_at, sb_eq, str_size, aBound, Option.map_none, Option.map_some, aMin, aMax, DK2_normal, ptrNe_pp, sepA_nil, sepA_cons, DK3_normal, sepN_nil, sepN_cons, objNe_pp, objNe_ps, objNe_sp, objNe_ss, objNe_vx, objNe_xv]
  refine go_loop (α := {k : Nat // k ≤ n}) (fun k => mkE [(0,.ptr p 0 0),(1,I a),(5,I n),(6,.slice m.length 0 k.1 k.1),(12,I n),(13,I k.1)]) (fun k => m ++ [.cells ((hss n f a k.1).map U8) k.1 1]) (fun k => n - k.1) ⟨0, by omega⟩ (Wk.same rfl (by simp (disch := omega) [go_nil, go_inBlock, go_skip, go_exit, go_ret, go_region_lit, go_seq, go_block, goX_nil, goX_code, goX_ops, goX_same, goX_other, go_cond, goB_true, goB_false, go_ops_nil, go_op, go_opg, goW_true, goW_false, goO_move, goO_assign, goO_call, goF_fn, goV_some, goP_none, goP_some, goO_pick, goO_alloc, goO_box, goO_build, goO_buildSlice, goO_load, goO_store, goO_nilCheck, goO_bin, goO_un, goO_convert, goO_makeFunc, goO_makeSlice, goO_slice, goO_fieldAddr, goO_field, goO_indexAddr, goO_index, goO_extract, goO_builtin, gD, gWant, undef, aop, aev_tmp, aev_const, aev_func, aconst, upd_app, env0, env0_nil, env0_cons, aBin_ii, aBin_ss, aBin_bb, abin, aend, ares, aone, wrap_id, get_loc0, get_loc, set_loc0, set_loc, cont_loc0, cont_loc, cont_here, cont_next, row_loc0, row_loc, row_here, row_next, TI.isAgg, aLoad, aStore, aNew, aFieldAddr, aIndexAddr, aIndex, aPart, aField, aLen, aUn, aConv, aAppend, aBuildSlice, aMakeSlice, aBuild, aSlice, AV.cs, AV.one, Value.oneCell', if_pos, if_neg, List.getElem?_cons_zero, List.getElem?_cons_succ, fillA, zrep_zero, zrep_succ0, zrep_one, List.set_cons_zero, List.set_cons_succ, List.length_cons, List.length_nil, mkE_cons, mkE_nil, allE, DK_normal, LK_exit, LK_ret, dg_at, mts_at, sb_eq, str_size, aBound, Option.map_none, Option.map_some, aMin, aMax, DK2_normal, ptrNe_pp, sepA_nil, sepA_cons, DK3_normal, sepN_nil, sepN_cons, objNe_pp, objNe_ps, objNe_sp, objNe_ss, objNe_vx, objNe_xv])) (fun ⟨k,hk2⟩ => ?_)
  have tk : List.take k ((hss n f a k).map U8) = (hss n f a k).map U8 := take_len (by simp)
  by_cases hc : k < n
  · have hq := hf (a + k)
    have eN : ((a : Int) + k).toNat = a + k := by omega
    have hn0 : ¬ (n : Int) = 0 := by omega
    have d1 : (f (a + k)).tdiv n = f (a + k) / n := tdiv_pos hq.1 (by omega)
    have d2 : ((a : Int)).tdiv n = (a : Int) / n := tdiv_pos (by omega) (by omega)
    have b1 : 0 ≤ f (a + k) / n ∧ f (a + k) / n ≤ 255 := ⟨Int.ediv_nonneg hq.1 (by omega), Int.le_trans (Int.ediv_le_self _ hq.1) hq.2⟩
    have b2 : 0 ≤ (a : Int) / n ∧ (a : Int) / n ≤ 255 := ⟨Int.ediv_nonneg (by omega) (by omega), Int.le_trans (Int.ediv_le_self _ (by omega)) (by omega)⟩
    have w1 : IntKind.i64.wrap (f (a + k) / n) = f (a + k) / n := wrap_id (by omega) (by omega)
    have w2 : IntKind.i64.wrap ((a : Int) / n) = (a : Int) / n := wrap_id (by omega) (by omega)
    have fin : ∀ env v, hs n f a k = v → allE env [(0,.ptr p 0 0),(1,I a),(5,I n),(6,.slice m.length 0 (k + 1) (k + 1)),(12,I n),(13,I (k + 1))] → Wk m.length env (m ++ [AO.cells ((hss n f a k).map U8 ++ [U8 v]) (k + 1) 1, .cells [U8 v] 0 1])
        (mkE [(0,.ptr p 0 0),(1,I a),(5,I n),(6,.slice m.length 0 (k + 1) (k + 1)),(12,I n),(13,I (k + 1 : Nat))]) (m ++ [.cells ((hss n f a (k + 1)).map U8) (k + 1) 1]) := fun env v hv he =>
      Wk.cut [.cells ((hss n f a (k + 1)).map U8) (k + 1) 1] [.cells [U8 v] 0 1] (by simp [hss_succ, hv]) rfl (by simpa using he) (Nat.le_refl _) (Closed.u8 hcl _ _ _) (by simp [allS, AV.sc]; omega)
    simp (disch := omega) [go_nil, go_inBlock, go_skip, go_exit, go_ret, go_region_lit, go_seq, go_block, goX_nil, goX_code, goX_ops, goX_same, goX_other, go_cond, goB_true, goB_false, go_ops_nil, go_op, go_opg, goW_true, goW_false, goO_move, goO_assign, goO_call, goF_fn, goV_some, goP_none, goP_some, goO_pick, goO_alloc, goO_box, goO_build, goO_buildSlice, goO_load, goO_store, goO_nilCheck, goO_bin, goO_un, goO_convert, goO_makeFunc, goO_makeSlice, goO_slice, goO_fieldAddr, goO_field, goO_indexAddr, goO_index, goO_extract, goO_builtin, gD, gWant, undef, aop, aev_tmp, aev_const, aev_func, aconst, upd_app, env0, env0_nil, env0_cons, aBin_ii, aBin_ss, aBin_bb, abin, aend, ares, aone, wrap_id, get_loc0, get_loc, set_loc0, set_loc, cont_loc0, cont_loc, cont_here, cont_next, row_loc0, row_loc, row_here, row_next, TI.isAgg, aLoad, aStore, aNew, aFieldAddr, aIndexAddr, aIndex, aPart, aField, aLen, aUn, aConv, aAppend, aBuildSlice, aMakeSlice, aBuild, aSlice, AV.cs, AV.one, Value.oneCell', if_pos, if_neg, List.getElem?_cons_zero, List.getElem?_cons_succ, fillA, zrep_zero, zrep_succ0, zrep_one, List.set_cons_zero, List.set_cons_succ, List.length_cons, List.length_nil, mkE_cons, mkE_nil, allE, DK_normal, LK_exit, LK_ret, dg_at, mts_at, sb_eq, str_size, aBound, Option.map_none, Option.map_some, aMin, aMax, DK2_normal, ptrNe_pp, sepA_nil, sepA_cons, DK3_normal, sepN_nil, sepN_cons, objNe_pp, objNe_ps, objNe_sp, objNe_ss, objNe_vx, objNe_xv, hc, cont_old _ hp, h, eN]
    refine go_drawn [] false (by kernel_rfl) (by kernel_rfl) ?_
    by_cases c1 : f (a + k) / n = (a : Int) / n
    · by_cases c2 : ((a : Int) + k) < f (a + k)
      · simp (disch := omega) [go_nil, go_inBlock, go_skip, go_exit, go_ret, go_region_lit, go_seq, go_block, goX_nil, goX_code, goX_ops, goX_same, goX_other, go_cond, goB_true, goB_false, go_ops_nil, go_op, go_opg, goW_true, goW_false, goO_move, goO_assign, goO_call, goF_fn, goV_some, goP_none, goP_some, goO_pick, goO_alloc, goO_box, goO_build, goO_buildSlice, goO_load, goO_store, goO_nilCheck, goO_bin, goO_un, goO_convert, goO_makeFunc, goO_makeSlice, goO_slice, goO_fieldAddr, goO_field, goO_indexAddr, goO_index, goO_extract, goO_builtin, gD, gWant, undef, aop, aev_tmp, aev_const, aev_func, aconst, upd_app, env0, env0_nil, env0_cons, aBin_ii, aBin_ss, aBin_bb, abin, aend, ares, aone, wrap_id, get_loc0, get_loc, set_loc0, set_loc, cont_loc0, cont_loc, cont_here, cont_next, row_loc0, row_loc, row_here, row_next, TI.isAgg, aLoad, aStore, aNew, aFieldAddr, aIndexAddr, aIndex, aPart, aField, aLen, aUn, aConv, aAppend, aBuildSlice, aMakeSlice, aBuild, aSlice, AV.cs, AV.one, Value.oneCell', if_pos, if_neg, List.getElem?_cons_zero, List.getElem?_cons_succ, fillA, zrep_zero, zrep_succ0, zrep_one, List.set_cons_zero, List.set_cons_succ, List.length_cons, List.length_nil, mkE_cons, mkE_nil, allE, DK_normal, LK_exit, LK_ret, dg_at, mts_at, sb_eq, str_size, aBound, Option.map_none, Option.map_some, aMin, aMax, DK2_normal, ptrNe_pp, sepA_nil, sepA_cons, DK3_normal, sepN_nil, sepN_cons, objNe_pp, objNe_ps, objNe_sp, objNe_ss, objNe_vx, objNe_xv, hn0, d1, d2, w1, w2, c1, c2, tk]
        exact ⟨⟨k + 1, hc⟩, fin _ 40 (by simp [hs, c1, c2]) (by simp (disch := omega) [go_nil, go_inBlock, go_skip, go_exit, go_ret, go_region_lit, go_seq, go_block, goX_nil, goX_code, goX_ops, goX_same, goX_other, go_cond, goB_true, goB_false, go_ops_nil, go_op, go_opg, goW_true, goW_false, goO_move, goO_assign, goO_call, goF_fn, goV_some, goP_none, goP_some, goO_pick, goO_alloc, goO_box, goO_build, goO_buildSlice, goO_load, goO_store, goO_nilCheck, goO_bin, goO_un, goO_convert, goO_makeFunc, goO_makeSlice, goO_slice, goO_fieldAddr, goO_field, goO_indexAddr, goO_index, goO_extract, goO_builtin, gD, gWant, undef, aop, aev_tmp, aev_const, aev_func, aconst, upd_app, env0, env0_nil, env0_cons, aBin_ii, aBin_ss, aBin_bb, abin, aend, ares, aone, wrap_id, get_loc0, get_loc, set_loc0, set_loc, cont_loc0, cont_loc, cont_here, cont_next, row_loc0, row_loc, row_here, row_next, TI.isAgg, aLoad, aStore, aNew, aFieldAddr, aIndexAddr, aIndex, aPart, aField, aLen, aUn, aConv, aAppend, aBuildSlice, aMakeSlice, aBuild, aSlice, AV.cs, AV.one, Value.oneCell', if_pos, if_neg, List.getElem?_cons_zero, List.getElem?_cons_succ, fillA, zrep_zero, zrep_succ0, zrep_one, List.set_cons_zero, List.set_cons_succ, List.length_cons, List.length_nil, mkE_cons, mkE_nil, allE, DK_normal, LK_exit, LK_ret, dg_at, mts_at, sb_eq, str_size, aBound, Option.map_none, Option.map_some, aMin, aMax, DK2_normal, ptrNe_pp, sepA_nil, sepA_cons, DK3_normal, sepN_nil, sepN_cons, objNe_pp, objNe_ps, objNe_sp, objNe_ss, objNe_vx, objNe_xv]), by simp; omega⟩
      · simp (disch := omega) [go_nil, go_inBlock, go_skip, go_exit, go_ret, go_region_lit, go_seq, go_block, goX_nil, goX_code, goX_ops, goX_same, goX_other, go_cond, goB_true, goB_false, go_ops_nil, go_op, go_opg, goW_true, goW_false, goO_move, goO_assign, goO_call, goF_fn, goV_some, goP_none, goP_some, goO_pick, goO_alloc, goO_box, goO_build, goO_buildSlice, goO_load, goO_store, goO_nilCheck, goO_bin, goO_un, goO_convert, goO_makeFunc, goO_makeSlice, goO_slice, goO_fieldAddr, goO_field, goO_indexAddr, goO_index, goO_extract, goO_builtin, gD, gWant, undef, aop, aev_tmp, aev_const, aev_func, aconst, upd_app, env0, env0_nil, env0_cons, aBin_ii, aBin_ss, aBin_bb, abin, aend, ares, aone, wrap_id, get_loc0, get_loc, set_loc0, set_loc, cont_loc0, cont_loc, cont_here, cont_next, row_loc0, row_loc, row_here, row_next, TI.isAgg, aLoad, aStore, aNew, aFieldAddr, aIndexAddr, aIndex, aPart, aField, aLen, aUn, aConv, aAppend, aBuildSlice, aMakeSlice, aBuild, aSlice, AV.cs, AV.one, Value.oneCell', if_pos, if_neg, List.getElem?_cons_zero, List.getElem?_cons_succ, fillA, zrep_zero, zrep_succ0, zrep_one, List.set_cons_zero, List.set_cons_succ, List.length_cons, List.length_nil, mkE_cons, mkE_nil, allE, DK_normal, LK_exit, LK_ret, dg_at, mts_at, sb_eq, str_size, aBound, Option.map_none, Option.map_some, aMin, aMax, DK2_normal, ptrNe_pp, sepA_nil, sepA_cons, DK3_normal, sepN_nil, sepN_cons, objNe_pp, objNe_ps, objNe_sp, objNe_ss, objNe_vx, objNe_xv, hn0, d1, d2, w1, w2, c1, c2, tk]
        exact ⟨⟨k + 1, hc⟩, fin _ 41 (by simp [hs, c1, c2]) (by simp (disch := omega) [go_nil, go_inBlock, go_skip, go_exit, go_ret, go_region_lit, go_seq, go_block, goX_nil, goX_code, goX_ops, goX_same, goX_other, go_cond, goB_true, goB_false, go_ops_nil, go_op, go_opg, goW_true, goW_false, goO_move, goO_assign, goO_call, goF_fn, goV_some, goP_none, goP_some, goO_pick, goO_alloc, goO_box, goO_build, goO_buildSlice, goO_load, goO_store, goO_nilCheck, goO_bin, goO_un, goO_convert, goO_makeFunc, goO_makeSlice, goO_slice, goO_fieldAddr, goO_field, goO_indexAddr, goO_index, goO_extract, goO_builtin, gD, gWant, undef, aop, aev_tmp, aev_const, aev_func, aconst, upd_app, env0, env0_nil, env0_cons, aBin_ii, aBin_ss, aBin_bb, abin, aend, ares, aone, wrap_id, get_loc0, get_loc, set_loc0, set_loc, cont_loc0, cont_loc, cont_here, cont_next, row_loc0, row_loc, row_here, row_next, TI.isAgg, aLoad, aStore, aNew, aFieldAddr, aIndexAddr, aIndex, aPart, aField, aLen, aUn, aConv, aAppend, aBuildSlice, aMakeSlice, aBuild, aSlice, AV.cs, AV.one, Value.oneCell', if_pos, if_neg, List.getElem?_cons_zero, List.getElem?_cons_succ, fillA, zrep_zero, zrep_succ0, zrep_one, List.set_cons_zero, List.set_cons_succ, List.length_cons, List.length_nil, mkE_cons, mkE_nil, allE, DK_normal, LK_exit, LK_ret, dg_at, mts_at, sb_eq, str_size, aBound, Option.map_none, Option.map_some, aMin, aMax, DK2_normal, ptrNe_pp, sepA_nil, sepA_cons, DK3_normal, sepN_nil, sepN_cons, objNe_pp, objNe_ps, objNe_sp, objNe_ss, objNe_vx, objNe_xv]), by simp; omega⟩
    · simp (disch := omega) [go_nil, go_inBlock, go_skip, go_exit, go_ret, go_region_lit, go_seq, go_block, goX_nil, goX_code, goX_ops, goX_same, goX_other, go_cond, goB_true, goB_false, go_ops_nil, go_op, go_opg, goW_true, goW_false, goO_move, goO_assign, goO_call, goF_fn, goV_some, goP_none, goP_some, goO_pick, goO_alloc, goO_box, goO_build, goO_buildSlice, goO_load, goO_store, goO_nilCheck, goO_bin, goO_un, goO_convert, goO_makeFunc, goO_makeSlice, goO_slice, goO_fieldAddr, goO_field, goO_indexAddr, goO_index, goO_extract, goO_builtin, gD, gWant, undef, aop, aev_tmp, aev_const, aev_func, aconst, upd_app, env0, env0_nil, env0_cons, aBin_ii, aBin_ss, aBin_bb, abin, aend, ares, aone, wrap_id, get_loc0, get_loc, set_loc0, set_loc, cont_loc0, cont_loc, cont_here, cont_next, row_loc0, row_loc, row_here, row_next, TI.isAgg, aLoad, aStore, aNew, aFieldAddr, aIndexAddr, aIndex, aPart, aField, aLen, aUn, aConv, aAppend, aBuildSlice, aMakeSlice, aBuild, aSlice, AV.cs, AV.one, Value.oneCell', if_pos, if_neg, List.getElem?_cons_zero, List.getElem?_cons_succ, fillA, zrep_zero, zrep_succ0, zrep_one, List.set_cons_zero, List.set_cons_succ, List.length_cons, List.length_nil, mkE_cons, mkE_nil, allE, DK_normal, LK_exit, LK_ret, dg_at, mts_at, sb_eq, str_size, aBound, Option.map_none, Option.map_some, aMin, aMax, DK2_normal, ptrNe_pp, sepA_nil, sepA_cons, DK3_normal, sepN_nil, sepN_cons, objNe_pp, objNe_ps, objNe_sp, objNe_ss, objNe_vx, objNe_xv, hn0, d1, d2, w1, w2, c1, tk]
      exact ⟨⟨k + 1, hc⟩, fin _ 124 (by simp [hs, c1]) (by simp (disch := omega) [go_nil, go_inBlock, go_skip, go_exit, go_ret, go_region_lit, go_seq, go_block, goX_nil, goX_code, goX_ops, goX_same, goX_other, go_cond, goB_true, goB_false, go_ops_nil, go_op, go_opg, goW_true, goW_false, goO_move, goO_assign, goO_call, goF_fn, goV_some, goP_none, goP_some, goO_pick, goO_alloc, goO_box, goO_build, goO_buildSlice, goO_load, goO_store, goO_nilCheck, goO_bin, goO_un, goO_convert, goO_makeFunc, goO_makeSlice, goO_slice, goO_fieldAddr, goO_field, goO_indexAddr, goO_index, goO_extract, goO_builtin, gD, gWant, undef, aop, aev_tmp, aev_const, aev_func, aconst, upd_app, env0, env0_nil, env0_cons, aBin_ii, aBin_ss, aBin_bb, abin, aend, ares, aone, wrap_id, get_loc0, get_loc, set_loc0, set_loc, cont_loc0, cont_loc, cont_here, cont_next, row_loc0, row_loc, row_here, row_next, TI.isAgg, aLoad, aStore, aNew, aFieldAddr, aIndexAddr, aIndex, aPart, aField, aLen, aUn, aConv, aAppend, aBuildSlice, aMakeSlice, aBuild, aSlice, AV.cs, AV.one, Value.oneCell', if_pos, if_neg, List.getElem?_cons_zero, List.getElem?_cons_succ, fillA, zrep_zero, zrep_succ0, zrep_one, List.set_cons_zero, List.set_cons_succ, List.length_cons, List.length_nil, mkE_cons, mkE_nil, allE, DK_normal, LK_exit, LK_ret, dg_at, mts_at, sb_eq, str_size, aBound, Option.map_none, Option.map_some, aMin, aMax, DK2_normal, ptrNe_pp, sepA_nil, sepA_cons, DK3_normal, sepN_nil, sepN_cons, objNe_pp, objNe_ps, objNe_sp, objNe_ss, objNe_vx, objNe_xv]), by simp; omega⟩
  · have e : k = n := by omega
    subst e
    simp (disch := omega) [go_nil, go_inBlock, go_skip, go_exit, go_ret, go_region_lit, go_seq, go_block, goX_nil, goX_code, goX_ops, goX_same, goX_other, go_cond, goB_true, goB_false, go_ops_nil, go_op, go_opg, goW_true, goW_false, goO_move, goO_assign, goO_call, goF_fn, goV_some, goP_none, goP_some, goO_pick, goO_alloc, goO_box, goO_build, goO_buildSlice, goO_load, goO_store, goO_nilCheck, goO_bin, goO_un, goO_convert, goO_makeFunc, goO_makeSlice, goO_slice, goO_fieldAddr, goO_field, goO_indexAddr, goO_index, goO_extract, goO_builtin, gD, gWant, undef, aop, aev_tmp, aev_const, aev_func, aconst, upd_app, env0, env0_nil, env0_cons, aBin_ii, aBin_ss, aBin_bb, abin, aend, ares, aone, wrap_id, get_loc0, get_loc, set_loc0, set_loc, cont_loc0, cont_loc, cont_here, cont_next, row_loc0, row_loc, row_here, row_next, TI.isAgg, aLoad, aStore, aNew, aFieldAddr, aIndexAddr, aIndex, aPart, aField, aLen, aUn, aConv, aAppend, aBuildSlice, aMakeSlice, aBuild, aSlice, AV.cs, AV.one, Value.oneCell', if_pos, if_neg, List.getElem?_cons_zero, List.getElem?_cons_succ, fillA, zrep_zero, zrep_succ0, zrep_one, List.set_cons_zero, List.set_cons_succ, List.length_cons, List.length_nil, mkE_cons, mkE_nil, allE, DK_normal, LK_exit, LK_ret, dg_at, mts_at, sb_eq, str_size, aBound, Option.map_none, Option.map_some, aMin, aMax, DK2_normal, ptrNe_pp, sepA_nil, sepA_cons, DK3_normal, sepN_nil, sepN_cons, objNe_pp, objNe_ps, objNe_sp, objNe_ss, objNe_vx, objNe_xv, hc, tk, bytesOf_u8]
    exact drop hcl rfl hk

end Go.Proofs.Ytcdejfehblnphaa
