/-
  Texts of a proof. Conditions: none.
-/
import Derived.Test.YtolhindhmljgdaaGreatDoorVPlainE
set_option linter.unusedVariables false
set_option linter.unusedSimpArgs false
set_option linter.unnecessarySimpa false
set_option linter.unusedSectionVars false
namespace Go.Eng
open Go
set_option maxHeartbeats 2000000
set_option maxRecDepth 4000
set_option linter.unusedSimpArgs false
set_option linter.unusedVariables false
set_option linter.unusedSectionVars false

/-- An element more. -/
def Rd.more (x : Rd) : Rd := { x with n := x.n + 1 }

def eRow (n : List UInt8) (at' kk : AV) (p : Nat) : Row := .cells [.str n, at', kk, .int .i64 p] 0 0 false 25

section
variable {C : Ctx} (H : Codes C) (he : C.fns 113 = some (.ext xIndexByte)) (st : St) (r : Nat) (x : Rd) (hr : st[r]? = some x.row) (hx : x.Ok) (hG : Good st)
include H he hr hx hG

theorem leaf_W (d : Nat) (hd : d < 12) (hn : x.n + 1 ≤ 400) (h0 : x.e = 0) (w tl : List UInt8) (hrest : x.rest = 60 :: (w ++ 47 :: 62 :: tl)) (hw : w.all signB = true) (hq : isQual w = true) :
    callW C 26 [.ptr r 0 0, .int .i64 d] st = some (.agg [.str w, .nils, .nils, .int .i64 x.a], st.set r (x.more.go (1 + w.length + 2)).row) := by
  have hlt := (List.getElem?_eq_some_iff.1 hr).1
  have gs : ∀ (y : Rd) (l : St), (st.set r y.row ++ l)[r]? = some y.row := fun y l => by
    rw [get_old (by simpa using hlt)]; exact List.getElem?_set_self hlt
  have gc : ∀ (y : Rd) (l : St), (st.set r y.row ++ l)[r]? = some (.cells [.str y.s, .int .i64 y.a, .int .i64 y.n, .int .i64 y.e, .int .i64 y.o] 0 0 false 56) := gs
  have g0 : ∀ l : St, (st ++ l)[r]? = some x.row := fun l => by rw [get_old hlt, hr]
  have g1 : ∀ l : St, (st ++ l)[r]? = some (.cells [.str x.s, .int .i64 x.a, .int .i64 x.n, .int .i64 x.e, .int .i64 x.o] 0 0 false 56) := g0
  have so : ∀ (y : Row) (l : St), (st ++ l).set r y = st.set r y ++ l := fun y l => set_old hlt
  have ss : ∀ (y z : Row) (l : St), (st.set r y ++ l).set r z = st.set r z ++ l := fun y z l => by
    rw [set_old (by simpa using hlt), List.set_set]
  have goodl : ∀ (y : Rd) (a b : List AV), Good (st.set r y.row ++ [.cells a 0 0 false 25, .cells b 0 0 false 25]) := fun y a b => (good_row hG r y).push (by intro q hq; simp at hq; rcases hq with rfl | rfl <;> simp [Row.top])
  have len : ∀ (y : Row), (st.set r y).length = st.length := fun y => by simp
  -- the readers on the way
  obtain ⟨x1, e1⟩ : ∃ y, y = x.more := ⟨_, rfl⟩
  obtain ⟨x2, e2⟩ : ∃ y, y = x1.go 1 := ⟨_, rfl⟩
  obtain ⟨x3, e3⟩ : ∃ y, y = x2.go w.length := ⟨_, rfl⟩
  have r1 : x1.rest = x.rest := by rw [e1]; rfl
  have r2 : x2.rest = w ++ 47 :: 62 :: tl := by rw [e2, rest_go, r1, hrest]; rfl
  have r3 : x3.rest = 47 :: 62 :: tl := by rw [e3, rest_go, r2]; simp
  have o1 : x1.Ok := by rw [e1]; exact ⟨hx.a, hx.s⟩
  have o2 : x2.Ok := by rw [e2]; exact ok_go o1 (by rw [r1, hrest]; simp)
  have o3 : x3.Ok := by rw [e3]; exact ok_go o2 (by rw [r2]; simp)
  have w2 : x2.word = w := by
    unfold Rd.word
    rw [r2, List.takeWhile_append_of_pos (by simpa using hw)]
    simp [signB, signN, isByte, isFirst]
  have n2 : x2.name = x3 := by
    unfold Rd.name
    rw [w2, hq, e3]; rfl
  have g3 : x3.gap = 0 := by unfold Rd.gap; rw [r3]; simp [isBlank]
  rw [← CW_eq, CW_is H.h26 _ (by simp)]
  simp only [List.length_cons, List.length_nil, Nat.zero_add, Nat.reduceAdd, Nat.reduceSub, List.reduceReplicate, List.cons_append, List.nil_append]
  unfold k26b
  have hx' := hx
  have c1 := rest_W H (st ++ [.cells [.str [], .nils, .nils, .int .i64 0] 0 0 false 25, .cells [.str [], .nils, .nils, .int .i64 x.a] 0 0 false 25]) r x (g0 _) hx
  have p1 : pre [60] x.rest = true := by rw [hrest]; simp [pre]
  have hn1 : IntKind.wrap .i64 ((x.n : Int) + 1) = (x1.n : Int) := by rw [wrap_i64 (by omega) (by omega), e1]; simp [Rd.more]
  have ha1 : IntKind.wrap .i64 ((x1.a : Int) + 1) = (x2.a : Int) := by
    have := hx.a; have := hx.s
    rw [e2, e1]; show IntKind.wrap .i64 ((x.a : Int) + 1) = ((x.a + 1 : Nat) : Int)
    rw [wrap_i64 (by omega) (by omega)]; omega
  have hd1 : ¬ (12 : Int) ≤ d := by omega
  have hn2 : ¬ (400 : Int) < x1.n := by rw [e1]; show ¬ (400 : Int) < ((x.n + 1 : Nat) : Int); omega
  have f1 : st.set r (.cells [.str x.s, .int .i64 x.a, .int .i64 x1.n, .int .i64 x.e, .int .i64 x.o] 0 0 false 56) = st.set r x1.row := by rw [e1]; rfl
  have f2 : st.set r (.cells [.str x1.s, .int .i64 x2.a, .int .i64 x1.n, .int .i64 x1.e, .int .i64 x1.o] 0 0 false 56) = st.set r x2.row := by rw [e2]; rfl
  have c2 := qual_W H (st.set r x2.row ++ [.cells [.str [], .nils, .nils, .int .i64 0] 0 0 false 25, .cells [.str [], .nils, .nils, .int .i64 x.a] 0 0 false 25]) r x2 (gs _ _) he o2 (goodl _ _ _)
  rw [w2, n2, ss] at c2
  have c3 := noAttrs_W H (st.set r x3.row ++ [.cells [.str [], .nils, .nils, .int .i64 0] 0 0 false 25, .cells [.str w, .nils, .nils, .int .i64 x.a] 0 0 false 25]) r x3 (gs _ _) o3 (goodl _ _ _) (.inl g3)
  rw [g3, go_zero, ss] at c3
  have c4 := is_W H (st.set r x3.row ++ [.cells [.str [], .nils, .nils, .int .i64 0] 0 0 false 25, .cells [.str w, .nils, .nils, .int .i64 x.a] 0 0 false 25]) r x3 (gs _ _) o3 [47, 62] (by simp)
  rw [show pre [47, 62] x3.rest = true by rw [r3]; simp [pre]] at c4
  simp only [if_true, ss, List.length_cons, List.length_nil, Nat.zero_add, Nat.reduceAdd] at c4
  have new0 : ∀ (y : Row) (a b : Row), (st.set r y ++ [a, b])[st.length]? = some a := fun y a b => by rw [← len y]; exact get_new0
  have new1 : ∀ (y : Row) (a b : Row), (st.set r y ++ [a, b])[st.length + 1]? = some b := fun y a b => by rw [← len y]; exact get_new1
  have sn0 : ∀ (y : Row) (a b z : Row), (st.set r y ++ [a, b]).set st.length z = st.set r y ++ [z, b] := fun y a b z => by rw [← len y]; exact set_new0
  have sn1 : ∀ (y : Row) (a b z : Row), (st.set r y ++ [a, b]).set (st.length + 1) z = st.set r y ++ [a, z] := fun y a b z => by rw [← len y]; exact set_new1
  simp only [leave0, leave_setb, leave_setn, leave_sets, leave_set0, leave_nil, evOp_faddr, evOp_store, evOp_box, evOp_mkfn, evOp_build, evOp_range, evOp_next, evParts_nil, evParts_cons, evRes_cell, loadE_ptr, rdE_cells, cut_one, cut_four, agg_one, agg_all, faddrE_ptr, storeE_ptr, wrE_one, wrE_agg4, mkfnE_some, partsE_some, consP_some, fillA_nil, fillA_one, rangeE_str, nextE_ptr, get_new0, get_new1, get_new2, get_new3, get_new4, set_new3, evOp_bslice, evOp_append, rep_one, set_new0, set_new1, set_new2, isCell_int, isCell_str, isCell_bool, isCell_ptr, isCell_nils, isCell_nilp, isCell_sl, isCell_slc, isCell_fn, hi_int, hi_str, hi_bool, hi_nils, hi_nilp, hi_sl, Option.bind_some, Option.bind_none, List.set_cons_zero, List.set_cons_succ, List.set_set, List.length_set, List.length_append, List.length_cons, List.length_nil, List.append_assoc, List.singleton_append, Nat.zero_add, Nat.add_zero, Nat.reduceLT, Nat.reduceAdd, W_skip, W_ret, W_exit, W_seq, W_block, W_cond, W_reg, thenK_norm, thenK_ret, thenK_exit, blockQ_norm, blockQ_ret, blockQ_exit, roundQ_norm, roundQ_ret, roundQ_exit, WO_nil, WO_op, WO_guard, stepQ_some, stepQ_none, guardQ_tt, guardQ_ff, guardQ_tf, guardQ_ft, guardQ_undef, condQ_true, condQ_false, retQ_norm, retQ_ret, retQ_exit, endQ_some,
    evOp_mv, evOp_pick, evOp_bin, evOp_un, evOp_conv, evOp_ext, evOp_len, evOp_ixs, evOp_load, evOp_iaddr, evOp_callE, evOp_slice, evOp_nilchk, evOp_alloc, ev_t, ev_c, ev_f, evs_nil, evs_cons, evo_none, evo_some, evRes_nil, evRes_tmp, put_none, put_zero, put_succ, get_zero, get_succ, oneOf_one, oneOf_more, oneOf_nil,
    prE_some, prE_none, pickE_true, pickE_false, binE_some, unE_not, convE_int, convE_same, convE_bytes, extE_tup, lenE_str, lenE_nils, lenE_slc, lenE_sl, ixsE_str, ixsE_zero, loadE_one, iaddrE_some, callE_f, consO_some, sliceE_some, nilE_ptr, nilE_cptr, nilE_fn,
    bin_add, bin_sub, bin_mul, bin_eql, bin_neq, bin_lss, bin_leq, bin_gtr, bin_geq, bin_seq, bin_sne, bin_beq, bin_bne, aIndexAddr_sl, leave_bool, leave_int, leave_str, leave_tup, his_nil, his_bool, his_int, his_str, Option.map_some, Option.map_none, List.cons_append, List.nil_append, List.append_nil, decide_true, decide_false, Bool.not_true, Bool.not_false, Bool.false_eq_true, if_true, if_false, ↓reduceIte, reduceCtorEq, Nat.reduceAdd, Nat.reduceEqDiff, Nat.reduceBEq, cast0, true_and, and_true, eq_self, List.getElem?_cons_zero, List.getElem?_cons_succ, g1, c1, hasPrefix_W H, p1, hn1, so, f1, gc, hd1, hn2, ha1, ss, f2, c2, new0, new1, sn0, sn1, c3, c4]
  rw [leave_drop (by simp) (good_row hG r _) (by simp [AV.hi, AV.his])]
  have e9 : x3.go 2 = x.more.go (1 + w.length + 2) := by
    rw [e3, e2, e1]
    simp only [Rd.go, Rd.more, Nat.add_assoc]
  rw [e9]
  exact ⟨rfl, rfl⟩
end
end Go.Eng

