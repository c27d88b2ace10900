/-
  Texts of a proof. Conditions: none.
-/
import Derived.Test.YtolhindhmljgdaaGreatDoorVPlainW
set_option linter.unusedVariables false
set_option linter.unusedSimpArgs false
set_option linter.unnecessarySimpa false
set_option linter.unusedSectionVars false
namespace Go.Eng
open Go
open Go.Eng renaming aIndexAddr_sl → Zaa, blockQ_exit → Zab, blockQ_norm → Zac, condQ_false → Zad, convE_bytes → Zae, evOp_nilchk → Zaf, guardQ_undef → Zag, iaddrE_some → Zah, pickE_false → Zai, roundQ_exit → Zaj, roundQ_norm → Zak, sliceE_some → Zal
set_option maxHeartbeats 4000000
set_option maxRecDepth 8000
set_option linter.unusedSimpArgs false
set_option linter.unusedVariables false
set_option linter.unusedSectionVars false

def attrsT (as : List (List UInt8 × List UInt8)) : List UInt8 := as.flatMap attrT
theorem attrsT_len : ∀ (as : List (List UInt8 × List UInt8)), (∀ p ∈ as, p.1.length ≤ 100 ∧ p.2.length ≤ 1000) → (attrsT as).length ≤ as.length * 10000
  | [], _ => by simp [attrsT]
  | p :: as, h => by
    have ih := attrsT_len as (fun q hq => h q (by simp [hq]))
    have hp := h p (by simp)
    have he := esc_len p.2
    have e : attrsT (p :: as) = attrT p ++ attrsT as := rfl
    rw [e, List.length_append, List.length_cons, Nat.add_mul, Nat.one_mul]
    have : (attrT p).length ≤ 10000 := by simp [attrT]; omega
    omega

section
variable {C : Ctx} (H : Codes C)
include H

theorem printLeaf_W (h61 : C.fns 61 = some (.ext xNoEscape)) (h42 : C.fns 42 = some (.ext xReplace)) (st : St) (hG : Good st) (n : List UInt8) (hn : n.length ≤ 100) (as : List (List UInt8 × List UInt8)) (hlen : as.length ≤ 80) (hall : ∀ p ∈ as, p.1.length ≤ 100 ∧ p.2.length ≤ 1000) (ex : Bool) (p : AV) (hp : p.isCell = true) (hp2 : p.hi = 0) :
    callW C 13 [.agg [.str n, .sl 2 (as.map attrC) ex, .nils, p]] st = some (.str ((60 :: n) ++ attrsT as ++ [47, 62]), st) := by
  obtain ⟨E, hE⟩ : ∃ E : Row, E = .cells [.str n, .sl 2 (as.map attrC) ex, .nils, p] 0 0 false 25 := ⟨_, rfl⟩
  have hbox : boxE 25 (some (.agg [.str n, .sl 2 (as.map attrC) ex, .nils, p])) st = some (.ptr st.length 0 0, st ++ [E]) := by
    rw [boxE_agg _ _ _ (by simp [AV.isCell, hp] <;> exact hp), hE]
    simp [AV.his, AV.hi, hp2]
  obtain ⟨base, hbase⟩ : ∃ base, st ++ [E] = base := ⟨_, rfl⟩
  have hb0 : ∀ l : St, (base ++ l)[st.length]? = some E := fun l => by
    rw [← hbase, List.append_assoc]; exact get_new0
  have hM0 : ∀ g w l, (bM base g w l)[st.length]? = some E := fun g w l => hb0 _
  have rd0 : ∀ s : St, rdE (some E) 0 0 1 false s = some (.str n, s) := fun s => by rw [hE]; rfl
  have rd1 : ∀ s : St, rdE (some E) 1 0 1 false s = some (.sl 2 (as.map attrC) ex, s) := fun s => by rw [hE]; rfl
  have rd2 : ∀ s : St, rdE (some E) 2 0 1 false s = some (.nils, s) := fun s => by rw [hE]; rfl
  have ad : ∀ s : St, aBin s .add .s (.str [60]) (.str n) = some (.str (60 :: n)) := fun s => bin_sadd _ _ _ (by simp; omega)
  obtain ⟨g1, hw⟩ := write_W H base h61 false 0 [] (60 :: n) (by simp; omega)
  rw [List.nil_append, bM_of _ _ _ (by simp)] at hw
  have e0 : bR base.length false 0 [] = [.cells [.nilp, .nils] 0 0 false 47] := rfl
  rw [e0] at hw
  have hal := attrsT_len as hall
  have hT : (60 :: n ++ attrsT as).length ≤ 900000 := by simp; omega
  have ad2 : ∀ s : St, aBin s .add .s (.str (60 :: (n ++ attrsT as))) (.str [47, 62]) = some (.str (60 :: (n ++ (attrsT as ++ [47, 62])))) := fun s => by
    rw [bin_sadd _ _ _ (by simp at hT ⊢; omega)]; simp
  rw [← CW_eq, CW_is H.h13 _ (by simp)]
  simp only [List.length_cons, List.length_nil, Nat.zero_add, Nat.reduceAdd, Nat.reduceSub, List.reduceReplicate, List.cons_append, List.nil_append]
  unfold k13b
  have hlenb : base.length = st.length + 1 := by rw [← hbase]; simp
  have hw2 : callW C 22 [.ptr (st.length + 1) 0 0, .str (60 :: n)] (st ++ [E, .cells [.nilp, .nils] 0 0 false 47]) = some (.tup [.int .i64 (60 :: n).length, .nili], bM base g1 (60 :: n) []) := by
    rw [← hlenb, ← hw, ← hbase]; simp
  simp only [leave0, leave_setb, leave_setn, leave_sets, leave_set0, leave_nil, evOp_faddr, evOp_store, evOp_box, evOp_mkfn, evOp_build, evOp_range, evOp_next, evParts_nil, evParts_cons, evRes_cell, loadE_ptr, rdE_cells, cut_one, cut_four, agg_one, agg_all, faddrE_ptr, storeE_ptr, wrE_one, wrE_agg4, mkfnE_some, partsE_some, consP_some, fillA_nil, fillA_one, rangeE_str, nextE_ptr, get_new0, get_new1, get_new2, get_new3, get_new4, set_new3, evOp_bslice, evOp_append, rep_one, set_new0, set_new1, set_new2, isCell_int, isCell_str, isCell_bool, isCell_ptr, isCell_nils, isCell_nilp, isCell_sl, isCell_slc, isCell_fn, hi_int, hi_str, hi_bool, hi_nils, hi_nilp, hi_sl, Option.bind_some, Option.bind_none, List.set_cons_zero, List.set_cons_succ, List.set_set, List.length_set, List.length_append, List.length_cons, List.length_nil, List.append_assoc, List.singleton_append, Nat.zero_add, Nat.add_zero, Nat.reduceLT, Nat.reduceAdd, W_skip, W_ret, W_exit, W_seq, W_block, W_cond, W_reg, thenK_norm, thenK_ret, thenK_exit, Zac, blockQ_ret, Zab, Zak, roundQ_ret, Zaj, WO_nil, WO_op, WO_guard, stepQ_some, stepQ_none, guardQ_tt, guardQ_ff, guardQ_tf, guardQ_ft, Zag, condQ_true, Zad, retQ_norm, retQ_ret, retQ_exit, endQ_some,
    evOp_mv, evOp_pick, evOp_bin, evOp_un, evOp_conv, evOp_ext, evOp_len, evOp_ixs, evOp_load, evOp_iaddr, evOp_callE, evOp_slice, Zaf, evOp_alloc, ev_t, ev_c, ev_f, evs_nil, evs_cons, evo_none, evo_some, evRes_nil, evRes_tmp, put_none, put_zero, put_succ, get_zero, get_succ, oneOf_one, oneOf_more, oneOf_nil,
    prE_some, prE_none, pickE_true, Zai, binE_some, unE_not, convE_int, convE_same, Zae, extE_tup, lenE_str, lenE_nils, lenE_slc, lenE_sl, ixsE_str, ixsE_zero, loadE_one, Zah, callE_f, consO_some, Zal, nilE_ptr, nilE_cptr, nilE_fn,
    bin_add, bin_sub, bin_mul, bin_eql, bin_neq, bin_lss, bin_leq, bin_gtr, bin_geq, bin_seq, bin_sne, bin_beq, bin_bne, Zaa, leave_bool, leave_int, leave_str, leave_tup, his_nil, his_bool, his_int, his_str, Option.map_some, Option.map_none, List.cons_append, List.nil_append, List.append_nil, decide_true, decide_false, Bool.not_true, Bool.not_false, Bool.false_eq_true, if_true, if_false, ↓reduceIte, reduceCtorEq, Nat.reduceAdd, Nat.reduceEqDiff, Nat.reduceBEq, cast0, true_and, and_true, eq_self, List.getElem?_cons_zero, List.getElem?_cons_succ, hbox, rd0, ad, hw2, hM0, rd1, List.length_map, lenE_sl]
  refine printA_loop H h61 h42 base _ ex as (by omega) hall (.ptr st.length 0 0) as.length 0 g1 (60 :: n) [] _ (by omega) (by simp) (by simp; omega) ?_ ?_ ?_ ?_ ?_ ?_ ?_
  · rfl
  · rfl
  · rw [hlenb]; rfl
  · rfl
  · rfl
  · rfl
  intro e g' l' e1 e2 e3
  rw [List.drop_zero]
  obtain ⟨l2, hs, _⟩ := string_tail H base g' (60 :: n ++ attrsT as) l' (by simp) (by omega)
  have hs2 : callW C 24 [.ptr base.length 0 0] (bM base g' (60 :: (n ++ as.flatMap attrT)) l') = some (.str (60 :: (n ++ attrsT as)), base ++ l2) := hs
  simp only [leave0, leave_setb, leave_setn, leave_sets, leave_set0, leave_nil, evOp_faddr, evOp_store, evOp_box, evOp_mkfn, evOp_build, evOp_range, evOp_next, evParts_nil, evParts_cons, evRes_cell, loadE_ptr, rdE_cells, cut_one, cut_four, agg_one, agg_all, faddrE_ptr, storeE_ptr, wrE_one, wrE_agg4, mkfnE_some, partsE_some, consP_some, fillA_nil, fillA_one, rangeE_str, nextE_ptr, get_new0, get_new1, get_new2, get_new3, get_new4, set_new3, evOp_bslice, evOp_append, rep_one, set_new0, set_new1, set_new2, isCell_int, isCell_str, isCell_bool, isCell_ptr, isCell_nils, isCell_nilp, isCell_sl, isCell_slc, isCell_fn, hi_int, hi_str, hi_bool, hi_nils, hi_nilp, hi_sl, Option.bind_some, Option.bind_none, List.set_cons_zero, List.set_cons_succ, List.set_set, List.length_set, List.length_append, List.length_cons, List.length_nil, List.append_assoc, List.singleton_append, Nat.zero_add, Nat.add_zero, Nat.reduceLT, Nat.reduceAdd, W_skip, W_ret, W_exit, W_seq, W_block, W_cond, W_reg, thenK_norm, thenK_ret, thenK_exit, Zac, blockQ_ret, Zab, Zak, roundQ_ret, Zaj, WO_nil, WO_op, WO_guard, stepQ_some, stepQ_none, guardQ_tt, guardQ_ff, guardQ_tf, guardQ_ft, Zag, condQ_true, Zad, retQ_norm, retQ_ret, retQ_exit, endQ_some,
    evOp_mv, evOp_pick, evOp_bin, evOp_un, evOp_conv, evOp_ext, evOp_len, evOp_ixs, evOp_load, evOp_iaddr, evOp_callE, evOp_slice, Zaf, evOp_alloc, ev_t, ev_c, ev_f, evs_nil, evs_cons, evo_none, evo_some, evRes_nil, evRes_tmp, put_none, put_zero, put_succ, get_zero, get_succ, oneOf_one, oneOf_more, oneOf_nil,
    prE_some, prE_none, pickE_true, Zai, binE_some, unE_not, convE_int, convE_same, Zae, extE_tup, lenE_str, lenE_nils, lenE_slc, lenE_sl, ixsE_str, ixsE_zero, loadE_one, Zah, callE_f, consO_some, Zal, nilE_ptr, nilE_cptr, nilE_fn,
    bin_add, bin_sub, bin_mul, bin_eql, bin_neq, bin_lss, bin_leq, bin_gtr, bin_geq, bin_seq, bin_sne, bin_beq, bin_bne, Zaa, leave_bool, leave_int, leave_str, leave_tup, his_nil, his_bool, his_int, his_str, Option.map_some, Option.map_none, List.cons_append, List.nil_append, List.append_nil, decide_true, decide_false, Bool.not_true, Bool.not_false, Bool.false_eq_true, if_true, if_false, ↓reduceIte, reduceCtorEq, Nat.reduceAdd, Nat.reduceEqDiff, Nat.reduceBEq, cast0, true_and, and_true, eq_self, List.getElem?_cons_zero, List.getElem?_cons_succ, get_put_eq, get_put_ne, Env.put_length, Nat.reduceLT, W_skip, W_ret, W_exit, W_seq, W_block, W_cond, W_reg, thenK_norm, thenK_ret, thenK_exit, Zac, blockQ_ret, Zab, Zak, roundQ_ret, Zaj, WO_nil, WO_op, WO_guard, stepQ_some, stepQ_none, guardQ_tt, guardQ_ff, guardQ_tf, guardQ_ft, Zag, condQ_true, Zad, retQ_norm, retQ_ret, retQ_exit, endQ_some,
    evOp_mv, evOp_pick, evOp_bin, evOp_un, evOp_conv, evOp_ext, evOp_len, evOp_ixs, evOp_load, evOp_iaddr, evOp_callE, evOp_slice, Zaf, evOp_alloc, ev_t, ev_c, ev_f, evs_nil, evs_cons, evo_none, evo_some, evRes_nil, evRes_tmp, put_none, put_zero, put_succ, get_zero, get_succ, oneOf_one, oneOf_more, oneOf_nil,
    prE_some, prE_none, pickE_true, Zai, binE_some, unE_not, convE_int, convE_same, Zae, extE_tup, lenE_str, lenE_nils, lenE_slc, lenE_sl, ixsE_str, ixsE_zero, loadE_one, Zah, callE_f, consO_some, Zal, nilE_ptr, nilE_cptr, nilE_fn,
    bin_add, bin_sub, bin_mul, bin_eql, bin_neq, bin_lss, bin_leq, bin_gtr, bin_geq, bin_seq, bin_sne, bin_beq, bin_bne, Zaa, leave_bool, leave_int, leave_str, leave_tup, his_nil, his_bool, his_int, his_str, Option.map_some, Option.map_none, List.cons_append, List.nil_append, List.append_nil, decide_true, decide_false, Bool.not_true, Bool.not_false, Bool.false_eq_true, if_true, if_false, ↓reduceIte, reduceCtorEq, Nat.reduceAdd, Nat.reduceEqDiff, Nat.reduceBEq, cast0, true_and, and_true, eq_self, List.getElem?_cons_zero, List.getElem?_cons_succ, e1, e2, e3, hM0, rd2, hs2, ad2]
  rw [← hbase, List.append_assoc, leave_drop rfl hG (by simp [AV.hi])]
  exact ⟨rfl, rfl⟩
end
end Go.Eng

