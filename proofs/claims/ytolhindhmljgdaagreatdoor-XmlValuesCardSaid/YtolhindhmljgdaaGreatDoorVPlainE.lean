/-
  Texts of a proof. Conditions: none.
-/
import Derived.Test.YtolhindhmljgdaaGreatDoorVPlainD
set_option linter.unusedVariables false
set_option linter.unusedSimpArgs false
set_option linter.unnecessarySimpa false
set_option linter.unusedSectionVars false
namespace Go.Eng
open Go
open Go.Eng renaming WO_guard → Zaa, WO_nil → Zab, WO_op → Zac, W_block → Zad, W_cond → Zae, W_exit → Zaf, W_reg → Zag, W_ret → Zah, W_seq → Zai, W_skip → Zaj, aIndexAddr_sl → Zak, agg_all → Zal, agg_one → Zam, binE_some → Zan, bin_add → Zao, bin_beq → Zap, bin_bne → Zaq, bin_eql → Zar, bin_geq → Zas, bin_gtr → Zat, bin_leq → Zau, bin_lss → Zav, bin_mul → Zaw, bin_neq → Zax, bin_seq → Zay, bin_sne → Zaz, bin_sub → Za0, blockQ_exit → Za1, blockQ_norm → Za2, blockQ_ret → Za3, callE_f → Za4, cast0 → Za5, condQ_false → Za6, condQ_true → Za7, consO_some → Za8, consP_some → Za9, convE_bytes → Zba, convE_int → Zbb, convE_same → Zbc, cut_four → Zbd, cut_one → Zbe, endQ_some → Zbf, evOp_alloc → Zbg, evOp_append → Zbh, evOp_bin → Zbi, evOp_box → Zbj, evOp_bslice → Zbk, evOp_build → Zbl, evOp_callE → Zbm, evOp_conv → Zbn, evOp_ext → Zbo, evOp_faddr → Zbp, evOp_iaddr → Zbq, evOp_ixs → Zbr, evOp_len → Zbs, evOp_load → Zbt, evOp_mkfn → Zbu, evOp_mv → Zbv, evOp_next → Zbw, evOp_nilchk → Zbx, evOp_pick → Zby, evOp_range → Zbz, evOp_slice → Zb0, evOp_store → Zb1, evOp_un → Zb2, evParts_cons → Zb3, evParts_nil → Zb4, evRes_cell → Zb5, evRes_nil → Zb6, evRes_tmp → Zb7, evo_none → Zb8, evo_some → Zb9, evs_cons → Zca, evs_nil → Zcb, extE_tup → Zcc, faddrE_ptr → Zcd, fillA_nil → Zce, fillA_one → Zcf, get_new0 → Zcg, get_new1 → Zch, get_new2 → Zci, get_new3 → Zcj, get_new4 → Zck, get_succ → Zcl, get_zero → Zcm, guardQ_ff → Zcn, guardQ_ft → Zco, guardQ_tf → Zcp, guardQ_tt → Zcq, guardQ_undef → Zcr, hi_bool → Zcs, hi_int → Zct, hi_nilp → Zcu, hi_nils → Zcv, hi_sl → Zcw, hi_str → Zcx, his_bool → Zcy, his_int → Zcz, his_nil → Zc0, his_str → Zc1, iaddrE_some → Zc2, isCell_bool → Zc3, isCell_fn → Zc4, isCell_int → Zc5, isCell_nilp → Zc6, isCell_nils → Zc7, isCell_ptr → Zc8, isCell_sl → Zc9, isCell_slc → Zda, isCell_str → Zdb, ixsE_str → Zdc, ixsE_zero → Zdd, leave0 → Zde, leave_bool → Zdf, leave_int → Zdg, leave_nil → Zdh, leave_set0 → Zdi, leave_setb → Zdj, leave_setn → Zdk, leave_sets → Zdl, leave_str → Zdm, leave_tup → Zdn, lenE_nils → Zdo, lenE_sl → Zdp, lenE_slc → Zdq, lenE_str → Zdr, loadE_one → Zds, loadE_ptr → Zdt, mkfnE_some → Zdu, nextE_ptr → Zdv, nilE_cptr → Zdw, nilE_fn → Zdx, nilE_ptr → Zdy, oneOf_more → Zdz, oneOf_nil → Zd0, oneOf_one → Zd1, partsE_some → Zd2, pickE_false → Zd3, pickE_true → Zd4, prE_none → Zd5, prE_some → Zd6, put_none → Zd7, put_succ → Zd8, put_zero → Zd9, rangeE_str → Zea, rdE_cells → Zeb, rep_one → Zec, retQ_exit → Zed, retQ_norm → Zee, retQ_ret → Zef, roundQ_exit → Zeg, roundQ_norm → Zeh, roundQ_ret → Zei, set_new0 → Zej, set_new1 → Zek, set_new2 → Zel, set_new3 → Zem, sliceE_some → Zen, stepQ_none → Zeo, stepQ_some → Zep, storeE_ptr → Zeq, thenK_exit → Zer, thenK_norm → Zes, thenK_ret → Zet, unE_not → Zeu, wrE_agg4 → Zev, wrE_one → Zew
set_option maxHeartbeats 1000000
set_option maxRecDepth 4000
set_option linter.unusedSimpArgs false
set_option linter.unusedVariables false
set_option linter.unusedSectionVars false

theorem ok_go {x : Rd} (h : x.Ok) {n : Nat} (hn : n ≤ x.rest.length) : (x.go n).Ok := by
  have := rest_le2 x h
  exact ⟨by show x.a + n ≤ x.s.length; omega, h.s⟩
theorem gap_le (x : Rd) : x.gap ≤ x.rest.length := take_le _
theorem rest_go (x : Rd) (n : Nat) : (x.go n).rest = x.rest.drop n := by
  unfold Rd.rest Rd.go
  by_cases h : x.e = 0
  · simp [h]
  · simp [h]
theorem gap_rest (x : Rd) : (x.go x.gap).rest = noBlank x.rest := by
  rw [rest_go]; exact drop_take _
theorem drop_twice {p : UInt8 → Bool} : ∀ (s : List UInt8), ((s.dropWhile p).takeWhile p) = []
  | [] => rfl
  | c :: l => by
    cases h : p c
    · simp [List.dropWhile_cons, List.takeWhile_cons, h]
    · simp only [List.dropWhile_cons, h, if_true]; exact drop_twice l
theorem gap_gap (x : Rd) : (x.go x.gap).gap = 0 := by
  show ((x.go x.gap).rest.takeWhile isBlank).length = 0
  rw [gap_rest]
  unfold noBlank
  rw [drop_twice]
  rfl
theorem noBlank_twice (s : List UInt8) : noBlank (noBlank s) = noBlank s := by
  have := drop_take (p := isBlank) (s.dropWhile isBlank)
  rw [drop_twice] at this
  exact this.symm
theorem go_zero (x : Rd) : x.go 0 = x := by cases x; rfl
theorem good_row {st : St} (h : Good st) (r : Nat) (x : Rd) : Good (st.set r x.row) := h.set (by rw [row_top]; exact Nat.zero_le _)

section
variable {C : Ctx} (H : Codes C) (he : C.fns 113 = some (.ext xIndexByte)) (st : St) (r : Nat) (x : Rd) (hr : st[r]? = some x.row) (hx : x.Ok) (hG : Good st)
include H hr hx hG

/-- No remark stands there: the blanks go. -/
theorem remarks_W (hno : pre [60, 33, 45, 45] (noBlank x.rest) = false) : callW C 27 [.ptr r 0 0] st = some (.tup [], st.set r (x.go x.gap).row) := by
  have hlt := (List.getElem?_eq_some_iff.1 hr).1
  rw [← CW_eq, CW_is H.h27 _ (by simp)]
  simp only [List.length_cons, List.length_nil, Nat.zero_add, Nat.reduceAdd, Nat.reduceSub, List.reduceReplicate, List.cons_append, List.nil_append]
  unfold k27b
  have stop : ∀ (st : St) (x : Rd) (env : Env) (Q : Ex → Env → St → Prop), st[r]? = some x.row → x.Ok → Good st → pre [60, 33, 45, 45] (noBlank x.rest) = false → x.gap = 0 → env.length = 59 → env.get 0 = .ptr r 0 0 → (∀ e : Env, Q (.exit 0) e st) → W C k27l0 env st Q := by
    intro st x env Q hr hx hG hno hg hl h0 hq
    have hb := blanks_W H st r x hr hx hG
    rw [hg, go_zero, set_same hr] at hb
    have hrest := rest_W H st r x hr hx
    have hnb : noBlank x.rest = x.rest := by rw [← gap_rest, hg, go_zero]
    rw [hnb] at hno
    rw [W_loop' (show k27l0 = .loop k27l0b from rfl)]
    unfold k27l0b
    simp only [Zde, Zdj, Zdk, Zdl, Zdi, Zdh, Zbp, Zb1, Zbj, Zbu, Zbl, Zbz, Zbw, Zb4, Zb3, Zb5, Zdt, Zeb, Zbe, Zbd, Zam, Zal, Zcd, Zeq, Zew, Zev, Zdu, Zd2, Za9, Zce, Zcf, Zea, Zdv, Zcg, Zch, Zci, Zcj, Zck, Zem, Zbk, Zbh, Zec, Zej, Zek, Zel, Zc5, Zdb, Zc3, Zc8, Zc7, Zc6, Zc9, Zda, Zc4, Zct, Zcx, Zcs, Zcv, Zcu, Zcw, Option.bind_some, Option.bind_none, List.set_cons_zero, List.set_cons_succ, List.set_set, List.length_set, List.length_append, List.length_cons, List.length_nil, List.append_assoc, List.singleton_append, Nat.zero_add, Nat.add_zero, Nat.reduceLT, Nat.reduceAdd, Zaj, Zah, Zaf, Zai, Zad, Zae, Zag, Zes, Zet, Zer, Za2, Za3, Za1, Zeh, Zei, Zeg, Zab, Zac, Zaa, Zep, Zeo, Zcq, Zcn, Zcp, Zco, Zcr, Za7, Za6, Zee, Zef, Zed, Zbf,
    Zbv, Zby, Zbi, Zb2, Zbn, Zbo, Zbs, Zbr, Zbt, Zbq, Zbm, Zb0, Zbx, Zbg, ev_t, ev_c, ev_f, Zcb, Zca, Zb8, Zb9, Zb6, Zb7, Zd7, Zd9, Zd8, Zcm, Zcl, Zd1, Zdz, Zd0,
    Zd6, Zd5, Zd4, Zd3, Zan, Zeu, Zbb, Zbc, Zba, Zcc, Zdr, Zdo, Zdq, Zdp, Zdc, Zdd, Zds, Zc2, Za4, Za8, Zen, Zdy, Zdw, Zdx,
    Zao, Za0, Zaw, Zar, Zax, Zav, Zau, Zat, Zas, Zay, Zaz, Zap, Zaq, Zak, Zdf, Zdg, Zdm, Zdn, Zc0, Zcy, Zcz, Zc1, Option.map_some, Option.map_none, List.cons_append, List.nil_append, List.append_nil, decide_true, decide_false, Bool.not_true, Bool.not_false, Bool.false_eq_true, if_true, if_false, ↓reduceIte, reduceCtorEq, Nat.reduceAdd, Nat.reduceEqDiff, Nat.reduceBEq, Za5, true_and, and_true, eq_self, List.getElem?_cons_zero, List.getElem?_cons_succ, get_put_eq, get_put_ne, Env.put_length, Nat.reduceLT, Zaj, Zah, Zaf, Zai, Zad, Zae, Zag, Zes, Zet, Zer, Za2, Za3, Za1, Zeh, Zei, Zeg, Zab, Zac, Zaa, Zep, Zeo, Zcq, Zcn, Zcp, Zco, Zcr, Za7, Za6, Zee, Zef, Zed, Zbf,
    Zbv, Zby, Zbi, Zb2, Zbn, Zbo, Zbs, Zbr, Zbt, Zbq, Zbm, Zb0, Zbx, Zbg, ev_t, ev_c, ev_f, Zcb, Zca, Zb8, Zb9, Zb6, Zb7, Zd7, Zd9, Zd8, Zcm, Zcl, Zd1, Zdz, Zd0,
    Zd6, Zd5, Zd4, Zd3, Zan, Zeu, Zbb, Zbc, Zba, Zcc, Zdr, Zdo, Zdq, Zdp, Zdc, Zdd, Zds, Zc2, Za4, Za8, Zen, Zdy, Zdw, Zdx,
    Zao, Za0, Zaw, Zar, Zax, Zav, Zau, Zat, Zas, Zay, Zaz, Zap, Zaq, Zak, Zdf, Zdg, Zdm, Zdn, Zc0, Zcy, Zcz, Zc1, Option.map_some, Option.map_none, List.cons_append, List.nil_append, List.append_nil, decide_true, decide_false, Bool.not_true, Bool.not_false, Bool.false_eq_true, if_true, if_false, ↓reduceIte, reduceCtorEq, Nat.reduceAdd, Nat.reduceEqDiff, Nat.reduceBEq, Za5, true_and, and_true, eq_self, List.getElem?_cons_zero, List.getElem?_cons_succ, hl, h0, hb, hrest, hasPrefix_W H, hno, Nat.lt_irrefl]
    exact hq _
  by_cases hg : x.gap = 0
  · simp only [Zde, Zdj, Zdk, Zdl, Zdi, Zdh, Zbp, Zb1, Zbj, Zbu, Zbl, Zbz, Zbw, Zb4, Zb3, Zb5, Zdt, Zeb, Zbe, Zbd, Zam, Zal, Zcd, Zeq, Zew, Zev, Zdu, Zd2, Za9, Zce, Zcf, Zea, Zdv, Zcg, Zch, Zci, Zcj, Zck, Zem, Zbk, Zbh, Zec, Zej, Zek, Zel, Zc5, Zdb, Zc3, Zc8, Zc7, Zc6, Zc9, Zda, Zc4, Zct, Zcx, Zcs, Zcv, Zcu, Zcw, Option.bind_some, Option.bind_none, List.set_cons_zero, List.set_cons_succ, List.set_set, List.length_set, List.length_append, List.length_cons, List.length_nil, List.append_assoc, List.singleton_append, Nat.zero_add, Nat.add_zero, Nat.reduceLT, Nat.reduceAdd, Zaj, Zah, Zaf, Zai, Zad, Zae, Zag, Zes, Zet, Zer, Za2, Za3, Za1, Zeh, Zei, Zeg, Zab, Zac, Zaa, Zep, Zeo, Zcq, Zcn, Zcp, Zco, Zcr, Za7, Za6, Zee, Zef, Zed, Zbf,
    Zbv, Zby, Zbi, Zb2, Zbn, Zbo, Zbs, Zbr, Zbt, Zbq, Zbm, Zb0, Zbx, Zbg, ev_t, ev_c, ev_f, Zcb, Zca, Zb8, Zb9, Zb6, Zb7, Zd7, Zd9, Zd8, Zcm, Zcl, Zd1, Zdz, Zd0,
    Zd6, Zd5, Zd4, Zd3, Zan, Zeu, Zbb, Zbc, Zba, Zcc, Zdr, Zdo, Zdq, Zdp, Zdc, Zdd, Zds, Zc2, Za4, Za8, Zen, Zdy, Zdw, Zdx,
    Zao, Za0, Zaw, Zar, Zax, Zav, Zau, Zat, Zas, Zay, Zaz, Zap, Zaq, Zak, Zdf, Zdg, Zdm, Zdn, Zc0, Zcy, Zcz, Zc1, Option.map_some, Option.map_none, List.cons_append, List.nil_append, List.append_nil, decide_true, decide_false, Bool.not_true, Bool.not_false, Bool.false_eq_true, if_true, if_false, ↓reduceIte, reduceCtorEq, Nat.reduceAdd, Nat.reduceEqDiff, Nat.reduceBEq, Za5, true_and, and_true, eq_self, List.getElem?_cons_zero, List.getElem?_cons_succ]
    rw [hg, go_zero, set_same hr]
    refine stop st x _ _ hr hx hG hno hg rfl rfl ?_
    intro e
    simp only [Zde, Zdj, Zdk, Zdl, Zdi, Zdh, Zbp, Zb1, Zbj, Zbu, Zbl, Zbz, Zbw, Zb4, Zb3, Zb5, Zdt, Zeb, Zbe, Zbd, Zam, Zal, Zcd, Zeq, Zew, Zev, Zdu, Zd2, Za9, Zce, Zcf, Zea, Zdv, Zcg, Zch, Zci, Zcj, Zck, Zem, Zbk, Zbh, Zec, Zej, Zek, Zel, Zc5, Zdb, Zc3, Zc8, Zc7, Zc6, Zc9, Zda, Zc4, Zct, Zcx, Zcs, Zcv, Zcu, Zcw, Option.bind_some, Option.bind_none, List.set_cons_zero, List.set_cons_succ, List.set_set, List.length_set, List.length_append, List.length_cons, List.length_nil, List.append_assoc, List.singleton_append, Nat.zero_add, Nat.add_zero, Nat.reduceLT, Nat.reduceAdd, Zaj, Zah, Zaf, Zai, Zad, Zae, Zag, Zes, Zet, Zer, Za2, Za3, Za1, Zeh, Zei, Zeg, Zab, Zac, Zaa, Zep, Zeo, Zcq, Zcn, Zcp, Zco, Zcr, Za7, Za6, Zee, Zef, Zed, Zbf,
    Zbv, Zby, Zbi, Zb2, Zbn, Zbo, Zbs, Zbr, Zbt, Zbq, Zbm, Zb0, Zbx, Zbg, ev_t, ev_c, ev_f, Zcb, Zca, Zb8, Zb9, Zb6, Zb7, Zd7, Zd9, Zd8, Zcm, Zcl, Zd1, Zdz, Zd0,
    Zd6, Zd5, Zd4, Zd3, Zan, Zeu, Zbb, Zbc, Zba, Zcc, Zdr, Zdo, Zdq, Zdp, Zdc, Zdd, Zds, Zc2, Za4, Za8, Zen, Zdy, Zdw, Zdx,
    Zao, Za0, Zaw, Zar, Zax, Zav, Zau, Zat, Zas, Zay, Zaz, Zap, Zaq, Zak, Zdf, Zdg, Zdm, Zdn, Zc0, Zcy, Zcz, Zc1, Option.map_some, Option.map_none, List.cons_append, List.nil_append, List.append_nil, decide_true, decide_false, Bool.not_true, Bool.not_false, Bool.false_eq_true, if_true, if_false, ↓reduceIte, reduceCtorEq, Nat.reduceAdd, Nat.reduceEqDiff, Nat.reduceBEq, Za5, true_and, and_true, eq_self, List.getElem?_cons_zero, List.getElem?_cons_succ]
  · have hb := blanks_W H st r x hr hx hG
    have hpos : 0 < x.gap := by omega
    have hr1 : (st.set r (x.go x.gap).row)[r]? = some (x.go x.gap).row := List.getElem?_set_self hlt
    have hr2 : (st.set r (x.go x.gap).row)[r]? = some (.cells [.str x.s, .int .i64 (x.a + x.gap : Nat), .int .i64 x.n, .int .i64 x.e, .int .i64 x.o] 0 0 false 56) := hr1
    have hx1 := ok_go hx (gap_le x)
    have his := is_W H _ r _ hr1 hx1 [60, 33, 45, 45] (by simp)
    rw [gap_rest, hno] at his
    simp only [Bool.false_eq_true, if_false, List.set_set] at his
    simp only [Zde, Zdj, Zdk, Zdl, Zdi, Zdh, Zbp, Zb1, Zbj, Zbu, Zbl, Zbz, Zbw, Zb4, Zb3, Zb5, Zdt, Zeb, Zbe, Zbd, Zam, Zal, Zcd, Zeq, Zew, Zev, Zdu, Zd2, Za9, Zce, Zcf, Zea, Zdv, Zcg, Zch, Zci, Zcj, Zck, Zem, Zbk, Zbh, Zec, Zej, Zek, Zel, Zc5, Zdb, Zc3, Zc8, Zc7, Zc6, Zc9, Zda, Zc4, Zct, Zcx, Zcs, Zcv, Zcu, Zcw, Option.bind_some, Option.bind_none, List.set_cons_zero, List.set_cons_succ, List.set_set, List.length_set, List.length_append, List.length_cons, List.length_nil, List.append_assoc, List.singleton_append, Nat.zero_add, Nat.add_zero, Nat.reduceLT, Nat.reduceAdd, Zaj, Zah, Zaf, Zai, Zad, Zae, Zag, Zes, Zet, Zer, Za2, Za3, Za1, Zeh, Zei, Zeg, Zab, Zac, Zaa, Zep, Zeo, Zcq, Zcn, Zcp, Zco, Zcr, Za7, Za6, Zee, Zef, Zed, Zbf,
    Zbv, Zby, Zbi, Zb2, Zbn, Zbo, Zbs, Zbr, Zbt, Zbq, Zbm, Zb0, Zbx, Zbg, ev_t, ev_c, ev_f, Zcb, Zca, Zb8, Zb9, Zb6, Zb7, Zd7, Zd9, Zd8, Zcm, Zcl, Zd1, Zdz, Zd0,
    Zd6, Zd5, Zd4, Zd3, Zan, Zeu, Zbb, Zbc, Zba, Zcc, Zdr, Zdo, Zdq, Zdp, Zdc, Zdd, Zds, Zc2, Za4, Za8, Zen, Zdy, Zdw, Zdx,
    Zao, Za0, Zaw, Zar, Zax, Zav, Zau, Zat, Zas, Zay, Zaz, Zap, Zaq, Zak, Zdf, Zdg, Zdm, Zdn, Zc0, Zcy, Zcz, Zc1, Option.map_some, Option.map_none, List.cons_append, List.nil_append, List.append_nil, decide_true, decide_false, Bool.not_true, Bool.not_false, Bool.false_eq_true, if_true, if_false, ↓reduceIte, reduceCtorEq, Nat.reduceAdd, Nat.reduceEqDiff, Nat.reduceBEq, Za5, true_and, and_true, eq_self, List.getElem?_cons_zero, List.getElem?_cons_succ]
    rw [W_loop' (show k27l0 = .loop k27l0b from rfl)]
    unfold k27l0b
    simp only [Zde, Zdj, Zdk, Zdl, Zdi, Zdh, Zbp, Zb1, Zbj, Zbu, Zbl, Zbz, Zbw, Zb4, Zb3, Zb5, Zdt, Zeb, Zbe, Zbd, Zam, Zal, Zcd, Zeq, Zew, Zev, Zdu, Zd2, Za9, Zce, Zcf, Zea, Zdv, Zcg, Zch, Zci, Zcj, Zck, Zem, Zbk, Zbh, Zec, Zej, Zek, Zel, Zc5, Zdb, Zc3, Zc8, Zc7, Zc6, Zc9, Zda, Zc4, Zct, Zcx, Zcs, Zcv, Zcu, Zcw, Option.bind_some, Option.bind_none, List.set_cons_zero, List.set_cons_succ, List.set_set, List.length_set, List.length_append, List.length_cons, List.length_nil, List.append_assoc, List.singleton_append, Nat.zero_add, Nat.add_zero, Nat.reduceLT, Nat.reduceAdd, Zaj, Zah, Zaf, Zai, Zad, Zae, Zag, Zes, Zet, Zer, Za2, Za3, Za1, Zeh, Zei, Zeg, Zab, Zac, Zaa, Zep, Zeo, Zcq, Zcn, Zcp, Zco, Zcr, Za7, Za6, Zee, Zef, Zed, Zbf,
    Zbv, Zby, Zbi, Zb2, Zbn, Zbo, Zbs, Zbr, Zbt, Zbq, Zbm, Zb0, Zbx, Zbg, ev_t, ev_c, ev_f, Zcb, Zca, Zb8, Zb9, Zb6, Zb7, Zd7, Zd9, Zd8, Zcm, Zcl, Zd1, Zdz, Zd0,
    Zd6, Zd5, Zd4, Zd3, Zan, Zeu, Zbb, Zbc, Zba, Zcc, Zdr, Zdo, Zdq, Zdp, Zdc, Zdd, Zds, Zc2, Za4, Za8, Zen, Zdy, Zdw, Zdx,
    Zao, Za0, Zaw, Zar, Zax, Zav, Zau, Zat, Zas, Zay, Zaz, Zap, Zaq, Zak, Zdf, Zdg, Zdm, Zdn, Zc0, Zcy, Zcz, Zc1, Option.map_some, Option.map_none, List.cons_append, List.nil_append, List.append_nil, decide_true, decide_false, Bool.not_true, Bool.not_false, Bool.false_eq_true, if_true, if_false, ↓reduceIte, reduceCtorEq, Nat.reduceAdd, Nat.reduceEqDiff, Nat.reduceBEq, Za5, true_and, and_true, eq_self, List.getElem?_cons_zero, List.getElem?_cons_succ, hb, hpos, hr2, his]
    refine stop _ (x.go x.gap) _ _ hr1 hx1 (good_row hG r _) (by rw [gap_rest, noBlank_twice]; exact hno) (gap_gap x) rfl rfl ?_
    intro e
    simp only [Zde, Zdj, Zdk, Zdl, Zdi, Zdh, Zbp, Zb1, Zbj, Zbu, Zbl, Zbz, Zbw, Zb4, Zb3, Zb5, Zdt, Zeb, Zbe, Zbd, Zam, Zal, Zcd, Zeq, Zew, Zev, Zdu, Zd2, Za9, Zce, Zcf, Zea, Zdv, Zcg, Zch, Zci, Zcj, Zck, Zem, Zbk, Zbh, Zec, Zej, Zek, Zel, Zc5, Zdb, Zc3, Zc8, Zc7, Zc6, Zc9, Zda, Zc4, Zct, Zcx, Zcs, Zcv, Zcu, Zcw, Option.bind_some, Option.bind_none, List.set_cons_zero, List.set_cons_succ, List.set_set, List.length_set, List.length_append, List.length_cons, List.length_nil, List.append_assoc, List.singleton_append, Nat.zero_add, Nat.add_zero, Nat.reduceLT, Nat.reduceAdd, Zaj, Zah, Zaf, Zai, Zad, Zae, Zag, Zes, Zet, Zer, Za2, Za3, Za1, Zeh, Zei, Zeg, Zab, Zac, Zaa, Zep, Zeo, Zcq, Zcn, Zcp, Zco, Zcr, Za7, Za6, Zee, Zef, Zed, Zbf,
    Zbv, Zby, Zbi, Zb2, Zbn, Zbo, Zbs, Zbr, Zbt, Zbq, Zbm, Zb0, Zbx, Zbg, ev_t, ev_c, ev_f, Zcb, Zca, Zb8, Zb9, Zb6, Zb7, Zd7, Zd9, Zd8, Zcm, Zcl, Zd1, Zdz, Zd0,
    Zd6, Zd5, Zd4, Zd3, Zan, Zeu, Zbb, Zbc, Zba, Zcc, Zdr, Zdo, Zdq, Zdp, Zdc, Zdd, Zds, Zc2, Za4, Za8, Zen, Zdy, Zdw, Zdx,
    Zao, Za0, Zaw, Zar, Zax, Zav, Zau, Zat, Zas, Zay, Zaz, Zap, Zaq, Zak, Zdf, Zdg, Zdm, Zdn, Zc0, Zcy, Zcz, Zc1, Option.map_some, Option.map_none, List.cons_append, List.nil_append, List.append_nil, decide_true, decide_false, Bool.not_true, Bool.not_false, Bool.false_eq_true, if_true, if_false, ↓reduceIte, reduceCtorEq, Nat.reduceAdd, Nat.reduceEqDiff, Nat.reduceBEq, Za5, true_and, and_true, eq_self, List.getElem?_cons_zero, List.getElem?_cons_succ]

/-- No attribute stands there. -/
theorem noAttrs_W (hno : x.gap = 0 ∨ noBlank x.rest = [] ∨ ∃ c l, noBlank x.rest = c :: l ∧ (c = 47 ∨ c = 62)) : callW C 45 [.ptr r 0 0] st = some (.nils, st.set r (x.go x.gap).row) := by
  have hlt := (List.getElem?_eq_some_iff.1 hr).1
  rw [← CW_eq, CW_is H.h45 _ (by simp)]
  simp only [List.length_cons, List.length_nil, Nat.zero_add, Nat.reduceAdd, Nat.reduceSub, List.reduceReplicate, List.cons_append, List.nil_append]
  unfold k45b
  have hb := blanks_W H st r x hr hx hG
  have hr1 : (st.set r (x.go x.gap).row)[r]? = some (x.go x.gap).row := List.getElem?_set_self hlt
  have hx1 := ok_go hx (gap_le x)
  have hrest := rest_W H _ r _ hr1 hx1
  rw [gap_rest] at hrest
  simp only [Zde, Zdj, Zdk, Zdl, Zdi, Zdh, Zbp, Zb1, Zbj, Zbu, Zbl, Zbz, Zbw, Zb4, Zb3, Zb5, Zdt, Zeb, Zbe, Zbd, Zam, Zal, Zcd, Zeq, Zew, Zev, Zdu, Zd2, Za9, Zce, Zcf, Zea, Zdv, Zcg, Zch, Zci, Zcj, Zck, Zem, Zbk, Zbh, Zec, Zej, Zek, Zel, Zc5, Zdb, Zc3, Zc8, Zc7, Zc6, Zc9, Zda, Zc4, Zct, Zcx, Zcs, Zcv, Zcu, Zcw, Option.bind_some, Option.bind_none, List.set_cons_zero, List.set_cons_succ, List.set_set, List.length_set, List.length_append, List.length_cons, List.length_nil, List.append_assoc, List.singleton_append, Nat.zero_add, Nat.add_zero, Nat.reduceLT, Nat.reduceAdd, Zaj, Zah, Zaf, Zai, Zad, Zae, Zag, Zes, Zet, Zer, Za2, Za3, Za1, Zeh, Zei, Zeg, Zab, Zac, Zaa, Zep, Zeo, Zcq, Zcn, Zcp, Zco, Zcr, Za7, Za6, Zee, Zef, Zed, Zbf,
    Zbv, Zby, Zbi, Zb2, Zbn, Zbo, Zbs, Zbr, Zbt, Zbq, Zbm, Zb0, Zbx, Zbg, ev_t, ev_c, ev_f, Zcb, Zca, Zb8, Zb9, Zb6, Zb7, Zd7, Zd9, Zd8, Zcm, Zcl, Zd1, Zdz, Zd0,
    Zd6, Zd5, Zd4, Zd3, Zan, Zeu, Zbb, Zbc, Zba, Zcc, Zdr, Zdo, Zdq, Zdp, Zdc, Zdd, Zds, Zc2, Za4, Za8, Zen, Zdy, Zdw, Zdx,
    Zao, Za0, Zaw, Zar, Zax, Zav, Zau, Zat, Zas, Zay, Zaz, Zap, Zaq, Zak, Zdf, Zdg, Zdm, Zdn, Zc0, Zcy, Zcz, Zc1, Option.map_some, Option.map_none, List.cons_append, List.nil_append, List.append_nil, decide_true, decide_false, Bool.not_true, Bool.not_false, Bool.false_eq_true, if_true, if_false, ↓reduceIte, reduceCtorEq, Nat.reduceAdd, Nat.reduceEqDiff, Nat.reduceBEq, Za5, true_and, and_true, eq_self, List.getElem?_cons_zero, List.getElem?_cons_succ]
  rw [W_loop' (show k45l0 = .loop k45l0b from rfl)]
  unfold k45l0b
  by_cases hg : x.gap = 0
  · have hnp : ¬ 0 < x.gap := by omega
    simp only [Zde, Zdj, Zdk, Zdl, Zdi, Zdh, Zbp, Zb1, Zbj, Zbu, Zbl, Zbz, Zbw, Zb4, Zb3, Zb5, Zdt, Zeb, Zbe, Zbd, Zam, Zal, Zcd, Zeq, Zew, Zev, Zdu, Zd2, Za9, Zce, Zcf, Zea, Zdv, Zcg, Zch, Zci, Zcj, Zck, Zem, Zbk, Zbh, Zec, Zej, Zek, Zel, Zc5, Zdb, Zc3, Zc8, Zc7, Zc6, Zc9, Zda, Zc4, Zct, Zcx, Zcs, Zcv, Zcu, Zcw, Option.bind_some, Option.bind_none, List.set_cons_zero, List.set_cons_succ, List.set_set, List.length_set, List.length_append, List.length_cons, List.length_nil, List.append_assoc, List.singleton_append, Nat.zero_add, Nat.add_zero, Nat.reduceLT, Nat.reduceAdd, Zaj, Zah, Zaf, Zai, Zad, Zae, Zag, Zes, Zet, Zer, Za2, Za3, Za1, Zeh, Zei, Zeg, Zab, Zac, Zaa, Zep, Zeo, Zcq, Zcn, Zcp, Zco, Zcr, Za7, Za6, Zee, Zef, Zed, Zbf,
    Zbv, Zby, Zbi, Zb2, Zbn, Zbo, Zbs, Zbr, Zbt, Zbq, Zbm, Zb0, Zbx, Zbg, ev_t, ev_c, ev_f, Zcb, Zca, Zb8, Zb9, Zb6, Zb7, Zd7, Zd9, Zd8, Zcm, Zcl, Zd1, Zdz, Zd0,
    Zd6, Zd5, Zd4, Zd3, Zan, Zeu, Zbb, Zbc, Zba, Zcc, Zdr, Zdo, Zdq, Zdp, Zdc, Zdd, Zds, Zc2, Za4, Za8, Zen, Zdy, Zdw, Zdx,
    Zao, Za0, Zaw, Zar, Zax, Zav, Zau, Zat, Zas, Zay, Zaz, Zap, Zaq, Zak, Zdf, Zdg, Zdm, Zdn, Zc0, Zcy, Zcz, Zc1, Option.map_some, Option.map_none, List.cons_append, List.nil_append, List.append_nil, decide_true, decide_false, Bool.not_true, Bool.not_false, Bool.false_eq_true, if_true, if_false, ↓reduceIte, reduceCtorEq, Nat.reduceAdd, Nat.reduceEqDiff, Nat.reduceBEq, Za5, true_and, and_true, eq_self, List.getElem?_cons_zero, List.getElem?_cons_succ, hb, hnp]
  · have hpos : 0 < x.gap := by omega
    rcases hno with h | h | ⟨c, l, h, h2⟩
    · exact absurd h hg
    · rw [h] at hrest
      simp only [Zde, Zdj, Zdk, Zdl, Zdi, Zdh, Zbp, Zb1, Zbj, Zbu, Zbl, Zbz, Zbw, Zb4, Zb3, Zb5, Zdt, Zeb, Zbe, Zbd, Zam, Zal, Zcd, Zeq, Zew, Zev, Zdu, Zd2, Za9, Zce, Zcf, Zea, Zdv, Zcg, Zch, Zci, Zcj, Zck, Zem, Zbk, Zbh, Zec, Zej, Zek, Zel, Zc5, Zdb, Zc3, Zc8, Zc7, Zc6, Zc9, Zda, Zc4, Zct, Zcx, Zcs, Zcv, Zcu, Zcw, Option.bind_some, Option.bind_none, List.set_cons_zero, List.set_cons_succ, List.set_set, List.length_set, List.length_append, List.length_cons, List.length_nil, List.append_assoc, List.singleton_append, Nat.zero_add, Nat.add_zero, Nat.reduceLT, Nat.reduceAdd, Zaj, Zah, Zaf, Zai, Zad, Zae, Zag, Zes, Zet, Zer, Za2, Za3, Za1, Zeh, Zei, Zeg, Zab, Zac, Zaa, Zep, Zeo, Zcq, Zcn, Zcp, Zco, Zcr, Za7, Za6, Zee, Zef, Zed, Zbf,
    Zbv, Zby, Zbi, Zb2, Zbn, Zbo, Zbs, Zbr, Zbt, Zbq, Zbm, Zb0, Zbx, Zbg, ev_t, ev_c, ev_f, Zcb, Zca, Zb8, Zb9, Zb6, Zb7, Zd7, Zd9, Zd8, Zcm, Zcl, Zd1, Zdz, Zd0,
    Zd6, Zd5, Zd4, Zd3, Zan, Zeu, Zbb, Zbc, Zba, Zcc, Zdr, Zdo, Zdq, Zdp, Zdc, Zdd, Zds, Zc2, Za4, Za8, Zen, Zdy, Zdw, Zdx,
    Zao, Za0, Zaw, Zar, Zax, Zav, Zau, Zat, Zas, Zay, Zaz, Zap, Zaq, Zak, Zdf, Zdg, Zdm, Zdn, Zc0, Zcy, Zcz, Zc1, Option.map_some, Option.map_none, List.cons_append, List.nil_append, List.append_nil, decide_true, decide_false, Bool.not_true, Bool.not_false, Bool.false_eq_true, if_true, if_false, ↓reduceIte, reduceCtorEq, Nat.reduceAdd, Nat.reduceEqDiff, Nat.reduceBEq, Za5, true_and, and_true, eq_self, List.getElem?_cons_zero, List.getElem?_cons_succ, hb, hpos, hrest]
    · rw [h] at hrest
      have e1 : ¬ (c :: l) = [] := by simp
      rcases h2 with rfl | rfl
      · have e2 : ((↑(UInt8.toNat 47) : Int) = 47) = True := by decide
        simp only [Zde, Zdj, Zdk, Zdl, Zdi, Zdh, Zbp, Zb1, Zbj, Zbu, Zbl, Zbz, Zbw, Zb4, Zb3, Zb5, Zdt, Zeb, Zbe, Zbd, Zam, Zal, Zcd, Zeq, Zew, Zev, Zdu, Zd2, Za9, Zce, Zcf, Zea, Zdv, Zcg, Zch, Zci, Zcj, Zck, Zem, Zbk, Zbh, Zec, Zej, Zek, Zel, Zc5, Zdb, Zc3, Zc8, Zc7, Zc6, Zc9, Zda, Zc4, Zct, Zcx, Zcs, Zcv, Zcu, Zcw, Option.bind_some, Option.bind_none, List.set_cons_zero, List.set_cons_succ, List.set_set, List.length_set, List.length_append, List.length_cons, List.length_nil, List.append_assoc, List.singleton_append, Nat.zero_add, Nat.add_zero, Nat.reduceLT, Nat.reduceAdd, Zaj, Zah, Zaf, Zai, Zad, Zae, Zag, Zes, Zet, Zer, Za2, Za3, Za1, Zeh, Zei, Zeg, Zab, Zac, Zaa, Zep, Zeo, Zcq, Zcn, Zcp, Zco, Zcr, Za7, Za6, Zee, Zef, Zed, Zbf,
    Zbv, Zby, Zbi, Zb2, Zbn, Zbo, Zbs, Zbr, Zbt, Zbq, Zbm, Zb0, Zbx, Zbg, ev_t, ev_c, ev_f, Zcb, Zca, Zb8, Zb9, Zb6, Zb7, Zd7, Zd9, Zd8, Zcm, Zcl, Zd1, Zdz, Zd0,
    Zd6, Zd5, Zd4, Zd3, Zan, Zeu, Zbb, Zbc, Zba, Zcc, Zdr, Zdo, Zdq, Zdp, Zdc, Zdd, Zds, Zc2, Za4, Za8, Zen, Zdy, Zdw, Zdx,
    Zao, Za0, Zaw, Zar, Zax, Zav, Zau, Zat, Zas, Zay, Zaz, Zap, Zaq, Zak, Zdf, Zdg, Zdm, Zdn, Zc0, Zcy, Zcz, Zc1, Option.map_some, Option.map_none, List.cons_append, List.nil_append, List.append_nil, decide_true, decide_false, Bool.not_true, Bool.not_false, Bool.false_eq_true, if_true, if_false, ↓reduceIte, reduceCtorEq, Nat.reduceAdd, Nat.reduceEqDiff, Nat.reduceBEq, Za5, true_and, and_true, eq_self, List.getElem?_cons_zero, List.getElem?_cons_succ, hb, hpos, hrest, e1, e2]
      · have e2 : ((↑(UInt8.toNat 62) : Int) = 47) = False := by decide
        have e3 : ((↑(UInt8.toNat 62) : Int) = 62) = True := by decide
        simp only [Zde, Zdj, Zdk, Zdl, Zdi, Zdh, Zbp, Zb1, Zbj, Zbu, Zbl, Zbz, Zbw, Zb4, Zb3, Zb5, Zdt, Zeb, Zbe, Zbd, Zam, Zal, Zcd, Zeq, Zew, Zev, Zdu, Zd2, Za9, Zce, Zcf, Zea, Zdv, Zcg, Zch, Zci, Zcj, Zck, Zem, Zbk, Zbh, Zec, Zej, Zek, Zel, Zc5, Zdb, Zc3, Zc8, Zc7, Zc6, Zc9, Zda, Zc4, Zct, Zcx, Zcs, Zcv, Zcu, Zcw, Option.bind_some, Option.bind_none, List.set_cons_zero, List.set_cons_succ, List.set_set, List.length_set, List.length_append, List.length_cons, List.length_nil, List.append_assoc, List.singleton_append, Nat.zero_add, Nat.add_zero, Nat.reduceLT, Nat.reduceAdd, Zaj, Zah, Zaf, Zai, Zad, Zae, Zag, Zes, Zet, Zer, Za2, Za3, Za1, Zeh, Zei, Zeg, Zab, Zac, Zaa, Zep, Zeo, Zcq, Zcn, Zcp, Zco, Zcr, Za7, Za6, Zee, Zef, Zed, Zbf,
    Zbv, Zby, Zbi, Zb2, Zbn, Zbo, Zbs, Zbr, Zbt, Zbq, Zbm, Zb0, Zbx, Zbg, ev_t, ev_c, ev_f, Zcb, Zca, Zb8, Zb9, Zb6, Zb7, Zd7, Zd9, Zd8, Zcm, Zcl, Zd1, Zdz, Zd0,
    Zd6, Zd5, Zd4, Zd3, Zan, Zeu, Zbb, Zbc, Zba, Zcc, Zdr, Zdo, Zdq, Zdp, Zdc, Zdd, Zds, Zc2, Za4, Za8, Zen, Zdy, Zdw, Zdx,
    Zao, Za0, Zaw, Zar, Zax, Zav, Zau, Zat, Zas, Zay, Zaz, Zap, Zaq, Zak, Zdf, Zdg, Zdm, Zdn, Zc0, Zcy, Zcz, Zc1, Option.map_some, Option.map_none, List.cons_append, List.nil_append, List.append_nil, decide_true, decide_false, Bool.not_true, Bool.not_false, Bool.false_eq_true, if_true, if_false, ↓reduceIte, reduceCtorEq, Nat.reduceAdd, Nat.reduceEqDiff, Nat.reduceBEq, Za5, true_and, and_true, eq_self, List.getElem?_cons_zero, List.getElem?_cons_succ, hb, hpos, hrest, e1, e2, e3]
end
end Go.Eng

