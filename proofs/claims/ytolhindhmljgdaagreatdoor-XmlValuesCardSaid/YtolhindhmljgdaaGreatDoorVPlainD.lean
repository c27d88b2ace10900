/-
  Texts of a proof. Conditions: none.
-/
import Derived.Test.YtolhindhmljgdaaGreatDoorVPlainC
set_option linter.unusedVariables false
set_option linter.unusedSimpArgs false
set_option linter.unnecessarySimpa false
set_option linter.unusedSectionVars false
namespace Go.Eng
open Go
open Go.Eng renaming WO_guard → Zaa, WO_nil → Zab, WO_op → Zac, W_block → Zad, W_cond → Zae, W_exit → Zaf, W_reg → Zag, W_ret → Zah, W_seq → Zai, W_skip → Zaj, aIndexAddr_sl → Zak, agg_all → Zal, agg_one → Zam, binE_some → Zan, bin_add → Zao, bin_beq → Zap, bin_bne → Zaq, bin_eql → Zar, bin_geq → Zas, bin_gtr → Zat, bin_leq → Zau, bin_lss → Zav, bin_mul → Zaw, bin_neq → Zax, bin_seq → Zay, bin_sne → Zaz, bin_sub → Za0, blockQ_exit → Za1, blockQ_norm → Za2, blockQ_ret → Za3, callE_f → Za4, cast0 → Za5, condQ_false → Za6, condQ_true → Za7, consO_some → Za8, consP_some → Za9, convE_bytes → Zba, convE_int → Zbb, convE_same → Zbc, cut_four → Zbd, cut_one → Zbe, endQ_some → Zbf, evOp_alloc → Zbg, evOp_append → Zbh, evOp_bin → Zbi, evOp_box → Zbj, evOp_bslice → Zbk, evOp_build → Zbl, evOp_callE → Zbm, evOp_conv → Zbn, evOp_ext → Zbo, evOp_faddr → Zbp, evOp_iaddr → Zbq, evOp_ixs → Zbr, evOp_len → Zbs, evOp_load → Zbt, evOp_mkfn → Zbu, evOp_mv → Zbv, evOp_next → Zbw, evOp_nilchk → Zbx, evOp_pick → Zby, evOp_range → Zbz, evOp_slice → Zb0, evOp_store → Zb1, evOp_un → Zb2, evParts_cons → Zb3, evParts_nil → Zb4, evRes_cell → Zb5, evRes_nil → Zb6, evRes_tmp → Zb7, evo_none → Zb8, evo_some → Zb9, evs_cons → Zca, evs_nil → Zcb, extE_tup → Zcc, faddrE_ptr → Zcd, fillA_nil → Zce, fillA_one → Zcf, get_new0 → Zcg, get_new1 → Zch, get_new2 → Zci, get_new3 → Zcj, get_new4 → Zck, get_succ → Zcl, get_zero → Zcm, guardQ_ff → Zcn, guardQ_ft → Zco, guardQ_tf → Zcp, guardQ_tt → Zcq, guardQ_undef → Zcr, hi_bool → Zcs, hi_int → Zct, hi_nilp → Zcu, hi_nils → Zcv, hi_sl → Zcw, hi_str → Zcx, his_bool → Zcy, his_int → Zcz, his_nil → Zc0, his_str → Zc1, iaddrE_some → Zc2, isCell_bool → Zc3, isCell_fn → Zc4, isCell_int → Zc5, isCell_nilp → Zc6, isCell_nils → Zc7, isCell_ptr → Zc8, isCell_sl → Zc9, isCell_slc → Zda, isCell_str → Zdb, ixsE_str → Zdc, ixsE_zero → Zdd, leave0 → Zde, leave_bool → Zdf, leave_int → Zdg, leave_nil → Zdh, leave_set0 → Zdi, leave_setb → Zdj, leave_setn → Zdk, leave_sets → Zdl, leave_str → Zdm, leave_tup → Zdn, lenE_nils → Zdo, lenE_sl → Zdp, lenE_slc → Zdq, lenE_str → Zdr, loadE_one → Zds, loadE_ptr → Zdt, mkfnE_some → Zdu, nextE_ptr → Zdv, nilE_cptr → Zdw, nilE_fn → Zdx, nilE_ptr → Zdy, oneOf_more → Zdz, oneOf_nil → Zd0, oneOf_one → Zd1, partsE_some → Zd2, pickE_false → Zd3, pickE_true → Zd4, prE_none → Zd5, prE_some → Zd6, put_none → Zd7, put_succ → Zd8, put_zero → Zd9, rangeE_str → Zea, rdE_cells → Zeb, rep_one → Zec, retQ_exit → Zed, retQ_norm → Zee, retQ_ret → Zef, roundQ_exit → Zeg, roundQ_norm → Zeh, roundQ_ret → Zei, set_new0 → Zej, set_new1 → Zek, set_new2 → Zel, set_new3 → Zem, sliceE_some → Zen, stepQ_none → Zeo, stepQ_some → Zep, storeE_ptr → Zeq, thenK_exit → Zer, thenK_norm → Zes, thenK_ret → Zet, unE_not → Zeu, wrE_agg4 → Zev, wrE_one → Zew
set_option maxHeartbeats 1000000
set_option maxRecDepth 4000
set_option linter.unusedSimpArgs false
set_option linter.unusedVariables false
set_option linter.unusedSectionVars false

/-- A reader: a text, a place, how many elements; an error, and where. -/
structure Rd where
  s : List UInt8
  a : Nat
  n : Nat
  e : Nat
  o : Nat

def Rd.row (x : Rd) : Row := .cells [.str x.s, .int .i64 x.a, .int .i64 x.n, .int .i64 x.e, .int .i64 x.o] 0 0 false 56
def Rd.rest (x : Rd) : List UInt8 := if x.e = 0 then x.s.drop x.a else []
def Rd.fail (x : Rd) (p k : Nat) : Rd := if x.e = 0 then { x with e := k, o := p } else x
def Rd.go (x : Rd) (n : Nat) : Rd := { x with a := x.a + n }
def Rd.must (x : Rd) (p : List UInt8) : Rd := if pre p x.rest then x.go p.length else x.fail x.a 2
def Rd.gap (x : Rd) : Nat := (x.rest.takeWhile isBlank).length
def Rd.word (x : Rd) : List UInt8 := x.rest.takeWhile signB
def Rd.name (x : Rd) : Rd := (if isQual x.word then x else x.fail x.a 2).go x.word.length
structure Rd.Ok (x : Rd) : Prop where
  a : x.a ≤ x.s.length
  s : x.s.length ≤ 8000

theorem rest_le (x : Rd) : x.rest.length ≤ x.s.length := by
  unfold Rd.rest; split <;> simp
theorem rest_le2 (x : Rd) (h : x.Ok) : x.a + x.rest.length ≤ x.s.length := by
  have := h.a
  unfold Rd.rest; split <;> simp <;> omega
theorem pre_len {p s : List UInt8} (h : pre p s = true) : p.length ≤ s.length := by
  unfold pre at h
  have := of_decide_eq_true h
  rw [← this]; simp; omega
theorem row_top (x : Rd) : x.row.top = 0 := rfl
theorem set_same {st : St} {r : Nat} {x : Row} (h : st[r]? = some x) : st.set r x = st := by
  obtain ⟨hlt, hv⟩ := List.getElem?_eq_some_iff.1 h
  rw [← hv]; simp
theorem drop_len {p : UInt8 → Bool} (s : List UInt8) : (s.dropWhile p).length = s.length - (s.takeWhile p).length := by
  rw [← drop_take s]; simp

section
variable {C : Ctx} (H : Codes C) (st : St) (r : Nat) (x : Rd) (hr : st[r]? = some x.row) (hx : x.Ok) (hG : Good st)
include H hr

theorem rest_W (hx : x.Ok) : callW C 28 [.ptr r 0 0] st = some (.str x.rest, st) := by
  rw [← CW_eq, CW_is H.h28 _ (by simp)]
  simp only [List.length_cons, List.length_nil, Nat.zero_add, Nat.reduceAdd, Nat.reduceSub, List.reduceReplicate, List.cons_append, List.nil_append]
  unfold k28b Rd.rest
  have ha := hx.a
  by_cases h : x.e = 0
  · have h2 : (x.e : Int) = 0 := by omega
    simp only [Zde, Zdj, Zdk, Zdl, Zdi, Zdh, Zbp, Zb1, Zbj, Zbu, Zbl, Zbz, Zbw, Zb4, Zb3, Zb5, Zdt, Zeb, Zbe, Zbd, Zam, Zal, Zcd, Zeq, Zew, Zev, Zdu, Zd2, Za9, Zce, Zcf, Zea, Zdv, Zcg, Zch, Zci, Zcj, Zck, Zem, Zbk, Zbh, Zec, Zej, Zek, Zel, Zc5, Zdb, Zc3, Zc8, Zc7, Zc6, Zc9, Zda, Zc4, Zct, Zcx, Zcs, Zcv, Zcu, Zcw, Option.bind_some, Option.bind_none, List.set_cons_zero, List.set_cons_succ, List.set_set, List.length_set, List.length_append, List.length_cons, List.length_nil, List.append_assoc, List.singleton_append, Nat.zero_add, Nat.add_zero, Nat.reduceLT, Nat.reduceAdd, Zaj, Zah, Zaf, Zai, Zad, Zae, Zag, Zes, Zet, Zer, Za2, Za3, Za1, Zeh, Zei, Zeg, Zab, Zac, Zaa, Zep, Zeo, Zcq, Zcn, Zcp, Zco, Zcr, Za7, Za6, Zee, Zef, Zed, Zbf,
    Zbv, Zby, Zbi, Zb2, Zbn, Zbo, Zbs, Zbr, Zbt, Zbq, Zbm, Zb0, Zbx, Zbg, ev_t, ev_c, ev_f, Zcb, Zca, Zb8, Zb9, Zb6, Zb7, Zd7, Zd9, Zd8, Zcm, Zcl, Zd1, Zdz, Zd0,
    Zd6, Zd5, Zd4, Zd3, Zan, Zeu, Zbb, Zbc, Zba, Zcc, Zdr, Zdo, Zdq, Zdp, Zdc, Zdd, Zds, Zc2, Za4, Za8, Zen, Zdy, Zdw, Zdx,
    Zao, Za0, Zaw, Zar, Zax, Zav, Zau, Zat, Zas, Zay, Zaz, Zap, Zaq, Zak, Zdf, Zdg, Zdm, Zdn, Zc0, Zcy, Zcz, Zc1, Option.map_some, Option.map_none, List.cons_append, List.nil_append, List.append_nil, decide_true, decide_false, Bool.not_true, Bool.not_false, Bool.false_eq_true, if_true, if_false, ↓reduceIte, reduceCtorEq, Nat.reduceAdd, Nat.reduceEqDiff, Nat.reduceBEq, Za5, true_and, and_true, eq_self, List.getElem?_cons_zero, List.getElem?_cons_succ, hr, Rd.row, h2, h, aSlice_lo _ _ _ _ ha]
  · have h2 : ¬ (x.e : Int) = 0 := by omega
    simp only [Zde, Zdj, Zdk, Zdl, Zdi, Zdh, Zbp, Zb1, Zbj, Zbu, Zbl, Zbz, Zbw, Zb4, Zb3, Zb5, Zdt, Zeb, Zbe, Zbd, Zam, Zal, Zcd, Zeq, Zew, Zev, Zdu, Zd2, Za9, Zce, Zcf, Zea, Zdv, Zcg, Zch, Zci, Zcj, Zck, Zem, Zbk, Zbh, Zec, Zej, Zek, Zel, Zc5, Zdb, Zc3, Zc8, Zc7, Zc6, Zc9, Zda, Zc4, Zct, Zcx, Zcs, Zcv, Zcu, Zcw, Option.bind_some, Option.bind_none, List.set_cons_zero, List.set_cons_succ, List.set_set, List.length_set, List.length_append, List.length_cons, List.length_nil, List.append_assoc, List.singleton_append, Nat.zero_add, Nat.add_zero, Nat.reduceLT, Nat.reduceAdd, Zaj, Zah, Zaf, Zai, Zad, Zae, Zag, Zes, Zet, Zer, Za2, Za3, Za1, Zeh, Zei, Zeg, Zab, Zac, Zaa, Zep, Zeo, Zcq, Zcn, Zcp, Zco, Zcr, Za7, Za6, Zee, Zef, Zed, Zbf,
    Zbv, Zby, Zbi, Zb2, Zbn, Zbo, Zbs, Zbr, Zbt, Zbq, Zbm, Zb0, Zbx, Zbg, ev_t, ev_c, ev_f, Zcb, Zca, Zb8, Zb9, Zb6, Zb7, Zd7, Zd9, Zd8, Zcm, Zcl, Zd1, Zdz, Zd0,
    Zd6, Zd5, Zd4, Zd3, Zan, Zeu, Zbb, Zbc, Zba, Zcc, Zdr, Zdo, Zdq, Zdp, Zdc, Zdd, Zds, Zc2, Za4, Za8, Zen, Zdy, Zdw, Zdx,
    Zao, Za0, Zaw, Zar, Zax, Zav, Zau, Zat, Zas, Zay, Zaz, Zap, Zaq, Zak, Zdf, Zdg, Zdm, Zdn, Zc0, Zcy, Zcz, Zc1, Option.map_some, Option.map_none, List.cons_append, List.nil_append, List.append_nil, decide_true, decide_false, Bool.not_true, Bool.not_false, Bool.false_eq_true, if_true, if_false, ↓reduceIte, reduceCtorEq, Nat.reduceAdd, Nat.reduceEqDiff, Nat.reduceBEq, Za5, true_and, and_true, eq_self, List.getElem?_cons_zero, List.getElem?_cons_succ, hr, Rd.row, h2, h]

theorem fails_W (p k : Nat) : callW C 29 [.ptr r 0 0, .int .i64 p, .int .i64 k] st = some (.tup [], st.set r (x.fail p k).row) := by
  have hlt := (List.getElem?_eq_some_iff.1 hr).1
  have hr2 : st[r]? = some (.cells [.str x.s, .int .i64 x.a, .int .i64 x.n, .int .i64 x.e, .int .i64 x.o] 0 0 false 56) := hr
  rw [← CW_eq, CW_is H.h29 _ (by simp)]
  simp only [List.length_cons, List.length_nil, Nat.zero_add, Nat.reduceAdd, Nat.reduceSub, List.reduceReplicate, List.cons_append, List.nil_append]
  unfold k29b Rd.fail
  by_cases h : x.e = 0
  · simp only [Zde, Zdj, Zdk, Zdl, Zdi, Zdh, Zbp, Zb1, Zbj, Zbu, Zbl, Zbz, Zbw, Zb4, Zb3, Zb5, Zdt, Zeb, Zbe, Zbd, Zam, Zal, Zcd, Zeq, Zew, Zev, Zdu, Zd2, Za9, Zce, Zcf, Zea, Zdv, Zcg, Zch, Zci, Zcj, Zck, Zem, Zbk, Zbh, Zec, Zej, Zek, Zel, Zc5, Zdb, Zc3, Zc8, Zc7, Zc6, Zc9, Zda, Zc4, Zct, Zcx, Zcs, Zcv, Zcu, Zcw, Option.bind_some, Option.bind_none, List.set_cons_zero, List.set_cons_succ, List.set_set, List.length_set, List.length_append, List.length_cons, List.length_nil, List.append_assoc, List.singleton_append, Nat.zero_add, Nat.add_zero, Nat.reduceLT, Nat.reduceAdd, Zaj, Zah, Zaf, Zai, Zad, Zae, Zag, Zes, Zet, Zer, Za2, Za3, Za1, Zeh, Zei, Zeg, Zab, Zac, Zaa, Zep, Zeo, Zcq, Zcn, Zcp, Zco, Zcr, Za7, Za6, Zee, Zef, Zed, Zbf,
    Zbv, Zby, Zbi, Zb2, Zbn, Zbo, Zbs, Zbr, Zbt, Zbq, Zbm, Zb0, Zbx, Zbg, ev_t, ev_c, ev_f, Zcb, Zca, Zb8, Zb9, Zb6, Zb7, Zd7, Zd9, Zd8, Zcm, Zcl, Zd1, Zdz, Zd0,
    Zd6, Zd5, Zd4, Zd3, Zan, Zeu, Zbb, Zbc, Zba, Zcc, Zdr, Zdo, Zdq, Zdp, Zdc, Zdd, Zds, Zc2, Za4, Za8, Zen, Zdy, Zdw, Zdx,
    Zao, Za0, Zaw, Zar, Zax, Zav, Zau, Zat, Zas, Zay, Zaz, Zap, Zaq, Zak, Zdf, Zdg, Zdm, Zdn, Zc0, Zcy, Zcz, Zc1, Option.map_some, Option.map_none, List.cons_append, List.nil_append, List.append_nil, decide_true, decide_false, Bool.not_true, Bool.not_false, Bool.false_eq_true, if_true, if_false, ↓reduceIte, reduceCtorEq, Nat.reduceAdd, Nat.reduceEqDiff, Nat.reduceBEq, Za5, true_and, and_true, eq_self, List.getElem?_cons_zero, List.getElem?_cons_succ, hr2, h, List.getElem?_set_self hlt]
    rfl
  · have h2 : ¬ (x.e : Int) = 0 := by omega
    simp only [Zde, Zdj, Zdk, Zdl, Zdi, Zdh, Zbp, Zb1, Zbj, Zbu, Zbl, Zbz, Zbw, Zb4, Zb3, Zb5, Zdt, Zeb, Zbe, Zbd, Zam, Zal, Zcd, Zeq, Zew, Zev, Zdu, Zd2, Za9, Zce, Zcf, Zea, Zdv, Zcg, Zch, Zci, Zcj, Zck, Zem, Zbk, Zbh, Zec, Zej, Zek, Zel, Zc5, Zdb, Zc3, Zc8, Zc7, Zc6, Zc9, Zda, Zc4, Zct, Zcx, Zcs, Zcv, Zcu, Zcw, Option.bind_some, Option.bind_none, List.set_cons_zero, List.set_cons_succ, List.set_set, List.length_set, List.length_append, List.length_cons, List.length_nil, List.append_assoc, List.singleton_append, Nat.zero_add, Nat.add_zero, Nat.reduceLT, Nat.reduceAdd, Zaj, Zah, Zaf, Zai, Zad, Zae, Zag, Zes, Zet, Zer, Za2, Za3, Za1, Zeh, Zei, Zeg, Zab, Zac, Zaa, Zep, Zeo, Zcq, Zcn, Zcp, Zco, Zcr, Za7, Za6, Zee, Zef, Zed, Zbf,
    Zbv, Zby, Zbi, Zb2, Zbn, Zbo, Zbs, Zbr, Zbt, Zbq, Zbm, Zb0, Zbx, Zbg, ev_t, ev_c, ev_f, Zcb, Zca, Zb8, Zb9, Zb6, Zb7, Zd7, Zd9, Zd8, Zcm, Zcl, Zd1, Zdz, Zd0,
    Zd6, Zd5, Zd4, Zd3, Zan, Zeu, Zbb, Zbc, Zba, Zcc, Zdr, Zdo, Zdq, Zdp, Zdc, Zdd, Zds, Zc2, Za4, Za8, Zen, Zdy, Zdw, Zdx,
    Zao, Za0, Zaw, Zar, Zax, Zav, Zau, Zat, Zas, Zay, Zaz, Zap, Zaq, Zak, Zdf, Zdg, Zdm, Zdn, Zc0, Zcy, Zcz, Zc1, Option.map_some, Option.map_none, List.cons_append, List.nil_append, List.append_nil, decide_true, decide_false, Bool.not_true, Bool.not_false, Bool.false_eq_true, if_true, if_false, ↓reduceIte, reduceCtorEq, Nat.reduceAdd, Nat.reduceEqDiff, Nat.reduceBEq, Za5, true_and, and_true, eq_self, List.getElem?_cons_zero, List.getElem?_cons_succ, hr2, h2, h]
    exact (set_same hr).symm

theorem is_W (hx : x.Ok) (p : List UInt8) (hp : p.length ≤ 100) : callW C 46 [.ptr r 0 0, .str p] st = some (.bool (pre p x.rest), st.set r (if pre p x.rest then (x.go p.length).row else x.row)) := by
  have hlt := (List.getElem?_eq_some_iff.1 hr).1
  have hr2 : st[r]? = some (.cells [.str x.s, .int .i64 x.a, .int .i64 x.n, .int .i64 x.e, .int .i64 x.o] 0 0 false 56) := hr
  rw [← CW_eq, CW_is H.h46 _ (by simp)]
  simp only [List.length_cons, List.length_nil, Nat.zero_add, Nat.reduceAdd, Nat.reduceSub, List.reduceReplicate, List.cons_append, List.nil_append]
  unfold k46b
  have hrest := rest_W H st r x hr hx
  have h1 := hx.a
  have h2 := hx.s
  cases h : pre p x.rest
  · simp only [Zde, Zdj, Zdk, Zdl, Zdi, Zdh, Zbp, Zb1, Zbj, Zbu, Zbl, Zbz, Zbw, Zb4, Zb3, Zb5, Zdt, Zeb, Zbe, Zbd, Zam, Zal, Zcd, Zeq, Zew, Zev, Zdu, Zd2, Za9, Zce, Zcf, Zea, Zdv, Zcg, Zch, Zci, Zcj, Zck, Zem, Zbk, Zbh, Zec, Zej, Zek, Zel, Zc5, Zdb, Zc3, Zc8, Zc7, Zc6, Zc9, Zda, Zc4, Zct, Zcx, Zcs, Zcv, Zcu, Zcw, Option.bind_some, Option.bind_none, List.set_cons_zero, List.set_cons_succ, List.set_set, List.length_set, List.length_append, List.length_cons, List.length_nil, List.append_assoc, List.singleton_append, Nat.zero_add, Nat.add_zero, Nat.reduceLT, Nat.reduceAdd, Zaj, Zah, Zaf, Zai, Zad, Zae, Zag, Zes, Zet, Zer, Za2, Za3, Za1, Zeh, Zei, Zeg, Zab, Zac, Zaa, Zep, Zeo, Zcq, Zcn, Zcp, Zco, Zcr, Za7, Za6, Zee, Zef, Zed, Zbf,
    Zbv, Zby, Zbi, Zb2, Zbn, Zbo, Zbs, Zbr, Zbt, Zbq, Zbm, Zb0, Zbx, Zbg, ev_t, ev_c, ev_f, Zcb, Zca, Zb8, Zb9, Zb6, Zb7, Zd7, Zd9, Zd8, Zcm, Zcl, Zd1, Zdz, Zd0,
    Zd6, Zd5, Zd4, Zd3, Zan, Zeu, Zbb, Zbc, Zba, Zcc, Zdr, Zdo, Zdq, Zdp, Zdc, Zdd, Zds, Zc2, Za4, Za8, Zen, Zdy, Zdw, Zdx,
    Zao, Za0, Zaw, Zar, Zax, Zav, Zau, Zat, Zas, Zay, Zaz, Zap, Zaq, Zak, Zdf, Zdg, Zdm, Zdn, Zc0, Zcy, Zcz, Zc1, Option.map_some, Option.map_none, List.cons_append, List.nil_append, List.append_nil, decide_true, decide_false, Bool.not_true, Bool.not_false, Bool.false_eq_true, if_true, if_false, ↓reduceIte, reduceCtorEq, Nat.reduceAdd, Nat.reduceEqDiff, Nat.reduceBEq, Za5, true_and, and_true, eq_self, List.getElem?_cons_zero, List.getElem?_cons_succ, hrest, hasPrefix_W H, h]
    exact (set_same hr).symm
  · have hw : IntKind.wrap .i64 ((x.a : Int) + p.length) = ((x.a + p.length : Nat) : Int) := by rw [wrap_i64 (by omega) (by omega)]; omega
    simp only [Zde, Zdj, Zdk, Zdl, Zdi, Zdh, Zbp, Zb1, Zbj, Zbu, Zbl, Zbz, Zbw, Zb4, Zb3, Zb5, Zdt, Zeb, Zbe, Zbd, Zam, Zal, Zcd, Zeq, Zew, Zev, Zdu, Zd2, Za9, Zce, Zcf, Zea, Zdv, Zcg, Zch, Zci, Zcj, Zck, Zem, Zbk, Zbh, Zec, Zej, Zek, Zel, Zc5, Zdb, Zc3, Zc8, Zc7, Zc6, Zc9, Zda, Zc4, Zct, Zcx, Zcs, Zcv, Zcu, Zcw, Option.bind_some, Option.bind_none, List.set_cons_zero, List.set_cons_succ, List.set_set, List.length_set, List.length_append, List.length_cons, List.length_nil, List.append_assoc, List.singleton_append, Nat.zero_add, Nat.add_zero, Nat.reduceLT, Nat.reduceAdd, Zaj, Zah, Zaf, Zai, Zad, Zae, Zag, Zes, Zet, Zer, Za2, Za3, Za1, Zeh, Zei, Zeg, Zab, Zac, Zaa, Zep, Zeo, Zcq, Zcn, Zcp, Zco, Zcr, Za7, Za6, Zee, Zef, Zed, Zbf,
    Zbv, Zby, Zbi, Zb2, Zbn, Zbo, Zbs, Zbr, Zbt, Zbq, Zbm, Zb0, Zbx, Zbg, ev_t, ev_c, ev_f, Zcb, Zca, Zb8, Zb9, Zb6, Zb7, Zd7, Zd9, Zd8, Zcm, Zcl, Zd1, Zdz, Zd0,
    Zd6, Zd5, Zd4, Zd3, Zan, Zeu, Zbb, Zbc, Zba, Zcc, Zdr, Zdo, Zdq, Zdp, Zdc, Zdd, Zds, Zc2, Za4, Za8, Zen, Zdy, Zdw, Zdx,
    Zao, Za0, Zaw, Zar, Zax, Zav, Zau, Zat, Zas, Zay, Zaz, Zap, Zaq, Zak, Zdf, Zdg, Zdm, Zdn, Zc0, Zcy, Zcz, Zc1, Option.map_some, Option.map_none, List.cons_append, List.nil_append, List.append_nil, decide_true, decide_false, Bool.not_true, Bool.not_false, Bool.false_eq_true, if_true, if_false, ↓reduceIte, reduceCtorEq, Nat.reduceAdd, Nat.reduceEqDiff, Nat.reduceBEq, Za5, true_and, and_true, eq_self, List.getElem?_cons_zero, List.getElem?_cons_succ, hrest, hasPrefix_W H, h, hr2, hw]
    rfl

theorem must_W (hx : x.Ok) (p : List UInt8) (hp : p.length ≤ 100) : callW C 47 [.ptr r 0 0, .str p] st = some (.tup [], st.set r (x.must p).row) := by
  have hlt := (List.getElem?_eq_some_iff.1 hr).1
  have hr2 : st[r]? = some (.cells [.str x.s, .int .i64 x.a, .int .i64 x.n, .int .i64 x.e, .int .i64 x.o] 0 0 false 56) := hr
  rw [← CW_eq, CW_is H.h47 _ (by simp)]
  simp only [List.length_cons, List.length_nil, Nat.zero_add, Nat.reduceAdd, Nat.reduceSub, List.reduceReplicate, List.cons_append, List.nil_append]
  unfold k47b Rd.must
  have his := is_W H st r x hr hx p hp
  cases h : pre p x.rest <;> rw [h] at his
  · simp only [Bool.false_eq_true, if_false, set_same hr] at his
    have hf := fails_W H st r x hr x.a 2
    simp only [Zde, Zdj, Zdk, Zdl, Zdi, Zdh, Zbp, Zb1, Zbj, Zbu, Zbl, Zbz, Zbw, Zb4, Zb3, Zb5, Zdt, Zeb, Zbe, Zbd, Zam, Zal, Zcd, Zeq, Zew, Zev, Zdu, Zd2, Za9, Zce, Zcf, Zea, Zdv, Zcg, Zch, Zci, Zcj, Zck, Zem, Zbk, Zbh, Zec, Zej, Zek, Zel, Zc5, Zdb, Zc3, Zc8, Zc7, Zc6, Zc9, Zda, Zc4, Zct, Zcx, Zcs, Zcv, Zcu, Zcw, Option.bind_some, Option.bind_none, List.set_cons_zero, List.set_cons_succ, List.set_set, List.length_set, List.length_append, List.length_cons, List.length_nil, List.append_assoc, List.singleton_append, Nat.zero_add, Nat.add_zero, Nat.reduceLT, Nat.reduceAdd, Zaj, Zah, Zaf, Zai, Zad, Zae, Zag, Zes, Zet, Zer, Za2, Za3, Za1, Zeh, Zei, Zeg, Zab, Zac, Zaa, Zep, Zeo, Zcq, Zcn, Zcp, Zco, Zcr, Za7, Za6, Zee, Zef, Zed, Zbf,
    Zbv, Zby, Zbi, Zb2, Zbn, Zbo, Zbs, Zbr, Zbt, Zbq, Zbm, Zb0, Zbx, Zbg, ev_t, ev_c, ev_f, Zcb, Zca, Zb8, Zb9, Zb6, Zb7, Zd7, Zd9, Zd8, Zcm, Zcl, Zd1, Zdz, Zd0,
    Zd6, Zd5, Zd4, Zd3, Zan, Zeu, Zbb, Zbc, Zba, Zcc, Zdr, Zdo, Zdq, Zdp, Zdc, Zdd, Zds, Zc2, Za4, Za8, Zen, Zdy, Zdw, Zdx,
    Zao, Za0, Zaw, Zar, Zax, Zav, Zau, Zat, Zas, Zay, Zaz, Zap, Zaq, Zak, Zdf, Zdg, Zdm, Zdn, Zc0, Zcy, Zcz, Zc1, Option.map_some, Option.map_none, List.cons_append, List.nil_append, List.append_nil, decide_true, decide_false, Bool.not_true, Bool.not_false, Bool.false_eq_true, if_true, if_false, ↓reduceIte, reduceCtorEq, Nat.reduceAdd, Nat.reduceEqDiff, Nat.reduceBEq, Za5, true_and, and_true, eq_self, List.getElem?_cons_zero, List.getElem?_cons_succ, his, hr2]
    rw [show (AV.int .i64 2) = .int .i64 ((2 : Nat) : Int) from rfl, hf]
    simp only [Zde, Zdj, Zdk, Zdl, Zdi, Zdh, Zbp, Zb1, Zbj, Zbu, Zbl, Zbz, Zbw, Zb4, Zb3, Zb5, Zdt, Zeb, Zbe, Zbd, Zam, Zal, Zcd, Zeq, Zew, Zev, Zdu, Zd2, Za9, Zce, Zcf, Zea, Zdv, Zcg, Zch, Zci, Zcj, Zck, Zem, Zbk, Zbh, Zec, Zej, Zek, Zel, Zc5, Zdb, Zc3, Zc8, Zc7, Zc6, Zc9, Zda, Zc4, Zct, Zcx, Zcs, Zcv, Zcu, Zcw, Option.bind_some, Option.bind_none, List.set_cons_zero, List.set_cons_succ, List.set_set, List.length_set, List.length_append, List.length_cons, List.length_nil, List.append_assoc, List.singleton_append, Nat.zero_add, Nat.add_zero, Nat.reduceLT, Nat.reduceAdd, Zaj, Zah, Zaf, Zai, Zad, Zae, Zag, Zes, Zet, Zer, Za2, Za3, Za1, Zeh, Zei, Zeg, Zab, Zac, Zaa, Zep, Zeo, Zcq, Zcn, Zcp, Zco, Zcr, Za7, Za6, Zee, Zef, Zed, Zbf,
    Zbv, Zby, Zbi, Zb2, Zbn, Zbo, Zbs, Zbr, Zbt, Zbq, Zbm, Zb0, Zbx, Zbg, ev_t, ev_c, ev_f, Zcb, Zca, Zb8, Zb9, Zb6, Zb7, Zd7, Zd9, Zd8, Zcm, Zcl, Zd1, Zdz, Zd0,
    Zd6, Zd5, Zd4, Zd3, Zan, Zeu, Zbb, Zbc, Zba, Zcc, Zdr, Zdo, Zdq, Zdp, Zdc, Zdd, Zds, Zc2, Za4, Za8, Zen, Zdy, Zdw, Zdx,
    Zao, Za0, Zaw, Zar, Zax, Zav, Zau, Zat, Zas, Zay, Zaz, Zap, Zaq, Zak, Zdf, Zdg, Zdm, Zdn, Zc0, Zcy, Zcz, Zc1, Option.map_some, Option.map_none, List.cons_append, List.nil_append, List.append_nil, decide_true, decide_false, Bool.not_true, Bool.not_false, Bool.false_eq_true, if_true, if_false, ↓reduceIte, reduceCtorEq, Nat.reduceAdd, Nat.reduceEqDiff, Nat.reduceBEq, Za5, true_and, and_true, eq_self, List.getElem?_cons_zero, List.getElem?_cons_succ]
  · simp only [if_true] at his
    simp only [Zde, Zdj, Zdk, Zdl, Zdi, Zdh, Zbp, Zb1, Zbj, Zbu, Zbl, Zbz, Zbw, Zb4, Zb3, Zb5, Zdt, Zeb, Zbe, Zbd, Zam, Zal, Zcd, Zeq, Zew, Zev, Zdu, Zd2, Za9, Zce, Zcf, Zea, Zdv, Zcg, Zch, Zci, Zcj, Zck, Zem, Zbk, Zbh, Zec, Zej, Zek, Zel, Zc5, Zdb, Zc3, Zc8, Zc7, Zc6, Zc9, Zda, Zc4, Zct, Zcx, Zcs, Zcv, Zcu, Zcw, Option.bind_some, Option.bind_none, List.set_cons_zero, List.set_cons_succ, List.set_set, List.length_set, List.length_append, List.length_cons, List.length_nil, List.append_assoc, List.singleton_append, Nat.zero_add, Nat.add_zero, Nat.reduceLT, Nat.reduceAdd, Zaj, Zah, Zaf, Zai, Zad, Zae, Zag, Zes, Zet, Zer, Za2, Za3, Za1, Zeh, Zei, Zeg, Zab, Zac, Zaa, Zep, Zeo, Zcq, Zcn, Zcp, Zco, Zcr, Za7, Za6, Zee, Zef, Zed, Zbf,
    Zbv, Zby, Zbi, Zb2, Zbn, Zbo, Zbs, Zbr, Zbt, Zbq, Zbm, Zb0, Zbx, Zbg, ev_t, ev_c, ev_f, Zcb, Zca, Zb8, Zb9, Zb6, Zb7, Zd7, Zd9, Zd8, Zcm, Zcl, Zd1, Zdz, Zd0,
    Zd6, Zd5, Zd4, Zd3, Zan, Zeu, Zbb, Zbc, Zba, Zcc, Zdr, Zdo, Zdq, Zdp, Zdc, Zdd, Zds, Zc2, Za4, Za8, Zen, Zdy, Zdw, Zdx,
    Zao, Za0, Zaw, Zar, Zax, Zav, Zau, Zat, Zas, Zay, Zaz, Zap, Zaq, Zak, Zdf, Zdg, Zdm, Zdn, Zc0, Zcy, Zcz, Zc1, Option.map_some, Option.map_none, List.cons_append, List.nil_append, List.append_nil, decide_true, decide_false, Bool.not_true, Bool.not_false, Bool.false_eq_true, if_true, if_false, ↓reduceIte, reduceCtorEq, Nat.reduceAdd, Nat.reduceEqDiff, Nat.reduceBEq, Za5, true_and, and_true, eq_self, List.getElem?_cons_zero, List.getElem?_cons_succ, his]

theorem blanks_W (hx : x.Ok) (hG : Good st) : callW C 49 [.ptr r 0 0] st = some (.bool (decide (0 < x.gap)), st.set r (x.go x.gap).row) := by
  have hlt := (List.getElem?_eq_some_iff.1 hr).1
  have hr2 : st[r]? = some (.cells [.str x.s, .int .i64 x.a, .int .i64 x.n, .int .i64 x.e, .int .i64 x.o] 0 0 false 56) := hr
  rw [← CW_eq, CW_is H.h49 _ (by simp)]
  simp only [List.length_cons, List.length_nil, Nat.zero_add, Nat.reduceAdd, Nat.reduceSub, List.reduceReplicate, List.cons_append, List.nil_append]
  unfold k49b
  have hrest := rest_W H st r x hr hx
  have h1 := rest_le x
  have h2 := hx.s
  have h3 := hx.a
  have hg : x.gap ≤ x.rest.length := take_le _
  have hn : (noBlank x.rest).length = x.rest.length - x.gap := drop_len _
  have hw1 : IntKind.wrap .i64 ((x.rest.length : Int) - ((noBlank x.rest).length : Nat)) = (x.gap : Int) := by rw [wrap_i64 (by omega) (by omega)]; omega
  have hw : IntKind.wrap .i64 ((x.a : Int) + (x.gap : Int)) = ((x.a + x.gap : Nat) : Int) := by rw [wrap_i64 (by omega) (by omega)]; omega
  have h0 : (0 : Int) < (x.gap : Int) ↔ 0 < x.gap := by omega
  simp only [Zde, Zdj, Zdk, Zdl, Zdi, Zdh, Zbp, Zb1, Zbj, Zbu, Zbl, Zbz, Zbw, Zb4, Zb3, Zb5, Zdt, Zeb, Zbe, Zbd, Zam, Zal, Zcd, Zeq, Zew, Zev, Zdu, Zd2, Za9, Zce, Zcf, Zea, Zdv, Zcg, Zch, Zci, Zcj, Zck, Zem, Zbk, Zbh, Zec, Zej, Zek, Zel, Zc5, Zdb, Zc3, Zc8, Zc7, Zc6, Zc9, Zda, Zc4, Zct, Zcx, Zcs, Zcv, Zcu, Zcw, Option.bind_some, Option.bind_none, List.set_cons_zero, List.set_cons_succ, List.set_set, List.length_set, List.length_append, List.length_cons, List.length_nil, List.append_assoc, List.singleton_append, Nat.zero_add, Nat.add_zero, Nat.reduceLT, Nat.reduceAdd, Zaj, Zah, Zaf, Zai, Zad, Zae, Zag, Zes, Zet, Zer, Za2, Za3, Za1, Zeh, Zei, Zeg, Zab, Zac, Zaa, Zep, Zeo, Zcq, Zcn, Zcp, Zco, Zcr, Za7, Za6, Zee, Zef, Zed, Zbf,
    Zbv, Zby, Zbi, Zb2, Zbn, Zbo, Zbs, Zbr, Zbt, Zbq, Zbm, Zb0, Zbx, Zbg, ev_t, ev_c, ev_f, Zcb, Zca, Zb8, Zb9, Zb6, Zb7, Zd7, Zd9, Zd8, Zcm, Zcl, Zd1, Zdz, Zd0,
    Zd6, Zd5, Zd4, Zd3, Zan, Zeu, Zbb, Zbc, Zba, Zcc, Zdr, Zdo, Zdq, Zdp, Zdc, Zdd, Zds, Zc2, Za4, Za8, Zen, Zdy, Zdw, Zdx,
    Zao, Za0, Zaw, Zar, Zax, Zav, Zau, Zat, Zas, Zay, Zaz, Zap, Zaq, Zak, Zdf, Zdg, Zdm, Zdn, Zc0, Zcy, Zcz, Zc1, Option.map_some, Option.map_none, List.cons_append, List.nil_append, List.append_nil, decide_true, decide_false, Bool.not_true, Bool.not_false, Bool.false_eq_true, if_true, if_false, ↓reduceIte, reduceCtorEq, Nat.reduceAdd, Nat.reduceEqDiff, Nat.reduceBEq, Za5, true_and, and_true, eq_self, List.getElem?_cons_zero, List.getElem?_cons_succ, hrest, trimLeft_W H st hG, hw1, hr2, hw, h0]
  rfl

theorem qual_W (he : C.fns 113 = some (.ext xIndexByte)) (hx : x.Ok) (hG : Good st) : callW C 44 [.ptr r 0 0] st = some (.str x.word, st.set r x.name.row) := by
  have hlt := (List.getElem?_eq_some_iff.1 hr).1
  have hr2 : st[r]? = some (.cells [.str x.s, .int .i64 x.a, .int .i64 x.n, .int .i64 x.e, .int .i64 x.o] 0 0 false 56) := hr
  rw [← CW_eq, CW_is H.h44 _ (by simp)]
  simp only [List.length_cons, List.length_nil, Nat.zero_add, Nat.reduceAdd, Nat.reduceSub, List.reduceReplicate, List.cons_append, List.nil_append]
  unfold k44b
  have hrest := rest_W H st r x hr hx
  have h1 := rest_le x
  have h2 := hx.s
  have h3 := hx.a
  have hg : x.word.length ≤ x.rest.length := take_le _
  have hn : (noSign x.rest).length = x.rest.length - x.word.length := drop_len _
  have hw1 : IntKind.wrap .i64 ((x.rest.length : Int) - ((noSign x.rest).length : Nat)) = (x.word.length : Int) := by rw [wrap_i64 (by omega) (by omega)]; omega
  have hw : IntKind.wrap .i64 ((x.a : Int) + (x.word.length : Int)) = ((x.a + x.word.length : Nat) : Int) := by rw [wrap_i64 (by omega) (by omega)]; omega
  have ht : x.rest.take x.word.length = x.word := by
    unfold Rd.word
    exact List.prefix_iff_eq_take.1 (List.takeWhile_prefix _) |>.symm
  have htr := trimSign_W H st hG x.rest (by omega)
  have hq := isQual_W H st he x.word (by omega)
  have hf := fails_W H st r x hr x.a 2
  have e2 : (AV.int .i64 2) = .int .i64 ((2 : Nat) : Int) := rfl
  unfold Rd.name
  cases h : isQual x.word <;> rw [h] at hq
  · have hr3 : (st.set r (x.fail x.a 2).row)[r]? = some (.cells [.str (x.fail x.a 2).s, .int .i64 (x.fail x.a 2).a, .int .i64 (x.fail x.a 2).n, .int .i64 (x.fail x.a 2).e, .int .i64 (x.fail x.a 2).o] 0 0 false 56) := List.getElem?_set_self hlt
    have ha : (x.fail x.a 2).a = x.a := by unfold Rd.fail; split <;> rfl
    simp only [Zde, Zdj, Zdk, Zdl, Zdi, Zdh, Zbp, Zb1, Zbj, Zbu, Zbl, Zbz, Zbw, Zb4, Zb3, Zb5, Zdt, Zeb, Zbe, Zbd, Zam, Zal, Zcd, Zeq, Zew, Zev, Zdu, Zd2, Za9, Zce, Zcf, Zea, Zdv, Zcg, Zch, Zci, Zcj, Zck, Zem, Zbk, Zbh, Zec, Zej, Zek, Zel, Zc5, Zdb, Zc3, Zc8, Zc7, Zc6, Zc9, Zda, Zc4, Zct, Zcx, Zcs, Zcv, Zcu, Zcw, Option.bind_some, Option.bind_none, List.set_cons_zero, List.set_cons_succ, List.set_set, List.length_set, List.length_append, List.length_cons, List.length_nil, List.append_assoc, List.singleton_append, Nat.zero_add, Nat.add_zero, Nat.reduceLT, Nat.reduceAdd, Zaj, Zah, Zaf, Zai, Zad, Zae, Zag, Zes, Zet, Zer, Za2, Za3, Za1, Zeh, Zei, Zeg, Zab, Zac, Zaa, Zep, Zeo, Zcq, Zcn, Zcp, Zco, Zcr, Za7, Za6, Zee, Zef, Zed, Zbf,
    Zbv, Zby, Zbi, Zb2, Zbn, Zbo, Zbs, Zbr, Zbt, Zbq, Zbm, Zb0, Zbx, Zbg, ev_t, ev_c, ev_f, Zcb, Zca, Zb8, Zb9, Zb6, Zb7, Zd7, Zd9, Zd8, Zcm, Zcl, Zd1, Zdz, Zd0,
    Zd6, Zd5, Zd4, Zd3, Zan, Zeu, Zbb, Zbc, Zba, Zcc, Zdr, Zdo, Zdq, Zdp, Zdc, Zdd, Zds, Zc2, Za4, Za8, Zen, Zdy, Zdw, Zdx,
    Zao, Za0, Zaw, Zar, Zax, Zav, Zau, Zat, Zas, Zay, Zaz, Zap, Zaq, Zak, Zdf, Zdg, Zdm, Zdn, Zc0, Zcy, Zcz, Zc1, Option.map_some, Option.map_none, List.cons_append, List.nil_append, List.append_nil, decide_true, decide_false, Bool.not_true, Bool.not_false, Bool.false_eq_true, if_true, if_false, ↓reduceIte, reduceCtorEq, Nat.reduceAdd, Nat.reduceEqDiff, Nat.reduceBEq, Za5, true_and, and_true, eq_self, List.getElem?_cons_zero, List.getElem?_cons_succ, hrest, htr, hw1, aSlice_hi _ _ _ _ hg, ht, hq, hr2]
    rw [e2, hf]
    simp only [Zde, Zdj, Zdk, Zdl, Zdi, Zdh, Zbp, Zb1, Zbj, Zbu, Zbl, Zbz, Zbw, Zb4, Zb3, Zb5, Zdt, Zeb, Zbe, Zbd, Zam, Zal, Zcd, Zeq, Zew, Zev, Zdu, Zd2, Za9, Zce, Zcf, Zea, Zdv, Zcg, Zch, Zci, Zcj, Zck, Zem, Zbk, Zbh, Zec, Zej, Zek, Zel, Zc5, Zdb, Zc3, Zc8, Zc7, Zc6, Zc9, Zda, Zc4, Zct, Zcx, Zcs, Zcv, Zcu, Zcw, Option.bind_some, Option.bind_none, List.set_cons_zero, List.set_cons_succ, List.set_set, List.length_set, List.length_append, List.length_cons, List.length_nil, List.append_assoc, List.singleton_append, Nat.zero_add, Nat.add_zero, Nat.reduceLT, Nat.reduceAdd, Zaj, Zah, Zaf, Zai, Zad, Zae, Zag, Zes, Zet, Zer, Za2, Za3, Za1, Zeh, Zei, Zeg, Zab, Zac, Zaa, Zep, Zeo, Zcq, Zcn, Zcp, Zco, Zcr, Za7, Za6, Zee, Zef, Zed, Zbf,
    Zbv, Zby, Zbi, Zb2, Zbn, Zbo, Zbs, Zbr, Zbt, Zbq, Zbm, Zb0, Zbx, Zbg, ev_t, ev_c, ev_f, Zcb, Zca, Zb8, Zb9, Zb6, Zb7, Zd7, Zd9, Zd8, Zcm, Zcl, Zd1, Zdz, Zd0,
    Zd6, Zd5, Zd4, Zd3, Zan, Zeu, Zbb, Zbc, Zba, Zcc, Zdr, Zdo, Zdq, Zdp, Zdc, Zdd, Zds, Zc2, Za4, Za8, Zen, Zdy, Zdw, Zdx,
    Zao, Za0, Zaw, Zar, Zax, Zav, Zau, Zat, Zas, Zay, Zaz, Zap, Zaq, Zak, Zdf, Zdg, Zdm, Zdn, Zc0, Zcy, Zcz, Zc1, Option.map_some, Option.map_none, List.cons_append, List.nil_append, List.append_nil, decide_true, decide_false, Bool.not_true, Bool.not_false, Bool.false_eq_true, if_true, if_false, ↓reduceIte, reduceCtorEq, Nat.reduceAdd, Nat.reduceEqDiff, Nat.reduceBEq, Za5, true_and, and_true, eq_self, List.getElem?_cons_zero, List.getElem?_cons_succ, hr3, ha, hw]
    show _ = st.set r ((x.fail x.a 2).go x.word.length).row
    unfold Rd.go Rd.row
    simp only [ha]
  · simp only [Zde, Zdj, Zdk, Zdl, Zdi, Zdh, Zbp, Zb1, Zbj, Zbu, Zbl, Zbz, Zbw, Zb4, Zb3, Zb5, Zdt, Zeb, Zbe, Zbd, Zam, Zal, Zcd, Zeq, Zew, Zev, Zdu, Zd2, Za9, Zce, Zcf, Zea, Zdv, Zcg, Zch, Zci, Zcj, Zck, Zem, Zbk, Zbh, Zec, Zej, Zek, Zel, Zc5, Zdb, Zc3, Zc8, Zc7, Zc6, Zc9, Zda, Zc4, Zct, Zcx, Zcs, Zcv, Zcu, Zcw, Option.bind_some, Option.bind_none, List.set_cons_zero, List.set_cons_succ, List.set_set, List.length_set, List.length_append, List.length_cons, List.length_nil, List.append_assoc, List.singleton_append, Nat.zero_add, Nat.add_zero, Nat.reduceLT, Nat.reduceAdd, Zaj, Zah, Zaf, Zai, Zad, Zae, Zag, Zes, Zet, Zer, Za2, Za3, Za1, Zeh, Zei, Zeg, Zab, Zac, Zaa, Zep, Zeo, Zcq, Zcn, Zcp, Zco, Zcr, Za7, Za6, Zee, Zef, Zed, Zbf,
    Zbv, Zby, Zbi, Zb2, Zbn, Zbo, Zbs, Zbr, Zbt, Zbq, Zbm, Zb0, Zbx, Zbg, ev_t, ev_c, ev_f, Zcb, Zca, Zb8, Zb9, Zb6, Zb7, Zd7, Zd9, Zd8, Zcm, Zcl, Zd1, Zdz, Zd0,
    Zd6, Zd5, Zd4, Zd3, Zan, Zeu, Zbb, Zbc, Zba, Zcc, Zdr, Zdo, Zdq, Zdp, Zdc, Zdd, Zds, Zc2, Za4, Za8, Zen, Zdy, Zdw, Zdx,
    Zao, Za0, Zaw, Zar, Zax, Zav, Zau, Zat, Zas, Zay, Zaz, Zap, Zaq, Zak, Zdf, Zdg, Zdm, Zdn, Zc0, Zcy, Zcz, Zc1, Option.map_some, Option.map_none, List.cons_append, List.nil_append, List.append_nil, decide_true, decide_false, Bool.not_true, Bool.not_false, Bool.false_eq_true, if_true, if_false, ↓reduceIte, reduceCtorEq, Nat.reduceAdd, Nat.reduceEqDiff, Nat.reduceBEq, Za5, true_and, and_true, eq_self, List.getElem?_cons_zero, List.getElem?_cons_succ, hrest, htr, hw1, aSlice_hi _ _ _ _ hg, ht, hq, hr2, hw]
    rfl
end
end Go.Eng

