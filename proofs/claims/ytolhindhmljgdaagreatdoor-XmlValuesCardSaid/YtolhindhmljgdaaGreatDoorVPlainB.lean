/-
  Texts of a proof. Conditions: none.
-/
import Derived.Test.YtolhindhmljgdaaGreatDoorVPlainA
set_option linter.unusedVariables false
set_option linter.unusedSimpArgs false
set_option linter.unnecessarySimpa false
set_option linter.unusedSectionVars false
namespace Go.Eng
open Go
open Go.Eng renaming WO_guard → Zaa, WO_nil → Zab, WO_op → Zac, W_block → Zad, W_cond → Zae, W_exit → Zaf, W_reg → Zag, W_ret → Zah, W_seq → Zai, W_skip → Zaj, aIndexAddr_sl → Zak, agg_all → Zal, agg_one → Zam, binE_some → Zan, bin_add → Zao, bin_beq → Zap, bin_bne → Zaq, bin_eql → Zar, bin_geq → Zas, bin_gtr → Zat, bin_leq → Zau, bin_lss → Zav, bin_mul → Zaw, bin_neq → Zax, bin_seq → Zay, bin_sne → Zaz, bin_sub → Za0, blockQ_exit → Za1, blockQ_norm → Za2, blockQ_ret → Za3, callE_f → Za4, cast0 → Za5, condQ_false → Za6, condQ_true → Za7, consO_some → Za8, consP_some → Za9, convE_bytes → Zba, convE_int → Zbb, convE_same → Zbc, cut_four → Zbd, cut_one → Zbe, endQ_some → Zbf, evOp_alloc → Zbg, evOp_append → Zbh, evOp_bin → Zbi, evOp_box → Zbj, evOp_bslice → Zbk, evOp_build → Zbl, evOp_callE → Zbm, evOp_conv → Zbn, evOp_ext → Zbo, evOp_faddr → Zbp, evOp_iaddr → Zbq, evOp_ixs → Zbr, evOp_len → Zbs, evOp_load → Zbt, evOp_mkfn → Zbu, evOp_mv → Zbv, evOp_next → Zbw, evOp_nilchk → Zbx, evOp_pick → Zby, evOp_range → Zbz, evOp_slice → Zb0, evOp_store → Zb1, evOp_un → Zb2, evParts_cons → Zb3, evParts_nil → Zb4, evRes_cell → Zb5, evRes_nil → Zb6, evRes_tmp → Zb7, evo_none → Zb8, evo_some → Zb9, evs_cons → Zca, evs_nil → Zcb, extE_tup → Zcc, faddrE_ptr → Zcd, fillA_nil → Zce, fillA_one → Zcf, get_new0 → Zcg, get_new1 → Zch, get_new2 → Zci, get_new3 → Zcj, get_new4 → Zck, get_succ → Zcl, get_zero → Zcm, guardQ_ff → Zcn, guardQ_ft → Zco, guardQ_tf → Zcp, guardQ_tt → Zcq, guardQ_undef → Zcr, hi_bool → Zcs, hi_int → Zct, hi_nilp → Zcu, hi_nils → Zcv, hi_sl → Zcw, hi_str → Zcx, his_bool → Zcy, his_int → Zcz, his_nil → Zc0, his_str → Zc1, iaddrE_some → Zc2, isCell_bool → Zc3, isCell_fn → Zc4, isCell_int → Zc5, isCell_nilp → Zc6, isCell_nils → Zc7, isCell_ptr → Zc8, isCell_sl → Zc9, isCell_slc → Zda, isCell_str → Zdb, ixsE_str → Zdc, ixsE_zero → Zdd, leave0 → Zde, leave_bool → Zdf, leave_int → Zdg, leave_nil → Zdh, leave_set0 → Zdi, leave_setb → Zdj, leave_setn → Zdk, leave_sets → Zdl, leave_str → Zdm, leave_tup → Zdn, lenE_nils → Zdo, lenE_sl → Zdp, lenE_slc → Zdq, lenE_str → Zdr, loadE_one → Zds, loadE_ptr → Zdt, mkfnE_some → Zdu, nextE_ptr → Zdv, nilE_cptr → Zdw, nilE_fn → Zdx, nilE_ptr → Zdy, oneOf_more → Zdz, oneOf_nil → Zd0, oneOf_one → Zd1, partsE_some → Zd2, pickE_false → Zd3, pickE_true → Zd4, prE_none → Zd5, prE_some → Zd6, put_none → Zd7, put_succ → Zd8, put_zero → Zd9, rangeE_str → Zea, rdE_cells → Zeb, rep_one → Zec, retQ_exit → Zed, retQ_norm → Zee, retQ_ret → Zef, roundQ_exit → Zeg, roundQ_norm → Zeh, roundQ_ret → Zei, set_new0 → Zej, set_new1 → Zek, set_new2 → Zel, set_new3 → Zem, sliceE_some → Zen, stepQ_none → Zeo, stepQ_some → Zep, storeE_ptr → Zeq, thenK_exit → Zer, thenK_norm → Zes, thenK_ret → Zet, unE_not → Zeu, wrE_agg4 → Zev, wrE_one → Zew
set_option maxHeartbeats 1000000
set_option maxRecDepth 4000
set_option linter.unusedSimpArgs false
set_option linter.unusedVariables false
set_option linter.unusedSectionVars false

/-- Does a text begin so? -/
def pre (p s : List UInt8) : Bool := decide (s.take p.length = p)

def isBlank (c : UInt8) : Bool := c == 32 || c == 9 || c == 13 || c == 10
def blankCells : List AV := (((z256.set 32 (.bool true)).set 9 (.bool true)).set 13 (.bool true)).set 10 (.bool true)
theorem blank_len : blankCells.length = 256 := by simp [blankCells, z256]
theorem blank_at : ∀ c : UInt8, blankCells[c.toNat]? = some (.bool (isBlank c)) := by
  intro c
  have h : c.toNat < 256 := c.toNat_lt
  simp only [blankCells, List.getElem?_set, List.length_set, z256, List.length_replicate, isBlank]
  have hz : (List.replicate 256 (AV.bool false))[c.toNat]? = some (.bool false) := by
    rw [List.getElem?_replicate, if_pos h]
  rw [hz]
  by_cases h1 : c = 32
  · subst h1; simp
  · by_cases h2 : c = 9
    · subst h2; simp
    · by_cases h3 : c = 13
      · subst h3; simp
      · by_cases h4 : c = 10
        · subst h4; simp
        · have e1 : 32 ≠ c.toNat := fun e => h1 (UInt8.toNat_inj.1 e.symm)
          have e2 : 9 ≠ c.toNat := fun e => h2 (UInt8.toNat_inj.1 e.symm)
          have e3 : 13 ≠ c.toNat := fun e => h3 (UInt8.toNat_inj.1 e.symm)
          have e4 : 10 ≠ c.toNat := fun e => h4 (UInt8.toNat_inj.1 e.symm)
          simp [e1, e2, e3, e4, h1, h2, h3, h4]

section
variable {C : Ctx} (H : Codes C)
include H

theorem slhasPrefix_W (st : St) (s p : List UInt8) : callW C 63 [.str s, .str p] st = some (.bool (pre p s), st) := by
  rw [← CW_eq, CW_is H.h63 _ (by simp)]
  simp only [List.length_cons, List.length_nil, Nat.zero_add, Nat.reduceAdd, Nat.reduceSub, List.reduceReplicate, List.cons_append, List.nil_append]
  unfold k63b pre
  have hi : (↑p.length : Int) ≤ ↑s.length ↔ p.length ≤ s.length := by omega
  by_cases h : p.length ≤ s.length
  · simp only [Zaj, Zah, Zaf, Zai, Zad, Zae, Zag, Zes, Zet, Zer, Za2, Za3, Za1, Zeh, Zei, Zeg, Zab, Zac, Zaa, Zep, Zeo, Zcq, Zcn, Zcp, Zco, Zcr, Za7, Za6, Zee, Zef, Zed, Zbf,
    Zbv, Zby, Zbi, Zb2, Zbn, Zbo, Zbs, Zbr, Zbt, Zbq, Zbm, Zb0, Zbx, Zbg, ev_t, ev_c, ev_f, Zcb, Zca, Zb8, Zb9, Zb6, Zb7, Zd7, Zd9, Zd8, Zcm, Zcl, Zd1, Zdz, Zd0,
    Zd6, Zd5, Zd4, Zd3, Zan, Zeu, Zbb, Zbc, Zba, Zcc, Zdr, Zdo, Zdq, Zdp, Zdc, Zdd, Zds, Zc2, Za4, Za8, Zen, Zdy, Zdw, Zdx,
    Zao, Za0, Zaw, Zar, Zax, Zav, Zau, Zat, Zas, Zay, Zaz, Zap, Zaq, Zak, Zdf, Zdg, Zdm, Zdn, Zc0, Zcy, Zcz, Zc1, Option.map_some, Option.map_none, List.cons_append, List.nil_append, List.append_nil, decide_true, decide_false, Bool.not_true, Bool.not_false, Bool.false_eq_true, if_true, if_false, ↓reduceIte, reduceCtorEq, Nat.reduceAdd, Nat.reduceEqDiff, Nat.reduceBEq, Za5, true_and, and_true, eq_self, List.getElem?_cons_zero, List.getElem?_cons_succ, hi, h, aSlice_hi _ _ _ _ h]
  · have : s.take p.length ≠ p := fun e => h (by rw [← e]; simp; omega)
    simp only [Zaj, Zah, Zaf, Zai, Zad, Zae, Zag, Zes, Zet, Zer, Za2, Za3, Za1, Zeh, Zei, Zeg, Zab, Zac, Zaa, Zep, Zeo, Zcq, Zcn, Zcp, Zco, Zcr, Za7, Za6, Zee, Zef, Zed, Zbf,
    Zbv, Zby, Zbi, Zb2, Zbn, Zbo, Zbs, Zbr, Zbt, Zbq, Zbm, Zb0, Zbx, Zbg, ev_t, ev_c, ev_f, Zcb, Zca, Zb8, Zb9, Zb6, Zb7, Zd7, Zd9, Zd8, Zcm, Zcl, Zd1, Zdz, Zd0,
    Zd6, Zd5, Zd4, Zd3, Zan, Zeu, Zbb, Zbc, Zba, Zcc, Zdr, Zdo, Zdq, Zdp, Zdc, Zdd, Zds, Zc2, Za4, Za8, Zen, Zdy, Zdw, Zdx,
    Zao, Za0, Zaw, Zar, Zax, Zav, Zau, Zat, Zas, Zay, Zaz, Zap, Zaq, Zak, Zdf, Zdg, Zdm, Zdn, Zc0, Zcy, Zcz, Zc1, Option.map_some, Option.map_none, List.cons_append, List.nil_append, List.append_nil, decide_true, decide_false, Bool.not_true, Bool.not_false, Bool.false_eq_true, if_true, if_false, ↓reduceIte, reduceCtorEq, Nat.reduceAdd, Nat.reduceEqDiff, Nat.reduceBEq, Za5, true_and, and_true, eq_self, List.getElem?_cons_zero, List.getElem?_cons_succ, hi, h, this]

theorem hasPrefix_W (st : St) (s p : List UInt8) : callW C 43 [.str s, .str p] st = some (.bool (pre p s), st) := by
  rw [← CW_eq, CW_is H.h43 _ (by simp)]
  simp only [List.length_cons, List.length_nil, Nat.zero_add, Nat.reduceAdd, Nat.reduceSub, List.reduceReplicate, List.cons_append, List.nil_append]
  unfold k43b
  simp only [Zaj, Zah, Zaf, Zai, Zad, Zae, Zag, Zes, Zet, Zer, Za2, Za3, Za1, Zeh, Zei, Zeg, Zab, Zac, Zaa, Zep, Zeo, Zcq, Zcn, Zcp, Zco, Zcr, Za7, Za6, Zee, Zef, Zed, Zbf,
    Zbv, Zby, Zbi, Zb2, Zbn, Zbo, Zbs, Zbr, Zbt, Zbq, Zbm, Zb0, Zbx, Zbg, ev_t, ev_c, ev_f, Zcb, Zca, Zb8, Zb9, Zb6, Zb7, Zd7, Zd9, Zd8, Zcm, Zcl, Zd1, Zdz, Zd0,
    Zd6, Zd5, Zd4, Zd3, Zan, Zeu, Zbb, Zbc, Zba, Zcc, Zdr, Zdo, Zdq, Zdp, Zdc, Zdd, Zds, Zc2, Za4, Za8, Zen, Zdy, Zdw, Zdx,
    Zao, Za0, Zaw, Zar, Zax, Zav, Zau, Zat, Zas, Zay, Zaz, Zap, Zaq, Zak, Zdf, Zdg, Zdm, Zdn, Zc0, Zcy, Zcz, Zc1, Option.map_some, Option.map_none, List.cons_append, List.nil_append, List.append_nil, decide_true, decide_false, Bool.not_true, Bool.not_false, Bool.false_eq_true, if_true, if_false, ↓reduceIte, reduceCtorEq, Nat.reduceAdd, Nat.reduceEqDiff, Nat.reduceBEq, Za5, true_and, and_true, eq_self, List.getElem?_cons_zero, List.getElem?_cons_succ, slhasPrefix_W H]

theorem contains_W (st : St) (r : Nat) (hr : st[r]? = some (.cells blankCells 0 0 false 106)) (c : UInt8) : callW C 101 [.ptr r 0 0, .int .u8 c.toNat] st = some (.bool (isBlank c), st) := by
  rw [← CW_eq, CW_is H.h101 _ (by simp)]
  simp only [List.length_cons, List.length_nil, Nat.zero_add, Nat.reduceAdd, Nat.reduceSub, List.reduceReplicate, List.cons_append, List.nil_append]
  unfold k101b
  have ha : aIndexAddr (some 256) 1 (.ptr r 0 0) (.int .u8 c.toNat) = some (.ptr r (0 + c.toNat * 1) 0) := by
    have : c.toNat < 256 := c.toNat_lt
    simp [aIndexAddr, natOf, this]
  simp only [Zde, Zdj, Zdk, Zdl, Zdi, Zdh, Zbp, Zb1, Zbj, Zbu, Zbl, Zbz, Zbw, Zb4, Zb3, Zb5, Zdt, Zeb, Zbe, Zbd, Zam, Zal, Zcd, Zeq, Zew, Zev, Zdu, Zd2, Za9, Zce, Zcf, Zea, Zdv, Zcg, Zch, Zci, Zcj, Zck, Zem, Zbk, Zbh, Zec, Zej, Zek, Zel, Zc5, Zdb, Zc3, Zc8, Zc7, Zc6, Zc9, Zda, Zc4, Zct, Zcx, Zcs, Zcv, Zcu, Zcw, Option.bind_some, Option.bind_none, List.set_cons_zero, List.set_cons_succ, List.set_set, List.length_set, List.length_append, List.length_cons, List.length_nil, List.append_assoc, List.singleton_append, Nat.zero_add, Nat.add_zero, Nat.reduceLT, Nat.reduceAdd, Zaj, Zah, Zaf, Zai, Zad, Zae, Zag, Zes, Zet, Zer, Za2, Za3, Za1, Zeh, Zei, Zeg, Zab, Zac, Zaa, Zep, Zeo, Zcq, Zcn, Zcp, Zco, Zcr, Za7, Za6, Zee, Zef, Zed, Zbf,
    Zbv, Zby, Zbi, Zb2, Zbn, Zbo, Zbs, Zbr, Zbt, Zbq, Zbm, Zb0, Zbx, Zbg, ev_t, ev_c, ev_f, Zcb, Zca, Zb8, Zb9, Zb6, Zb7, Zd7, Zd9, Zd8, Zcm, Zcl, Zd1, Zdz, Zd0,
    Zd6, Zd5, Zd4, Zd3, Zan, Zeu, Zbb, Zbc, Zba, Zcc, Zdr, Zdo, Zdq, Zdp, Zdc, Zdd, Zds, Zc2, Za4, Za8, Zen, Zdy, Zdw, Zdx,
    Zao, Za0, Zaw, Zar, Zax, Zav, Zau, Zat, Zas, Zay, Zaz, Zap, Zaq, Zak, Zdf, Zdg, Zdm, Zdn, Zc0, Zcy, Zcz, Zc1, Option.map_some, Option.map_none, List.cons_append, List.nil_append, List.append_nil, decide_true, decide_false, Bool.not_true, Bool.not_false, Bool.false_eq_true, if_true, if_false, ↓reduceIte, reduceCtorEq, Nat.reduceAdd, Nat.reduceEqDiff, Nat.reduceBEq, Za5, true_and, and_true, eq_self, List.getElem?_cons_zero, List.getElem?_cons_succ, ha, Nat.mul_one, hr, blank_at]

theorem round85 (st : St) (s : List UInt8) (Q : Ex → Env → St → Prop) (i : Nat) (c : UInt8) (cs : List AV) (hc : s[i]? = some c) (h128 : c.toNat < 128) (hcs : cs.length = 256) (hs : s.length < 1000) (env : Env) (hl : env.length = 21)
    (h0 : env.get 0 = .str s) (h2 : env.get 2 = .ptr st.length 0 0) (h4 : env.get 4 = .int .i64 i)
    (hq : ∀ e : Env, e.length = 21 → e.get 0 = .str s → e.get 2 = .ptr st.length 0 0 → e.get 4 = .int .i64 ((i + 1 : Nat) : Int) → W C k85l0 e (st ++ [.cells (cs.set c.toNat (.bool true)) 0 0 false 106]) Q) :
    W C k85l0 env (st ++ [.cells cs 0 0 false 106]) Q := by
  have hlt := (List.getElem?_eq_some_iff.1 hc).1
  rw [W_loop' (show k85l0 = .loop k85l0b from rfl)]
  unfold k85l0b
  have hi : (↑i : Int) < ↑s.length := by omega
  have h5 : ¬ (128 : Int) ≤ ↑c.toNat := by omega
  have hw : IntKind.wrap .i64 ((i : Int) + 1) = ((i + 1 : Nat) : Int) := by rw [wrap_i64 (by omega) (by omega)]; omega
  have ha : aIndexAddr (some 256) 1 (.ptr st.length 0 0) (.int .u8 c.toNat) = some (.ptr st.length (0 + c.toNat * 1) 0) := by
    have : c.toNat < 256 := c.toNat_lt
    simp [aIndexAddr, natOf, this]
  have hlt2 : c.toNat < cs.length := by rw [hcs]; exact c.toNat_lt
  simp only [Zde, Zdj, Zdk, Zdl, Zdi, Zdh, Zbp, Zb1, Zbj, Zbu, Zbl, Zbz, Zbw, Zb4, Zb3, Zb5, Zdt, Zeb, Zbe, Zbd, Zam, Zal, Zcd, Zeq, Zew, Zev, Zdu, Zd2, Za9, Zce, Zcf, Zea, Zdv, Zcg, Zch, Zci, Zcj, Zck, Zem, Zbk, Zbh, Zec, Zej, Zek, Zel, Zc5, Zdb, Zc3, Zc8, Zc7, Zc6, Zc9, Zda, Zc4, Zct, Zcx, Zcs, Zcv, Zcu, Zcw, Option.bind_some, Option.bind_none, List.set_cons_zero, List.set_cons_succ, List.set_set, List.length_set, List.length_append, List.length_cons, List.length_nil, List.append_assoc, List.singleton_append, Nat.zero_add, Nat.add_zero, Nat.reduceLT, Nat.reduceAdd, Zaj, Zah, Zaf, Zai, Zad, Zae, Zag, Zes, Zet, Zer, Za2, Za3, Za1, Zeh, Zei, Zeg, Zab, Zac, Zaa, Zep, Zeo, Zcq, Zcn, Zcp, Zco, Zcr, Za7, Za6, Zee, Zef, Zed, Zbf,
    Zbv, Zby, Zbi, Zb2, Zbn, Zbo, Zbs, Zbr, Zbt, Zbq, Zbm, Zb0, Zbx, Zbg, ev_t, ev_c, ev_f, Zcb, Zca, Zb8, Zb9, Zb6, Zb7, Zd7, Zd9, Zd8, Zcm, Zcl, Zd1, Zdz, Zd0,
    Zd6, Zd5, Zd4, Zd3, Zan, Zeu, Zbb, Zbc, Zba, Zcc, Zdr, Zdo, Zdq, Zdp, Zdc, Zdd, Zds, Zc2, Za4, Za8, Zen, Zdy, Zdw, Zdx,
    Zao, Za0, Zaw, Zar, Zax, Zav, Zau, Zat, Zas, Zay, Zaz, Zap, Zaq, Zak, Zdf, Zdg, Zdm, Zdn, Zc0, Zcy, Zcz, Zc1, Option.map_some, Option.map_none, List.cons_append, List.nil_append, List.append_nil, decide_true, decide_false, Bool.not_true, Bool.not_false, Bool.false_eq_true, if_true, if_false, ↓reduceIte, reduceCtorEq, Nat.reduceAdd, Nat.reduceEqDiff, Nat.reduceBEq, Za5, true_and, and_true, eq_self, List.getElem?_cons_zero, List.getElem?_cons_succ, get_put_eq, get_put_ne, Env.put_length, Nat.reduceLT, Zaj, Zah, Zaf, Zai, Zad, Zae, Zag, Zes, Zet, Zer, Za2, Za3, Za1, Zeh, Zei, Zeg, Zab, Zac, Zaa, Zep, Zeo, Zcq, Zcn, Zcp, Zco, Zcr, Za7, Za6, Zee, Zef, Zed, Zbf,
    Zbv, Zby, Zbi, Zb2, Zbn, Zbo, Zbs, Zbr, Zbt, Zbq, Zbm, Zb0, Zbx, Zbg, ev_t, ev_c, ev_f, Zcb, Zca, Zb8, Zb9, Zb6, Zb7, Zd7, Zd9, Zd8, Zcm, Zcl, Zd1, Zdz, Zd0,
    Zd6, Zd5, Zd4, Zd3, Zan, Zeu, Zbb, Zbc, Zba, Zcc, Zdr, Zdo, Zdq, Zdp, Zdc, Zdd, Zds, Zc2, Za4, Za8, Zen, Zdy, Zdw, Zdx,
    Zao, Za0, Zaw, Zar, Zax, Zav, Zau, Zat, Zas, Zay, Zaz, Zap, Zaq, Zak, Zdf, Zdg, Zdm, Zdn, Zc0, Zcy, Zcz, Zc1, Option.map_some, Option.map_none, List.cons_append, List.nil_append, List.append_nil, decide_true, decide_false, Bool.not_true, Bool.not_false, Bool.false_eq_true, if_true, if_false, ↓reduceIte, reduceCtorEq, Nat.reduceAdd, Nat.reduceEqDiff, Nat.reduceBEq, Za5, true_and, and_true, eq_self, List.getElem?_cons_zero, List.getElem?_cons_succ, h0, h2, h4, hl, hi, hc, h5, ha, Nat.mul_one, hlt2, hw]
  refine hq _ ?_ ?_ ?_ ?_ <;> simp only [get_put_eq, get_put_ne, Env.put_length, Nat.reduceLT, Zaj, Zah, Zaf, Zai, Zad, Zae, Zag, Zes, Zet, Zer, Za2, Za3, Za1, Zeh, Zei, Zeg, Zab, Zac, Zaa, Zep, Zeo, Zcq, Zcn, Zcp, Zco, Zcr, Za7, Za6, Zee, Zef, Zed, Zbf,
    Zbv, Zby, Zbi, Zb2, Zbn, Zbo, Zbs, Zbr, Zbt, Zbq, Zbm, Zb0, Zbx, Zbg, ev_t, ev_c, ev_f, Zcb, Zca, Zb8, Zb9, Zb6, Zb7, Zd7, Zd9, Zd8, Zcm, Zcl, Zd1, Zdz, Zd0,
    Zd6, Zd5, Zd4, Zd3, Zan, Zeu, Zbb, Zbc, Zba, Zcc, Zdr, Zdo, Zdq, Zdp, Zdc, Zdd, Zds, Zc2, Za4, Za8, Zen, Zdy, Zdw, Zdx,
    Zao, Za0, Zaw, Zar, Zax, Zav, Zau, Zat, Zas, Zay, Zaz, Zap, Zaq, Zak, Zdf, Zdg, Zdm, Zdn, Zc0, Zcy, Zcz, Zc1, Option.map_some, Option.map_none, List.cons_append, List.nil_append, List.append_nil, decide_true, decide_false, Bool.not_true, Bool.not_false, Bool.false_eq_true, if_true, if_false, ↓reduceIte, reduceCtorEq, Nat.reduceAdd, Nat.reduceEqDiff, Nat.reduceBEq, Za5, true_and, and_true, eq_self, List.getElem?_cons_zero, List.getElem?_cons_succ, hl, h0, h2]

theorem asciiSet_W (st : St) (hG : Good st) : callW C 85 [.str [32, 9, 13, 10]] st = some (.tup [.agg blankCells, .bool true], st) := by
  rw [← CW_eq, CW_is H.h85 _ (by simp)]
  simp only [List.length_cons, List.length_nil, Nat.zero_add, Nat.reduceAdd, Nat.reduceSub, List.reduceReplicate, List.cons_append, List.nil_append]
  unfold k85b
  simp only [Zde, Zdj, Zdk, Zdl, Zdi, Zdh, Zbp, Zb1, Zbj, Zbu, Zbl, Zbz, Zbw, Zb4, Zb3, Zb5, Zdt, Zeb, Zbe, Zbd, Zam, Zal, Zcd, Zeq, Zew, Zev, Zdu, Zd2, Za9, Zce, Zcf, Zea, Zdv, Zcg, Zch, Zci, Zcj, Zck, Zem, Zbk, Zbh, Zec, Zej, Zek, Zel, Zc5, Zdb, Zc3, Zc8, Zc7, Zc6, Zc9, Zda, Zc4, Zct, Zcx, Zcs, Zcv, Zcu, Zcw, Option.bind_some, Option.bind_none, List.set_cons_zero, List.set_cons_succ, List.set_set, List.length_set, List.length_append, List.length_cons, List.length_nil, List.append_assoc, List.singleton_append, Nat.zero_add, Nat.add_zero, Nat.reduceLT, Nat.reduceAdd, Zaj, Zah, Zaf, Zai, Zad, Zae, Zag, Zes, Zet, Zer, Za2, Za3, Za1, Zeh, Zei, Zeg, Zab, Zac, Zaa, Zep, Zeo, Zcq, Zcn, Zcp, Zco, Zcr, Za7, Za6, Zee, Zef, Zed, Zbf,
    Zbv, Zby, Zbi, Zb2, Zbn, Zbo, Zbs, Zbr, Zbt, Zbq, Zbm, Zb0, Zbx, Zbg, ev_t, ev_c, ev_f, Zcb, Zca, Zb8, Zb9, Zb6, Zb7, Zd7, Zd9, Zd8, Zcm, Zcl, Zd1, Zdz, Zd0,
    Zd6, Zd5, Zd4, Zd3, Zan, Zeu, Zbb, Zbc, Zba, Zcc, Zdr, Zdo, Zdq, Zdp, Zdc, Zdd, Zds, Zc2, Za4, Za8, Zen, Zdy, Zdw, Zdx,
    Zao, Za0, Zaw, Zar, Zax, Zav, Zau, Zat, Zas, Zay, Zaz, Zap, Zaq, Zak, Zdf, Zdg, Zdm, Zdn, Zc0, Zcy, Zcz, Zc1, Option.map_some, Option.map_none, List.cons_append, List.nil_append, List.append_nil, decide_true, decide_false, Bool.not_true, Bool.not_false, Bool.false_eq_true, if_true, if_false, ↓reduceIte, reduceCtorEq, Nat.reduceAdd, Nat.reduceEqDiff, Nat.reduceBEq, Za5, true_and, and_true, eq_self, List.getElem?_cons_zero, List.getElem?_cons_succ]
  have l0 : z256.length = 256 := by simp [z256]
  refine round85 H st _ _ 0 32 _ rfl (by decide) l0 (by decide) _ rfl rfl rfl rfl ?_
  intro e1 a1 b1 c1 d1
  refine round85 H st _ _ 1 9 _ rfl (by decide) (by simp [l0]) (by decide) _ a1 b1 c1 d1 ?_
  intro e2 a2 b2 c2 d2
  refine round85 H st _ _ 2 13 _ rfl (by decide) (by simp [l0]) (by decide) _ a2 b2 c2 d2 ?_
  intro e3 a3 b3 c3 d3
  refine round85 H st _ _ 3 10 _ rfl (by decide) (by simp [l0]) (by decide) _ a3 b3 c3 d3 ?_
  intro e4 a4 b4 c4 d4
  rw [W_loop' (show k85l0 = .loop k85l0b from rfl)]
  unfold k85l0b
  have e : (((z256.set (UInt8.toNat 32) (.bool true)).set (UInt8.toNat 9) (.bool true)).set (UInt8.toNat 13) (.bool true)).set (UInt8.toNat 10) (.bool true) = blankCells := rfl
  have hb : AV.his blankCells = 0 := by decide +kernel
  have hall : blankCells.all AV.isCell = true := by decide +kernel
  simp only [Zde, Zdj, Zdk, Zdl, Zdi, Zdh, Zbp, Zb1, Zbj, Zbu, Zbl, Zbz, Zbw, Zb4, Zb3, Zb5, Zdt, Zeb, Zbe, Zbd, Zam, Zal, Zcd, Zeq, Zew, Zev, Zdu, Zd2, Za9, Zce, Zcf, Zea, Zdv, Zcg, Zch, Zci, Zcj, Zck, Zem, Zbk, Zbh, Zec, Zej, Zek, Zel, Zc5, Zdb, Zc3, Zc8, Zc7, Zc6, Zc9, Zda, Zc4, Zct, Zcx, Zcs, Zcv, Zcu, Zcw, Option.bind_some, Option.bind_none, List.set_cons_zero, List.set_cons_succ, List.set_set, List.length_set, List.length_append, List.length_cons, List.length_nil, List.append_assoc, List.singleton_append, Nat.zero_add, Nat.add_zero, Nat.reduceLT, Nat.reduceAdd, Zaj, Zah, Zaf, Zai, Zad, Zae, Zag, Zes, Zet, Zer, Za2, Za3, Za1, Zeh, Zei, Zeg, Zab, Zac, Zaa, Zep, Zeo, Zcq, Zcn, Zcp, Zco, Zcr, Za7, Za6, Zee, Zef, Zed, Zbf,
    Zbv, Zby, Zbi, Zb2, Zbn, Zbo, Zbs, Zbr, Zbt, Zbq, Zbm, Zb0, Zbx, Zbg, ev_t, ev_c, ev_f, Zcb, Zca, Zb8, Zb9, Zb6, Zb7, Zd7, Zd9, Zd8, Zcm, Zcl, Zd1, Zdz, Zd0,
    Zd6, Zd5, Zd4, Zd3, Zan, Zeu, Zbb, Zbc, Zba, Zcc, Zdr, Zdo, Zdq, Zdp, Zdc, Zdd, Zds, Zc2, Za4, Za8, Zen, Zdy, Zdw, Zdx,
    Zao, Za0, Zaw, Zar, Zax, Zav, Zau, Zat, Zas, Zay, Zaz, Zap, Zaq, Zak, Zdf, Zdg, Zdm, Zdn, Zc0, Zcy, Zcz, Zc1, Option.map_some, Option.map_none, List.cons_append, List.nil_append, List.append_nil, decide_true, decide_false, Bool.not_true, Bool.not_false, Bool.false_eq_true, if_true, if_false, ↓reduceIte, reduceCtorEq, Nat.reduceAdd, Nat.reduceEqDiff, Nat.reduceBEq, Za5, true_and, and_true, eq_self, List.getElem?_cons_zero, List.getElem?_cons_succ, get_put_eq, get_put_ne, Env.put_length, Nat.reduceLT, Zaj, Zah, Zaf, Zai, Zad, Zae, Zag, Zes, Zet, Zer, Za2, Za3, Za1, Zeh, Zei, Zeg, Zab, Zac, Zaa, Zep, Zeo, Zcq, Zcn, Zcp, Zco, Zcr, Za7, Za6, Zee, Zef, Zed, Zbf,
    Zbv, Zby, Zbi, Zb2, Zbn, Zbo, Zbs, Zbr, Zbt, Zbq, Zbm, Zb0, Zbx, Zbg, ev_t, ev_c, ev_f, Zcb, Zca, Zb8, Zb9, Zb6, Zb7, Zd7, Zd9, Zd8, Zcm, Zcl, Zd1, Zdz, Zd0,
    Zd6, Zd5, Zd4, Zd3, Zan, Zeu, Zbb, Zbc, Zba, Zcc, Zdr, Zdo, Zdq, Zdp, Zdc, Zdd, Zds, Zc2, Za4, Za8, Zen, Zdy, Zdw, Zdx,
    Zao, Za0, Zaw, Zar, Zax, Zav, Zau, Zat, Zas, Zay, Zaz, Zap, Zaq, Zak, Zdf, Zdg, Zdm, Zdn, Zc0, Zcy, Zcz, Zc1, Option.map_some, Option.map_none, List.cons_append, List.nil_append, List.append_nil, decide_true, decide_false, Bool.not_true, Bool.not_false, Bool.false_eq_true, if_true, if_false, ↓reduceIte, reduceCtorEq, Nat.reduceAdd, Nat.reduceEqDiff, Nat.reduceBEq, Za5, true_and, and_true, eq_self, List.getElem?_cons_zero, List.getElem?_cons_succ, a4, b4, c4, d4, Int.lt_irrefl, e, cut_all _ _ blank_len, wrE_all _ _ _ _ _ _ _ _ blank_len blank_len hall, hb, Nat.max_self]
  have hv : (AV.tup [.agg blankCells, .bool true]).hi ≤ st.length := by simp [AV.hi, AV.his, hb]
  rw [leave_drop rfl hG hv]
  exact ⟨rfl, rfl⟩

/-- Blanks taken. -/
def noBlank (s : List UInt8) : List UInt8 := s.dropWhile isBlank

theorem trimAscii_loop (st : St) (r : Nat) (hr : st[r]? = some (.cells blankCells 0 0 false 106)) (Q : Ex → Env → St → Prop) : ∀ (s : List UInt8) (env : Env), env.length = 16 → env.get 0 = .str s → env.get 1 = .ptr r 0 0 →
    (∀ e : Env, e.length = 16 → e.get 0 = .str (noBlank s) → Q (.exit 0) e st) → W C k86l0 env st Q
  | s, env, hl, h0, h1, hq => by
    rw [W_loop' (show k86l0 = .loop k86l0b from rfl)]
    unfold k86l0b
    cases s with
    | nil =>
      simp only [Zde, Zdj, Zdk, Zdl, Zdi, Zdh, Zbp, Zb1, Zbj, Zbu, Zbl, Zbz, Zbw, Zb4, Zb3, Zb5, Zdt, Zeb, Zbe, Zbd, Zam, Zal, Zcd, Zeq, Zew, Zev, Zdu, Zd2, Za9, Zce, Zcf, Zea, Zdv, Zcg, Zch, Zci, Zcj, Zck, Zem, Zbk, Zbh, Zec, Zej, Zek, Zel, Zc5, Zdb, Zc3, Zc8, Zc7, Zc6, Zc9, Zda, Zc4, Zct, Zcx, Zcs, Zcv, Zcu, Zcw, Option.bind_some, Option.bind_none, List.set_cons_zero, List.set_cons_succ, List.set_set, List.length_set, List.length_append, List.length_cons, List.length_nil, List.append_assoc, List.singleton_append, Nat.zero_add, Nat.add_zero, Nat.reduceLT, Nat.reduceAdd, Zaj, Zah, Zaf, Zai, Zad, Zae, Zag, Zes, Zet, Zer, Za2, Za3, Za1, Zeh, Zei, Zeg, Zab, Zac, Zaa, Zep, Zeo, Zcq, Zcn, Zcp, Zco, Zcr, Za7, Za6, Zee, Zef, Zed, Zbf,
    Zbv, Zby, Zbi, Zb2, Zbn, Zbo, Zbs, Zbr, Zbt, Zbq, Zbm, Zb0, Zbx, Zbg, ev_t, ev_c, ev_f, Zcb, Zca, Zb8, Zb9, Zb6, Zb7, Zd7, Zd9, Zd8, Zcm, Zcl, Zd1, Zdz, Zd0,
    Zd6, Zd5, Zd4, Zd3, Zan, Zeu, Zbb, Zbc, Zba, Zcc, Zdr, Zdo, Zdq, Zdp, Zdc, Zdd, Zds, Zc2, Za4, Za8, Zen, Zdy, Zdw, Zdx,
    Zao, Za0, Zaw, Zar, Zax, Zav, Zau, Zat, Zas, Zay, Zaz, Zap, Zaq, Zak, Zdf, Zdg, Zdm, Zdn, Zc0, Zcy, Zcz, Zc1, Option.map_some, Option.map_none, List.cons_append, List.nil_append, List.append_nil, decide_true, decide_false, Bool.not_true, Bool.not_false, Bool.false_eq_true, if_true, if_false, ↓reduceIte, reduceCtorEq, Nat.reduceAdd, Nat.reduceEqDiff, Nat.reduceBEq, Za5, true_and, and_true, eq_self, List.getElem?_cons_zero, List.getElem?_cons_succ, get_put_eq, get_put_ne, Env.put_length, Nat.reduceLT, Zaj, Zah, Zaf, Zai, Zad, Zae, Zag, Zes, Zet, Zer, Za2, Za3, Za1, Zeh, Zei, Zeg, Zab, Zac, Zaa, Zep, Zeo, Zcq, Zcn, Zcp, Zco, Zcr, Za7, Za6, Zee, Zef, Zed, Zbf,
    Zbv, Zby, Zbi, Zb2, Zbn, Zbo, Zbs, Zbr, Zbt, Zbq, Zbm, Zb0, Zbx, Zbg, ev_t, ev_c, ev_f, Zcb, Zca, Zb8, Zb9, Zb6, Zb7, Zd7, Zd9, Zd8, Zcm, Zcl, Zd1, Zdz, Zd0,
    Zd6, Zd5, Zd4, Zd3, Zan, Zeu, Zbb, Zbc, Zba, Zcc, Zdr, Zdo, Zdq, Zdp, Zdc, Zdd, Zds, Zc2, Za4, Za8, Zen, Zdy, Zdw, Zdx,
    Zao, Za0, Zaw, Zar, Zax, Zav, Zau, Zat, Zas, Zay, Zaz, Zap, Zaq, Zak, Zdf, Zdg, Zdm, Zdn, Zc0, Zcy, Zcz, Zc1, Option.map_some, Option.map_none, List.cons_append, List.nil_append, List.append_nil, decide_true, decide_false, Bool.not_true, Bool.not_false, Bool.false_eq_true, if_true, if_false, ↓reduceIte, reduceCtorEq, Nat.reduceAdd, Nat.reduceEqDiff, Nat.reduceBEq, Za5, true_and, and_true, eq_self, List.getElem?_cons_zero, List.getElem?_cons_succ, h0, h1, hl, Int.lt_irrefl, show ((0 : Nat) : Int) = 0 from rfl]
      refine hq _ ?_ ?_ <;> simp only [get_put_eq, get_put_ne, Env.put_length, Nat.reduceLT, Zaj, Zah, Zaf, Zai, Zad, Zae, Zag, Zes, Zet, Zer, Za2, Za3, Za1, Zeh, Zei, Zeg, Zab, Zac, Zaa, Zep, Zeo, Zcq, Zcn, Zcp, Zco, Zcr, Za7, Za6, Zee, Zef, Zed, Zbf,
    Zbv, Zby, Zbi, Zb2, Zbn, Zbo, Zbs, Zbr, Zbt, Zbq, Zbm, Zb0, Zbx, Zbg, ev_t, ev_c, ev_f, Zcb, Zca, Zb8, Zb9, Zb6, Zb7, Zd7, Zd9, Zd8, Zcm, Zcl, Zd1, Zdz, Zd0,
    Zd6, Zd5, Zd4, Zd3, Zan, Zeu, Zbb, Zbc, Zba, Zcc, Zdr, Zdo, Zdq, Zdp, Zdc, Zdd, Zds, Zc2, Za4, Za8, Zen, Zdy, Zdw, Zdx,
    Zao, Za0, Zaw, Zar, Zax, Zav, Zau, Zat, Zas, Zay, Zaz, Zap, Zaq, Zak, Zdf, Zdg, Zdm, Zdn, Zc0, Zcy, Zcz, Zc1, Option.map_some, Option.map_none, List.cons_append, List.nil_append, List.append_nil, decide_true, decide_false, Bool.not_true, Bool.not_false, Bool.false_eq_true, if_true, if_false, ↓reduceIte, reduceCtorEq, Nat.reduceAdd, Nat.reduceEqDiff, Nat.reduceBEq, Za5, true_and, and_true, eq_self, List.getElem?_cons_zero, List.getElem?_cons_succ, hl, h0, noBlank, List.dropWhile_nil]
    | cons c l =>
      have h2 : (0 : Int) < ↑(l.length + 1) := by omega
      have h3 : aSlice st .str (.str (c :: l)) (some (.int .i64 1)) none none = some (.str l) := aSlice_lo st (c :: l) .i64 1 (by simp)
      simp only [Zde, Zdj, Zdk, Zdl, Zdi, Zdh, Zbp, Zb1, Zbj, Zbu, Zbl, Zbz, Zbw, Zb4, Zb3, Zb5, Zdt, Zeb, Zbe, Zbd, Zam, Zal, Zcd, Zeq, Zew, Zev, Zdu, Zd2, Za9, Zce, Zcf, Zea, Zdv, Zcg, Zch, Zci, Zcj, Zck, Zem, Zbk, Zbh, Zec, Zej, Zek, Zel, Zc5, Zdb, Zc3, Zc8, Zc7, Zc6, Zc9, Zda, Zc4, Zct, Zcx, Zcs, Zcv, Zcu, Zcw, Option.bind_some, Option.bind_none, List.set_cons_zero, List.set_cons_succ, List.set_set, List.length_set, List.length_append, List.length_cons, List.length_nil, List.append_assoc, List.singleton_append, Nat.zero_add, Nat.add_zero, Nat.reduceLT, Nat.reduceAdd, Zaj, Zah, Zaf, Zai, Zad, Zae, Zag, Zes, Zet, Zer, Za2, Za3, Za1, Zeh, Zei, Zeg, Zab, Zac, Zaa, Zep, Zeo, Zcq, Zcn, Zcp, Zco, Zcr, Za7, Za6, Zee, Zef, Zed, Zbf,
    Zbv, Zby, Zbi, Zb2, Zbn, Zbo, Zbs, Zbr, Zbt, Zbq, Zbm, Zb0, Zbx, Zbg, ev_t, ev_c, ev_f, Zcb, Zca, Zb8, Zb9, Zb6, Zb7, Zd7, Zd9, Zd8, Zcm, Zcl, Zd1, Zdz, Zd0,
    Zd6, Zd5, Zd4, Zd3, Zan, Zeu, Zbb, Zbc, Zba, Zcc, Zdr, Zdo, Zdq, Zdp, Zdc, Zdd, Zds, Zc2, Za4, Za8, Zen, Zdy, Zdw, Zdx,
    Zao, Za0, Zaw, Zar, Zax, Zav, Zau, Zat, Zas, Zay, Zaz, Zap, Zaq, Zak, Zdf, Zdg, Zdm, Zdn, Zc0, Zcy, Zcz, Zc1, Option.map_some, Option.map_none, List.cons_append, List.nil_append, List.append_nil, decide_true, decide_false, Bool.not_true, Bool.not_false, Bool.false_eq_true, if_true, if_false, ↓reduceIte, reduceCtorEq, Nat.reduceAdd, Nat.reduceEqDiff, Nat.reduceBEq, Za5, true_and, and_true, eq_self, List.getElem?_cons_zero, List.getElem?_cons_succ, get_put_eq, get_put_ne, Env.put_length, Nat.reduceLT, Zaj, Zah, Zaf, Zai, Zad, Zae, Zag, Zes, Zet, Zer, Za2, Za3, Za1, Zeh, Zei, Zeg, Zab, Zac, Zaa, Zep, Zeo, Zcq, Zcn, Zcp, Zco, Zcr, Za7, Za6, Zee, Zef, Zed, Zbf,
    Zbv, Zby, Zbi, Zb2, Zbn, Zbo, Zbs, Zbr, Zbt, Zbq, Zbm, Zb0, Zbx, Zbg, ev_t, ev_c, ev_f, Zcb, Zca, Zb8, Zb9, Zb6, Zb7, Zd7, Zd9, Zd8, Zcm, Zcl, Zd1, Zdz, Zd0,
    Zd6, Zd5, Zd4, Zd3, Zan, Zeu, Zbb, Zbc, Zba, Zcc, Zdr, Zdo, Zdq, Zdp, Zdc, Zdd, Zds, Zc2, Za4, Za8, Zen, Zdy, Zdw, Zdx,
    Zao, Za0, Zaw, Zar, Zax, Zav, Zau, Zat, Zas, Zay, Zaz, Zap, Zaq, Zak, Zdf, Zdg, Zdm, Zdn, Zc0, Zcy, Zcz, Zc1, Option.map_some, Option.map_none, List.cons_append, List.nil_append, List.append_nil, decide_true, decide_false, Bool.not_true, Bool.not_false, Bool.false_eq_true, if_true, if_false, ↓reduceIte, reduceCtorEq, Nat.reduceAdd, Nat.reduceEqDiff, Nat.reduceBEq, Za5, true_and, and_true, eq_self, List.getElem?_cons_zero, List.getElem?_cons_succ, h0, h1, hl, h2, contains_W H st r hr]
      cases hb : isBlank c
      · simp only [Zde, Zdj, Zdk, Zdl, Zdi, Zdh, Zbp, Zb1, Zbj, Zbu, Zbl, Zbz, Zbw, Zb4, Zb3, Zb5, Zdt, Zeb, Zbe, Zbd, Zam, Zal, Zcd, Zeq, Zew, Zev, Zdu, Zd2, Za9, Zce, Zcf, Zea, Zdv, Zcg, Zch, Zci, Zcj, Zck, Zem, Zbk, Zbh, Zec, Zej, Zek, Zel, Zc5, Zdb, Zc3, Zc8, Zc7, Zc6, Zc9, Zda, Zc4, Zct, Zcx, Zcs, Zcv, Zcu, Zcw, Option.bind_some, Option.bind_none, List.set_cons_zero, List.set_cons_succ, List.set_set, List.length_set, List.length_append, List.length_cons, List.length_nil, List.append_assoc, List.singleton_append, Nat.zero_add, Nat.add_zero, Nat.reduceLT, Nat.reduceAdd, Zaj, Zah, Zaf, Zai, Zad, Zae, Zag, Zes, Zet, Zer, Za2, Za3, Za1, Zeh, Zei, Zeg, Zab, Zac, Zaa, Zep, Zeo, Zcq, Zcn, Zcp, Zco, Zcr, Za7, Za6, Zee, Zef, Zed, Zbf,
    Zbv, Zby, Zbi, Zb2, Zbn, Zbo, Zbs, Zbr, Zbt, Zbq, Zbm, Zb0, Zbx, Zbg, ev_t, ev_c, ev_f, Zcb, Zca, Zb8, Zb9, Zb6, Zb7, Zd7, Zd9, Zd8, Zcm, Zcl, Zd1, Zdz, Zd0,
    Zd6, Zd5, Zd4, Zd3, Zan, Zeu, Zbb, Zbc, Zba, Zcc, Zdr, Zdo, Zdq, Zdp, Zdc, Zdd, Zds, Zc2, Za4, Za8, Zen, Zdy, Zdw, Zdx,
    Zao, Za0, Zaw, Zar, Zax, Zav, Zau, Zat, Zas, Zay, Zaz, Zap, Zaq, Zak, Zdf, Zdg, Zdm, Zdn, Zc0, Zcy, Zcz, Zc1, Option.map_some, Option.map_none, List.cons_append, List.nil_append, List.append_nil, decide_true, decide_false, Bool.not_true, Bool.not_false, Bool.false_eq_true, if_true, if_false, ↓reduceIte, reduceCtorEq, Nat.reduceAdd, Nat.reduceEqDiff, Nat.reduceBEq, Za5, true_and, and_true, eq_self, List.getElem?_cons_zero, List.getElem?_cons_succ, get_put_eq, get_put_ne, Env.put_length, Nat.reduceLT, Zaj, Zah, Zaf, Zai, Zad, Zae, Zag, Zes, Zet, Zer, Za2, Za3, Za1, Zeh, Zei, Zeg, Zab, Zac, Zaa, Zep, Zeo, Zcq, Zcn, Zcp, Zco, Zcr, Za7, Za6, Zee, Zef, Zed, Zbf,
    Zbv, Zby, Zbi, Zb2, Zbn, Zbo, Zbs, Zbr, Zbt, Zbq, Zbm, Zb0, Zbx, Zbg, ev_t, ev_c, ev_f, Zcb, Zca, Zb8, Zb9, Zb6, Zb7, Zd7, Zd9, Zd8, Zcm, Zcl, Zd1, Zdz, Zd0,
    Zd6, Zd5, Zd4, Zd3, Zan, Zeu, Zbb, Zbc, Zba, Zcc, Zdr, Zdo, Zdq, Zdp, Zdc, Zdd, Zds, Zc2, Za4, Za8, Zen, Zdy, Zdw, Zdx,
    Zao, Za0, Zaw, Zar, Zax, Zav, Zau, Zat, Zas, Zay, Zaz, Zap, Zaq, Zak, Zdf, Zdg, Zdm, Zdn, Zc0, Zcy, Zcz, Zc1, Option.map_some, Option.map_none, List.cons_append, List.nil_append, List.append_nil, decide_true, decide_false, Bool.not_true, Bool.not_false, Bool.false_eq_true, if_true, if_false, ↓reduceIte, reduceCtorEq, Nat.reduceAdd, Nat.reduceEqDiff, Nat.reduceBEq, Za5, true_and, and_true, eq_self, List.getElem?_cons_zero, List.getElem?_cons_succ, h0, h1, hl, h2, contains_W H st r hr]
        refine hq _ ?_ ?_ <;> simp only [get_put_eq, get_put_ne, Env.put_length, Nat.reduceLT, Zaj, Zah, Zaf, Zai, Zad, Zae, Zag, Zes, Zet, Zer, Za2, Za3, Za1, Zeh, Zei, Zeg, Zab, Zac, Zaa, Zep, Zeo, Zcq, Zcn, Zcp, Zco, Zcr, Za7, Za6, Zee, Zef, Zed, Zbf,
    Zbv, Zby, Zbi, Zb2, Zbn, Zbo, Zbs, Zbr, Zbt, Zbq, Zbm, Zb0, Zbx, Zbg, ev_t, ev_c, ev_f, Zcb, Zca, Zb8, Zb9, Zb6, Zb7, Zd7, Zd9, Zd8, Zcm, Zcl, Zd1, Zdz, Zd0,
    Zd6, Zd5, Zd4, Zd3, Zan, Zeu, Zbb, Zbc, Zba, Zcc, Zdr, Zdo, Zdq, Zdp, Zdc, Zdd, Zds, Zc2, Za4, Za8, Zen, Zdy, Zdw, Zdx,
    Zao, Za0, Zaw, Zar, Zax, Zav, Zau, Zat, Zas, Zay, Zaz, Zap, Zaq, Zak, Zdf, Zdg, Zdm, Zdn, Zc0, Zcy, Zcz, Zc1, Option.map_some, Option.map_none, List.cons_append, List.nil_append, List.append_nil, decide_true, decide_false, Bool.not_true, Bool.not_false, Bool.false_eq_true, if_true, if_false, ↓reduceIte, reduceCtorEq, Nat.reduceAdd, Nat.reduceEqDiff, Nat.reduceBEq, Za5, true_and, and_true, eq_self, List.getElem?_cons_zero, List.getElem?_cons_succ, hl, h0, noBlank, List.dropWhile_cons, hb]
      · simp only [Zde, Zdj, Zdk, Zdl, Zdi, Zdh, Zbp, Zb1, Zbj, Zbu, Zbl, Zbz, Zbw, Zb4, Zb3, Zb5, Zdt, Zeb, Zbe, Zbd, Zam, Zal, Zcd, Zeq, Zew, Zev, Zdu, Zd2, Za9, Zce, Zcf, Zea, Zdv, Zcg, Zch, Zci, Zcj, Zck, Zem, Zbk, Zbh, Zec, Zej, Zek, Zel, Zc5, Zdb, Zc3, Zc8, Zc7, Zc6, Zc9, Zda, Zc4, Zct, Zcx, Zcs, Zcv, Zcu, Zcw, Option.bind_some, Option.bind_none, List.set_cons_zero, List.set_cons_succ, List.set_set, List.length_set, List.length_append, List.length_cons, List.length_nil, List.append_assoc, List.singleton_append, Nat.zero_add, Nat.add_zero, Nat.reduceLT, Nat.reduceAdd, Zaj, Zah, Zaf, Zai, Zad, Zae, Zag, Zes, Zet, Zer, Za2, Za3, Za1, Zeh, Zei, Zeg, Zab, Zac, Zaa, Zep, Zeo, Zcq, Zcn, Zcp, Zco, Zcr, Za7, Za6, Zee, Zef, Zed, Zbf,
    Zbv, Zby, Zbi, Zb2, Zbn, Zbo, Zbs, Zbr, Zbt, Zbq, Zbm, Zb0, Zbx, Zbg, ev_t, ev_c, ev_f, Zcb, Zca, Zb8, Zb9, Zb6, Zb7, Zd7, Zd9, Zd8, Zcm, Zcl, Zd1, Zdz, Zd0,
    Zd6, Zd5, Zd4, Zd3, Zan, Zeu, Zbb, Zbc, Zba, Zcc, Zdr, Zdo, Zdq, Zdp, Zdc, Zdd, Zds, Zc2, Za4, Za8, Zen, Zdy, Zdw, Zdx,
    Zao, Za0, Zaw, Zar, Zax, Zav, Zau, Zat, Zas, Zay, Zaz, Zap, Zaq, Zak, Zdf, Zdg, Zdm, Zdn, Zc0, Zcy, Zcz, Zc1, Option.map_some, Option.map_none, List.cons_append, List.nil_append, List.append_nil, decide_true, decide_false, Bool.not_true, Bool.not_false, Bool.false_eq_true, if_true, if_false, ↓reduceIte, reduceCtorEq, Nat.reduceAdd, Nat.reduceEqDiff, Nat.reduceBEq, Za5, true_and, and_true, eq_self, List.getElem?_cons_zero, List.getElem?_cons_succ, get_put_eq, get_put_ne, Env.put_length, Nat.reduceLT, Zaj, Zah, Zaf, Zai, Zad, Zae, Zag, Zes, Zet, Zer, Za2, Za3, Za1, Zeh, Zei, Zeg, Zab, Zac, Zaa, Zep, Zeo, Zcq, Zcn, Zcp, Zco, Zcr, Za7, Za6, Zee, Zef, Zed, Zbf,
    Zbv, Zby, Zbi, Zb2, Zbn, Zbo, Zbs, Zbr, Zbt, Zbq, Zbm, Zb0, Zbx, Zbg, ev_t, ev_c, ev_f, Zcb, Zca, Zb8, Zb9, Zb6, Zb7, Zd7, Zd9, Zd8, Zcm, Zcl, Zd1, Zdz, Zd0,
    Zd6, Zd5, Zd4, Zd3, Zan, Zeu, Zbb, Zbc, Zba, Zcc, Zdr, Zdo, Zdq, Zdp, Zdc, Zdd, Zds, Zc2, Za4, Za8, Zen, Zdy, Zdw, Zdx,
    Zao, Za0, Zaw, Zar, Zax, Zav, Zau, Zat, Zas, Zay, Zaz, Zap, Zaq, Zak, Zdf, Zdg, Zdm, Zdn, Zc0, Zcy, Zcz, Zc1, Option.map_some, Option.map_none, List.cons_append, List.nil_append, List.append_nil, decide_true, decide_false, Bool.not_true, Bool.not_false, Bool.false_eq_true, if_true, if_false, ↓reduceIte, reduceCtorEq, Nat.reduceAdd, Nat.reduceEqDiff, Nat.reduceBEq, Za5, true_and, and_true, eq_self, List.getElem?_cons_zero, List.getElem?_cons_succ, h0, h1, hl, h2, contains_W H st r hr, h3]
        refine trimAscii_loop st r hr Q l _ ?_ ?_ ?_ ?_
        · simp only [get_put_eq, get_put_ne, Env.put_length, Nat.reduceLT, Zaj, Zah, Zaf, Zai, Zad, Zae, Zag, Zes, Zet, Zer, Za2, Za3, Za1, Zeh, Zei, Zeg, Zab, Zac, Zaa, Zep, Zeo, Zcq, Zcn, Zcp, Zco, Zcr, Za7, Za6, Zee, Zef, Zed, Zbf,
    Zbv, Zby, Zbi, Zb2, Zbn, Zbo, Zbs, Zbr, Zbt, Zbq, Zbm, Zb0, Zbx, Zbg, ev_t, ev_c, ev_f, Zcb, Zca, Zb8, Zb9, Zb6, Zb7, Zd7, Zd9, Zd8, Zcm, Zcl, Zd1, Zdz, Zd0,
    Zd6, Zd5, Zd4, Zd3, Zan, Zeu, Zbb, Zbc, Zba, Zcc, Zdr, Zdo, Zdq, Zdp, Zdc, Zdd, Zds, Zc2, Za4, Za8, Zen, Zdy, Zdw, Zdx,
    Zao, Za0, Zaw, Zar, Zax, Zav, Zau, Zat, Zas, Zay, Zaz, Zap, Zaq, Zak, Zdf, Zdg, Zdm, Zdn, Zc0, Zcy, Zcz, Zc1, Option.map_some, Option.map_none, List.cons_append, List.nil_append, List.append_nil, decide_true, decide_false, Bool.not_true, Bool.not_false, Bool.false_eq_true, if_true, if_false, ↓reduceIte, reduceCtorEq, Nat.reduceAdd, Nat.reduceEqDiff, Nat.reduceBEq, Za5, true_and, and_true, eq_self, List.getElem?_cons_zero, List.getElem?_cons_succ, hl]
        · simp only [get_put_eq, get_put_ne, Env.put_length, Nat.reduceLT, Zaj, Zah, Zaf, Zai, Zad, Zae, Zag, Zes, Zet, Zer, Za2, Za3, Za1, Zeh, Zei, Zeg, Zab, Zac, Zaa, Zep, Zeo, Zcq, Zcn, Zcp, Zco, Zcr, Za7, Za6, Zee, Zef, Zed, Zbf,
    Zbv, Zby, Zbi, Zb2, Zbn, Zbo, Zbs, Zbr, Zbt, Zbq, Zbm, Zb0, Zbx, Zbg, ev_t, ev_c, ev_f, Zcb, Zca, Zb8, Zb9, Zb6, Zb7, Zd7, Zd9, Zd8, Zcm, Zcl, Zd1, Zdz, Zd0,
    Zd6, Zd5, Zd4, Zd3, Zan, Zeu, Zbb, Zbc, Zba, Zcc, Zdr, Zdo, Zdq, Zdp, Zdc, Zdd, Zds, Zc2, Za4, Za8, Zen, Zdy, Zdw, Zdx,
    Zao, Za0, Zaw, Zar, Zax, Zav, Zau, Zat, Zas, Zay, Zaz, Zap, Zaq, Zak, Zdf, Zdg, Zdm, Zdn, Zc0, Zcy, Zcz, Zc1, Option.map_some, Option.map_none, List.cons_append, List.nil_append, List.append_nil, decide_true, decide_false, Bool.not_true, Bool.not_false, Bool.false_eq_true, if_true, if_false, ↓reduceIte, reduceCtorEq, Nat.reduceAdd, Nat.reduceEqDiff, Nat.reduceBEq, Za5, true_and, and_true, eq_self, List.getElem?_cons_zero, List.getElem?_cons_succ, hl]
        · simp only [get_put_eq, get_put_ne, Env.put_length, Nat.reduceLT, Zaj, Zah, Zaf, Zai, Zad, Zae, Zag, Zes, Zet, Zer, Za2, Za3, Za1, Zeh, Zei, Zeg, Zab, Zac, Zaa, Zep, Zeo, Zcq, Zcn, Zcp, Zco, Zcr, Za7, Za6, Zee, Zef, Zed, Zbf,
    Zbv, Zby, Zbi, Zb2, Zbn, Zbo, Zbs, Zbr, Zbt, Zbq, Zbm, Zb0, Zbx, Zbg, ev_t, ev_c, ev_f, Zcb, Zca, Zb8, Zb9, Zb6, Zb7, Zd7, Zd9, Zd8, Zcm, Zcl, Zd1, Zdz, Zd0,
    Zd6, Zd5, Zd4, Zd3, Zan, Zeu, Zbb, Zbc, Zba, Zcc, Zdr, Zdo, Zdq, Zdp, Zdc, Zdd, Zds, Zc2, Za4, Za8, Zen, Zdy, Zdw, Zdx,
    Zao, Za0, Zaw, Zar, Zax, Zav, Zau, Zat, Zas, Zay, Zaz, Zap, Zaq, Zak, Zdf, Zdg, Zdm, Zdn, Zc0, Zcy, Zcz, Zc1, Option.map_some, Option.map_none, List.cons_append, List.nil_append, List.append_nil, decide_true, decide_false, Bool.not_true, Bool.not_false, Bool.false_eq_true, if_true, if_false, ↓reduceIte, reduceCtorEq, Nat.reduceAdd, Nat.reduceEqDiff, Nat.reduceBEq, Za5, true_and, and_true, eq_self, List.getElem?_cons_zero, List.getElem?_cons_succ, hl, h1]
        · intro e a b
          refine hq e a ?_
          rw [b]
          simp only [noBlank, List.dropWhile_cons, hb, if_true]

theorem trimAscii_W (st : St) (r : Nat) (hr : st[r]? = some (.cells blankCells 0 0 false 106)) (s : List UInt8) : callW C 86 [.str s, .ptr r 0 0] st = some (.str (noBlank s), st) := by
  rw [← CW_eq, CW_is H.h86 _ (by simp)]
  simp only [List.length_cons, List.length_nil, Nat.zero_add, Nat.reduceAdd, Nat.reduceSub, List.reduceReplicate, List.cons_append, List.nil_append]
  unfold k86b
  simp only [Zde, Zdj, Zdk, Zdl, Zdi, Zdh, Zbp, Zb1, Zbj, Zbu, Zbl, Zbz, Zbw, Zb4, Zb3, Zb5, Zdt, Zeb, Zbe, Zbd, Zam, Zal, Zcd, Zeq, Zew, Zev, Zdu, Zd2, Za9, Zce, Zcf, Zea, Zdv, Zcg, Zch, Zci, Zcj, Zck, Zem, Zbk, Zbh, Zec, Zej, Zek, Zel, Zc5, Zdb, Zc3, Zc8, Zc7, Zc6, Zc9, Zda, Zc4, Zct, Zcx, Zcs, Zcv, Zcu, Zcw, Option.bind_some, Option.bind_none, List.set_cons_zero, List.set_cons_succ, List.set_set, List.length_set, List.length_append, List.length_cons, List.length_nil, List.append_assoc, List.singleton_append, Nat.zero_add, Nat.add_zero, Nat.reduceLT, Nat.reduceAdd, Zaj, Zah, Zaf, Zai, Zad, Zae, Zag, Zes, Zet, Zer, Za2, Za3, Za1, Zeh, Zei, Zeg, Zab, Zac, Zaa, Zep, Zeo, Zcq, Zcn, Zcp, Zco, Zcr, Za7, Za6, Zee, Zef, Zed, Zbf,
    Zbv, Zby, Zbi, Zb2, Zbn, Zbo, Zbs, Zbr, Zbt, Zbq, Zbm, Zb0, Zbx, Zbg, ev_t, ev_c, ev_f, Zcb, Zca, Zb8, Zb9, Zb6, Zb7, Zd7, Zd9, Zd8, Zcm, Zcl, Zd1, Zdz, Zd0,
    Zd6, Zd5, Zd4, Zd3, Zan, Zeu, Zbb, Zbc, Zba, Zcc, Zdr, Zdo, Zdq, Zdp, Zdc, Zdd, Zds, Zc2, Za4, Za8, Zen, Zdy, Zdw, Zdx,
    Zao, Za0, Zaw, Zar, Zax, Zav, Zau, Zat, Zas, Zay, Zaz, Zap, Zaq, Zak, Zdf, Zdg, Zdm, Zdn, Zc0, Zcy, Zcz, Zc1, Option.map_some, Option.map_none, List.cons_append, List.nil_append, List.append_nil, decide_true, decide_false, Bool.not_true, Bool.not_false, Bool.false_eq_true, if_true, if_false, ↓reduceIte, reduceCtorEq, Nat.reduceAdd, Nat.reduceEqDiff, Nat.reduceBEq, Za5, true_and, and_true, eq_self, List.getElem?_cons_zero, List.getElem?_cons_succ]
  refine trimAscii_loop H st r hr _ s _ rfl rfl rfl ?_
  intro e a b
  simp only [Zde, Zdj, Zdk, Zdl, Zdi, Zdh, Zbp, Zb1, Zbj, Zbu, Zbl, Zbz, Zbw, Zb4, Zb3, Zb5, Zdt, Zeb, Zbe, Zbd, Zam, Zal, Zcd, Zeq, Zew, Zev, Zdu, Zd2, Za9, Zce, Zcf, Zea, Zdv, Zcg, Zch, Zci, Zcj, Zck, Zem, Zbk, Zbh, Zec, Zej, Zek, Zel, Zc5, Zdb, Zc3, Zc8, Zc7, Zc6, Zc9, Zda, Zc4, Zct, Zcx, Zcs, Zcv, Zcu, Zcw, Option.bind_some, Option.bind_none, List.set_cons_zero, List.set_cons_succ, List.set_set, List.length_set, List.length_append, List.length_cons, List.length_nil, List.append_assoc, List.singleton_append, Nat.zero_add, Nat.add_zero, Nat.reduceLT, Nat.reduceAdd, Zaj, Zah, Zaf, Zai, Zad, Zae, Zag, Zes, Zet, Zer, Za2, Za3, Za1, Zeh, Zei, Zeg, Zab, Zac, Zaa, Zep, Zeo, Zcq, Zcn, Zcp, Zco, Zcr, Za7, Za6, Zee, Zef, Zed, Zbf,
    Zbv, Zby, Zbi, Zb2, Zbn, Zbo, Zbs, Zbr, Zbt, Zbq, Zbm, Zb0, Zbx, Zbg, ev_t, ev_c, ev_f, Zcb, Zca, Zb8, Zb9, Zb6, Zb7, Zd7, Zd9, Zd8, Zcm, Zcl, Zd1, Zdz, Zd0,
    Zd6, Zd5, Zd4, Zd3, Zan, Zeu, Zbb, Zbc, Zba, Zcc, Zdr, Zdo, Zdq, Zdp, Zdc, Zdd, Zds, Zc2, Za4, Za8, Zen, Zdy, Zdw, Zdx,
    Zao, Za0, Zaw, Zar, Zax, Zav, Zau, Zat, Zas, Zay, Zaz, Zap, Zaq, Zak, Zdf, Zdg, Zdm, Zdn, Zc0, Zcy, Zcz, Zc1, Option.map_some, Option.map_none, List.cons_append, List.nil_append, List.append_nil, decide_true, decide_false, Bool.not_true, Bool.not_false, Bool.false_eq_true, if_true, if_false, ↓reduceIte, reduceCtorEq, Nat.reduceAdd, Nat.reduceEqDiff, Nat.reduceBEq, Za5, true_and, and_true, eq_self, List.getElem?_cons_zero, List.getElem?_cons_succ, get_put_eq, get_put_ne, Env.put_length, Nat.reduceLT, Zaj, Zah, Zaf, Zai, Zad, Zae, Zag, Zes, Zet, Zer, Za2, Za3, Za1, Zeh, Zei, Zeg, Zab, Zac, Zaa, Zep, Zeo, Zcq, Zcn, Zcp, Zco, Zcr, Za7, Za6, Zee, Zef, Zed, Zbf,
    Zbv, Zby, Zbi, Zb2, Zbn, Zbo, Zbs, Zbr, Zbt, Zbq, Zbm, Zb0, Zbx, Zbg, ev_t, ev_c, ev_f, Zcb, Zca, Zb8, Zb9, Zb6, Zb7, Zd7, Zd9, Zd8, Zcm, Zcl, Zd1, Zdz, Zd0,
    Zd6, Zd5, Zd4, Zd3, Zan, Zeu, Zbb, Zbc, Zba, Zcc, Zdr, Zdo, Zdq, Zdp, Zdc, Zdd, Zds, Zc2, Za4, Za8, Zen, Zdy, Zdw, Zdx,
    Zao, Za0, Zaw, Zar, Zax, Zav, Zau, Zat, Zas, Zay, Zaz, Zap, Zaq, Zak, Zdf, Zdg, Zdm, Zdn, Zc0, Zcy, Zcz, Zc1, Option.map_some, Option.map_none, List.cons_append, List.nil_append, List.append_nil, decide_true, decide_false, Bool.not_true, Bool.not_false, Bool.false_eq_true, if_true, if_false, ↓reduceIte, reduceCtorEq, Nat.reduceAdd, Nat.reduceEqDiff, Nat.reduceBEq, Za5, true_and, and_true, eq_self, List.getElem?_cons_zero, List.getElem?_cons_succ, a, b]

theorem trimLeft_W (st : St) (hG : Good st) (s : List UInt8) : callW C 70 [.str s, .str [32, 9, 13, 10]] st = some (.str (noBlank s), st) := by
  rw [← CW_eq, CW_is H.h70 _ (by simp)]
  simp only [List.length_cons, List.length_nil, Nat.zero_add, Nat.reduceAdd, Nat.reduceSub, List.reduceReplicate, List.cons_append, List.nil_append]
  unfold k70b
  by_cases hs : s = []
  · subst hs
    simp only [Zde, Zdj, Zdk, Zdl, Zdi, Zdh, Zbp, Zb1, Zbj, Zbu, Zbl, Zbz, Zbw, Zb4, Zb3, Zb5, Zdt, Zeb, Zbe, Zbd, Zam, Zal, Zcd, Zeq, Zew, Zev, Zdu, Zd2, Za9, Zce, Zcf, Zea, Zdv, Zcg, Zch, Zci, Zcj, Zck, Zem, Zbk, Zbh, Zec, Zej, Zek, Zel, Zc5, Zdb, Zc3, Zc8, Zc7, Zc6, Zc9, Zda, Zc4, Zct, Zcx, Zcs, Zcv, Zcu, Zcw, Option.bind_some, Option.bind_none, List.set_cons_zero, List.set_cons_succ, List.set_set, List.length_set, List.length_append, List.length_cons, List.length_nil, List.append_assoc, List.singleton_append, Nat.zero_add, Nat.add_zero, Nat.reduceLT, Nat.reduceAdd, Zaj, Zah, Zaf, Zai, Zad, Zae, Zag, Zes, Zet, Zer, Za2, Za3, Za1, Zeh, Zei, Zeg, Zab, Zac, Zaa, Zep, Zeo, Zcq, Zcn, Zcp, Zco, Zcr, Za7, Za6, Zee, Zef, Zed, Zbf,
    Zbv, Zby, Zbi, Zb2, Zbn, Zbo, Zbs, Zbr, Zbt, Zbq, Zbm, Zb0, Zbx, Zbg, ev_t, ev_c, ev_f, Zcb, Zca, Zb8, Zb9, Zb6, Zb7, Zd7, Zd9, Zd8, Zcm, Zcl, Zd1, Zdz, Zd0,
    Zd6, Zd5, Zd4, Zd3, Zan, Zeu, Zbb, Zbc, Zba, Zcc, Zdr, Zdo, Zdq, Zdp, Zdc, Zdd, Zds, Zc2, Za4, Za8, Zen, Zdy, Zdw, Zdx,
    Zao, Za0, Zaw, Zar, Zax, Zav, Zau, Zat, Zas, Zay, Zaz, Zap, Zaq, Zak, Zdf, Zdg, Zdm, Zdn, Zc0, Zcy, Zcz, Zc1, Option.map_some, Option.map_none, List.cons_append, List.nil_append, List.append_nil, decide_true, decide_false, Bool.not_true, Bool.not_false, Bool.false_eq_true, if_true, if_false, ↓reduceIte, reduceCtorEq, Nat.reduceAdd, Nat.reduceEqDiff, Nat.reduceBEq, Za5, true_and, and_true, eq_self, List.getElem?_cons_zero, List.getElem?_cons_succ, noBlank, List.dropWhile_nil]
  · have h4 : ¬ ((↑(4 : Nat) : Int) = 1) := by decide
    have l0 : z256.length = 256 := by simp [z256]
    have hb : AV.his blankCells = 0 := by decide +kernel
    have hall : blankCells.all AV.isCell = true := by decide +kernel
    simp only [Zde, Zdj, Zdk, Zdl, Zdi, Zdh, Zbp, Zb1, Zbj, Zbu, Zbl, Zbz, Zbw, Zb4, Zb3, Zb5, Zdt, Zeb, Zbe, Zbd, Zam, Zal, Zcd, Zeq, Zew, Zev, Zdu, Zd2, Za9, Zce, Zcf, Zea, Zdv, Zcg, Zch, Zci, Zcj, Zck, Zem, Zbk, Zbh, Zec, Zej, Zek, Zel, Zc5, Zdb, Zc3, Zc8, Zc7, Zc6, Zc9, Zda, Zc4, Zct, Zcx, Zcs, Zcv, Zcu, Zcw, Option.bind_some, Option.bind_none, List.set_cons_zero, List.set_cons_succ, List.set_set, List.length_set, List.length_append, List.length_cons, List.length_nil, List.append_assoc, List.singleton_append, Nat.zero_add, Nat.add_zero, Nat.reduceLT, Nat.reduceAdd, Zaj, Zah, Zaf, Zai, Zad, Zae, Zag, Zes, Zet, Zer, Za2, Za3, Za1, Zeh, Zei, Zeg, Zab, Zac, Zaa, Zep, Zeo, Zcq, Zcn, Zcp, Zco, Zcr, Za7, Za6, Zee, Zef, Zed, Zbf,
    Zbv, Zby, Zbi, Zb2, Zbn, Zbo, Zbs, Zbr, Zbt, Zbq, Zbm, Zb0, Zbx, Zbg, ev_t, ev_c, ev_f, Zcb, Zca, Zb8, Zb9, Zb6, Zb7, Zd7, Zd9, Zd8, Zcm, Zcl, Zd1, Zdz, Zd0,
    Zd6, Zd5, Zd4, Zd3, Zan, Zeu, Zbb, Zbc, Zba, Zcc, Zdr, Zdo, Zdq, Zdp, Zdc, Zdd, Zds, Zc2, Za4, Za8, Zen, Zdy, Zdw, Zdx,
    Zao, Za0, Zaw, Zar, Zax, Zav, Zau, Zat, Zas, Zay, Zaz, Zap, Zaq, Zak, Zdf, Zdg, Zdm, Zdn, Zc0, Zcy, Zcz, Zc1, Option.map_some, Option.map_none, List.cons_append, List.nil_append, List.append_nil, decide_true, decide_false, Bool.not_true, Bool.not_false, Bool.false_eq_true, if_true, if_false, ↓reduceIte, reduceCtorEq, Nat.reduceAdd, Nat.reduceEqDiff, Nat.reduceBEq, Za5, true_and, and_true, eq_self, List.getElem?_cons_zero, List.getElem?_cons_succ, hs, h4, asciiSet_W H st hG, wrE_all _ _ _ _ _ _ _ _ l0 blank_len hall, hb, Nat.max_self, trimAscii_W H (st ++ [.cells blankCells 0 0 false 106]) st.length Zcg]
    rw [leave_drop rfl hG (by simp [AV.hi])]
    exact ⟨rfl, rfl⟩
end
end Go.Eng

