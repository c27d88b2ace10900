/-
  Texts of a proof. Conditions: none.
-/
import Derived.Test.YtolhindhmljgdaaGreatDoorVPlainC
import Derived.Test.YtolhindhmljgdaaGreatDoorEngE
import Derived.Lib.ValidLaws
import Derived.Lib.TrimUEq
import Derived.Lib.TrimAscii
import Derived.Lib.MapLaws
import Derived.Lib.SplitLaws
set_option linter.unusedVariables false
set_option linter.unusedSimpArgs false
set_option linter.unnecessarySimpa false
set_option linter.unusedSectionVars false
namespace Go.Eng
open Go
open Go.Eng renaming WO_guard → Zaa, WO_nil → Zab, WO_op → Zac, W_block → Zad, W_cond → Zae, W_exit → Zaf, W_reg → Zag, W_ret → Zah, W_seq → Zai, W_skip → Zaj, aIndexAddr_sl → Zak, binE_some → Zal, bin_add → Zam, bin_beq → Zan, bin_bne → Zao, bin_eql → Zap, bin_geq → Zaq, bin_gtr → Zar, bin_leq → Zas, bin_lss → Zat, bin_mul → Zau, bin_neq → Zav, bin_seq → Zaw, bin_sne → Zax, bin_sub → Zay, blockQ_exit → Zaz, blockQ_norm → Za0, blockQ_ret → Za1, callE_f → Za2, cast0 → Za3, condQ_false → Za4, condQ_true → Za5, consO_some → Za6, consP_some → Za7, convE_bytes → Za8, convE_int → Za9, convE_same → Zba, endQ_some → Zbb, evOp_alloc → Zbc, evOp_append → Zbd, evOp_bin → Zbe, evOp_bslice → Zbf, evOp_build → Zbg, evOp_callE → Zbh, evOp_conv → Zbi, evOp_ext → Zbj, evOp_faddr → Zbk, evOp_iaddr → Zbl, evOp_ixs → Zbm, evOp_len → Zbn, evOp_load → Zbo, evOp_mkfn → Zbp, evOp_mv → Zbq, evOp_next → Zbr, evOp_nilchk → Zbs, evOp_pick → Zbt, evOp_range → Zbu, evOp_slice → Zbv, evOp_store → Zbw, evOp_un → Zbx, evParts_cons → Zby, evParts_nil → Zbz, evRes_cell → Zb0, evRes_nil → Zb1, evRes_tmp → Zb2, evo_none → Zb3, evo_some → Zb4, evs_cons → Zb5, evs_nil → Zb6, extE_tup → Zb7, faddrE_ptr → Zb8, fillA_nil → Zb9, fillA_one → Zca, get_succ → Zcb, get_zero → Zcc, guardQ_ff → Zcd, guardQ_ft → Zce, guardQ_tf → Zcf, guardQ_tt → Zcg, guardQ_undef → Zch, his_bool → Zci, his_int → Zcj, his_nil → Zck, his_str → Zcl, iaddrE_some → Zcm, isCell_bool → Zcn, isCell_fn → Zco, isCell_int → Zcp, isCell_nilp → Zcq, isCell_nils → Zcr, isCell_ptr → Zcs, isCell_sl → Zct, isCell_slc → Zcu, isCell_str → Zcv, ixsE_str → Zcw, ixsE_zero → Zcx, leave_bool → Zcy, leave_int → Zcz, leave_nil → Zc0, leave_set0 → Zc1, leave_setb → Zc2, leave_setn → Zc3, leave_sets → Zc4, leave_str → Zc5, leave_tup → Zc6, lenE_nils → Zc7, lenE_sl → Zc8, lenE_slc → Zc9, lenE_str → Zda, loadE_one → Zdb, loadE_ptr → Zdc, mkfnE_some → Zdd, nextE_ptr → Zde, nilE_cptr → Zdf, nilE_fn → Zdg, nilE_ptr → Zdh, oneOf_more → Zdi, oneOf_nil → Zdj, oneOf_one → Zdk, partsE_some → Zdl, pickE_false → Zdm, pickE_true → Zdn, prE_none → Zdo, prE_some → Zdp, put_none → Zdq, put_succ → Zdr, put_zero → Zds, rangeE_str → Zdt, rdE_cells → Zdu, retQ_exit → Zdv, retQ_norm → Zdw, retQ_ret → Zdx, roundQ_exit → Zdy, roundQ_norm → Zdz, roundQ_ret → Zd0, sliceE_some → Zd1, stepQ_none → Zd2, stepQ_some → Zd3, storeE_ptr → Zd4, thenK_exit → Zd5, thenK_norm → Zd6, thenK_ret → Zd7, unE_not → Zd8
set_option maxHeartbeats 1000000
set_option maxRecDepth 4000
set_option linter.unusedSimpArgs false
set_option linter.unusedVariables false
set_option linter.unusedSectionVars false

/-- A sign of the document's. -/
def isChar (n : Int) : Bool := decide (n = 9 ∨ n = 10 ∨ n = 13 ∨ (32 ≤ n ∧ n ≤ 55295) ∨ (57344 ≤ n ∧ n ≤ 65533) ∨ (65536 ≤ n ∧ n ≤ 1114111))

/-- The runes of a text. -/
def runesN : Nat → List UInt8 → List Nat
  | 0, _ => []
  | k + 1, t => if t = [] then [] else (Lib.decodeL t).1 :: runesN k (t.drop (Lib.decodeL t).2)
def signs (s : List UInt8) : Bool := Lib.validD s && (runesN s.length s).all fun n => isChar n

theorem dec_drop (s : List UInt8) (i : Nat) : Utf8.decode ⟨s.toArray⟩ i = Lib.decodeL (s.drop i) := by
  rw [← Lib.decodeL_drop]
theorem runesFromA_eq (s : List UInt8) : ∀ (b i : Nat), runesFromA s b i = (runesN b (s.drop i)).map fun n => AV.int .i32 (n : Nat)
  | 0, i => rfl
  | b + 1, i => by
    unfold runesFromA runesN
    by_cases h : i < s.length
    · have hn : ¬ s.drop i = [] := by
        intro e; have := congrArg List.length e; simp at this; omega
      have ih := runesFromA_eq s b (i + (Lib.decodeL (s.drop i)).2)
      simp only [h, hn, if_true, if_false, dec_drop, List.map_cons, ih, List.drop_drop]
      rfl
    · have hn : s.drop i = [] := List.drop_of_length_le (by omega)
      simp [h, hn]

section
variable {C : Ctx} (H : Codes C) (st : St)
include H

theorem char_W (n : Int) : callW C 36 [.int .i32 n] st = some (.bool (isChar n), st) := by
  rw [← CW_eq, CW_is H.h36 _ (by simp)]
  simp only [List.length_cons, List.length_nil, Nat.zero_add, Nat.reduceAdd, Nat.reduceSub, List.reduceReplicate, List.cons_append, List.nil_append]
  unfold k36b
  (simp only [Zaj, Zah, Zaf, Zai, Zad, Zae, Zag, Zd6, Zd7, Zd5, Za0, Za1, Zaz, Zdz, Zd0, Zdy, Zab, Zac, Zaa, Zd3, Zd2, Zcg, Zcd, Zcf, Zce, Zch, Za5, Za4, Zdw, Zdx, Zdv, Zbb,
    Zbq, Zbt, Zbe, Zbx, Zbi, Zbj, Zbn, Zbm, Zbo, Zbl, Zbh, Zbv, Zbs, Zbc, ev_t, ev_c, ev_f, Zb6, Zb5, Zb3, Zb4, Zb1, Zb2, Zdq, Zds, Zdr, Zcc, Zcb, Zdk, Zdi, Zdj,
    Zdp, Zdo, Zdn, Zdm, Zal, Zd8, Za9, Zba, Za8, Zb7, Zda, Zc7, Zc9, Zc8, Zcw, Zcx, Zdb, Zcm, Za2, Za6, Zd1, Zdh, Zdf, Zdg,
    Zam, Zay, Zau, Zap, Zav, Zat, Zas, Zar, Zaq, Zaw, Zax, Zan, Zao, Zak, Zcy, Zcz, Zc5, Zc6, Zck, Zci, Zcj, Zcl, Option.map_some, Option.map_none, List.cons_append, List.nil_append, List.append_nil, decide_true, decide_false, Bool.not_true, Bool.not_false, Bool.false_eq_true, if_true, if_false, ↓reduceIte, reduceCtorEq, Nat.reduceAdd, Nat.reduceEqDiff, Nat.reduceBEq, Za3, true_and, and_true, eq_self, List.getElem?_cons_zero, List.getElem?_cons_succ]); repeat' ((first | rw [guardQ_dect] | rw [guardQ_decf] | rw [guardQ_ndect] | rw [guardQ_ndecf] | rw [condQ_dec] | rw [condQ_ndec]); split <;> simp only [Zaj, Zah, Zaf, Zai, Zad, Zae, Zag, Zd6, Zd7, Zd5, Za0, Za1, Zaz, Zdz, Zd0, Zdy, Zab, Zac, Zaa, Zd3, Zd2, Zcg, Zcd, Zcf, Zce, Zch, Za5, Za4, Zdw, Zdx, Zdv, Zbb,
    Zbq, Zbt, Zbe, Zbx, Zbi, Zbj, Zbn, Zbm, Zbo, Zbl, Zbh, Zbv, Zbs, Zbc, ev_t, ev_c, ev_f, Zb6, Zb5, Zb3, Zb4, Zb1, Zb2, Zdq, Zds, Zdr, Zcc, Zcb, Zdk, Zdi, Zdj,
    Zdp, Zdo, Zdn, Zdm, Zal, Zd8, Za9, Zba, Za8, Zb7, Zda, Zc7, Zc9, Zc8, Zcw, Zcx, Zdb, Zcm, Za2, Za6, Zd1, Zdh, Zdf, Zdg,
    Zam, Zay, Zau, Zap, Zav, Zat, Zas, Zar, Zaq, Zaw, Zax, Zan, Zao, Zak, Zcy, Zcz, Zc5, Zc6, Zck, Zci, Zcj, Zcl, Option.map_some, Option.map_none, List.cons_append, List.nil_append, List.append_nil, decide_true, decide_false, Bool.not_true, Bool.not_false, Bool.false_eq_true, if_true, if_false, ↓reduceIte, reduceCtorEq, Nat.reduceAdd, Nat.reduceEqDiff, Nat.reduceBEq, Za3, true_and, and_true, eq_self, List.getElem?_cons_zero, List.getElem?_cons_succ, *])
  all_goals simp only [isChar, AV.bool.injEq, true_eq_decide_iff, false_eq_decide_iff, decide_eq_decide]
  all_goals first | omega | simp | (simp; omega)

theorem char2_W (n : Int) : callW C 91 [.int .i32 n] st = some (.bool (isChar n), st) := by
  rw [← CW_eq, CW_is H.h91 _ (by simp)]
  simp only [List.length_cons, List.length_nil, Nat.zero_add, Nat.reduceAdd, Nat.reduceSub, List.reduceReplicate, List.cons_append, List.nil_append]
  unfold k91b
  (simp only [Zaj, Zah, Zaf, Zai, Zad, Zae, Zag, Zd6, Zd7, Zd5, Za0, Za1, Zaz, Zdz, Zd0, Zdy, Zab, Zac, Zaa, Zd3, Zd2, Zcg, Zcd, Zcf, Zce, Zch, Za5, Za4, Zdw, Zdx, Zdv, Zbb,
    Zbq, Zbt, Zbe, Zbx, Zbi, Zbj, Zbn, Zbm, Zbo, Zbl, Zbh, Zbv, Zbs, Zbc, ev_t, ev_c, ev_f, Zb6, Zb5, Zb3, Zb4, Zb1, Zb2, Zdq, Zds, Zdr, Zcc, Zcb, Zdk, Zdi, Zdj,
    Zdp, Zdo, Zdn, Zdm, Zal, Zd8, Za9, Zba, Za8, Zb7, Zda, Zc7, Zc9, Zc8, Zcw, Zcx, Zdb, Zcm, Za2, Za6, Zd1, Zdh, Zdf, Zdg,
    Zam, Zay, Zau, Zap, Zav, Zat, Zas, Zar, Zaq, Zaw, Zax, Zan, Zao, Zak, Zcy, Zcz, Zc5, Zc6, Zck, Zci, Zcj, Zcl, Option.map_some, Option.map_none, List.cons_append, List.nil_append, List.append_nil, decide_true, decide_false, Bool.not_true, Bool.not_false, Bool.false_eq_true, if_true, if_false, ↓reduceIte, reduceCtorEq, Nat.reduceAdd, Nat.reduceEqDiff, Nat.reduceBEq, Za3, true_and, and_true, eq_self, List.getElem?_cons_zero, List.getElem?_cons_succ]); repeat' ((first | rw [guardQ_dect] | rw [guardQ_decf] | rw [guardQ_ndect] | rw [guardQ_ndecf] | rw [condQ_dec] | rw [condQ_ndec]); split <;> simp only [Zaj, Zah, Zaf, Zai, Zad, Zae, Zag, Zd6, Zd7, Zd5, Za0, Za1, Zaz, Zdz, Zd0, Zdy, Zab, Zac, Zaa, Zd3, Zd2, Zcg, Zcd, Zcf, Zce, Zch, Za5, Za4, Zdw, Zdx, Zdv, Zbb,
    Zbq, Zbt, Zbe, Zbx, Zbi, Zbj, Zbn, Zbm, Zbo, Zbl, Zbh, Zbv, Zbs, Zbc, ev_t, ev_c, ev_f, Zb6, Zb5, Zb3, Zb4, Zb1, Zb2, Zdq, Zds, Zdr, Zcc, Zcb, Zdk, Zdi, Zdj,
    Zdp, Zdo, Zdn, Zdm, Zal, Zd8, Za9, Zba, Za8, Zb7, Zda, Zc7, Zc9, Zc8, Zcw, Zcx, Zdb, Zcm, Za2, Za6, Zd1, Zdh, Zdf, Zdg,
    Zam, Zay, Zau, Zap, Zav, Zat, Zas, Zar, Zaq, Zaw, Zax, Zan, Zao, Zak, Zcy, Zcz, Zc5, Zc6, Zck, Zci, Zcj, Zcl, Option.map_some, Option.map_none, List.cons_append, List.nil_append, List.append_nil, decide_true, decide_false, Bool.not_true, Bool.not_false, Bool.false_eq_true, if_true, if_false, ↓reduceIte, reduceCtorEq, Nat.reduceAdd, Nat.reduceEqDiff, Nat.reduceBEq, Za3, true_and, and_true, eq_self, List.getElem?_cons_zero, List.getElem?_cons_succ, *])
  all_goals simp only [isChar, AV.bool.injEq, true_eq_decide_iff, false_eq_decide_iff, decide_eq_decide]
  all_goals first | omega | simp | (simp; omega)

theorem noChar_W (n : Int) : callW C 90 [.int .i32 n] st = some (.bool (!isChar n), st) := by
  rw [← CW_eq, CW_is H.h90 _ (by simp)]
  simp only [List.length_cons, List.length_nil, Nat.zero_add, Nat.reduceAdd, Nat.reduceSub, List.reduceReplicate, List.cons_append, List.nil_append]
  unfold k90b
  simp only [leave0, Zc2, Zc3, Zc4, Zc1, Zc0, Zbk, Zbw, evOp_box, Zbp, Zbg, Zbu, Zbr, Zbz, Zby, Zb0, Zdc, Zdu, cut_one, cut_four, agg_one, agg_all, Zb8, Zd4, wrE_one, wrE_agg4, Zdd, Zdl, Za7, Zb9, Zca, Zdt, Zde, get_new0, get_new1, get_new2, get_new3, get_new4, set_new3, Zbf, Zbd, rep_one, set_new0, set_new1, set_new2, Zcp, Zcv, Zcn, Zcs, Zcr, Zcq, Zct, Zcu, Zco, hi_int, hi_str, hi_bool, hi_nils, hi_nilp, hi_sl, Option.bind_some, Option.bind_none, List.set_cons_zero, List.set_cons_succ, List.set_set, List.length_set, List.length_append, List.length_cons, List.length_nil, List.append_assoc, List.singleton_append, Nat.zero_add, Nat.add_zero, Nat.reduceLT, Nat.reduceAdd, Zaj, Zah, Zaf, Zai, Zad, Zae, Zag, Zd6, Zd7, Zd5, Za0, Za1, Zaz, Zdz, Zd0, Zdy, Zab, Zac, Zaa, Zd3, Zd2, Zcg, Zcd, Zcf, Zce, Zch, Za5, Za4, Zdw, Zdx, Zdv, Zbb,
    Zbq, Zbt, Zbe, Zbx, Zbi, Zbj, Zbn, Zbm, Zbo, Zbl, Zbh, Zbv, Zbs, Zbc, ev_t, ev_c, ev_f, Zb6, Zb5, Zb3, Zb4, Zb1, Zb2, Zdq, Zds, Zdr, Zcc, Zcb, Zdk, Zdi, Zdj,
    Zdp, Zdo, Zdn, Zdm, Zal, Zd8, Za9, Zba, Za8, Zb7, Zda, Zc7, Zc9, Zc8, Zcw, Zcx, Zdb, Zcm, Za2, Za6, Zd1, Zdh, Zdf, Zdg,
    Zam, Zay, Zau, Zap, Zav, Zat, Zas, Zar, Zaq, Zaw, Zax, Zan, Zao, Zak, Zcy, Zcz, Zc5, Zc6, Zck, Zci, Zcj, Zcl, Option.map_some, Option.map_none, List.cons_append, List.nil_append, List.append_nil, decide_true, decide_false, Bool.not_true, Bool.not_false, Bool.false_eq_true, if_true, if_false, ↓reduceIte, reduceCtorEq, Nat.reduceAdd, Nat.reduceEqDiff, Nat.reduceBEq, Za3, true_and, and_true, eq_self, List.getElem?_cons_zero, List.getElem?_cons_succ, char2_W H]

theorem signs_loop (l : List Nat) (hs : l.length ≤ 9223372036854775807) (Q : Ex → Env → St → Prop) : ∀ (d i : Nat) (env : Env), i + d = l.length → env.length = 22 → env.get 3 = .sl 1 (l.map fun n => [.int .i32 (n : Nat)]) false → env.get 4 = .int .i64 i →
    (((l.drop i).all fun n => isChar n) = true → ∀ e : Env, e.length = 22 → Q (.exit 0) e st) →
    (((l.drop i).all fun n => isChar n) = false → ∀ e : Env, e.length = 22 → e.get 2 = .bool false → Q .ret e st) → W C k19l0 env st Q
  | d, i, env, hd, hl, h3, h4, hq1, hq2 => by
    rw [W_loop' (show k19l0 = .loop k19l0b from rfl)]
    unfold k19l0b
    have hi : (↑i : Int) < ↑l.length ↔ i < l.length := by omega
    simp only [leave0, Zc2, Zc3, Zc4, Zc1, Zc0, Zbk, Zbw, evOp_box, Zbp, Zbg, Zbu, Zbr, Zbz, Zby, Zb0, Zdc, Zdu, cut_one, cut_four, agg_one, agg_all, Zb8, Zd4, wrE_one, wrE_agg4, Zdd, Zdl, Za7, Zb9, Zca, Zdt, Zde, get_new0, get_new1, get_new2, get_new3, get_new4, set_new3, Zbf, Zbd, rep_one, set_new0, set_new1, set_new2, Zcp, Zcv, Zcn, Zcs, Zcr, Zcq, Zct, Zcu, Zco, hi_int, hi_str, hi_bool, hi_nils, hi_nilp, hi_sl, Option.bind_some, Option.bind_none, List.set_cons_zero, List.set_cons_succ, List.set_set, List.length_set, List.length_append, List.length_cons, List.length_nil, List.append_assoc, List.singleton_append, Nat.zero_add, Nat.add_zero, Nat.reduceLT, Nat.reduceAdd, Zaj, Zah, Zaf, Zai, Zad, Zae, Zag, Zd6, Zd7, Zd5, Za0, Za1, Zaz, Zdz, Zd0, Zdy, Zab, Zac, Zaa, Zd3, Zd2, Zcg, Zcd, Zcf, Zce, Zch, Za5, Za4, Zdw, Zdx, Zdv, Zbb,
    Zbq, Zbt, Zbe, Zbx, Zbi, Zbj, Zbn, Zbm, Zbo, Zbl, Zbh, Zbv, Zbs, Zbc, ev_t, ev_c, ev_f, Zb6, Zb5, Zb3, Zb4, Zb1, Zb2, Zdq, Zds, Zdr, Zcc, Zcb, Zdk, Zdi, Zdj,
    Zdp, Zdo, Zdn, Zdm, Zal, Zd8, Za9, Zba, Za8, Zb7, Zda, Zc7, Zc9, Zc8, Zcw, Zcx, Zdb, Zcm, Za2, Za6, Zd1, Zdh, Zdf, Zdg,
    Zam, Zay, Zau, Zap, Zav, Zat, Zas, Zar, Zaq, Zaw, Zax, Zan, Zao, Zak, Zcy, Zcz, Zc5, Zc6, Zck, Zci, Zcj, Zcl, Option.map_some, Option.map_none, List.cons_append, List.nil_append, List.append_nil, decide_true, decide_false, Bool.not_true, Bool.not_false, Bool.false_eq_true, if_true, if_false, ↓reduceIte, reduceCtorEq, Nat.reduceAdd, Nat.reduceEqDiff, Nat.reduceBEq, Za3, true_and, and_true, eq_self, List.getElem?_cons_zero, List.getElem?_cons_succ, get_put_eq, get_put_ne, Env.put_length, Nat.reduceLT, Zaj, Zah, Zaf, Zai, Zad, Zae, Zag, Zd6, Zd7, Zd5, Za0, Za1, Zaz, Zdz, Zd0, Zdy, Zab, Zac, Zaa, Zd3, Zd2, Zcg, Zcd, Zcf, Zce, Zch, Za5, Za4, Zdw, Zdx, Zdv, Zbb,
    Zbq, Zbt, Zbe, Zbx, Zbi, Zbj, Zbn, Zbm, Zbo, Zbl, Zbh, Zbv, Zbs, Zbc, ev_t, ev_c, ev_f, Zb6, Zb5, Zb3, Zb4, Zb1, Zb2, Zdq, Zds, Zdr, Zcc, Zcb, Zdk, Zdi, Zdj,
    Zdp, Zdo, Zdn, Zdm, Zal, Zd8, Za9, Zba, Za8, Zb7, Zda, Zc7, Zc9, Zc8, Zcw, Zcx, Zdb, Zcm, Za2, Za6, Zd1, Zdh, Zdf, Zdg,
    Zam, Zay, Zau, Zap, Zav, Zat, Zas, Zar, Zaq, Zaw, Zax, Zan, Zao, Zak, Zcy, Zcz, Zc5, Zc6, Zck, Zci, Zcj, Zcl, Option.map_some, Option.map_none, List.cons_append, List.nil_append, List.append_nil, decide_true, decide_false, Bool.not_true, Bool.not_false, Bool.false_eq_true, if_true, if_false, ↓reduceIte, reduceCtorEq, Nat.reduceAdd, Nat.reduceEqDiff, Nat.reduceBEq, Za3, true_and, and_true, eq_self, List.getElem?_cons_zero, List.getElem?_cons_succ, h3, h4, hl, List.length_map, hi]
    rw [condQ_dec]
    split
    · rename_i hlt
      have hget : (l.map fun n => [AV.int .i32 (n : Nat)])[i]? = some [.int .i32 (l[i] : Nat)] := by simp [hlt]
      have hdrop : ((l.drop i).all fun n => isChar n) = (isChar l[i] && (l.drop (i + 1)).all fun n => isChar n) := by
        rw [List.drop_eq_getElem_cons hlt]; rfl
      rw [hdrop] at hq1 hq2
      obtain ⟨d, rfl⟩ : ∃ k, d = k + 1 := ⟨d - 1, by omega⟩
      have hw : IntKind.wrap .i64 ((i : Int) + 1) = ((i + 1 : Nat) : Int) := by rw [wrap_i64 (by omega) (by omega)]; omega
      cases hb : isChar l[i] <;> rw [hb] at hq1 hq2
      · simp only [leave0, Zc2, Zc3, Zc4, Zc1, Zc0, Zbk, Zbw, evOp_box, Zbp, Zbg, Zbu, Zbr, Zbz, Zby, Zb0, Zdc, Zdu, cut_one, cut_four, agg_one, agg_all, Zb8, Zd4, wrE_one, wrE_agg4, Zdd, Zdl, Za7, Zb9, Zca, Zdt, Zde, get_new0, get_new1, get_new2, get_new3, get_new4, set_new3, Zbf, Zbd, rep_one, set_new0, set_new1, set_new2, Zcp, Zcv, Zcn, Zcs, Zcr, Zcq, Zct, Zcu, Zco, hi_int, hi_str, hi_bool, hi_nils, hi_nilp, hi_sl, Option.bind_some, Option.bind_none, List.set_cons_zero, List.set_cons_succ, List.set_set, List.length_set, List.length_append, List.length_cons, List.length_nil, List.append_assoc, List.singleton_append, Nat.zero_add, Nat.add_zero, Nat.reduceLT, Nat.reduceAdd, Zaj, Zah, Zaf, Zai, Zad, Zae, Zag, Zd6, Zd7, Zd5, Za0, Za1, Zaz, Zdz, Zd0, Zdy, Zab, Zac, Zaa, Zd3, Zd2, Zcg, Zcd, Zcf, Zce, Zch, Za5, Za4, Zdw, Zdx, Zdv, Zbb,
    Zbq, Zbt, Zbe, Zbx, Zbi, Zbj, Zbn, Zbm, Zbo, Zbl, Zbh, Zbv, Zbs, Zbc, ev_t, ev_c, ev_f, Zb6, Zb5, Zb3, Zb4, Zb1, Zb2, Zdq, Zds, Zdr, Zcc, Zcb, Zdk, Zdi, Zdj,
    Zdp, Zdo, Zdn, Zdm, Zal, Zd8, Za9, Zba, Za8, Zb7, Zda, Zc7, Zc9, Zc8, Zcw, Zcx, Zdb, Zcm, Za2, Za6, Zd1, Zdh, Zdf, Zdg,
    Zam, Zay, Zau, Zap, Zav, Zat, Zas, Zar, Zaq, Zaw, Zax, Zan, Zao, Zak, Zcy, Zcz, Zc5, Zc6, Zck, Zci, Zcj, Zcl, Option.map_some, Option.map_none, List.cons_append, List.nil_append, List.append_nil, decide_true, decide_false, Bool.not_true, Bool.not_false, Bool.false_eq_true, if_true, if_false, ↓reduceIte, reduceCtorEq, Nat.reduceAdd, Nat.reduceEqDiff, Nat.reduceBEq, Za3, true_and, and_true, eq_self, List.getElem?_cons_zero, List.getElem?_cons_succ, get_put_eq, get_put_ne, Env.put_length, Nat.reduceLT, Zaj, Zah, Zaf, Zai, Zad, Zae, Zag, Zd6, Zd7, Zd5, Za0, Za1, Zaz, Zdz, Zd0, Zdy, Zab, Zac, Zaa, Zd3, Zd2, Zcg, Zcd, Zcf, Zce, Zch, Za5, Za4, Zdw, Zdx, Zdv, Zbb,
    Zbq, Zbt, Zbe, Zbx, Zbi, Zbj, Zbn, Zbm, Zbo, Zbl, Zbh, Zbv, Zbs, Zbc, ev_t, ev_c, ev_f, Zb6, Zb5, Zb3, Zb4, Zb1, Zb2, Zdq, Zds, Zdr, Zcc, Zcb, Zdk, Zdi, Zdj,
    Zdp, Zdo, Zdn, Zdm, Zal, Zd8, Za9, Zba, Za8, Zb7, Zda, Zc7, Zc9, Zc8, Zcw, Zcx, Zdb, Zcm, Za2, Za6, Zd1, Zdh, Zdf, Zdg,
    Zam, Zay, Zau, Zap, Zav, Zat, Zas, Zar, Zaq, Zaw, Zax, Zan, Zao, Zak, Zcy, Zcz, Zc5, Zc6, Zck, Zci, Zcj, Zcl, Option.map_some, Option.map_none, List.cons_append, List.nil_append, List.append_nil, decide_true, decide_false, Bool.not_true, Bool.not_false, Bool.false_eq_true, if_true, if_false, ↓reduceIte, reduceCtorEq, Nat.reduceAdd, Nat.reduceEqDiff, Nat.reduceBEq, Za3, true_and, and_true, eq_self, List.getElem?_cons_zero, List.getElem?_cons_succ, h3, h4, hl, hget, char_W H, hb, hw]
        exact hq2 rfl _ (by simp [Env.put_length, hl]) (get_put_eq _ (by simp [Env.put_length, hl]))
      · simp only [leave0, Zc2, Zc3, Zc4, Zc1, Zc0, Zbk, Zbw, evOp_box, Zbp, Zbg, Zbu, Zbr, Zbz, Zby, Zb0, Zdc, Zdu, cut_one, cut_four, agg_one, agg_all, Zb8, Zd4, wrE_one, wrE_agg4, Zdd, Zdl, Za7, Zb9, Zca, Zdt, Zde, get_new0, get_new1, get_new2, get_new3, get_new4, set_new3, Zbf, Zbd, rep_one, set_new0, set_new1, set_new2, Zcp, Zcv, Zcn, Zcs, Zcr, Zcq, Zct, Zcu, Zco, hi_int, hi_str, hi_bool, hi_nils, hi_nilp, hi_sl, Option.bind_some, Option.bind_none, List.set_cons_zero, List.set_cons_succ, List.set_set, List.length_set, List.length_append, List.length_cons, List.length_nil, List.append_assoc, List.singleton_append, Nat.zero_add, Nat.add_zero, Nat.reduceLT, Nat.reduceAdd, Zaj, Zah, Zaf, Zai, Zad, Zae, Zag, Zd6, Zd7, Zd5, Za0, Za1, Zaz, Zdz, Zd0, Zdy, Zab, Zac, Zaa, Zd3, Zd2, Zcg, Zcd, Zcf, Zce, Zch, Za5, Za4, Zdw, Zdx, Zdv, Zbb,
    Zbq, Zbt, Zbe, Zbx, Zbi, Zbj, Zbn, Zbm, Zbo, Zbl, Zbh, Zbv, Zbs, Zbc, ev_t, ev_c, ev_f, Zb6, Zb5, Zb3, Zb4, Zb1, Zb2, Zdq, Zds, Zdr, Zcc, Zcb, Zdk, Zdi, Zdj,
    Zdp, Zdo, Zdn, Zdm, Zal, Zd8, Za9, Zba, Za8, Zb7, Zda, Zc7, Zc9, Zc8, Zcw, Zcx, Zdb, Zcm, Za2, Za6, Zd1, Zdh, Zdf, Zdg,
    Zam, Zay, Zau, Zap, Zav, Zat, Zas, Zar, Zaq, Zaw, Zax, Zan, Zao, Zak, Zcy, Zcz, Zc5, Zc6, Zck, Zci, Zcj, Zcl, Option.map_some, Option.map_none, List.cons_append, List.nil_append, List.append_nil, decide_true, decide_false, Bool.not_true, Bool.not_false, Bool.false_eq_true, if_true, if_false, ↓reduceIte, reduceCtorEq, Nat.reduceAdd, Nat.reduceEqDiff, Nat.reduceBEq, Za3, true_and, and_true, eq_self, List.getElem?_cons_zero, List.getElem?_cons_succ, get_put_eq, get_put_ne, Env.put_length, Nat.reduceLT, Zaj, Zah, Zaf, Zai, Zad, Zae, Zag, Zd6, Zd7, Zd5, Za0, Za1, Zaz, Zdz, Zd0, Zdy, Zab, Zac, Zaa, Zd3, Zd2, Zcg, Zcd, Zcf, Zce, Zch, Za5, Za4, Zdw, Zdx, Zdv, Zbb,
    Zbq, Zbt, Zbe, Zbx, Zbi, Zbj, Zbn, Zbm, Zbo, Zbl, Zbh, Zbv, Zbs, Zbc, ev_t, ev_c, ev_f, Zb6, Zb5, Zb3, Zb4, Zb1, Zb2, Zdq, Zds, Zdr, Zcc, Zcb, Zdk, Zdi, Zdj,
    Zdp, Zdo, Zdn, Zdm, Zal, Zd8, Za9, Zba, Za8, Zb7, Zda, Zc7, Zc9, Zc8, Zcw, Zcx, Zdb, Zcm, Za2, Za6, Zd1, Zdh, Zdf, Zdg,
    Zam, Zay, Zau, Zap, Zav, Zat, Zas, Zar, Zaq, Zaw, Zax, Zan, Zao, Zak, Zcy, Zcz, Zc5, Zc6, Zck, Zci, Zcj, Zcl, Option.map_some, Option.map_none, List.cons_append, List.nil_append, List.append_nil, decide_true, decide_false, Bool.not_true, Bool.not_false, Bool.false_eq_true, if_true, if_false, ↓reduceIte, reduceCtorEq, Nat.reduceAdd, Nat.reduceEqDiff, Nat.reduceBEq, Za3, true_and, and_true, eq_self, List.getElem?_cons_zero, List.getElem?_cons_succ, h3, h4, hl, hget, char_W H, hb, hw]
        refine signs_loop l hs Q d (i + 1) _ (by omega) ?_ ?_ ?_ (by simpa using hq1) (by simpa using hq2)
        · simp only [get_put_eq, get_put_ne, Env.put_length, Nat.reduceLT, Zaj, Zah, Zaf, Zai, Zad, Zae, Zag, Zd6, Zd7, Zd5, Za0, Za1, Zaz, Zdz, Zd0, Zdy, Zab, Zac, Zaa, Zd3, Zd2, Zcg, Zcd, Zcf, Zce, Zch, Za5, Za4, Zdw, Zdx, Zdv, Zbb,
    Zbq, Zbt, Zbe, Zbx, Zbi, Zbj, Zbn, Zbm, Zbo, Zbl, Zbh, Zbv, Zbs, Zbc, ev_t, ev_c, ev_f, Zb6, Zb5, Zb3, Zb4, Zb1, Zb2, Zdq, Zds, Zdr, Zcc, Zcb, Zdk, Zdi, Zdj,
    Zdp, Zdo, Zdn, Zdm, Zal, Zd8, Za9, Zba, Za8, Zb7, Zda, Zc7, Zc9, Zc8, Zcw, Zcx, Zdb, Zcm, Za2, Za6, Zd1, Zdh, Zdf, Zdg,
    Zam, Zay, Zau, Zap, Zav, Zat, Zas, Zar, Zaq, Zaw, Zax, Zan, Zao, Zak, Zcy, Zcz, Zc5, Zc6, Zck, Zci, Zcj, Zcl, Option.map_some, Option.map_none, List.cons_append, List.nil_append, List.append_nil, decide_true, decide_false, Bool.not_true, Bool.not_false, Bool.false_eq_true, if_true, if_false, ↓reduceIte, reduceCtorEq, Nat.reduceAdd, Nat.reduceEqDiff, Nat.reduceBEq, Za3, true_and, and_true, eq_self, List.getElem?_cons_zero, List.getElem?_cons_succ, hl]
        · simp only [get_put_eq, get_put_ne, Env.put_length, Nat.reduceLT, Zaj, Zah, Zaf, Zai, Zad, Zae, Zag, Zd6, Zd7, Zd5, Za0, Za1, Zaz, Zdz, Zd0, Zdy, Zab, Zac, Zaa, Zd3, Zd2, Zcg, Zcd, Zcf, Zce, Zch, Za5, Za4, Zdw, Zdx, Zdv, Zbb,
    Zbq, Zbt, Zbe, Zbx, Zbi, Zbj, Zbn, Zbm, Zbo, Zbl, Zbh, Zbv, Zbs, Zbc, ev_t, ev_c, ev_f, Zb6, Zb5, Zb3, Zb4, Zb1, Zb2, Zdq, Zds, Zdr, Zcc, Zcb, Zdk, Zdi, Zdj,
    Zdp, Zdo, Zdn, Zdm, Zal, Zd8, Za9, Zba, Za8, Zb7, Zda, Zc7, Zc9, Zc8, Zcw, Zcx, Zdb, Zcm, Za2, Za6, Zd1, Zdh, Zdf, Zdg,
    Zam, Zay, Zau, Zap, Zav, Zat, Zas, Zar, Zaq, Zaw, Zax, Zan, Zao, Zak, Zcy, Zcz, Zc5, Zc6, Zck, Zci, Zcj, Zcl, Option.map_some, Option.map_none, List.cons_append, List.nil_append, List.append_nil, decide_true, decide_false, Bool.not_true, Bool.not_false, Bool.false_eq_true, if_true, if_false, ↓reduceIte, reduceCtorEq, Nat.reduceAdd, Nat.reduceEqDiff, Nat.reduceBEq, Za3, true_and, and_true, eq_self, List.getElem?_cons_zero, List.getElem?_cons_succ, hl, h3]
        · simp only [get_put_eq, get_put_ne, Env.put_length, Nat.reduceLT, Zaj, Zah, Zaf, Zai, Zad, Zae, Zag, Zd6, Zd7, Zd5, Za0, Za1, Zaz, Zdz, Zd0, Zdy, Zab, Zac, Zaa, Zd3, Zd2, Zcg, Zcd, Zcf, Zce, Zch, Za5, Za4, Zdw, Zdx, Zdv, Zbb,
    Zbq, Zbt, Zbe, Zbx, Zbi, Zbj, Zbn, Zbm, Zbo, Zbl, Zbh, Zbv, Zbs, Zbc, ev_t, ev_c, ev_f, Zb6, Zb5, Zb3, Zb4, Zb1, Zb2, Zdq, Zds, Zdr, Zcc, Zcb, Zdk, Zdi, Zdj,
    Zdp, Zdo, Zdn, Zdm, Zal, Zd8, Za9, Zba, Za8, Zb7, Zda, Zc7, Zc9, Zc8, Zcw, Zcx, Zdb, Zcm, Za2, Za6, Zd1, Zdh, Zdf, Zdg,
    Zam, Zay, Zau, Zap, Zav, Zat, Zas, Zar, Zaq, Zaw, Zax, Zan, Zao, Zak, Zcy, Zcz, Zc5, Zc6, Zck, Zci, Zcj, Zcl, Option.map_some, Option.map_none, List.cons_append, List.nil_append, List.append_nil, decide_true, decide_false, Bool.not_true, Bool.not_false, Bool.false_eq_true, if_true, if_false, ↓reduceIte, reduceCtorEq, Nat.reduceAdd, Nat.reduceEqDiff, Nat.reduceBEq, Za3, true_and, and_true, eq_self, List.getElem?_cons_zero, List.getElem?_cons_succ, hl]
    · simp only [get_put_eq, get_put_ne, Env.put_length, Nat.reduceLT, Zaj, Zah, Zaf, Zai, Zad, Zae, Zag, Zd6, Zd7, Zd5, Za0, Za1, Zaz, Zdz, Zd0, Zdy, Zab, Zac, Zaa, Zd3, Zd2, Zcg, Zcd, Zcf, Zce, Zch, Za5, Za4, Zdw, Zdx, Zdv, Zbb,
    Zbq, Zbt, Zbe, Zbx, Zbi, Zbj, Zbn, Zbm, Zbo, Zbl, Zbh, Zbv, Zbs, Zbc, ev_t, ev_c, ev_f, Zb6, Zb5, Zb3, Zb4, Zb1, Zb2, Zdq, Zds, Zdr, Zcc, Zcb, Zdk, Zdi, Zdj,
    Zdp, Zdo, Zdn, Zdm, Zal, Zd8, Za9, Zba, Za8, Zb7, Zda, Zc7, Zc9, Zc8, Zcw, Zcx, Zdb, Zcm, Za2, Za6, Zd1, Zdh, Zdf, Zdg,
    Zam, Zay, Zau, Zap, Zav, Zat, Zas, Zar, Zaq, Zaw, Zax, Zan, Zao, Zak, Zcy, Zcz, Zc5, Zc6, Zck, Zci, Zcj, Zcl, Option.map_some, Option.map_none, List.cons_append, List.nil_append, List.append_nil, decide_true, decide_false, Bool.not_true, Bool.not_false, Bool.false_eq_true, if_true, if_false, ↓reduceIte, reduceCtorEq, Nat.reduceAdd, Nat.reduceEqDiff, Nat.reduceBEq, Za3, true_and, and_true, eq_self, List.getElem?_cons_zero, List.getElem?_cons_succ, hl]
      refine hq1 (by rw [List.drop_of_length_le (by omega)]; rfl) _ ?_
      simp only [get_put_eq, get_put_ne, Env.put_length, Nat.reduceLT, Zaj, Zah, Zaf, Zai, Zad, Zae, Zag, Zd6, Zd7, Zd5, Za0, Za1, Zaz, Zdz, Zd0, Zdy, Zab, Zac, Zaa, Zd3, Zd2, Zcg, Zcd, Zcf, Zce, Zch, Za5, Za4, Zdw, Zdx, Zdv, Zbb,
    Zbq, Zbt, Zbe, Zbx, Zbi, Zbj, Zbn, Zbm, Zbo, Zbl, Zbh, Zbv, Zbs, Zbc, ev_t, ev_c, ev_f, Zb6, Zb5, Zb3, Zb4, Zb1, Zb2, Zdq, Zds, Zdr, Zcc, Zcb, Zdk, Zdi, Zdj,
    Zdp, Zdo, Zdn, Zdm, Zal, Zd8, Za9, Zba, Za8, Zb7, Zda, Zc7, Zc9, Zc8, Zcw, Zcx, Zdb, Zcm, Za2, Za6, Zd1, Zdh, Zdf, Zdg,
    Zam, Zay, Zau, Zap, Zav, Zat, Zas, Zar, Zaq, Zaw, Zax, Zan, Zao, Zak, Zcy, Zcz, Zc5, Zc6, Zck, Zci, Zcj, Zcl, Option.map_some, Option.map_none, List.cons_append, List.nil_append, List.append_nil, decide_true, decide_false, Bool.not_true, Bool.not_false, Bool.false_eq_true, if_true, if_false, ↓reduceIte, reduceCtorEq, Nat.reduceAdd, Nat.reduceEqDiff, Nat.reduceBEq, Za3, true_and, and_true, eq_self, List.getElem?_cons_zero, List.getElem?_cons_succ, hl]
end
end Go.Eng

