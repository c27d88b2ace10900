/-
  Texts of a proof. Conditions: none.
-/
import Derived.Test.YtolhindhmljgdaaGreatDoorVCodes
set_option linter.unusedVariables false
set_option linter.unusedSimpArgs false
set_option linter.unnecessarySimpa false
set_option linter.unusedSectionVars false
namespace Go.Eng
open Go
open Go.Eng renaming WO_guard → Zaa, WO_nil → Zab, WO_op → Zac, W_block → Zad, W_cond → Zae, W_exit → Zaf, W_reg → Zag, W_ret → Zah, W_seq → Zai, W_skip → Zaj, aIndexAddr_sl → Zak, binE_some → Zal, bin_add → Zam, bin_beq → Zan, bin_bne → Zao, bin_eql → Zap, bin_geq → Zaq, bin_gtr → Zar, bin_leq → Zas, bin_lss → Zat, bin_mul → Zau, bin_neq → Zav, bin_seq → Zaw, bin_sne → Zax, bin_sub → Zay, blockQ_exit → Zaz, blockQ_norm → Za0, blockQ_ret → Za1, callE_f → Za2, cast0 → Za3, condQ_false → Za4, condQ_true → Za5, consO_some → Za6, convE_bytes → Za7, convE_int → Za8, convE_same → Za9, endQ_some → Zba, evOp_alloc → Zbb, evOp_bin → Zbc, evOp_callE → Zbd, evOp_conv → Zbe, evOp_ext → Zbf, evOp_iaddr → Zbg, evOp_ixs → Zbh, evOp_len → Zbi, evOp_load → Zbj, evOp_mv → Zbk, evOp_nilchk → Zbl, evOp_pick → Zbm, evOp_slice → Zbn, evOp_un → Zbo, evRes_nil → Zbp, evRes_tmp → Zbq, evo_none → Zbr, evo_some → Zbs, evs_cons → Zbt, evs_nil → Zbu, extE_tup → Zbv, get_succ → Zbw, get_zero → Zbx, guardQ_ff → Zby, guardQ_ft → Zbz, guardQ_tf → Zb0, guardQ_tt → Zb1, guardQ_undef → Zb2, his_bool → Zb3, his_int → Zb4, his_nil → Zb5, his_str → Zb6, iaddrE_some → Zb7, ixsE_str → Zb8, ixsE_zero → Zb9, leave_bool → Zca, leave_int → Zcb, leave_str → Zcc, leave_tup → Zcd, lenE_nils → Zce, lenE_sl → Zcf, lenE_slc → Zcg, lenE_str → Zch, loadE_one → Zci, nilE_cptr → Zcj, nilE_fn → Zck, nilE_ptr → Zcl, oneOf_more → Zcm, oneOf_nil → Zcn, oneOf_one → Zco, pickE_false → Zcp, pickE_true → Zcq, prE_none → Zcr, prE_some → Zcs, put_none → Zct, put_succ → Zcu, put_zero → Zcv, retQ_exit → Zcw, retQ_norm → Zcx, retQ_ret → Zcy, roundQ_exit → Zcz, roundQ_norm → Zc0, roundQ_ret → Zc1, sliceE_some → Zc2, stepQ_none → Zc3, stepQ_some → Zc4, thenK_exit → Zc5, thenK_norm → Zc6, thenK_ret → Zc7, unE_not → Zc8
set_option maxHeartbeats 1000000
set_option linter.unusedSimpArgs false
set_option linter.unusedVariables false

def isFirst (b : Int) : Bool := decide (97 ≤ b ∧ b ≤ 122 ∨ 65 ≤ b ∧ b ≤ 90 ∨ b = 95)
def isByte (b : Int) : Bool := isFirst b || decide (48 ≤ b ∧ b ≤ 57 ∨ b = 45 ∨ b = 46)
def isName (s : List UInt8) : Bool :=
  match s with
  | [] => false
  | c :: _ => decide (s.length ≤ 12) && isFirst c.toNat && s.all fun c => isByte c.toNat

/-- Where a byte stands first. -/
def findB (c : UInt8) (s : List UInt8) : Nat := (s.takeWhile (· != c)).length

theorem indexA_some {c : UInt8} : ∀ (s : List UInt8) (i : Nat), c ∈ s → indexByteA c s i = ((findB c s + i : Nat) : Int)
  | [], _, h => by cases h
  | b :: l, i, h => by
    unfold indexByteA findB
    by_cases hb : b = c
    · subst hb; simp
    · have h2 : c ∈ l := by cases h with
        | head => exact absurd rfl hb
        | tail _ h => exact h
      have ih := indexA_some l (i + 1) h2
      have : (b == c) = false := by simpa using hb
      simp only [this, Bool.false_eq_true, if_false, ih]
      rw [List.takeWhile_cons_of_pos (by simpa using hb)]
      simp only [List.length_cons, findB]
      omega

theorem indexA_none {c : UInt8} : ∀ (s : List UInt8) (i : Nat), c ∉ s → indexByteA c s i = -1
  | [], _, _ => rfl
  | b :: l, i, h => by
    unfold indexByteA
    have hb : (b == c) = false := by simp at h ⊢; exact fun e => h.1 e.symm
    simp only [hb, Bool.false_eq_true, if_false]
    exact indexA_none l (i + 1) (fun h2 => h (by simp [h2]))

theorem findB_lt {c : UInt8} : ∀ (s : List UInt8), c ∈ s → findB c s < s.length
  | [], h => by cases h
  | b :: l, h => by
    unfold findB
    by_cases hb : b = c
    · subst hb; simp
    · have h2 : c ∈ l := by cases h with
        | head => exact absurd rfl hb
        | tail _ h => exact h
      have ih := findB_lt l h2
      rw [List.takeWhile_cons_of_pos (by simpa using hb)]
      simpa [findB] using ih

section
variable {C : Ctx} (H : Codes C) (st : St)
include H

theorem first_W (b : Int) : callW C 59 [.int .u8 b] st = some (.bool (isFirst b), st) := by
  rw [← CW_eq, CW_is H.h59 _ (by simp)]
  simp only [List.length_cons, List.length_nil, Nat.zero_add, Nat.reduceAdd, Nat.reduceSub, List.reduceReplicate, List.cons_append, List.nil_append]
  unfold k59b
  (simp only [Zaj, Zah, Zaf, Zai, Zad, Zae, Zag, Zc6, Zc7, Zc5, Za0, Za1, Zaz, Zc0, Zc1, Zcz, Zab, Zac, Zaa, Zc4, Zc3, Zb1, Zby, Zb0, Zbz, Zb2, Za5, Za4, Zcx, Zcy, Zcw, Zba,
    Zbk, Zbm, Zbc, Zbo, Zbe, Zbf, Zbi, Zbh, Zbj, Zbg, Zbd, Zbn, Zbl, Zbb, ev_t, ev_c, ev_f, Zbu, Zbt, Zbr, Zbs, Zbp, Zbq, Zct, Zcv, Zcu, Zbx, Zbw, Zco, Zcm, Zcn,
    Zcs, Zcr, Zcq, Zcp, Zal, Zc8, Za8, Za9, Za7, Zbv, Zch, Zce, Zcg, Zcf, Zb8, Zb9, Zci, Zb7, Za2, Za6, Zc2, Zcl, Zcj, Zck,
    Zam, Zay, Zau, Zap, Zav, Zat, Zas, Zar, Zaq, Zaw, Zax, Zan, Zao, Zak, Zca, Zcb, Zcc, Zcd, Zb5, Zb3, Zb4, Zb6, Option.map_some, Option.map_none, List.cons_append, List.nil_append, List.append_nil, decide_true, decide_false, Bool.not_true, Bool.not_false, Bool.false_eq_true, if_true, if_false, ↓reduceIte, reduceCtorEq, Nat.reduceAdd, Nat.reduceEqDiff, Nat.reduceBEq, Za3, true_and, and_true, eq_self, List.getElem?_cons_zero, List.getElem?_cons_succ]); repeat' ((first | rw [guardQ_dect] | rw [guardQ_decf] | rw [guardQ_ndect] | rw [guardQ_ndecf] | rw [condQ_dec] | rw [condQ_ndec]); split <;> simp only [Zaj, Zah, Zaf, Zai, Zad, Zae, Zag, Zc6, Zc7, Zc5, Za0, Za1, Zaz, Zc0, Zc1, Zcz, Zab, Zac, Zaa, Zc4, Zc3, Zb1, Zby, Zb0, Zbz, Zb2, Za5, Za4, Zcx, Zcy, Zcw, Zba,
    Zbk, Zbm, Zbc, Zbo, Zbe, Zbf, Zbi, Zbh, Zbj, Zbg, Zbd, Zbn, Zbl, Zbb, ev_t, ev_c, ev_f, Zbu, Zbt, Zbr, Zbs, Zbp, Zbq, Zct, Zcv, Zcu, Zbx, Zbw, Zco, Zcm, Zcn,
    Zcs, Zcr, Zcq, Zcp, Zal, Zc8, Za8, Za9, Za7, Zbv, Zch, Zce, Zcg, Zcf, Zb8, Zb9, Zci, Zb7, Za2, Za6, Zc2, Zcl, Zcj, Zck,
    Zam, Zay, Zau, Zap, Zav, Zat, Zas, Zar, Zaq, Zaw, Zax, Zan, Zao, Zak, Zca, Zcb, Zcc, Zcd, Zb5, Zb3, Zb4, Zb6, Option.map_some, Option.map_none, List.cons_append, List.nil_append, List.append_nil, decide_true, decide_false, Bool.not_true, Bool.not_false, Bool.false_eq_true, if_true, if_false, ↓reduceIte, reduceCtorEq, Nat.reduceAdd, Nat.reduceEqDiff, Nat.reduceBEq, Za3, true_and, and_true, eq_self, List.getElem?_cons_zero, List.getElem?_cons_succ, *])
  all_goals simp only [isFirst, AV.bool.injEq, true_eq_decide_iff, false_eq_decide_iff, decide_eq_decide]
  all_goals first | omega | simp | (simp; omega)

theorem letter_W (b : Int) : callW C 99 [.int .u8 b] st = some (.bool (isFirst b), st) := by
  rw [← CW_eq, CW_is H.h99 _ (by simp)]
  simp only [List.length_cons, List.length_nil, Nat.zero_add, Nat.reduceAdd, Nat.reduceSub, List.reduceReplicate, List.cons_append, List.nil_append]
  unfold k99b
  (simp only [Zaj, Zah, Zaf, Zai, Zad, Zae, Zag, Zc6, Zc7, Zc5, Za0, Za1, Zaz, Zc0, Zc1, Zcz, Zab, Zac, Zaa, Zc4, Zc3, Zb1, Zby, Zb0, Zbz, Zb2, Za5, Za4, Zcx, Zcy, Zcw, Zba,
    Zbk, Zbm, Zbc, Zbo, Zbe, Zbf, Zbi, Zbh, Zbj, Zbg, Zbd, Zbn, Zbl, Zbb, ev_t, ev_c, ev_f, Zbu, Zbt, Zbr, Zbs, Zbp, Zbq, Zct, Zcv, Zcu, Zbx, Zbw, Zco, Zcm, Zcn,
    Zcs, Zcr, Zcq, Zcp, Zal, Zc8, Za8, Za9, Za7, Zbv, Zch, Zce, Zcg, Zcf, Zb8, Zb9, Zci, Zb7, Za2, Za6, Zc2, Zcl, Zcj, Zck,
    Zam, Zay, Zau, Zap, Zav, Zat, Zas, Zar, Zaq, Zaw, Zax, Zan, Zao, Zak, Zca, Zcb, Zcc, Zcd, Zb5, Zb3, Zb4, Zb6, Option.map_some, Option.map_none, List.cons_append, List.nil_append, List.append_nil, decide_true, decide_false, Bool.not_true, Bool.not_false, Bool.false_eq_true, if_true, if_false, ↓reduceIte, reduceCtorEq, Nat.reduceAdd, Nat.reduceEqDiff, Nat.reduceBEq, Za3, true_and, and_true, eq_self, List.getElem?_cons_zero, List.getElem?_cons_succ]); repeat' ((first | rw [guardQ_dect] | rw [guardQ_decf] | rw [guardQ_ndect] | rw [guardQ_ndecf] | rw [condQ_dec] | rw [condQ_ndec]); split <;> simp only [Zaj, Zah, Zaf, Zai, Zad, Zae, Zag, Zc6, Zc7, Zc5, Za0, Za1, Zaz, Zc0, Zc1, Zcz, Zab, Zac, Zaa, Zc4, Zc3, Zb1, Zby, Zb0, Zbz, Zb2, Za5, Za4, Zcx, Zcy, Zcw, Zba,
    Zbk, Zbm, Zbc, Zbo, Zbe, Zbf, Zbi, Zbh, Zbj, Zbg, Zbd, Zbn, Zbl, Zbb, ev_t, ev_c, ev_f, Zbu, Zbt, Zbr, Zbs, Zbp, Zbq, Zct, Zcv, Zcu, Zbx, Zbw, Zco, Zcm, Zcn,
    Zcs, Zcr, Zcq, Zcp, Zal, Zc8, Za8, Za9, Za7, Zbv, Zch, Zce, Zcg, Zcf, Zb8, Zb9, Zci, Zb7, Za2, Za6, Zc2, Zcl, Zcj, Zck,
    Zam, Zay, Zau, Zap, Zav, Zat, Zas, Zar, Zaq, Zaw, Zax, Zan, Zao, Zak, Zca, Zcb, Zcc, Zcd, Zb5, Zb3, Zb4, Zb6, Option.map_some, Option.map_none, List.cons_append, List.nil_append, List.append_nil, decide_true, decide_false, Bool.not_true, Bool.not_false, Bool.false_eq_true, if_true, if_false, ↓reduceIte, reduceCtorEq, Nat.reduceAdd, Nat.reduceEqDiff, Nat.reduceBEq, Za3, true_and, and_true, eq_self, List.getElem?_cons_zero, List.getElem?_cons_succ, *])
  all_goals simp only [isFirst, AV.bool.injEq, true_eq_decide_iff, false_eq_decide_iff, decide_eq_decide]
  all_goals first | omega | simp | (simp; omega)

theorem byte_W (b : Int) : callW C 60 [.int .u8 b] st = some (.bool (isByte b), st) := by
  rw [← CW_eq, CW_is H.h60 _ (by simp)]
  simp only [List.length_cons, List.length_nil, Nat.zero_add, Nat.reduceAdd, Nat.reduceSub, List.reduceReplicate, List.cons_append, List.nil_append]
  unfold k60b
  have hf := first_W H st b
  unfold isByte
  cases h : isFirst b <;> rw [h] at hf <;> clear h
  all_goals simp only [Zaj, Zah, Zaf, Zai, Zad, Zae, Zag, Zc6, Zc7, Zc5, Za0, Za1, Zaz, Zc0, Zc1, Zcz, Zab, Zac, Zaa, Zc4, Zc3, Zb1, Zby, Zb0, Zbz, Zb2, Za5, Za4, Zcx, Zcy, Zcw, Zba,
    Zbk, Zbm, Zbc, Zbo, Zbe, Zbf, Zbi, Zbh, Zbj, Zbg, Zbd, Zbn, Zbl, Zbb, ev_t, ev_c, ev_f, Zbu, Zbt, Zbr, Zbs, Zbp, Zbq, Zct, Zcv, Zcu, Zbx, Zbw, Zco, Zcm, Zcn,
    Zcs, Zcr, Zcq, Zcp, Zal, Zc8, Za8, Za9, Za7, Zbv, Zch, Zce, Zcg, Zcf, Zb8, Zb9, Zci, Zb7, Za2, Za6, Zc2, Zcl, Zcj, Zck,
    Zam, Zay, Zau, Zap, Zav, Zat, Zas, Zar, Zaq, Zaw, Zax, Zan, Zao, Zak, Zca, Zcb, Zcc, Zcd, Zb5, Zb3, Zb4, Zb6, Option.map_some, Option.map_none, List.cons_append, List.nil_append, List.append_nil, decide_true, decide_false, Bool.not_true, Bool.not_false, Bool.false_eq_true, if_true, if_false, ↓reduceIte, reduceCtorEq, Nat.reduceAdd, Nat.reduceEqDiff, Nat.reduceBEq, Za3, true_and, and_true, eq_self, List.getElem?_cons_zero, List.getElem?_cons_succ, hf]
  all_goals repeat' ((first | rw [guardQ_dect] | rw [guardQ_decf] | rw [guardQ_ndect] | rw [guardQ_ndecf] | rw [condQ_dec] | rw [condQ_ndec]); split <;> simp only [Zaj, Zah, Zaf, Zai, Zad, Zae, Zag, Zc6, Zc7, Zc5, Za0, Za1, Zaz, Zc0, Zc1, Zcz, Zab, Zac, Zaa, Zc4, Zc3, Zb1, Zby, Zb0, Zbz, Zb2, Za5, Za4, Zcx, Zcy, Zcw, Zba,
    Zbk, Zbm, Zbc, Zbo, Zbe, Zbf, Zbi, Zbh, Zbj, Zbg, Zbd, Zbn, Zbl, Zbb, ev_t, ev_c, ev_f, Zbu, Zbt, Zbr, Zbs, Zbp, Zbq, Zct, Zcv, Zcu, Zbx, Zbw, Zco, Zcm, Zcn,
    Zcs, Zcr, Zcq, Zcp, Zal, Zc8, Za8, Za9, Za7, Zbv, Zch, Zce, Zcg, Zcf, Zb8, Zb9, Zci, Zb7, Za2, Za6, Zc2, Zcl, Zcj, Zck,
    Zam, Zay, Zau, Zap, Zav, Zat, Zas, Zar, Zaq, Zaw, Zax, Zan, Zao, Zak, Zca, Zcb, Zcc, Zcd, Zb5, Zb3, Zb4, Zb6, Option.map_some, Option.map_none, List.cons_append, List.nil_append, List.append_nil, decide_true, decide_false, Bool.not_true, Bool.not_false, Bool.false_eq_true, if_true, if_false, ↓reduceIte, reduceCtorEq, Nat.reduceAdd, Nat.reduceEqDiff, Nat.reduceBEq, Za3, true_and, and_true, eq_self, List.getElem?_cons_zero, List.getElem?_cons_succ, *])
  all_goals simp only [AV.bool.injEq, true_eq_decide_iff, false_eq_decide_iff, decide_eq_decide, Bool.false_or, Bool.true_or]
  all_goals first | omega | simp | (simp; omega)

theorem more_W (b : Int) : callW C 100 [.int .u8 b] st = some (.bool (isByte b), st) := by
  rw [← CW_eq, CW_is H.h100 _ (by simp)]
  simp only [List.length_cons, List.length_nil, Nat.zero_add, Nat.reduceAdd, Nat.reduceSub, List.reduceReplicate, List.cons_append, List.nil_append]
  unfold k100b
  have hf := letter_W H st b
  unfold isByte
  cases h : isFirst b <;> rw [h] at hf <;> clear h
  all_goals simp only [Zaj, Zah, Zaf, Zai, Zad, Zae, Zag, Zc6, Zc7, Zc5, Za0, Za1, Zaz, Zc0, Zc1, Zcz, Zab, Zac, Zaa, Zc4, Zc3, Zb1, Zby, Zb0, Zbz, Zb2, Za5, Za4, Zcx, Zcy, Zcw, Zba,
    Zbk, Zbm, Zbc, Zbo, Zbe, Zbf, Zbi, Zbh, Zbj, Zbg, Zbd, Zbn, Zbl, Zbb, ev_t, ev_c, ev_f, Zbu, Zbt, Zbr, Zbs, Zbp, Zbq, Zct, Zcv, Zcu, Zbx, Zbw, Zco, Zcm, Zcn,
    Zcs, Zcr, Zcq, Zcp, Zal, Zc8, Za8, Za9, Za7, Zbv, Zch, Zce, Zcg, Zcf, Zb8, Zb9, Zci, Zb7, Za2, Za6, Zc2, Zcl, Zcj, Zck,
    Zam, Zay, Zau, Zap, Zav, Zat, Zas, Zar, Zaq, Zaw, Zax, Zan, Zao, Zak, Zca, Zcb, Zcc, Zcd, Zb5, Zb3, Zb4, Zb6, Option.map_some, Option.map_none, List.cons_append, List.nil_append, List.append_nil, decide_true, decide_false, Bool.not_true, Bool.not_false, Bool.false_eq_true, if_true, if_false, ↓reduceIte, reduceCtorEq, Nat.reduceAdd, Nat.reduceEqDiff, Nat.reduceBEq, Za3, true_and, and_true, eq_self, List.getElem?_cons_zero, List.getElem?_cons_succ, hf]
  all_goals repeat' ((first | rw [guardQ_dect] | rw [guardQ_decf] | rw [guardQ_ndect] | rw [guardQ_ndecf] | rw [condQ_dec] | rw [condQ_ndec]); split <;> simp only [Zaj, Zah, Zaf, Zai, Zad, Zae, Zag, Zc6, Zc7, Zc5, Za0, Za1, Zaz, Zc0, Zc1, Zcz, Zab, Zac, Zaa, Zc4, Zc3, Zb1, Zby, Zb0, Zbz, Zb2, Za5, Za4, Zcx, Zcy, Zcw, Zba,
    Zbk, Zbm, Zbc, Zbo, Zbe, Zbf, Zbi, Zbh, Zbj, Zbg, Zbd, Zbn, Zbl, Zbb, ev_t, ev_c, ev_f, Zbu, Zbt, Zbr, Zbs, Zbp, Zbq, Zct, Zcv, Zcu, Zbx, Zbw, Zco, Zcm, Zcn,
    Zcs, Zcr, Zcq, Zcp, Zal, Zc8, Za8, Za9, Za7, Zbv, Zch, Zce, Zcg, Zcf, Zb8, Zb9, Zci, Zb7, Za2, Za6, Zc2, Zcl, Zcj, Zck,
    Zam, Zay, Zau, Zap, Zav, Zat, Zas, Zar, Zaq, Zaw, Zax, Zan, Zao, Zak, Zca, Zcb, Zcc, Zcd, Zb5, Zb3, Zb4, Zb6, Option.map_some, Option.map_none, List.cons_append, List.nil_append, List.append_nil, decide_true, decide_false, Bool.not_true, Bool.not_false, Bool.false_eq_true, if_true, if_false, ↓reduceIte, reduceCtorEq, Nat.reduceAdd, Nat.reduceEqDiff, Nat.reduceBEq, Za3, true_and, and_true, eq_self, List.getElem?_cons_zero, List.getElem?_cons_succ, *])
  all_goals simp only [AV.bool.injEq, true_eq_decide_iff, false_eq_decide_iff, decide_eq_decide, Bool.false_or, Bool.true_or]
  all_goals first | omega | simp | (simp; omega)

theorem refIs_loop (s : List UInt8) (hs : s.length ≤ 9223372036854775807) (Q : Ex → Env → St → Prop) : ∀ (d i : Nat) (env : Env), i + d = s.length → env.length = 29 → env.get 0 = .str s → env.get 3 = .int .i64 i →
    (((s.drop i).all fun c => isByte c.toNat) = true → ∀ e : Env, e.length = 29 → Q (.exit 0) e st) →
    (((s.drop i).all fun c => isByte c.toNat) = false → ∀ e : Env, e.length = 29 → e.get 2 = .bool false → Q .ret e st) → W C k40l0 env st Q
  | d, i, env, hd, hl, h0, h3, hq1, hq2 => by
    rw [W_loop' (show k40l0 = .loop k40l0b from rfl)]
    unfold k40l0b
    have hi : (↑i : Int) < ↑s.length ↔ i < s.length := by omega
    simp only [Zaj, Zah, Zaf, Zai, Zad, Zae, Zag, Zc6, Zc7, Zc5, Za0, Za1, Zaz, Zc0, Zc1, Zcz, Zab, Zac, Zaa, Zc4, Zc3, Zb1, Zby, Zb0, Zbz, Zb2, Za5, Za4, Zcx, Zcy, Zcw, Zba,
    Zbk, Zbm, Zbc, Zbo, Zbe, Zbf, Zbi, Zbh, Zbj, Zbg, Zbd, Zbn, Zbl, Zbb, ev_t, ev_c, ev_f, Zbu, Zbt, Zbr, Zbs, Zbp, Zbq, Zct, Zcv, Zcu, Zbx, Zbw, Zco, Zcm, Zcn,
    Zcs, Zcr, Zcq, Zcp, Zal, Zc8, Za8, Za9, Za7, Zbv, Zch, Zce, Zcg, Zcf, Zb8, Zb9, Zci, Zb7, Za2, Za6, Zc2, Zcl, Zcj, Zck,
    Zam, Zay, Zau, Zap, Zav, Zat, Zas, Zar, Zaq, Zaw, Zax, Zan, Zao, Zak, Zca, Zcb, Zcc, Zcd, Zb5, Zb3, Zb4, Zb6, Option.map_some, Option.map_none, List.cons_append, List.nil_append, List.append_nil, decide_true, decide_false, Bool.not_true, Bool.not_false, Bool.false_eq_true, if_true, if_false, ↓reduceIte, reduceCtorEq, Nat.reduceAdd, Nat.reduceEqDiff, Nat.reduceBEq, Za3, true_and, and_true, eq_self, List.getElem?_cons_zero, List.getElem?_cons_succ, h0, h3, get_put_eq, get_put_ne, Env.put_length, hl, Nat.reduceLT, hi]
    rw [condQ_dec]
    split
    · rename_i hlt
      have hget : s[i]? = some s[i] := by simp [hlt]
      have hdrop : (s.drop i).all (fun c => isByte c.toNat) = (isByte s[i].toNat && (s.drop (i + 1)).all fun c => isByte c.toNat) := by
        rw [List.drop_eq_getElem_cons hlt]; rfl
      rw [hdrop] at hq1 hq2
      obtain ⟨d, rfl⟩ : ∃ k, d = k + 1 := ⟨d - 1, by omega⟩
      have hw : IntKind.wrap .i64 ((i : Int) + 1) = ((i + 1 : Nat) : Int) := by rw [wrap_i64 (by omega) (by omega)]; omega
      cases hb : isByte s[i].toNat <;> rw [hb] at hq1 hq2
      · simp only [Zaj, Zah, Zaf, Zai, Zad, Zae, Zag, Zc6, Zc7, Zc5, Za0, Za1, Zaz, Zc0, Zc1, Zcz, Zab, Zac, Zaa, Zc4, Zc3, Zb1, Zby, Zb0, Zbz, Zb2, Za5, Za4, Zcx, Zcy, Zcw, Zba,
    Zbk, Zbm, Zbc, Zbo, Zbe, Zbf, Zbi, Zbh, Zbj, Zbg, Zbd, Zbn, Zbl, Zbb, ev_t, ev_c, ev_f, Zbu, Zbt, Zbr, Zbs, Zbp, Zbq, Zct, Zcv, Zcu, Zbx, Zbw, Zco, Zcm, Zcn,
    Zcs, Zcr, Zcq, Zcp, Zal, Zc8, Za8, Za9, Za7, Zbv, Zch, Zce, Zcg, Zcf, Zb8, Zb9, Zci, Zb7, Za2, Za6, Zc2, Zcl, Zcj, Zck,
    Zam, Zay, Zau, Zap, Zav, Zat, Zas, Zar, Zaq, Zaw, Zax, Zan, Zao, Zak, Zca, Zcb, Zcc, Zcd, Zb5, Zb3, Zb4, Zb6, Option.map_some, Option.map_none, List.cons_append, List.nil_append, List.append_nil, decide_true, decide_false, Bool.not_true, Bool.not_false, Bool.false_eq_true, if_true, if_false, ↓reduceIte, reduceCtorEq, Nat.reduceAdd, Nat.reduceEqDiff, Nat.reduceBEq, Za3, true_and, and_true, eq_self, List.getElem?_cons_zero, List.getElem?_cons_succ, h0, h3, get_put_eq, get_put_ne, Env.put_length, hl, Nat.reduceLT, hi, hget, byte_W H, hb, hw]
        exact hq2 rfl _ (by simp [Env.put_length, hl]) (get_put_eq _ (by simp [Env.put_length, hl]))
      · simp only [Zaj, Zah, Zaf, Zai, Zad, Zae, Zag, Zc6, Zc7, Zc5, Za0, Za1, Zaz, Zc0, Zc1, Zcz, Zab, Zac, Zaa, Zc4, Zc3, Zb1, Zby, Zb0, Zbz, Zb2, Za5, Za4, Zcx, Zcy, Zcw, Zba,
    Zbk, Zbm, Zbc, Zbo, Zbe, Zbf, Zbi, Zbh, Zbj, Zbg, Zbd, Zbn, Zbl, Zbb, ev_t, ev_c, ev_f, Zbu, Zbt, Zbr, Zbs, Zbp, Zbq, Zct, Zcv, Zcu, Zbx, Zbw, Zco, Zcm, Zcn,
    Zcs, Zcr, Zcq, Zcp, Zal, Zc8, Za8, Za9, Za7, Zbv, Zch, Zce, Zcg, Zcf, Zb8, Zb9, Zci, Zb7, Za2, Za6, Zc2, Zcl, Zcj, Zck,
    Zam, Zay, Zau, Zap, Zav, Zat, Zas, Zar, Zaq, Zaw, Zax, Zan, Zao, Zak, Zca, Zcb, Zcc, Zcd, Zb5, Zb3, Zb4, Zb6, Option.map_some, Option.map_none, List.cons_append, List.nil_append, List.append_nil, decide_true, decide_false, Bool.not_true, Bool.not_false, Bool.false_eq_true, if_true, if_false, ↓reduceIte, reduceCtorEq, Nat.reduceAdd, Nat.reduceEqDiff, Nat.reduceBEq, Za3, true_and, and_true, eq_self, List.getElem?_cons_zero, List.getElem?_cons_succ, h0, h3, get_put_eq, get_put_ne, Env.put_length, hl, Nat.reduceLT, hi, hget, byte_W H, hb, hw]
        refine refIs_loop s hs Q d (i + 1) _ (by omega) ?_ ?_ ?_ (by simpa using hq1) (by simpa using hq2)
        · simp only [get_put_eq, get_put_ne, Env.put_length, Nat.reduceLT, Zaj, Zah, Zaf, Zai, Zad, Zae, Zag, Zc6, Zc7, Zc5, Za0, Za1, Zaz, Zc0, Zc1, Zcz, Zab, Zac, Zaa, Zc4, Zc3, Zb1, Zby, Zb0, Zbz, Zb2, Za5, Za4, Zcx, Zcy, Zcw, Zba,
    Zbk, Zbm, Zbc, Zbo, Zbe, Zbf, Zbi, Zbh, Zbj, Zbg, Zbd, Zbn, Zbl, Zbb, ev_t, ev_c, ev_f, Zbu, Zbt, Zbr, Zbs, Zbp, Zbq, Zct, Zcv, Zcu, Zbx, Zbw, Zco, Zcm, Zcn,
    Zcs, Zcr, Zcq, Zcp, Zal, Zc8, Za8, Za9, Za7, Zbv, Zch, Zce, Zcg, Zcf, Zb8, Zb9, Zci, Zb7, Za2, Za6, Zc2, Zcl, Zcj, Zck,
    Zam, Zay, Zau, Zap, Zav, Zat, Zas, Zar, Zaq, Zaw, Zax, Zan, Zao, Zak, Zca, Zcb, Zcc, Zcd, Zb5, Zb3, Zb4, Zb6, Option.map_some, Option.map_none, List.cons_append, List.nil_append, List.append_nil, decide_true, decide_false, Bool.not_true, Bool.not_false, Bool.false_eq_true, if_true, if_false, ↓reduceIte, reduceCtorEq, Nat.reduceAdd, Nat.reduceEqDiff, Nat.reduceBEq, Za3, true_and, and_true, eq_self, List.getElem?_cons_zero, List.getElem?_cons_succ, hl]
        · simp only [get_put_eq, get_put_ne, Env.put_length, Nat.reduceLT, Zaj, Zah, Zaf, Zai, Zad, Zae, Zag, Zc6, Zc7, Zc5, Za0, Za1, Zaz, Zc0, Zc1, Zcz, Zab, Zac, Zaa, Zc4, Zc3, Zb1, Zby, Zb0, Zbz, Zb2, Za5, Za4, Zcx, Zcy, Zcw, Zba,
    Zbk, Zbm, Zbc, Zbo, Zbe, Zbf, Zbi, Zbh, Zbj, Zbg, Zbd, Zbn, Zbl, Zbb, ev_t, ev_c, ev_f, Zbu, Zbt, Zbr, Zbs, Zbp, Zbq, Zct, Zcv, Zcu, Zbx, Zbw, Zco, Zcm, Zcn,
    Zcs, Zcr, Zcq, Zcp, Zal, Zc8, Za8, Za9, Za7, Zbv, Zch, Zce, Zcg, Zcf, Zb8, Zb9, Zci, Zb7, Za2, Za6, Zc2, Zcl, Zcj, Zck,
    Zam, Zay, Zau, Zap, Zav, Zat, Zas, Zar, Zaq, Zaw, Zax, Zan, Zao, Zak, Zca, Zcb, Zcc, Zcd, Zb5, Zb3, Zb4, Zb6, Option.map_some, Option.map_none, List.cons_append, List.nil_append, List.append_nil, decide_true, decide_false, Bool.not_true, Bool.not_false, Bool.false_eq_true, if_true, if_false, ↓reduceIte, reduceCtorEq, Nat.reduceAdd, Nat.reduceEqDiff, Nat.reduceBEq, Za3, true_and, and_true, eq_self, List.getElem?_cons_zero, List.getElem?_cons_succ, hl, h0]
        · simp only [get_put_eq, get_put_ne, Env.put_length, Nat.reduceLT, Zaj, Zah, Zaf, Zai, Zad, Zae, Zag, Zc6, Zc7, Zc5, Za0, Za1, Zaz, Zc0, Zc1, Zcz, Zab, Zac, Zaa, Zc4, Zc3, Zb1, Zby, Zb0, Zbz, Zb2, Za5, Za4, Zcx, Zcy, Zcw, Zba,
    Zbk, Zbm, Zbc, Zbo, Zbe, Zbf, Zbi, Zbh, Zbj, Zbg, Zbd, Zbn, Zbl, Zbb, ev_t, ev_c, ev_f, Zbu, Zbt, Zbr, Zbs, Zbp, Zbq, Zct, Zcv, Zcu, Zbx, Zbw, Zco, Zcm, Zcn,
    Zcs, Zcr, Zcq, Zcp, Zal, Zc8, Za8, Za9, Za7, Zbv, Zch, Zce, Zcg, Zcf, Zb8, Zb9, Zci, Zb7, Za2, Za6, Zc2, Zcl, Zcj, Zck,
    Zam, Zay, Zau, Zap, Zav, Zat, Zas, Zar, Zaq, Zaw, Zax, Zan, Zao, Zak, Zca, Zcb, Zcc, Zcd, Zb5, Zb3, Zb4, Zb6, Option.map_some, Option.map_none, List.cons_append, List.nil_append, List.append_nil, decide_true, decide_false, Bool.not_true, Bool.not_false, Bool.false_eq_true, if_true, if_false, ↓reduceIte, reduceCtorEq, Nat.reduceAdd, Nat.reduceEqDiff, Nat.reduceBEq, Za3, true_and, and_true, eq_self, List.getElem?_cons_zero, List.getElem?_cons_succ, hl]
    · simp only [get_put_eq, get_put_ne, Env.put_length, Nat.reduceLT, Zaj, Zah, Zaf, Zai, Zad, Zae, Zag, Zc6, Zc7, Zc5, Za0, Za1, Zaz, Zc0, Zc1, Zcz, Zab, Zac, Zaa, Zc4, Zc3, Zb1, Zby, Zb0, Zbz, Zb2, Za5, Za4, Zcx, Zcy, Zcw, Zba,
    Zbk, Zbm, Zbc, Zbo, Zbe, Zbf, Zbi, Zbh, Zbj, Zbg, Zbd, Zbn, Zbl, Zbb, ev_t, ev_c, ev_f, Zbu, Zbt, Zbr, Zbs, Zbp, Zbq, Zct, Zcv, Zcu, Zbx, Zbw, Zco, Zcm, Zcn,
    Zcs, Zcr, Zcq, Zcp, Zal, Zc8, Za8, Za9, Za7, Zbv, Zch, Zce, Zcg, Zcf, Zb8, Zb9, Zci, Zb7, Za2, Za6, Zc2, Zcl, Zcj, Zck,
    Zam, Zay, Zau, Zap, Zav, Zat, Zas, Zar, Zaq, Zaw, Zax, Zan, Zao, Zak, Zca, Zcb, Zcc, Zcd, Zb5, Zb3, Zb4, Zb6, Option.map_some, Option.map_none, List.cons_append, List.nil_append, List.append_nil, decide_true, decide_false, Bool.not_true, Bool.not_false, Bool.false_eq_true, if_true, if_false, ↓reduceIte, reduceCtorEq, Nat.reduceAdd, Nat.reduceEqDiff, Nat.reduceBEq, Za3, true_and, and_true, eq_self, List.getElem?_cons_zero, List.getElem?_cons_succ, hl]
      refine hq1 (by rw [List.drop_of_length_le (by omega)]; rfl) _ ?_
      simp only [get_put_eq, get_put_ne, Env.put_length, Nat.reduceLT, Zaj, Zah, Zaf, Zai, Zad, Zae, Zag, Zc6, Zc7, Zc5, Za0, Za1, Zaz, Zc0, Zc1, Zcz, Zab, Zac, Zaa, Zc4, Zc3, Zb1, Zby, Zb0, Zbz, Zb2, Za5, Za4, Zcx, Zcy, Zcw, Zba,
    Zbk, Zbm, Zbc, Zbo, Zbe, Zbf, Zbi, Zbh, Zbj, Zbg, Zbd, Zbn, Zbl, Zbb, ev_t, ev_c, ev_f, Zbu, Zbt, Zbr, Zbs, Zbp, Zbq, Zct, Zcv, Zcu, Zbx, Zbw, Zco, Zcm, Zcn,
    Zcs, Zcr, Zcq, Zcp, Zal, Zc8, Za8, Za9, Za7, Zbv, Zch, Zce, Zcg, Zcf, Zb8, Zb9, Zci, Zb7, Za2, Za6, Zc2, Zcl, Zcj, Zck,
    Zam, Zay, Zau, Zap, Zav, Zat, Zas, Zar, Zaq, Zaw, Zax, Zan, Zao, Zak, Zca, Zcb, Zcc, Zcd, Zb5, Zb3, Zb4, Zb6, Option.map_some, Option.map_none, List.cons_append, List.nil_append, List.append_nil, decide_true, decide_false, Bool.not_true, Bool.not_false, Bool.false_eq_true, if_true, if_false, ↓reduceIte, reduceCtorEq, Nat.reduceAdd, Nat.reduceEqDiff, Nat.reduceBEq, Za3, true_and, and_true, eq_self, List.getElem?_cons_zero, List.getElem?_cons_succ, hl]

theorem refIs_W (s : List UInt8) (hs : s.length ≤ 9223372036854775807) : callW C 40 [.str s] st = some (.bool (isName s), st) := by
  rw [← CW_eq, CW_is H.h40 _ (by simp)]
  simp only [List.length_cons, List.length_nil, Nat.zero_add, Nat.reduceAdd, Nat.reduceSub, List.reduceReplicate, List.cons_append, List.nil_append]
  unfold k40b
  cases s with
  | nil => simp [Zaj, Zah, Zaf, Zai, Zad, Zae, Zag, Zc6, Zc7, Zc5, Za0, Za1, Zaz, Zc0, Zc1, Zcz, Zab, Zac, Zaa, Zc4, Zc3, Zb1, Zby, Zb0, Zbz, Zb2, Za5, Za4, Zcx, Zcy, Zcw, Zba,
    Zbk, Zbm, Zbc, Zbo, Zbe, Zbf, Zbi, Zbh, Zbj, Zbg, Zbd, Zbn, Zbl, Zbb, ev_t, ev_c, ev_f, Zbu, Zbt, Zbr, Zbs, Zbp, Zbq, Zct, Zcv, Zcu, Zbx, Zbw, Zco, Zcm, Zcn,
    Zcs, Zcr, Zcq, Zcp, Zal, Zc8, Za8, Za9, Za7, Zbv, Zch, Zce, Zcg, Zcf, Zb8, Zb9, Zci, Zb7, Za2, Za6, Zc2, Zcl, Zcj, Zck,
    Zam, Zay, Zau, Zap, Zav, Zat, Zas, Zar, Zaq, Zaw, Zax, Zan, Zao, Zak, Zca, Zcb, Zcc, Zcd, Zb5, Zb3, Zb4, Zb6, Option.map_some, Option.map_none, List.cons_append, List.nil_append, List.append_nil, decide_true, decide_false, Bool.not_true, Bool.not_false, Bool.false_eq_true, if_true, if_false, ↓reduceIte, reduceCtorEq, Nat.reduceAdd, Nat.reduceEqDiff, Nat.reduceBEq, Za3, true_and, and_true, eq_self, List.getElem?_cons_zero, List.getElem?_cons_succ, isName]
  | cons c l =>
    have h1 : ¬ ((↑(c :: l).length : Int) < 1) := by simp; omega
    have h2 : (12 : Int) < ↑(c :: l).length ↔ 12 < (c :: l).length := by omega
    have hf := first_W H st c.toNat
    simp only [Zaj, Zah, Zaf, Zai, Zad, Zae, Zag, Zc6, Zc7, Zc5, Za0, Za1, Zaz, Zc0, Zc1, Zcz, Zab, Zac, Zaa, Zc4, Zc3, Zb1, Zby, Zb0, Zbz, Zb2, Za5, Za4, Zcx, Zcy, Zcw, Zba,
    Zbk, Zbm, Zbc, Zbo, Zbe, Zbf, Zbi, Zbh, Zbj, Zbg, Zbd, Zbn, Zbl, Zbb, ev_t, ev_c, ev_f, Zbu, Zbt, Zbr, Zbs, Zbp, Zbq, Zct, Zcv, Zcu, Zbx, Zbw, Zco, Zcm, Zcn,
    Zcs, Zcr, Zcq, Zcp, Zal, Zc8, Za8, Za9, Za7, Zbv, Zch, Zce, Zcg, Zcf, Zb8, Zb9, Zci, Zb7, Za2, Za6, Zc2, Zcl, Zcj, Zck,
    Zam, Zay, Zau, Zap, Zav, Zat, Zas, Zar, Zaq, Zaw, Zax, Zan, Zao, Zak, Zca, Zcb, Zcc, Zcd, Zb5, Zb3, Zb4, Zb6, Option.map_some, Option.map_none, List.cons_append, List.nil_append, List.append_nil, decide_true, decide_false, Bool.not_true, Bool.not_false, Bool.false_eq_true, if_true, if_false, ↓reduceIte, reduceCtorEq, Nat.reduceAdd, Nat.reduceEqDiff, Nat.reduceBEq, Za3, true_and, and_true, eq_self, List.getElem?_cons_zero, List.getElem?_cons_succ, h1, h2]
    rw [guardQ_decf]
    split
    · rename_i h3
      simp only [Zaj, Zah, Zaf, Zai, Zad, Zae, Zag, Zc6, Zc7, Zc5, Za0, Za1, Zaz, Zc0, Zc1, Zcz, Zab, Zac, Zaa, Zc4, Zc3, Zb1, Zby, Zb0, Zbz, Zb2, Za5, Za4, Zcx, Zcy, Zcw, Zba,
    Zbk, Zbm, Zbc, Zbo, Zbe, Zbf, Zbi, Zbh, Zbj, Zbg, Zbd, Zbn, Zbl, Zbb, ev_t, ev_c, ev_f, Zbu, Zbt, Zbr, Zbs, Zbp, Zbq, Zct, Zcv, Zcu, Zbx, Zbw, Zco, Zcm, Zcn,
    Zcs, Zcr, Zcq, Zcp, Zal, Zc8, Za8, Za9, Za7, Zbv, Zch, Zce, Zcg, Zcf, Zb8, Zb9, Zci, Zb7, Za2, Za6, Zc2, Zcl, Zcj, Zck,
    Zam, Zay, Zau, Zap, Zav, Zat, Zas, Zar, Zaq, Zaw, Zax, Zan, Zao, Zak, Zca, Zcb, Zcc, Zcd, Zb5, Zb3, Zb4, Zb6, Option.map_some, Option.map_none, List.cons_append, List.nil_append, List.append_nil, decide_true, decide_false, Bool.not_true, Bool.not_false, Bool.false_eq_true, if_true, if_false, ↓reduceIte, reduceCtorEq, Nat.reduceAdd, Nat.reduceEqDiff, Nat.reduceBEq, Za3, true_and, and_true, eq_self, List.getElem?_cons_zero, List.getElem?_cons_succ, h1, h2, h3, isName, Bool.false_and, decide_false, Nat.not_le.2 h3]
    · rename_i h3
      have h4 : (c :: l).length ≤ 12 := by omega
      cases h5 : isFirst c.toNat <;> rw [h5] at hf
      · simp only [Zaj, Zah, Zaf, Zai, Zad, Zae, Zag, Zc6, Zc7, Zc5, Za0, Za1, Zaz, Zc0, Zc1, Zcz, Zab, Zac, Zaa, Zc4, Zc3, Zb1, Zby, Zb0, Zbz, Zb2, Za5, Za4, Zcx, Zcy, Zcw, Zba,
    Zbk, Zbm, Zbc, Zbo, Zbe, Zbf, Zbi, Zbh, Zbj, Zbg, Zbd, Zbn, Zbl, Zbb, ev_t, ev_c, ev_f, Zbu, Zbt, Zbr, Zbs, Zbp, Zbq, Zct, Zcv, Zcu, Zbx, Zbw, Zco, Zcm, Zcn,
    Zcs, Zcr, Zcq, Zcp, Zal, Zc8, Za8, Za9, Za7, Zbv, Zch, Zce, Zcg, Zcf, Zb8, Zb9, Zci, Zb7, Za2, Za6, Zc2, Zcl, Zcj, Zck,
    Zam, Zay, Zau, Zap, Zav, Zat, Zas, Zar, Zaq, Zaw, Zax, Zan, Zao, Zak, Zca, Zcb, Zcc, Zcd, Zb5, Zb3, Zb4, Zb6, Option.map_some, Option.map_none, List.cons_append, List.nil_append, List.append_nil, decide_true, decide_false, Bool.not_true, Bool.not_false, Bool.false_eq_true, if_true, if_false, ↓reduceIte, reduceCtorEq, Nat.reduceAdd, Nat.reduceEqDiff, Nat.reduceBEq, Za3, true_and, and_true, eq_self, List.getElem?_cons_zero, List.getElem?_cons_succ, h1, h2, h3, hf, isName, h4, h5, Bool.false_and, Bool.and_false]
      · simp only [Zaj, Zah, Zaf, Zai, Zad, Zae, Zag, Zc6, Zc7, Zc5, Za0, Za1, Zaz, Zc0, Zc1, Zcz, Zab, Zac, Zaa, Zc4, Zc3, Zb1, Zby, Zb0, Zbz, Zb2, Za5, Za4, Zcx, Zcy, Zcw, Zba,
    Zbk, Zbm, Zbc, Zbo, Zbe, Zbf, Zbi, Zbh, Zbj, Zbg, Zbd, Zbn, Zbl, Zbb, ev_t, ev_c, ev_f, Zbu, Zbt, Zbr, Zbs, Zbp, Zbq, Zct, Zcv, Zcu, Zbx, Zbw, Zco, Zcm, Zcn,
    Zcs, Zcr, Zcq, Zcp, Zal, Zc8, Za8, Za9, Za7, Zbv, Zch, Zce, Zcg, Zcf, Zb8, Zb9, Zci, Zb7, Za2, Za6, Zc2, Zcl, Zcj, Zck,
    Zam, Zay, Zau, Zap, Zav, Zat, Zas, Zar, Zaq, Zaw, Zax, Zan, Zao, Zak, Zca, Zcb, Zcc, Zcd, Zb5, Zb3, Zb4, Zb6, Option.map_some, Option.map_none, List.cons_append, List.nil_append, List.append_nil, decide_true, decide_false, Bool.not_true, Bool.not_false, Bool.false_eq_true, if_true, if_false, ↓reduceIte, reduceCtorEq, Nat.reduceAdd, Nat.reduceEqDiff, Nat.reduceBEq, Za3, true_and, and_true, eq_self, List.getElem?_cons_zero, List.getElem?_cons_succ, h1, h2, h3, hf, isName, h4, h5, Bool.true_and]
        refine refIs_loop H st (c :: l) hs _ (c :: l).length 0 _ (by omega) rfl rfl rfl ?_ ?_
        · intro ha e he
          simp only [List.drop_zero] at ha
          simp only [get_put_eq, get_put_ne, Env.put_length, Nat.reduceLT, Zaj, Zah, Zaf, Zai, Zad, Zae, Zag, Zc6, Zc7, Zc5, Za0, Za1, Zaz, Zc0, Zc1, Zcz, Zab, Zac, Zaa, Zc4, Zc3, Zb1, Zby, Zb0, Zbz, Zb2, Za5, Za4, Zcx, Zcy, Zcw, Zba,
    Zbk, Zbm, Zbc, Zbo, Zbe, Zbf, Zbi, Zbh, Zbj, Zbg, Zbd, Zbn, Zbl, Zbb, ev_t, ev_c, ev_f, Zbu, Zbt, Zbr, Zbs, Zbp, Zbq, Zct, Zcv, Zcu, Zbx, Zbw, Zco, Zcm, Zcn,
    Zcs, Zcr, Zcq, Zcp, Zal, Zc8, Za8, Za9, Za7, Zbv, Zch, Zce, Zcg, Zcf, Zb8, Zb9, Zci, Zb7, Za2, Za6, Zc2, Zcl, Zcj, Zck,
    Zam, Zay, Zau, Zap, Zav, Zat, Zas, Zar, Zaq, Zaw, Zax, Zan, Zao, Zak, Zca, Zcb, Zcc, Zcd, Zb5, Zb3, Zb4, Zb6, Option.map_some, Option.map_none, List.cons_append, List.nil_append, List.append_nil, decide_true, decide_false, Bool.not_true, Bool.not_false, Bool.false_eq_true, if_true, if_false, ↓reduceIte, reduceCtorEq, Nat.reduceAdd, Nat.reduceEqDiff, Nat.reduceBEq, Za3, true_and, and_true, eq_self, List.getElem?_cons_zero, List.getElem?_cons_succ, he, ha]
        · intro ha e he h2
          simp only [List.drop_zero] at ha
          simp only [get_put_eq, get_put_ne, Env.put_length, Nat.reduceLT, Zaj, Zah, Zaf, Zai, Zad, Zae, Zag, Zc6, Zc7, Zc5, Za0, Za1, Zaz, Zc0, Zc1, Zcz, Zab, Zac, Zaa, Zc4, Zc3, Zb1, Zby, Zb0, Zbz, Zb2, Za5, Za4, Zcx, Zcy, Zcw, Zba,
    Zbk, Zbm, Zbc, Zbo, Zbe, Zbf, Zbi, Zbh, Zbj, Zbg, Zbd, Zbn, Zbl, Zbb, ev_t, ev_c, ev_f, Zbu, Zbt, Zbr, Zbs, Zbp, Zbq, Zct, Zcv, Zcu, Zbx, Zbw, Zco, Zcm, Zcn,
    Zcs, Zcr, Zcq, Zcp, Zal, Zc8, Za8, Za9, Za7, Zbv, Zch, Zce, Zcg, Zcf, Zb8, Zb9, Zci, Zb7, Za2, Za6, Zc2, Zcl, Zcj, Zck,
    Zam, Zay, Zau, Zap, Zav, Zat, Zas, Zar, Zaq, Zaw, Zax, Zan, Zao, Zak, Zca, Zcb, Zcc, Zcd, Zb5, Zb3, Zb4, Zb6, Option.map_some, Option.map_none, List.cons_append, List.nil_append, List.append_nil, decide_true, decide_false, Bool.not_true, Bool.not_false, Bool.false_eq_true, if_true, if_false, ↓reduceIte, reduceCtorEq, Nat.reduceAdd, Nat.reduceEqDiff, Nat.reduceBEq, Za3, true_and, and_true, eq_self, List.getElem?_cons_zero, List.getElem?_cons_succ, he, ha, h2]

theorem nameIs_loop (s : List UInt8) (hs : s.length < 9223372036854775807) (Q : Ex → Env → St → Prop) : ∀ (d i : Nat) (env : Env), i + d = s.length → env.length = 29 → env.get 19 = .sl 1 (s.map fun b => [.int .u8 b.toNat]) false → env.get 20 = .int .i64 s.length → env.get 21 = .int .i64 i →
    (((s.drop i).all fun c => isByte c.toNat) = true → ∀ e : Env, e.length = 29 → Q (.exit 0) e st) →
    (((s.drop i).all fun c => isByte c.toNat) = false → ∀ e : Env, e.length = 29 → e.get 2 = .bool false → Q .ret e st) → W C k81l0 env st Q
  | d, i, env, hd, hl, h19, h20, h21, hq1, hq2 => by
    rw [W_loop' (show k81l0 = .loop k81l0b from rfl)]
    unfold k81l0b
    have hi : (↑i : Int) < ↑s.length ↔ i < s.length := by omega
    simp only [get_put_eq, get_put_ne, Env.put_length, Nat.reduceLT, Zaj, Zah, Zaf, Zai, Zad, Zae, Zag, Zc6, Zc7, Zc5, Za0, Za1, Zaz, Zc0, Zc1, Zcz, Zab, Zac, Zaa, Zc4, Zc3, Zb1, Zby, Zb0, Zbz, Zb2, Za5, Za4, Zcx, Zcy, Zcw, Zba,
    Zbk, Zbm, Zbc, Zbo, Zbe, Zbf, Zbi, Zbh, Zbj, Zbg, Zbd, Zbn, Zbl, Zbb, ev_t, ev_c, ev_f, Zbu, Zbt, Zbr, Zbs, Zbp, Zbq, Zct, Zcv, Zcu, Zbx, Zbw, Zco, Zcm, Zcn,
    Zcs, Zcr, Zcq, Zcp, Zal, Zc8, Za8, Za9, Za7, Zbv, Zch, Zce, Zcg, Zcf, Zb8, Zb9, Zci, Zb7, Za2, Za6, Zc2, Zcl, Zcj, Zck,
    Zam, Zay, Zau, Zap, Zav, Zat, Zas, Zar, Zaq, Zaw, Zax, Zan, Zao, Zak, Zca, Zcb, Zcc, Zcd, Zb5, Zb3, Zb4, Zb6, Option.map_some, Option.map_none, List.cons_append, List.nil_append, List.append_nil, decide_true, decide_false, Bool.not_true, Bool.not_false, Bool.false_eq_true, if_true, if_false, ↓reduceIte, reduceCtorEq, Nat.reduceAdd, Nat.reduceEqDiff, Nat.reduceBEq, Za3, true_and, and_true, eq_self, List.getElem?_cons_zero, List.getElem?_cons_succ, h19, h20, h21, hl, hi]
    rw [condQ_dec]
    split
    · rename_i hlt
      have hget : (s.map fun b => [AV.int .u8 b.toNat])[i]? = some [.int .u8 s[i].toNat] := by simp [hlt]
      have hdrop : (s.drop i).all (fun c => isByte c.toNat) = (isByte s[i].toNat && (s.drop (i + 1)).all fun c => isByte c.toNat) := by
        rw [List.drop_eq_getElem_cons hlt]; rfl
      rw [hdrop] at hq1 hq2
      obtain ⟨d, rfl⟩ : ∃ k, d = k + 1 := ⟨d - 1, by omega⟩
      have hw : IntKind.wrap .i64 ((i : Int) + 1) = ((i + 1 : Nat) : Int) := by rw [wrap_i64 (by omega) (by omega)]; omega
      cases hb : isByte s[i].toNat <;> rw [hb] at hq1 hq2
      · simp only [get_put_eq, get_put_ne, Env.put_length, Nat.reduceLT, Zaj, Zah, Zaf, Zai, Zad, Zae, Zag, Zc6, Zc7, Zc5, Za0, Za1, Zaz, Zc0, Zc1, Zcz, Zab, Zac, Zaa, Zc4, Zc3, Zb1, Zby, Zb0, Zbz, Zb2, Za5, Za4, Zcx, Zcy, Zcw, Zba,
    Zbk, Zbm, Zbc, Zbo, Zbe, Zbf, Zbi, Zbh, Zbj, Zbg, Zbd, Zbn, Zbl, Zbb, ev_t, ev_c, ev_f, Zbu, Zbt, Zbr, Zbs, Zbp, Zbq, Zct, Zcv, Zcu, Zbx, Zbw, Zco, Zcm, Zcn,
    Zcs, Zcr, Zcq, Zcp, Zal, Zc8, Za8, Za9, Za7, Zbv, Zch, Zce, Zcg, Zcf, Zb8, Zb9, Zci, Zb7, Za2, Za6, Zc2, Zcl, Zcj, Zck,
    Zam, Zay, Zau, Zap, Zav, Zat, Zas, Zar, Zaq, Zaw, Zax, Zan, Zao, Zak, Zca, Zcb, Zcc, Zcd, Zb5, Zb3, Zb4, Zb6, Option.map_some, Option.map_none, List.cons_append, List.nil_append, List.append_nil, decide_true, decide_false, Bool.not_true, Bool.not_false, Bool.false_eq_true, if_true, if_false, ↓reduceIte, reduceCtorEq, Nat.reduceAdd, Nat.reduceEqDiff, Nat.reduceBEq, Za3, true_and, and_true, eq_self, List.getElem?_cons_zero, List.getElem?_cons_succ, h19, h20, h21, hl, hi, hget, more_W H, hb, hw]
        exact hq2 rfl _ (by simp [Env.put_length, hl]) (get_put_eq _ (by simp [Env.put_length, hl]))
      · simp only [get_put_eq, get_put_ne, Env.put_length, Nat.reduceLT, Zaj, Zah, Zaf, Zai, Zad, Zae, Zag, Zc6, Zc7, Zc5, Za0, Za1, Zaz, Zc0, Zc1, Zcz, Zab, Zac, Zaa, Zc4, Zc3, Zb1, Zby, Zb0, Zbz, Zb2, Za5, Za4, Zcx, Zcy, Zcw, Zba,
    Zbk, Zbm, Zbc, Zbo, Zbe, Zbf, Zbi, Zbh, Zbj, Zbg, Zbd, Zbn, Zbl, Zbb, ev_t, ev_c, ev_f, Zbu, Zbt, Zbr, Zbs, Zbp, Zbq, Zct, Zcv, Zcu, Zbx, Zbw, Zco, Zcm, Zcn,
    Zcs, Zcr, Zcq, Zcp, Zal, Zc8, Za8, Za9, Za7, Zbv, Zch, Zce, Zcg, Zcf, Zb8, Zb9, Zci, Zb7, Za2, Za6, Zc2, Zcl, Zcj, Zck,
    Zam, Zay, Zau, Zap, Zav, Zat, Zas, Zar, Zaq, Zaw, Zax, Zan, Zao, Zak, Zca, Zcb, Zcc, Zcd, Zb5, Zb3, Zb4, Zb6, Option.map_some, Option.map_none, List.cons_append, List.nil_append, List.append_nil, decide_true, decide_false, Bool.not_true, Bool.not_false, Bool.false_eq_true, if_true, if_false, ↓reduceIte, reduceCtorEq, Nat.reduceAdd, Nat.reduceEqDiff, Nat.reduceBEq, Za3, true_and, and_true, eq_self, List.getElem?_cons_zero, List.getElem?_cons_succ, h19, h20, h21, hl, hi, hget, more_W H, hb, hw]
        refine nameIs_loop s hs Q d (i + 1) _ (by omega) ?_ ?_ ?_ ?_ (by simpa using hq1) (by simpa using hq2)
        · simp only [get_put_eq, get_put_ne, Env.put_length, Nat.reduceLT, Zaj, Zah, Zaf, Zai, Zad, Zae, Zag, Zc6, Zc7, Zc5, Za0, Za1, Zaz, Zc0, Zc1, Zcz, Zab, Zac, Zaa, Zc4, Zc3, Zb1, Zby, Zb0, Zbz, Zb2, Za5, Za4, Zcx, Zcy, Zcw, Zba,
    Zbk, Zbm, Zbc, Zbo, Zbe, Zbf, Zbi, Zbh, Zbj, Zbg, Zbd, Zbn, Zbl, Zbb, ev_t, ev_c, ev_f, Zbu, Zbt, Zbr, Zbs, Zbp, Zbq, Zct, Zcv, Zcu, Zbx, Zbw, Zco, Zcm, Zcn,
    Zcs, Zcr, Zcq, Zcp, Zal, Zc8, Za8, Za9, Za7, Zbv, Zch, Zce, Zcg, Zcf, Zb8, Zb9, Zci, Zb7, Za2, Za6, Zc2, Zcl, Zcj, Zck,
    Zam, Zay, Zau, Zap, Zav, Zat, Zas, Zar, Zaq, Zaw, Zax, Zan, Zao, Zak, Zca, Zcb, Zcc, Zcd, Zb5, Zb3, Zb4, Zb6, Option.map_some, Option.map_none, List.cons_append, List.nil_append, List.append_nil, decide_true, decide_false, Bool.not_true, Bool.not_false, Bool.false_eq_true, if_true, if_false, ↓reduceIte, reduceCtorEq, Nat.reduceAdd, Nat.reduceEqDiff, Nat.reduceBEq, Za3, true_and, and_true, eq_self, List.getElem?_cons_zero, List.getElem?_cons_succ, hl]
        · simp only [get_put_eq, get_put_ne, Env.put_length, Nat.reduceLT, Zaj, Zah, Zaf, Zai, Zad, Zae, Zag, Zc6, Zc7, Zc5, Za0, Za1, Zaz, Zc0, Zc1, Zcz, Zab, Zac, Zaa, Zc4, Zc3, Zb1, Zby, Zb0, Zbz, Zb2, Za5, Za4, Zcx, Zcy, Zcw, Zba,
    Zbk, Zbm, Zbc, Zbo, Zbe, Zbf, Zbi, Zbh, Zbj, Zbg, Zbd, Zbn, Zbl, Zbb, ev_t, ev_c, ev_f, Zbu, Zbt, Zbr, Zbs, Zbp, Zbq, Zct, Zcv, Zcu, Zbx, Zbw, Zco, Zcm, Zcn,
    Zcs, Zcr, Zcq, Zcp, Zal, Zc8, Za8, Za9, Za7, Zbv, Zch, Zce, Zcg, Zcf, Zb8, Zb9, Zci, Zb7, Za2, Za6, Zc2, Zcl, Zcj, Zck,
    Zam, Zay, Zau, Zap, Zav, Zat, Zas, Zar, Zaq, Zaw, Zax, Zan, Zao, Zak, Zca, Zcb, Zcc, Zcd, Zb5, Zb3, Zb4, Zb6, Option.map_some, Option.map_none, List.cons_append, List.nil_append, List.append_nil, decide_true, decide_false, Bool.not_true, Bool.not_false, Bool.false_eq_true, if_true, if_false, ↓reduceIte, reduceCtorEq, Nat.reduceAdd, Nat.reduceEqDiff, Nat.reduceBEq, Za3, true_and, and_true, eq_self, List.getElem?_cons_zero, List.getElem?_cons_succ, hl, h19]
        · simp only [get_put_eq, get_put_ne, Env.put_length, Nat.reduceLT, Zaj, Zah, Zaf, Zai, Zad, Zae, Zag, Zc6, Zc7, Zc5, Za0, Za1, Zaz, Zc0, Zc1, Zcz, Zab, Zac, Zaa, Zc4, Zc3, Zb1, Zby, Zb0, Zbz, Zb2, Za5, Za4, Zcx, Zcy, Zcw, Zba,
    Zbk, Zbm, Zbc, Zbo, Zbe, Zbf, Zbi, Zbh, Zbj, Zbg, Zbd, Zbn, Zbl, Zbb, ev_t, ev_c, ev_f, Zbu, Zbt, Zbr, Zbs, Zbp, Zbq, Zct, Zcv, Zcu, Zbx, Zbw, Zco, Zcm, Zcn,
    Zcs, Zcr, Zcq, Zcp, Zal, Zc8, Za8, Za9, Za7, Zbv, Zch, Zce, Zcg, Zcf, Zb8, Zb9, Zci, Zb7, Za2, Za6, Zc2, Zcl, Zcj, Zck,
    Zam, Zay, Zau, Zap, Zav, Zat, Zas, Zar, Zaq, Zaw, Zax, Zan, Zao, Zak, Zca, Zcb, Zcc, Zcd, Zb5, Zb3, Zb4, Zb6, Option.map_some, Option.map_none, List.cons_append, List.nil_append, List.append_nil, decide_true, decide_false, Bool.not_true, Bool.not_false, Bool.false_eq_true, if_true, if_false, ↓reduceIte, reduceCtorEq, Nat.reduceAdd, Nat.reduceEqDiff, Nat.reduceBEq, Za3, true_and, and_true, eq_self, List.getElem?_cons_zero, List.getElem?_cons_succ, hl, h20]
        · simp only [get_put_eq, get_put_ne, Env.put_length, Nat.reduceLT, Zaj, Zah, Zaf, Zai, Zad, Zae, Zag, Zc6, Zc7, Zc5, Za0, Za1, Zaz, Zc0, Zc1, Zcz, Zab, Zac, Zaa, Zc4, Zc3, Zb1, Zby, Zb0, Zbz, Zb2, Za5, Za4, Zcx, Zcy, Zcw, Zba,
    Zbk, Zbm, Zbc, Zbo, Zbe, Zbf, Zbi, Zbh, Zbj, Zbg, Zbd, Zbn, Zbl, Zbb, ev_t, ev_c, ev_f, Zbu, Zbt, Zbr, Zbs, Zbp, Zbq, Zct, Zcv, Zcu, Zbx, Zbw, Zco, Zcm, Zcn,
    Zcs, Zcr, Zcq, Zcp, Zal, Zc8, Za8, Za9, Za7, Zbv, Zch, Zce, Zcg, Zcf, Zb8, Zb9, Zci, Zb7, Za2, Za6, Zc2, Zcl, Zcj, Zck,
    Zam, Zay, Zau, Zap, Zav, Zat, Zas, Zar, Zaq, Zaw, Zax, Zan, Zao, Zak, Zca, Zcb, Zcc, Zcd, Zb5, Zb3, Zb4, Zb6, Option.map_some, Option.map_none, List.cons_append, List.nil_append, List.append_nil, decide_true, decide_false, Bool.not_true, Bool.not_false, Bool.false_eq_true, if_true, if_false, ↓reduceIte, reduceCtorEq, Nat.reduceAdd, Nat.reduceEqDiff, Nat.reduceBEq, Za3, true_and, and_true, eq_self, List.getElem?_cons_zero, List.getElem?_cons_succ, hl]
    · simp only [get_put_eq, get_put_ne, Env.put_length, Nat.reduceLT, Zaj, Zah, Zaf, Zai, Zad, Zae, Zag, Zc6, Zc7, Zc5, Za0, Za1, Zaz, Zc0, Zc1, Zcz, Zab, Zac, Zaa, Zc4, Zc3, Zb1, Zby, Zb0, Zbz, Zb2, Za5, Za4, Zcx, Zcy, Zcw, Zba,
    Zbk, Zbm, Zbc, Zbo, Zbe, Zbf, Zbi, Zbh, Zbj, Zbg, Zbd, Zbn, Zbl, Zbb, ev_t, ev_c, ev_f, Zbu, Zbt, Zbr, Zbs, Zbp, Zbq, Zct, Zcv, Zcu, Zbx, Zbw, Zco, Zcm, Zcn,
    Zcs, Zcr, Zcq, Zcp, Zal, Zc8, Za8, Za9, Za7, Zbv, Zch, Zce, Zcg, Zcf, Zb8, Zb9, Zci, Zb7, Za2, Za6, Zc2, Zcl, Zcj, Zck,
    Zam, Zay, Zau, Zap, Zav, Zat, Zas, Zar, Zaq, Zaw, Zax, Zan, Zao, Zak, Zca, Zcb, Zcc, Zcd, Zb5, Zb3, Zb4, Zb6, Option.map_some, Option.map_none, List.cons_append, List.nil_append, List.append_nil, decide_true, decide_false, Bool.not_true, Bool.not_false, Bool.false_eq_true, if_true, if_false, ↓reduceIte, reduceCtorEq, Nat.reduceAdd, Nat.reduceEqDiff, Nat.reduceBEq, Za3, true_and, and_true, eq_self, List.getElem?_cons_zero, List.getElem?_cons_succ, hl]
      refine hq1 (by rw [List.drop_of_length_le (by omega)]; rfl) _ ?_
      simp only [get_put_eq, get_put_ne, Env.put_length, Nat.reduceLT, Zaj, Zah, Zaf, Zai, Zad, Zae, Zag, Zc6, Zc7, Zc5, Za0, Za1, Zaz, Zc0, Zc1, Zcz, Zab, Zac, Zaa, Zc4, Zc3, Zb1, Zby, Zb0, Zbz, Zb2, Za5, Za4, Zcx, Zcy, Zcw, Zba,
    Zbk, Zbm, Zbc, Zbo, Zbe, Zbf, Zbi, Zbh, Zbj, Zbg, Zbd, Zbn, Zbl, Zbb, ev_t, ev_c, ev_f, Zbu, Zbt, Zbr, Zbs, Zbp, Zbq, Zct, Zcv, Zcu, Zbx, Zbw, Zco, Zcm, Zcn,
    Zcs, Zcr, Zcq, Zcp, Zal, Zc8, Za8, Za9, Za7, Zbv, Zch, Zce, Zcg, Zcf, Zb8, Zb9, Zci, Zb7, Za2, Za6, Zc2, Zcl, Zcj, Zck,
    Zam, Zay, Zau, Zap, Zav, Zat, Zas, Zar, Zaq, Zaw, Zax, Zan, Zao, Zak, Zca, Zcb, Zcc, Zcd, Zb5, Zb3, Zb4, Zb6, Option.map_some, Option.map_none, List.cons_append, List.nil_append, List.append_nil, decide_true, decide_false, Bool.not_true, Bool.not_false, Bool.false_eq_true, if_true, if_false, ↓reduceIte, reduceCtorEq, Nat.reduceAdd, Nat.reduceEqDiff, Nat.reduceBEq, Za3, true_and, and_true, eq_self, List.getElem?_cons_zero, List.getElem?_cons_succ, hl]

theorem nameIs_W (s : List UInt8) (hs : s.length < 9223372036854775807) : callW C 81 [.str s] st = some (.bool (isName s), st) := by
  rw [← CW_eq, CW_is H.h81 _ (by simp)]
  simp only [List.length_cons, List.length_nil, Nat.zero_add, Nat.reduceAdd, Nat.reduceSub, List.reduceReplicate, List.cons_append, List.nil_append]
  unfold k81b
  cases s with
  | nil => simp [Zaj, Zah, Zaf, Zai, Zad, Zae, Zag, Zc6, Zc7, Zc5, Za0, Za1, Zaz, Zc0, Zc1, Zcz, Zab, Zac, Zaa, Zc4, Zc3, Zb1, Zby, Zb0, Zbz, Zb2, Za5, Za4, Zcx, Zcy, Zcw, Zba,
    Zbk, Zbm, Zbc, Zbo, Zbe, Zbf, Zbi, Zbh, Zbj, Zbg, Zbd, Zbn, Zbl, Zbb, ev_t, ev_c, ev_f, Zbu, Zbt, Zbr, Zbs, Zbp, Zbq, Zct, Zcv, Zcu, Zbx, Zbw, Zco, Zcm, Zcn,
    Zcs, Zcr, Zcq, Zcp, Zal, Zc8, Za8, Za9, Za7, Zbv, Zch, Zce, Zcg, Zcf, Zb8, Zb9, Zci, Zb7, Za2, Za6, Zc2, Zcl, Zcj, Zck,
    Zam, Zay, Zau, Zap, Zav, Zat, Zas, Zar, Zaq, Zaw, Zax, Zan, Zao, Zak, Zca, Zcb, Zcc, Zcd, Zb5, Zb3, Zb4, Zb6, Option.map_some, Option.map_none, List.cons_append, List.nil_append, List.append_nil, decide_true, decide_false, Bool.not_true, Bool.not_false, Bool.false_eq_true, if_true, if_false, ↓reduceIte, reduceCtorEq, Nat.reduceAdd, Nat.reduceEqDiff, Nat.reduceBEq, Za3, true_and, and_true, eq_self, List.getElem?_cons_zero, List.getElem?_cons_succ, isName]
  | cons c l =>
    have h1 : ¬ ((↑(c :: l).length : Int) < 1) := by simp; omega
    have h2 : (12 : Int) < ↑(c :: l).length ↔ 12 < (c :: l).length := by omega
    have hf := letter_W H st c.toNat
    simp only [Zaj, Zah, Zaf, Zai, Zad, Zae, Zag, Zc6, Zc7, Zc5, Za0, Za1, Zaz, Zc0, Zc1, Zcz, Zab, Zac, Zaa, Zc4, Zc3, Zb1, Zby, Zb0, Zbz, Zb2, Za5, Za4, Zcx, Zcy, Zcw, Zba,
    Zbk, Zbm, Zbc, Zbo, Zbe, Zbf, Zbi, Zbh, Zbj, Zbg, Zbd, Zbn, Zbl, Zbb, ev_t, ev_c, ev_f, Zbu, Zbt, Zbr, Zbs, Zbp, Zbq, Zct, Zcv, Zcu, Zbx, Zbw, Zco, Zcm, Zcn,
    Zcs, Zcr, Zcq, Zcp, Zal, Zc8, Za8, Za9, Za7, Zbv, Zch, Zce, Zcg, Zcf, Zb8, Zb9, Zci, Zb7, Za2, Za6, Zc2, Zcl, Zcj, Zck,
    Zam, Zay, Zau, Zap, Zav, Zat, Zas, Zar, Zaq, Zaw, Zax, Zan, Zao, Zak, Zca, Zcb, Zcc, Zcd, Zb5, Zb3, Zb4, Zb6, Option.map_some, Option.map_none, List.cons_append, List.nil_append, List.append_nil, decide_true, decide_false, Bool.not_true, Bool.not_false, Bool.false_eq_true, if_true, if_false, ↓reduceIte, reduceCtorEq, Nat.reduceAdd, Nat.reduceEqDiff, Nat.reduceBEq, Za3, true_and, and_true, eq_self, List.getElem?_cons_zero, List.getElem?_cons_succ, h1, h2]
    rw [guardQ_decf]
    split
    · rename_i h3
      simp only [Zaj, Zah, Zaf, Zai, Zad, Zae, Zag, Zc6, Zc7, Zc5, Za0, Za1, Zaz, Zc0, Zc1, Zcz, Zab, Zac, Zaa, Zc4, Zc3, Zb1, Zby, Zb0, Zbz, Zb2, Za5, Za4, Zcx, Zcy, Zcw, Zba,
    Zbk, Zbm, Zbc, Zbo, Zbe, Zbf, Zbi, Zbh, Zbj, Zbg, Zbd, Zbn, Zbl, Zbb, ev_t, ev_c, ev_f, Zbu, Zbt, Zbr, Zbs, Zbp, Zbq, Zct, Zcv, Zcu, Zbx, Zbw, Zco, Zcm, Zcn,
    Zcs, Zcr, Zcq, Zcp, Zal, Zc8, Za8, Za9, Za7, Zbv, Zch, Zce, Zcg, Zcf, Zb8, Zb9, Zci, Zb7, Za2, Za6, Zc2, Zcl, Zcj, Zck,
    Zam, Zay, Zau, Zap, Zav, Zat, Zas, Zar, Zaq, Zaw, Zax, Zan, Zao, Zak, Zca, Zcb, Zcc, Zcd, Zb5, Zb3, Zb4, Zb6, Option.map_some, Option.map_none, List.cons_append, List.nil_append, List.append_nil, decide_true, decide_false, Bool.not_true, Bool.not_false, Bool.false_eq_true, if_true, if_false, ↓reduceIte, reduceCtorEq, Nat.reduceAdd, Nat.reduceEqDiff, Nat.reduceBEq, Za3, true_and, and_true, eq_self, List.getElem?_cons_zero, List.getElem?_cons_succ, h1, h2, h3, isName, Bool.false_and, decide_false, Nat.not_le.2 h3]
    · rename_i h3
      have h4 : (c :: l).length ≤ 12 := by omega
      cases h5 : isFirst c.toNat <;> rw [h5] at hf
      · simp only [Zaj, Zah, Zaf, Zai, Zad, Zae, Zag, Zc6, Zc7, Zc5, Za0, Za1, Zaz, Zc0, Zc1, Zcz, Zab, Zac, Zaa, Zc4, Zc3, Zb1, Zby, Zb0, Zbz, Zb2, Za5, Za4, Zcx, Zcy, Zcw, Zba,
    Zbk, Zbm, Zbc, Zbo, Zbe, Zbf, Zbi, Zbh, Zbj, Zbg, Zbd, Zbn, Zbl, Zbb, ev_t, ev_c, ev_f, Zbu, Zbt, Zbr, Zbs, Zbp, Zbq, Zct, Zcv, Zcu, Zbx, Zbw, Zco, Zcm, Zcn,
    Zcs, Zcr, Zcq, Zcp, Zal, Zc8, Za8, Za9, Za7, Zbv, Zch, Zce, Zcg, Zcf, Zb8, Zb9, Zci, Zb7, Za2, Za6, Zc2, Zcl, Zcj, Zck,
    Zam, Zay, Zau, Zap, Zav, Zat, Zas, Zar, Zaq, Zaw, Zax, Zan, Zao, Zak, Zca, Zcb, Zcc, Zcd, Zb5, Zb3, Zb4, Zb6, Option.map_some, Option.map_none, List.cons_append, List.nil_append, List.append_nil, decide_true, decide_false, Bool.not_true, Bool.not_false, Bool.false_eq_true, if_true, if_false, ↓reduceIte, reduceCtorEq, Nat.reduceAdd, Nat.reduceEqDiff, Nat.reduceBEq, Za3, true_and, and_true, eq_self, List.getElem?_cons_zero, List.getElem?_cons_succ, h1, h2, h3, hf, isName, h4, h5, Bool.false_and, Bool.and_false]
      · simp only [Zaj, Zah, Zaf, Zai, Zad, Zae, Zag, Zc6, Zc7, Zc5, Za0, Za1, Zaz, Zc0, Zc1, Zcz, Zab, Zac, Zaa, Zc4, Zc3, Zb1, Zby, Zb0, Zbz, Zb2, Za5, Za4, Zcx, Zcy, Zcw, Zba,
    Zbk, Zbm, Zbc, Zbo, Zbe, Zbf, Zbi, Zbh, Zbj, Zbg, Zbd, Zbn, Zbl, Zbb, ev_t, ev_c, ev_f, Zbu, Zbt, Zbr, Zbs, Zbp, Zbq, Zct, Zcv, Zcu, Zbx, Zbw, Zco, Zcm, Zcn,
    Zcs, Zcr, Zcq, Zcp, Zal, Zc8, Za8, Za9, Za7, Zbv, Zch, Zce, Zcg, Zcf, Zb8, Zb9, Zci, Zb7, Za2, Za6, Zc2, Zcl, Zcj, Zck,
    Zam, Zay, Zau, Zap, Zav, Zat, Zas, Zar, Zaq, Zaw, Zax, Zan, Zao, Zak, Zca, Zcb, Zcc, Zcd, Zb5, Zb3, Zb4, Zb6, Option.map_some, Option.map_none, List.cons_append, List.nil_append, List.append_nil, decide_true, decide_false, Bool.not_true, Bool.not_false, Bool.false_eq_true, if_true, if_false, ↓reduceIte, reduceCtorEq, Nat.reduceAdd, Nat.reduceEqDiff, Nat.reduceBEq, Za3, true_and, and_true, eq_self, List.getElem?_cons_zero, List.getElem?_cons_succ, h1, h2, h3, hf, isName, h4, h5, Bool.true_and]
        refine nameIs_loop H st (c :: l) hs _ (c :: l).length 0 _ (by omega) rfl rfl (by simp [Zaj, Zah, Zaf, Zai, Zad, Zae, Zag, Zc6, Zc7, Zc5, Za0, Za1, Zaz, Zc0, Zc1, Zcz, Zab, Zac, Zaa, Zc4, Zc3, Zb1, Zby, Zb0, Zbz, Zb2, Za5, Za4, Zcx, Zcy, Zcw, Zba,
    Zbk, Zbm, Zbc, Zbo, Zbe, Zbf, Zbi, Zbh, Zbj, Zbg, Zbd, Zbn, Zbl, Zbb, ev_t, ev_c, ev_f, Zbu, Zbt, Zbr, Zbs, Zbp, Zbq, Zct, Zcv, Zcu, Zbx, Zbw, Zco, Zcm, Zcn,
    Zcs, Zcr, Zcq, Zcp, Zal, Zc8, Za8, Za9, Za7, Zbv, Zch, Zce, Zcg, Zcf, Zb8, Zb9, Zci, Zb7, Za2, Za6, Zc2, Zcl, Zcj, Zck,
    Zam, Zay, Zau, Zap, Zav, Zat, Zas, Zar, Zaq, Zaw, Zax, Zan, Zao, Zak, Zca, Zcb, Zcc, Zcd, Zb5, Zb3, Zb4, Zb6, Option.map_some, Option.map_none, List.cons_append, List.nil_append, List.append_nil, decide_true, decide_false, Bool.not_true, Bool.not_false, Bool.false_eq_true, if_true, if_false, ↓reduceIte, reduceCtorEq, Nat.reduceAdd, Nat.reduceEqDiff, Nat.reduceBEq, Za3, true_and, and_true, eq_self, List.getElem?_cons_zero, List.getElem?_cons_succ]) rfl ?_ ?_
        · intro ha e he
          simp only [List.drop_zero] at ha
          simp only [get_put_eq, get_put_ne, Env.put_length, Nat.reduceLT, Zaj, Zah, Zaf, Zai, Zad, Zae, Zag, Zc6, Zc7, Zc5, Za0, Za1, Zaz, Zc0, Zc1, Zcz, Zab, Zac, Zaa, Zc4, Zc3, Zb1, Zby, Zb0, Zbz, Zb2, Za5, Za4, Zcx, Zcy, Zcw, Zba,
    Zbk, Zbm, Zbc, Zbo, Zbe, Zbf, Zbi, Zbh, Zbj, Zbg, Zbd, Zbn, Zbl, Zbb, ev_t, ev_c, ev_f, Zbu, Zbt, Zbr, Zbs, Zbp, Zbq, Zct, Zcv, Zcu, Zbx, Zbw, Zco, Zcm, Zcn,
    Zcs, Zcr, Zcq, Zcp, Zal, Zc8, Za8, Za9, Za7, Zbv, Zch, Zce, Zcg, Zcf, Zb8, Zb9, Zci, Zb7, Za2, Za6, Zc2, Zcl, Zcj, Zck,
    Zam, Zay, Zau, Zap, Zav, Zat, Zas, Zar, Zaq, Zaw, Zax, Zan, Zao, Zak, Zca, Zcb, Zcc, Zcd, Zb5, Zb3, Zb4, Zb6, Option.map_some, Option.map_none, List.cons_append, List.nil_append, List.append_nil, decide_true, decide_false, Bool.not_true, Bool.not_false, Bool.false_eq_true, if_true, if_false, ↓reduceIte, reduceCtorEq, Nat.reduceAdd, Nat.reduceEqDiff, Nat.reduceBEq, Za3, true_and, and_true, eq_self, List.getElem?_cons_zero, List.getElem?_cons_succ, he, ha]
        · intro ha e he h2
          simp only [List.drop_zero] at ha
          simp only [get_put_eq, get_put_ne, Env.put_length, Nat.reduceLT, Zaj, Zah, Zaf, Zai, Zad, Zae, Zag, Zc6, Zc7, Zc5, Za0, Za1, Zaz, Zc0, Zc1, Zcz, Zab, Zac, Zaa, Zc4, Zc3, Zb1, Zby, Zb0, Zbz, Zb2, Za5, Za4, Zcx, Zcy, Zcw, Zba,
    Zbk, Zbm, Zbc, Zbo, Zbe, Zbf, Zbi, Zbh, Zbj, Zbg, Zbd, Zbn, Zbl, Zbb, ev_t, ev_c, ev_f, Zbu, Zbt, Zbr, Zbs, Zbp, Zbq, Zct, Zcv, Zcu, Zbx, Zbw, Zco, Zcm, Zcn,
    Zcs, Zcr, Zcq, Zcp, Zal, Zc8, Za8, Za9, Za7, Zbv, Zch, Zce, Zcg, Zcf, Zb8, Zb9, Zci, Zb7, Za2, Za6, Zc2, Zcl, Zcj, Zck,
    Zam, Zay, Zau, Zap, Zav, Zat, Zas, Zar, Zaq, Zaw, Zax, Zan, Zao, Zak, Zca, Zcb, Zcc, Zcd, Zb5, Zb3, Zb4, Zb6, Option.map_some, Option.map_none, List.cons_append, List.nil_append, List.append_nil, decide_true, decide_false, Bool.not_true, Bool.not_false, Bool.false_eq_true, if_true, if_false, ↓reduceIte, reduceCtorEq, Nat.reduceAdd, Nat.reduceEqDiff, Nat.reduceBEq, Za3, true_and, and_true, eq_self, List.getElem?_cons_zero, List.getElem?_cons_succ, he, ha, h2]

theorem index1_W (he : C.fns 113 = some (.ext xIndexByte)) (s : List UInt8) (c : UInt8) : callW C 88 [.str s, .str [c]] st = some (.int .i64 (indexByteA c s 0), st) := by
  have h31 : callW C 103 [.str s, .int .u8 c.toNat] st = some (.int .i64 (indexByteA c s 0), st) := by
    rw [← CW_eq, CW_is H.h103 _ (by simp)]
    simp only [List.length_cons, List.length_nil, Nat.zero_add, Nat.reduceAdd, Nat.reduceSub, List.reduceReplicate, List.cons_append, List.nil_append]
    unfold k103b
    have h44 : callW C 113 [.str s, .int .u8 c.toNat] st = some (.int .i64 (indexByteA c s 0), st) := by
      rw [callW_ext he]
      simp [xIndexByte]
    simp only [Zaj, Zah, Zaf, Zai, Zad, Zae, Zag, Zc6, Zc7, Zc5, Za0, Za1, Zaz, Zc0, Zc1, Zcz, Zab, Zac, Zaa, Zc4, Zc3, Zb1, Zby, Zb0, Zbz, Zb2, Za5, Za4, Zcx, Zcy, Zcw, Zba,
    Zbk, Zbm, Zbc, Zbo, Zbe, Zbf, Zbi, Zbh, Zbj, Zbg, Zbd, Zbn, Zbl, Zbb, ev_t, ev_c, ev_f, Zbu, Zbt, Zbr, Zbs, Zbp, Zbq, Zct, Zcv, Zcu, Zbx, Zbw, Zco, Zcm, Zcn,
    Zcs, Zcr, Zcq, Zcp, Zal, Zc8, Za8, Za9, Za7, Zbv, Zch, Zce, Zcg, Zcf, Zb8, Zb9, Zci, Zb7, Za2, Za6, Zc2, Zcl, Zcj, Zck,
    Zam, Zay, Zau, Zap, Zav, Zat, Zas, Zar, Zaq, Zaw, Zax, Zan, Zao, Zak, Zca, Zcb, Zcc, Zcd, Zb5, Zb3, Zb4, Zb6, Option.map_some, Option.map_none, List.cons_append, List.nil_append, List.append_nil, decide_true, decide_false, Bool.not_true, Bool.not_false, Bool.false_eq_true, if_true, if_false, ↓reduceIte, reduceCtorEq, Nat.reduceAdd, Nat.reduceEqDiff, Nat.reduceBEq, Za3, true_and, and_true, eq_self, List.getElem?_cons_zero, List.getElem?_cons_succ, h44]
  rw [← CW_eq, CW_is H.h88 _ (by simp)]
  simp only [List.length_cons, List.length_nil, Nat.zero_add, Nat.reduceAdd, Nat.reduceSub, List.reduceReplicate, List.cons_append, List.nil_append]
  unfold k88b
  have h0 : ((↑([c] : List UInt8).length : Int) = 0) = False := by simp
  have h1 : ((↑([c] : List UInt8).length : Int) = 1) = True := by simp
  simp only [Zaj, Zah, Zaf, Zai, Zad, Zae, Zag, Zc6, Zc7, Zc5, Za0, Za1, Zaz, Zc0, Zc1, Zcz, Zab, Zac, Zaa, Zc4, Zc3, Zb1, Zby, Zb0, Zbz, Zb2, Za5, Za4, Zcx, Zcy, Zcw, Zba,
    Zbk, Zbm, Zbc, Zbo, Zbe, Zbf, Zbi, Zbh, Zbj, Zbg, Zbd, Zbn, Zbl, Zbb, ev_t, ev_c, ev_f, Zbu, Zbt, Zbr, Zbs, Zbp, Zbq, Zct, Zcv, Zcu, Zbx, Zbw, Zco, Zcm, Zcn,
    Zcs, Zcr, Zcq, Zcp, Zal, Zc8, Za8, Za9, Za7, Zbv, Zch, Zce, Zcg, Zcf, Zb8, Zb9, Zci, Zb7, Za2, Za6, Zc2, Zcl, Zcj, Zck,
    Zam, Zay, Zau, Zap, Zav, Zat, Zas, Zar, Zaq, Zaw, Zax, Zan, Zao, Zak, Zca, Zcb, Zcc, Zcd, Zb5, Zb3, Zb4, Zb6, Option.map_some, Option.map_none, List.cons_append, List.nil_append, List.append_nil, decide_true, decide_false, Bool.not_true, Bool.not_false, Bool.false_eq_true, if_true, if_false, ↓reduceIte, reduceCtorEq, Nat.reduceAdd, Nat.reduceEqDiff, Nat.reduceBEq, Za3, true_and, and_true, eq_self, List.getElem?_cons_zero, List.getElem?_cons_succ, h0, h1, h31]
  repeat' ((first | rw [guardQ_dect] | rw [guardQ_decf] | rw [guardQ_ndect] | rw [guardQ_ndecf] | rw [condQ_dec] | rw [condQ_ndec]); split <;> simp only [Zaj, Zah, Zaf, Zai, Zad, Zae, Zag, Zc6, Zc7, Zc5, Za0, Za1, Zaz, Zc0, Zc1, Zcz, Zab, Zac, Zaa, Zc4, Zc3, Zb1, Zby, Zb0, Zbz, Zb2, Za5, Za4, Zcx, Zcy, Zcw, Zba,
    Zbk, Zbm, Zbc, Zbo, Zbe, Zbf, Zbi, Zbh, Zbj, Zbg, Zbd, Zbn, Zbl, Zbb, ev_t, ev_c, ev_f, Zbu, Zbt, Zbr, Zbs, Zbp, Zbq, Zct, Zcv, Zcu, Zbx, Zbw, Zco, Zcm, Zcn,
    Zcs, Zcr, Zcq, Zcp, Zal, Zc8, Za8, Za9, Za7, Zbv, Zch, Zce, Zcg, Zcf, Zb8, Zb9, Zci, Zb7, Za2, Za6, Zc2, Zcl, Zcj, Zck,
    Zam, Zay, Zau, Zap, Zav, Zat, Zas, Zar, Zaq, Zaw, Zax, Zan, Zao, Zak, Zca, Zcb, Zcc, Zcd, Zb5, Zb3, Zb4, Zb6, Option.map_some, Option.map_none, List.cons_append, List.nil_append, List.append_nil, decide_true, decide_false, Bool.not_true, Bool.not_false, Bool.false_eq_true, if_true, if_false, ↓reduceIte, reduceCtorEq, Nat.reduceAdd, Nat.reduceEqDiff, Nat.reduceBEq, Za3, true_and, and_true, eq_self, List.getElem?_cons_zero, List.getElem?_cons_succ, *])
  rename_i hc
  subst hc
  simp [indexByteA]

/-- What strings.Cut yields at one byte. -/
def cut1 (c : UInt8) (s : List UInt8) : List AV :=
  if c ∈ s then [.str (s.take (findB c s)), .str (s.drop (findB c s + 1)), .bool true] else [.str s, .str [], .bool false]

theorem slcut_W (he : C.fns 113 = some (.ext xIndexByte)) (s : List UInt8) (hs : s.length < 9223372036854775807) (c : UInt8) : callW C 71 [.str s, .str [c]] st = some (.tup (cut1 c s), st) := by
  rw [← CW_eq, CW_is H.h71 _ (by simp)]
  simp only [List.length_cons, List.length_nil, Nat.zero_add, Nat.reduceAdd, Nat.reduceSub, List.reduceReplicate, List.cons_append, List.nil_append]
  unfold k71b
  have hx := index1_W H st he s c
  unfold cut1
  by_cases h : c ∈ s
  · rw [indexA_some s 0 h, Nat.add_zero] at hx
    have hlt := findB_lt s h
    have h1 : (0 : Int) ≤ (findB c s : Int) := by omega
    have hw : IntKind.wrap .i64 ((findB c s : Int) + ↑([c] : List UInt8).length) = ((findB c s + 1 : Nat) : Int) := by
      simp only [List.length_cons, List.length_nil]
      rw [wrap_i64 (by omega) (by omega)]; omega
    have ht : findB c s ≤ s.length := by omega
    have hd : findB c s + 1 ≤ s.length := by omega
    simp only [Zaj, Zah, Zaf, Zai, Zad, Zae, Zag, Zc6, Zc7, Zc5, Za0, Za1, Zaz, Zc0, Zc1, Zcz, Zab, Zac, Zaa, Zc4, Zc3, Zb1, Zby, Zb0, Zbz, Zb2, Za5, Za4, Zcx, Zcy, Zcw, Zba,
    Zbk, Zbm, Zbc, Zbo, Zbe, Zbf, Zbi, Zbh, Zbj, Zbg, Zbd, Zbn, Zbl, Zbb, ev_t, ev_c, ev_f, Zbu, Zbt, Zbr, Zbs, Zbp, Zbq, Zct, Zcv, Zcu, Zbx, Zbw, Zco, Zcm, Zcn,
    Zcs, Zcr, Zcq, Zcp, Zal, Zc8, Za8, Za9, Za7, Zbv, Zch, Zce, Zcg, Zcf, Zb8, Zb9, Zci, Zb7, Za2, Za6, Zc2, Zcl, Zcj, Zck,
    Zam, Zay, Zau, Zap, Zav, Zat, Zas, Zar, Zaq, Zaw, Zax, Zan, Zao, Zak, Zca, Zcb, Zcc, Zcd, Zb5, Zb3, Zb4, Zb6, Option.map_some, Option.map_none, List.cons_append, List.nil_append, List.append_nil, decide_true, decide_false, Bool.not_true, Bool.not_false, Bool.false_eq_true, if_true, if_false, ↓reduceIte, reduceCtorEq, Nat.reduceAdd, Nat.reduceEqDiff, Nat.reduceBEq, Za3, true_and, and_true, eq_self, List.getElem?_cons_zero, List.getElem?_cons_succ, hx, h1, hw, h, aSlice_hi _ _ _ _ ht, aSlice_lo _ _ _ _ hd]
  · rw [indexA_none s 0 h] at hx
    have h1 : ¬ (0 : Int) ≤ -1 := by omega
    simp only [Zaj, Zah, Zaf, Zai, Zad, Zae, Zag, Zc6, Zc7, Zc5, Za0, Za1, Zaz, Zc0, Zc1, Zcz, Zab, Zac, Zaa, Zc4, Zc3, Zb1, Zby, Zb0, Zbz, Zb2, Za5, Za4, Zcx, Zcy, Zcw, Zba,
    Zbk, Zbm, Zbc, Zbo, Zbe, Zbf, Zbi, Zbh, Zbj, Zbg, Zbd, Zbn, Zbl, Zbb, ev_t, ev_c, ev_f, Zbu, Zbt, Zbr, Zbs, Zbp, Zbq, Zct, Zcv, Zcu, Zbx, Zbw, Zco, Zcm, Zcn,
    Zcs, Zcr, Zcq, Zcp, Zal, Zc8, Za8, Za9, Za7, Zbv, Zch, Zce, Zcg, Zcf, Zb8, Zb9, Zci, Zb7, Za2, Za6, Zc2, Zcl, Zcj, Zck,
    Zam, Zay, Zau, Zap, Zav, Zat, Zas, Zar, Zaq, Zaw, Zax, Zan, Zao, Zak, Zca, Zcb, Zcc, Zcd, Zb5, Zb3, Zb4, Zb6, Option.map_some, Option.map_none, List.cons_append, List.nil_append, List.append_nil, decide_true, decide_false, Bool.not_true, Bool.not_false, Bool.false_eq_true, if_true, if_false, ↓reduceIte, reduceCtorEq, Nat.reduceAdd, Nat.reduceEqDiff, Nat.reduceBEq, Za3, true_and, and_true, eq_self, List.getElem?_cons_zero, List.getElem?_cons_succ, hx, h1, h]

theorem cut_W (he : C.fns 113 = some (.ext xIndexByte)) (s : List UInt8) (hs : s.length < 9223372036854775807) (c : UInt8) : callW C 50 [.str s, .str [c]] st = some (.tup (cut1 c s), st) := by
  rw [← CW_eq, CW_is H.h50 _ (by simp)]
  simp only [List.length_cons, List.length_nil, Nat.zero_add, Nat.reduceAdd, Nat.reduceSub, List.reduceReplicate, List.cons_append, List.nil_append]
  unfold k50b
  have hx := slcut_W H st he s hs c
  unfold cut1 at hx ⊢
  by_cases h : c ∈ s <;> simp only [h, if_true, if_false] at hx <;> simp only [Zaj, Zah, Zaf, Zai, Zad, Zae, Zag, Zc6, Zc7, Zc5, Za0, Za1, Zaz, Zc0, Zc1, Zcz, Zab, Zac, Zaa, Zc4, Zc3, Zb1, Zby, Zb0, Zbz, Zb2, Za5, Za4, Zcx, Zcy, Zcw, Zba,
    Zbk, Zbm, Zbc, Zbo, Zbe, Zbf, Zbi, Zbh, Zbj, Zbg, Zbd, Zbn, Zbl, Zbb, ev_t, ev_c, ev_f, Zbu, Zbt, Zbr, Zbs, Zbp, Zbq, Zct, Zcv, Zcu, Zbx, Zbw, Zco, Zcm, Zcn,
    Zcs, Zcr, Zcq, Zcp, Zal, Zc8, Za8, Za9, Za7, Zbv, Zch, Zce, Zcg, Zcf, Zb8, Zb9, Zci, Zb7, Za2, Za6, Zc2, Zcl, Zcj, Zck,
    Zam, Zay, Zau, Zap, Zav, Zat, Zas, Zar, Zaq, Zaw, Zax, Zan, Zao, Zak, Zca, Zcb, Zcc, Zcd, Zb5, Zb3, Zb4, Zb6, Option.map_some, Option.map_none, List.cons_append, List.nil_append, List.append_nil, decide_true, decide_false, Bool.not_true, Bool.not_false, Bool.false_eq_true, if_true, if_false, ↓reduceIte, reduceCtorEq, Nat.reduceAdd, Nat.reduceEqDiff, Nat.reduceBEq, Za3, true_and, and_true, eq_self, List.getElem?_cons_zero, List.getElem?_cons_succ, hx, h]

/-- name.IsQual -/
def isQual (s : List UInt8) : Bool :=
  if (58 : UInt8) ∈ s then isName (s.take (findB 58 s)) && isName (s.drop (findB 58 s + 1)) else isName s

theorem isQual_W (he : C.fns 113 = some (.ext xIndexByte)) (s : List UInt8) (hs : s.length < 9223372036854775807) : callW C 66 [.str s] st = some (.bool (isQual s), st) := by
  rw [← CW_eq, CW_is H.h66 _ (by simp)]
  simp only [List.length_cons, List.length_nil, Nat.zero_add, Nat.reduceAdd, Nat.reduceSub, List.reduceReplicate, List.cons_append, List.nil_append]
  unfold k66b
  have hx := cut_W H st he s hs 58
  unfold cut1 at hx
  unfold isQual
  by_cases h : (58 : UInt8) ∈ s <;> simp only [h, if_true, if_false] at hx
  · have h1 := nameIs_W H st (s.take (findB 58 s)) (by simp; omega)
    have h2 := nameIs_W H st (s.drop (findB 58 s + 1)) (by simp; omega)
    simp only [Zaj, Zah, Zaf, Zai, Zad, Zae, Zag, Zc6, Zc7, Zc5, Za0, Za1, Zaz, Zc0, Zc1, Zcz, Zab, Zac, Zaa, Zc4, Zc3, Zb1, Zby, Zb0, Zbz, Zb2, Za5, Za4, Zcx, Zcy, Zcw, Zba,
    Zbk, Zbm, Zbc, Zbo, Zbe, Zbf, Zbi, Zbh, Zbj, Zbg, Zbd, Zbn, Zbl, Zbb, ev_t, ev_c, ev_f, Zbu, Zbt, Zbr, Zbs, Zbp, Zbq, Zct, Zcv, Zcu, Zbx, Zbw, Zco, Zcm, Zcn,
    Zcs, Zcr, Zcq, Zcp, Zal, Zc8, Za8, Za9, Za7, Zbv, Zch, Zce, Zcg, Zcf, Zb8, Zb9, Zci, Zb7, Za2, Za6, Zc2, Zcl, Zcj, Zck,
    Zam, Zay, Zau, Zap, Zav, Zat, Zas, Zar, Zaq, Zaw, Zax, Zan, Zao, Zak, Zca, Zcb, Zcc, Zcd, Zb5, Zb3, Zb4, Zb6, Option.map_some, Option.map_none, List.cons_append, List.nil_append, List.append_nil, decide_true, decide_false, Bool.not_true, Bool.not_false, Bool.false_eq_true, if_true, if_false, ↓reduceIte, reduceCtorEq, Nat.reduceAdd, Nat.reduceEqDiff, Nat.reduceBEq, Za3, true_and, and_true, eq_self, List.getElem?_cons_zero, List.getElem?_cons_succ, hx, h, h1]
    cases isName (s.take (findB 58 s)) <;> simp only [Zaj, Zah, Zaf, Zai, Zad, Zae, Zag, Zc6, Zc7, Zc5, Za0, Za1, Zaz, Zc0, Zc1, Zcz, Zab, Zac, Zaa, Zc4, Zc3, Zb1, Zby, Zb0, Zbz, Zb2, Za5, Za4, Zcx, Zcy, Zcw, Zba,
    Zbk, Zbm, Zbc, Zbo, Zbe, Zbf, Zbi, Zbh, Zbj, Zbg, Zbd, Zbn, Zbl, Zbb, ev_t, ev_c, ev_f, Zbu, Zbt, Zbr, Zbs, Zbp, Zbq, Zct, Zcv, Zcu, Zbx, Zbw, Zco, Zcm, Zcn,
    Zcs, Zcr, Zcq, Zcp, Zal, Zc8, Za8, Za9, Za7, Zbv, Zch, Zce, Zcg, Zcf, Zb8, Zb9, Zci, Zb7, Za2, Za6, Zc2, Zcl, Zcj, Zck,
    Zam, Zay, Zau, Zap, Zav, Zat, Zas, Zar, Zaq, Zaw, Zax, Zan, Zao, Zak, Zca, Zcb, Zcc, Zcd, Zb5, Zb3, Zb4, Zb6, Option.map_some, Option.map_none, List.cons_append, List.nil_append, List.append_nil, decide_true, decide_false, Bool.not_true, Bool.not_false, Bool.false_eq_true, if_true, if_false, ↓reduceIte, reduceCtorEq, Nat.reduceAdd, Nat.reduceEqDiff, Nat.reduceBEq, Za3, true_and, and_true, eq_self, List.getElem?_cons_zero, List.getElem?_cons_succ, h2, Bool.true_and, Bool.false_and]
  · have h1 := nameIs_W H st s hs
    simp only [Zaj, Zah, Zaf, Zai, Zad, Zae, Zag, Zc6, Zc7, Zc5, Za0, Za1, Zaz, Zc0, Zc1, Zcz, Zab, Zac, Zaa, Zc4, Zc3, Zb1, Zby, Zb0, Zbz, Zb2, Za5, Za4, Zcx, Zcy, Zcw, Zba,
    Zbk, Zbm, Zbc, Zbo, Zbe, Zbf, Zbi, Zbh, Zbj, Zbg, Zbd, Zbn, Zbl, Zbb, ev_t, ev_c, ev_f, Zbu, Zbt, Zbr, Zbs, Zbp, Zbq, Zct, Zcv, Zcu, Zbx, Zbw, Zco, Zcm, Zcn,
    Zcs, Zcr, Zcq, Zcp, Zal, Zc8, Za8, Za9, Za7, Zbv, Zch, Zce, Zcg, Zcf, Zb8, Zb9, Zci, Zb7, Za2, Za6, Zc2, Zcl, Zcj, Zck,
    Zam, Zay, Zau, Zap, Zav, Zat, Zas, Zar, Zaq, Zaw, Zax, Zan, Zao, Zak, Zca, Zcb, Zcc, Zcd, Zb5, Zb3, Zb4, Zb6, Option.map_some, Option.map_none, List.cons_append, List.nil_append, List.append_nil, decide_true, decide_false, Bool.not_true, Bool.not_false, Bool.false_eq_true, if_true, if_false, ↓reduceIte, reduceCtorEq, Nat.reduceAdd, Nat.reduceEqDiff, Nat.reduceBEq, Za3, true_and, and_true, eq_self, List.getElem?_cons_zero, List.getElem?_cons_succ, hx, h, h1]
end

theorem name_58 {a : List UInt8} (h : isName a = true) : (58 : UInt8) ∉ a := by
  intro hm
  cases a with
  | nil => cases hm
  | cons c l =>
    simp only [isName, Bool.and_eq_true, List.all_eq_true] at h
    have := h.2 58 hm
    revert this
    decide

theorem name_len {a : List UInt8} (h : isName a = true) : 1 ≤ a.length ∧ a.length ≤ 12 := by
  cases a with
  | nil => cases h
  | cons c l =>
    simp only [isName, Bool.and_eq_true, decide_eq_true_eq] at h
    exact ⟨by simp, h.1.1⟩

theorem findB_app {c : UInt8} : ∀ (a b : List UInt8), c ∉ a → findB c (a ++ c :: b) = a.length
  | [], b, _ => by simp [findB]
  | x :: a, b, h => by
    have hx : (x != c) = true := by simp at h ⊢; exact fun e => h.1 e.symm
    have ih := findB_app a b (fun h2 => h (List.mem_cons_of_mem _ h2))
    unfold findB at ih ⊢
    rw [List.cons_append, List.takeWhile_cons_of_pos (p := fun x => x != c) hx]
    simp [ih]

theorem qual_app {a b : List UInt8} (ha : (58 : UInt8) ∉ a) : isQual (a ++ 58 :: b) = (isName a && isName b) := by
  unfold isQual
  rw [if_pos (by simp), findB_app a b ha]
  simp

theorem notName_58 {a b : List UInt8} : isName (a ++ 58 :: b) = false := by
  cases h : isName (a ++ 58 :: b) with
  | false => rfl
  | true => exact absurd (name_58 h) (by simp)

end Go.Eng

