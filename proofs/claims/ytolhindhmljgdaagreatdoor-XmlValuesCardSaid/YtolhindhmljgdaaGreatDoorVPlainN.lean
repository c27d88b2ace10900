/-
  Texts of a proof. Conditions: none.
-/
import Derived.Test.YtolhindhmljgdaaGreatDoorVPlainM
set_option linter.unusedVariables false
set_option linter.unusedSimpArgs false
set_option linter.unnecessarySimpa false
set_option linter.unusedSectionVars false
namespace Go.Eng
open Go
open Go.Eng renaming WO_guard → Zaa, WO_nil → Zab, WO_op → Zac, W_block → Zad, W_cond → Zae, W_exit → Zaf, W_reg → Zag, W_ret → Zah, W_seq → Zai, W_skip → Zaj, aIndexAddr_sl → Zak, agg_all → Zal, agg_one → Zam, binE_some → Zan, bin_add → Zao, bin_beq → Zap, bin_bne → Zaq, bin_eql → Zar, bin_geq → Zas, bin_gtr → Zat, bin_leq → Zau, bin_lss → Zav, bin_mul → Zaw, bin_neq → Zax, bin_seq → Zay, bin_sne → Zaz, bin_sub → Za0, blockQ_exit → Za1, blockQ_norm → Za2, blockQ_ret → Za3, callE_f → Za4, cast0 → Za5, condQ_false → Za6, condQ_true → Za7, consO_some → Za8, consP_some → Za9, convE_bytes → Zba, convE_int → Zbb, convE_same → Zbc, cut_four → Zbd, cut_one → Zbe, endQ_some → Zbf, evOp_alloc → Zbg, evOp_append → Zbh, evOp_bin → Zbi, evOp_box → Zbj, evOp_bslice → Zbk, evOp_build → Zbl, evOp_callE → Zbm, evOp_conv → Zbn, evOp_ext → Zbo, evOp_faddr → Zbp, evOp_iaddr → Zbq, evOp_ixs → Zbr, evOp_len → Zbs, evOp_load → Zbt, evOp_mkfn → Zbu, evOp_mv → Zbv, evOp_next → Zbw, evOp_nilchk → Zbx, evOp_pick → Zby, evOp_range → Zbz, evOp_slice → Zb0, evOp_store → Zb1, evOp_un → Zb2, evParts_cons → Zb3, evParts_nil → Zb4, evRes_cell → Zb5, evRes_nil → Zb6, evRes_tmp → Zb7, evo_none → Zb8, evo_some → Zb9, evs_cons → Zca, evs_nil → Zcb, extE_tup → Zcc, faddrE_ptr → Zcd, fillA_nil → Zce, fillA_one → Zcf, get_new0 → Zcg, get_new1 → Zch, get_new2 → Zci, get_new3 → Zcj, get_new4 → Zck, get_succ → Zcl, get_zero → Zcm, guardQ_ff → Zcn, guardQ_ft → Zco, guardQ_tf → Zcp, guardQ_tt → Zcq, guardQ_undef → Zcr, hi_bool → Zcs, hi_int → Zct, hi_nilp → Zcu, hi_nils → Zcv, hi_sl → Zcw, hi_str → Zcx, his_bool → Zcy, his_int → Zcz, his_nil → Zc0, his_str → Zc1, iaddrE_some → Zc2, isCell_bool → Zc3, isCell_fn → Zc4, isCell_int → Zc5, isCell_nilp → Zc6, isCell_nils → Zc7, isCell_ptr → Zc8, isCell_sl → Zc9, isCell_slc → Zda, isCell_str → Zdb, ixsE_str → Zdc, ixsE_zero → Zdd, leave0 → Zde, leave_bool → Zdf, leave_int → Zdg, leave_nil → Zdh, leave_set0 → Zdi, leave_setb → Zdj, leave_setn → Zdk, leave_sets → Zdl, leave_str → Zdm, leave_tup → Zdn, lenE_nils → Zdo, lenE_sl → Zdp, lenE_slc → Zdq, lenE_str → Zdr, loadE_one → Zds, loadE_ptr → Zdt, mkfnE_some → Zdu, nextE_ptr → Zdv, nilE_cptr → Zdw, nilE_fn → Zdx, nilE_ptr → Zdy, oneOf_more → Zdz, oneOf_nil → Zd0, oneOf_one → Zd1, partsE_some → Zd2, pickE_false → Zd3, pickE_true → Zd4, prE_none → Zd5, prE_some → Zd6, put_none → Zd7, put_succ → Zd8, put_zero → Zd9, rangeE_str → Zea, rdE_cells → Zeb, rep_one → Zec, retQ_exit → Zed, retQ_norm → Zee, retQ_ret → Zef, roundQ_exit → Zeg, roundQ_norm → Zeh, roundQ_ret → Zei, set_new0 → Zej, set_new1 → Zek, set_new2 → Zel, set_new3 → Zem, sliceE_some → Zen, stepQ_none → Zeo, stepQ_some → Zep, storeE_ptr → Zeq, thenK_exit → Zer, thenK_norm → Zes, thenK_ret → Zet, unE_not → Zeu, wrE_agg4 → Zev, wrE_one → Zew
set_option maxHeartbeats 1000000
set_option maxRecDepth 4000
set_option linter.unusedSimpArgs false
set_option linter.unusedVariables false
set_option linter.unusedSectionVars false

theorem runesN_len : ∀ (k : Nat) (t : List UInt8), (runesN k t).length ≤ k
  | 0, t => Nat.le_refl _
  | k + 1, t => by
    unfold runesN
    split
    · simp
    · have := runesN_len k (t.drop (Lib.decodeL t).2)
      simp; omega
/-- More fuel changes nothing. -/
theorem runesN_more : ∀ (k j : Nat) (t : List UInt8), t.length ≤ k → t.length ≤ j → runesN k t = runesN j t
  | 0, 0, t, _, _ => rfl
  | 0, j + 1, t, h, _ => by
    have : t = [] := List.length_eq_zero_iff.1 (by omega)
    subst this; simp [runesN]
  | k + 1, 0, t, _, h => by
    have : t = [] := List.length_eq_zero_iff.1 (by omega)
    subst this; simp [runesN]
  | k + 1, j + 1, t, hk, hj => by
    unfold runesN
    split
    · rfl
    · rename_i hn
      have hw := Lib.decodeL_width t
      have hp := List.length_pos_iff.2 hn
      rw [runesN_more k j _ (by simp; omega) (by simp; omega)]

/-- replaceAll at one byte. -/
def rep (c : UInt8) (n : List UInt8) (s : List UInt8) : List UInt8 := s.flatMap fun b => if b = c then n else [b]
theorem rep_none {c : UInt8} {n : List UInt8} : ∀ {s : List UInt8}, s.count c = 0 → rep c n s = s
  | [], _ => rfl
  | b :: l, h => by
    by_cases hb : b = c
    · subst hb; simp at h
    · have h2 : l.count c = 0 := by rw [List.count_cons_of_ne hb] at h; exact h
      have ih := rep_none (c := c) (n := n) h2
      unfold rep at ih ⊢
      simp [List.flatMap_cons, hb, ih]
theorem index_cons (b c : UInt8) (l : List UInt8) : Lib.index (b :: l) [c] = if b = c then 0 else if Lib.index l [c] == -1 then -1 else Lib.index l [c] + 1 := by
  show (if [c].isPrefixOf (b :: l) then (0 : Int) else _) = _
  by_cases h : b = c
  · subst h; simp [List.isPrefixOf]
  · have : ([c].isPrefixOf (b :: l)) = false := by
      simp [List.isPrefixOf]; exact fun e => h e.symm
    simp only [this, Bool.false_eq_true, if_false, h]
theorem replaceK_one (c : UInt8) (n : List UInt8) : ∀ s : List UInt8, Lib.replaceK [c] n (s.count c) s = rep c n s
  | [] => rfl
  | b :: l => by
    have ih := replaceK_one c n l
    by_cases hb : b = c
    · subst hb
      have hi : Lib.index (b :: l) [b] = ((0 : Nat) : Int) := by rw [index_cons]; simp
      rw [List.count_cons_self, Lib.replaceK_hit _ _ _ _ 0 hi]
      simp only [List.take_zero, List.nil_append, List.length_cons, List.length_nil, Nat.zero_add, List.drop_succ_cons, List.drop_zero, ih]
      simp [rep, List.flatMap_cons]
    · rw [List.count_cons_of_ne hb]
      have hr : rep c n (b :: l) = b :: rep c n l := by simp [rep, List.flatMap_cons, hb]
      rw [hr, ← ih]
      cases hk : l.count c with
      | zero => rfl
      | succ k =>
        have h0 : 0 < Lib.count l [c] := by rw [Lib.count_one]; omega
        obtain ⟨i, hi⟩ := Lib.index_of_count h0
        have hi2 : Lib.index (b :: l) [c] = ((i + 1 : Nat) : Int) := by
          rw [index_cons, if_neg hb, hi, if_neg (by simp)]; omega
        rw [Lib.replaceK_hit _ _ _ _ _ hi2, Lib.replaceK_hit _ _ _ _ _ hi]
        have e : i + 1 + [c].length = (i + [c].length) + 1 := by simp
        rw [e, List.drop_succ_cons]
        simp [List.take_succ_cons]
theorem replaceAll_one (s n : List UInt8) (c : UInt8) (hn : ([c] == n) = false) : Lib.replaceAll s [c] n = rep c n s := by
  unfold Lib.replaceAll Lib.replace Lib.replaceNum
  rw [hn, if_neg (by simp), if_pos (by left; omega), Lib.count_one]
  exact replaceK_one c n s

/-- A byte as it is written in a value. -/
def escB (b : UInt8) : List UInt8 :=
  if b = 38 then [38, 97, 109, 112, 59] else if b = 60 then [38, 108, 116, 59] else if b = 62 then [38, 103, 116, 59] else if b = 34 then [38, 113, 117, 111, 116, 59]
  else if b = 9 then [38, 35, 57, 59] else if b = 10 then [38, 35, 49, 48, 59] else if b = 13 then [38, 35, 49, 51, 59] else [b]
def esc (s : List UInt8) : List UInt8 := s.flatMap escB

theorem rep_flat (c : UInt8) (n : List UInt8) (f : UInt8 → List UInt8) (s : List UInt8) : rep c n (s.flatMap f) = s.flatMap fun b => rep c n (f b) := by
  unfold rep; rw [List.flatMap_assoc]
theorem esc_reps (s : List UInt8) : rep 13 [38, 35, 49, 51, 59] (rep 10 [38, 35, 49, 48, 59] (rep 9 [38, 35, 57, 59] (rep 34 [38, 113, 117, 111, 116, 59] (rep 62 [38, 103, 116, 59] (rep 60 [38, 108, 116, 59] (rep 38 [38, 97, 109, 112, 59] s)))))) = esc s := by
  have e : rep 38 [38, 97, 109, 112, 59] s = s.flatMap fun b => if b = 38 then [38, 97, 109, 112, 59] else [b] := rfl
  rw [e]
  simp only [rep_flat]
  unfold esc
  congr 1
  funext b
  unfold escB
  by_cases h1 : b = 38
  · subst h1; rfl
  by_cases h2 : b = 60
  · subst h2; rfl
  by_cases h3 : b = 62
  · subst h3; rfl
  by_cases h4 : b = 34
  · subst h4; rfl
  by_cases h5 : b = 9
  · subst h5; rfl
  by_cases h6 : b = 10
  · subst h6; rfl
  by_cases h7 : b = 13
  · subst h7; rfl
  simp [rep, h1, h2, h3, h4, h5, h6, h7]
theorem rep_len (c : UInt8) (n : List UInt8) (m : Nat) (hn : n.length ≤ m) (h1 : 1 ≤ m) : ∀ s : List UInt8, (rep c n s).length ≤ m * s.length
  | [] => by simp [rep]
  | b :: l => by
    have ih := rep_len c n m hn h1 l
    have : rep c n (b :: l) = (if b = c then n else [b]) ++ rep c n l := rfl
    rw [this, List.length_append, List.length_cons, Nat.mul_add, Nat.mul_one]
    split
    · omega
    · simp only [List.length_cons, List.length_nil]; omega

section
variable {C : Ctx} (H : Codes C) (h35 : C.fns 35 = some (.ext xValid)) (h42 : C.fns 42 = some (.ext xReplace)) (st : St)
include H

theorem refSigns_W (h35 : C.fns 35 = some (.ext xValid)) (s : List UInt8) (hs : s.length ≤ 9223372036854775807) : callW C 19 [.str s] st = some (.bool (signs s), st) := by
  rw [← CW_eq, CW_is H.h19 _ (by simp)]
  simp only [List.length_cons, List.length_nil, Nat.zero_add, Nat.reduceAdd, Nat.reduceSub, List.reduceReplicate, List.cons_append, List.nil_append]
  unfold k19b
  have hv : callW C 35 [.str s] st = some (.bool (Lib.validD s), st) := by
    rw [callW_ext h35]; simp [xValid, hs]
  unfold signs
  cases h : Lib.validD s <;> rw [h] at hv
  · simp only [Zde, Zdj, Zdk, Zdl, Zdi, Zdh, Zbp, Zb1, Zbj, Zbu, Zbl, Zbz, Zbw, Zb4, Zb3, Zb5, Zdt, Zeb, Zbe, Zbd, Zam, Zal, Zcd, Zeq, Zew, Zev, Zdu, Zd2, Za9, Zce, Zcf, Zea, Zdv, Zcg, Zch, Zci, Zcj, Zck, Zem, Zbk, Zbh, Zec, Zej, Zek, Zel, Zc5, Zdb, Zc3, Zc8, Zc7, Zc6, Zc9, Zda, Zc4, Zct, Zcx, Zcs, Zcv, Zcu, Zcw, Option.bind_some, Option.bind_none, List.set_cons_zero, List.set_cons_succ, List.set_set, List.length_set, List.length_append, List.length_cons, List.length_nil, List.append_assoc, List.singleton_append, Nat.zero_add, Nat.add_zero, Nat.reduceLT, Nat.reduceAdd, Zaj, Zah, Zaf, Zai, Zad, Zae, Zag, Zes, Zet, Zer, Za2, Za3, Za1, Zeh, Zei, Zeg, Zab, Zac, Zaa, Zep, Zeo, Zcq, Zcn, Zcp, Zco, Zcr, Za7, Za6, Zee, Zef, Zed, Zbf,
    Zbv, Zby, Zbi, Zb2, Zbn, Zbo, Zbs, Zbr, Zbt, Zbq, Zbm, Zb0, Zbx, Zbg, ev_t, ev_c, ev_f, Zcb, Zca, Zb8, Zb9, Zb6, Zb7, Zd7, Zd9, Zd8, Zcm, Zcl, Zd1, Zdz, Zd0,
    Zd6, Zd5, Zd4, Zd3, Zan, Zeu, Zbb, Zbc, Zba, Zcc, Zdr, Zdo, Zdq, Zdp, Zdc, Zdd, Zds, Zc2, Za4, Za8, Zen, Zdy, Zdw, Zdx,
    Zao, Za0, Zaw, Zar, Zax, Zav, Zau, Zat, Zas, Zay, Zaz, Zap, Zaq, Zak, Zdf, Zdg, Zdm, Zdn, Zc0, Zcy, Zcz, Zc1, Option.map_some, Option.map_none, List.cons_append, List.nil_append, List.append_nil, decide_true, decide_false, Bool.not_true, Bool.not_false, Bool.false_eq_true, if_true, if_false, ↓reduceIte, reduceCtorEq, Nat.reduceAdd, Nat.reduceEqDiff, Nat.reduceBEq, Za5, true_and, and_true, eq_self, List.getElem?_cons_zero, List.getElem?_cons_succ, hv, Bool.false_and]
  · simp only [Zde, Zdj, Zdk, Zdl, Zdi, Zdh, Zbp, Zb1, Zbj, Zbu, Zbl, Zbz, Zbw, Zb4, Zb3, Zb5, Zdt, Zeb, Zbe, Zbd, Zam, Zal, Zcd, Zeq, Zew, Zev, Zdu, Zd2, Za9, Zce, Zcf, Zea, Zdv, Zcg, Zch, Zci, Zcj, Zck, Zem, Zbk, Zbh, Zec, Zej, Zek, Zel, Zc5, Zdb, Zc3, Zc8, Zc7, Zc6, Zc9, Zda, Zc4, Zct, Zcx, Zcs, Zcv, Zcu, Zcw, Option.bind_some, Option.bind_none, List.set_cons_zero, List.set_cons_succ, List.set_set, List.length_set, List.length_append, List.length_cons, List.length_nil, List.append_assoc, List.singleton_append, Nat.zero_add, Nat.add_zero, Nat.reduceLT, Nat.reduceAdd, Zaj, Zah, Zaf, Zai, Zad, Zae, Zag, Zes, Zet, Zer, Za2, Za3, Za1, Zeh, Zei, Zeg, Zab, Zac, Zaa, Zep, Zeo, Zcq, Zcn, Zcp, Zco, Zcr, Za7, Za6, Zee, Zef, Zed, Zbf,
    Zbv, Zby, Zbi, Zb2, Zbn, Zbo, Zbs, Zbr, Zbt, Zbq, Zbm, Zb0, Zbx, Zbg, ev_t, ev_c, ev_f, Zcb, Zca, Zb8, Zb9, Zb6, Zb7, Zd7, Zd9, Zd8, Zcm, Zcl, Zd1, Zdz, Zd0,
    Zd6, Zd5, Zd4, Zd3, Zan, Zeu, Zbb, Zbc, Zba, Zcc, Zdr, Zdo, Zdq, Zdp, Zdc, Zdd, Zds, Zc2, Za4, Za8, Zen, Zdy, Zdw, Zdx,
    Zao, Za0, Zaw, Zar, Zax, Zav, Zau, Zat, Zas, Zay, Zaz, Zap, Zaq, Zak, Zdf, Zdg, Zdm, Zdn, Zc0, Zcy, Zcz, Zc1, Option.map_some, Option.map_none, List.cons_append, List.nil_append, List.append_nil, decide_true, decide_false, Bool.not_true, Bool.not_false, Bool.false_eq_true, if_true, if_false, ↓reduceIte, reduceCtorEq, Nat.reduceAdd, Nat.reduceEqDiff, Nat.reduceBEq, Za5, true_and, and_true, eq_self, List.getElem?_cons_zero, List.getElem?_cons_succ, hv, Bool.true_and, convE_runes, runesFromA_eq, List.drop_zero, List.map_map]
    refine signs_loop H st (runesN s.length s) (by have := runesN_len s.length s; omega) _ _ 0 _ (Nat.zero_add _) rfl ?_ rfl ?_ ?_
    · simp only [get_put_eq, get_put_ne, Env.put_length, Nat.reduceLT, Zaj, Zah, Zaf, Zai, Zad, Zae, Zag, Zes, Zet, Zer, Za2, Za3, Za1, Zeh, Zei, Zeg, Zab, Zac, Zaa, Zep, Zeo, Zcq, Zcn, Zcp, Zco, Zcr, Za7, Za6, Zee, Zef, Zed, Zbf,
    Zbv, Zby, Zbi, Zb2, Zbn, Zbo, Zbs, Zbr, Zbt, Zbq, Zbm, Zb0, Zbx, Zbg, ev_t, ev_c, ev_f, Zcb, Zca, Zb8, Zb9, Zb6, Zb7, Zd7, Zd9, Zd8, Zcm, Zcl, Zd1, Zdz, Zd0,
    Zd6, Zd5, Zd4, Zd3, Zan, Zeu, Zbb, Zbc, Zba, Zcc, Zdr, Zdo, Zdq, Zdp, Zdc, Zdd, Zds, Zc2, Za4, Za8, Zen, Zdy, Zdw, Zdx,
    Zao, Za0, Zaw, Zar, Zax, Zav, Zau, Zat, Zas, Zay, Zaz, Zap, Zaq, Zak, Zdf, Zdg, Zdm, Zdn, Zc0, Zcy, Zcz, Zc1, Option.map_some, Option.map_none, List.cons_append, List.nil_append, List.append_nil, decide_true, decide_false, Bool.not_true, Bool.not_false, Bool.false_eq_true, if_true, if_false, ↓reduceIte, reduceCtorEq, Nat.reduceAdd, Nat.reduceEqDiff, Nat.reduceBEq, Za5, true_and, and_true, eq_self, List.getElem?_cons_zero, List.getElem?_cons_succ]; rfl
    · intro ha e he
      rw [List.drop_zero] at ha
      simp only [Zde, Zdj, Zdk, Zdl, Zdi, Zdh, Zbp, Zb1, Zbj, Zbu, Zbl, Zbz, Zbw, Zb4, Zb3, Zb5, Zdt, Zeb, Zbe, Zbd, Zam, Zal, Zcd, Zeq, Zew, Zev, Zdu, Zd2, Za9, Zce, Zcf, Zea, Zdv, Zcg, Zch, Zci, Zcj, Zck, Zem, Zbk, Zbh, Zec, Zej, Zek, Zel, Zc5, Zdb, Zc3, Zc8, Zc7, Zc6, Zc9, Zda, Zc4, Zct, Zcx, Zcs, Zcv, Zcu, Zcw, Option.bind_some, Option.bind_none, List.set_cons_zero, List.set_cons_succ, List.set_set, List.length_set, List.length_append, List.length_cons, List.length_nil, List.append_assoc, List.singleton_append, Nat.zero_add, Nat.add_zero, Nat.reduceLT, Nat.reduceAdd, Zaj, Zah, Zaf, Zai, Zad, Zae, Zag, Zes, Zet, Zer, Za2, Za3, Za1, Zeh, Zei, Zeg, Zab, Zac, Zaa, Zep, Zeo, Zcq, Zcn, Zcp, Zco, Zcr, Za7, Za6, Zee, Zef, Zed, Zbf,
    Zbv, Zby, Zbi, Zb2, Zbn, Zbo, Zbs, Zbr, Zbt, Zbq, Zbm, Zb0, Zbx, Zbg, ev_t, ev_c, ev_f, Zcb, Zca, Zb8, Zb9, Zb6, Zb7, Zd7, Zd9, Zd8, Zcm, Zcl, Zd1, Zdz, Zd0,
    Zd6, Zd5, Zd4, Zd3, Zan, Zeu, Zbb, Zbc, Zba, Zcc, Zdr, Zdo, Zdq, Zdp, Zdc, Zdd, Zds, Zc2, Za4, Za8, Zen, Zdy, Zdw, Zdx,
    Zao, Za0, Zaw, Zar, Zax, Zav, Zau, Zat, Zas, Zay, Zaz, Zap, Zaq, Zak, Zdf, Zdg, Zdm, Zdn, Zc0, Zcy, Zcz, Zc1, Option.map_some, Option.map_none, List.cons_append, List.nil_append, List.append_nil, decide_true, decide_false, Bool.not_true, Bool.not_false, Bool.false_eq_true, if_true, if_false, ↓reduceIte, reduceCtorEq, Nat.reduceAdd, Nat.reduceEqDiff, Nat.reduceBEq, Za5, true_and, and_true, eq_self, List.getElem?_cons_zero, List.getElem?_cons_succ, get_put_eq, get_put_ne, Env.put_length, Nat.reduceLT, Zaj, Zah, Zaf, Zai, Zad, Zae, Zag, Zes, Zet, Zer, Za2, Za3, Za1, Zeh, Zei, Zeg, Zab, Zac, Zaa, Zep, Zeo, Zcq, Zcn, Zcp, Zco, Zcr, Za7, Za6, Zee, Zef, Zed, Zbf,
    Zbv, Zby, Zbi, Zb2, Zbn, Zbo, Zbs, Zbr, Zbt, Zbq, Zbm, Zb0, Zbx, Zbg, ev_t, ev_c, ev_f, Zcb, Zca, Zb8, Zb9, Zb6, Zb7, Zd7, Zd9, Zd8, Zcm, Zcl, Zd1, Zdz, Zd0,
    Zd6, Zd5, Zd4, Zd3, Zan, Zeu, Zbb, Zbc, Zba, Zcc, Zdr, Zdo, Zdq, Zdp, Zdc, Zdd, Zds, Zc2, Za4, Za8, Zen, Zdy, Zdw, Zdx,
    Zao, Za0, Zaw, Zar, Zax, Zav, Zau, Zat, Zas, Zay, Zaz, Zap, Zaq, Zak, Zdf, Zdg, Zdm, Zdn, Zc0, Zcy, Zcz, Zc1, Option.map_some, Option.map_none, List.cons_append, List.nil_append, List.append_nil, decide_true, decide_false, Bool.not_true, Bool.not_false, Bool.false_eq_true, if_true, if_false, ↓reduceIte, reduceCtorEq, Nat.reduceAdd, Nat.reduceEqDiff, Nat.reduceBEq, Za5, true_and, and_true, eq_self, List.getElem?_cons_zero, List.getElem?_cons_succ, he, ha]
    · intro ha e he h2
      rw [List.drop_zero] at ha
      simp only [Zde, Zdj, Zdk, Zdl, Zdi, Zdh, Zbp, Zb1, Zbj, Zbu, Zbl, Zbz, Zbw, Zb4, Zb3, Zb5, Zdt, Zeb, Zbe, Zbd, Zam, Zal, Zcd, Zeq, Zew, Zev, Zdu, Zd2, Za9, Zce, Zcf, Zea, Zdv, Zcg, Zch, Zci, Zcj, Zck, Zem, Zbk, Zbh, Zec, Zej, Zek, Zel, Zc5, Zdb, Zc3, Zc8, Zc7, Zc6, Zc9, Zda, Zc4, Zct, Zcx, Zcs, Zcv, Zcu, Zcw, Option.bind_some, Option.bind_none, List.set_cons_zero, List.set_cons_succ, List.set_set, List.length_set, List.length_append, List.length_cons, List.length_nil, List.append_assoc, List.singleton_append, Nat.zero_add, Nat.add_zero, Nat.reduceLT, Nat.reduceAdd, Zaj, Zah, Zaf, Zai, Zad, Zae, Zag, Zes, Zet, Zer, Za2, Za3, Za1, Zeh, Zei, Zeg, Zab, Zac, Zaa, Zep, Zeo, Zcq, Zcn, Zcp, Zco, Zcr, Za7, Za6, Zee, Zef, Zed, Zbf,
    Zbv, Zby, Zbi, Zb2, Zbn, Zbo, Zbs, Zbr, Zbt, Zbq, Zbm, Zb0, Zbx, Zbg, ev_t, ev_c, ev_f, Zcb, Zca, Zb8, Zb9, Zb6, Zb7, Zd7, Zd9, Zd8, Zcm, Zcl, Zd1, Zdz, Zd0,
    Zd6, Zd5, Zd4, Zd3, Zan, Zeu, Zbb, Zbc, Zba, Zcc, Zdr, Zdo, Zdq, Zdp, Zdc, Zdd, Zds, Zc2, Za4, Za8, Zen, Zdy, Zdw, Zdx,
    Zao, Za0, Zaw, Zar, Zax, Zav, Zau, Zat, Zas, Zay, Zaz, Zap, Zaq, Zak, Zdf, Zdg, Zdm, Zdn, Zc0, Zcy, Zcz, Zc1, Option.map_some, Option.map_none, List.cons_append, List.nil_append, List.append_nil, decide_true, decide_false, Bool.not_true, Bool.not_false, Bool.false_eq_true, if_true, if_false, ↓reduceIte, reduceCtorEq, Nat.reduceAdd, Nat.reduceEqDiff, Nat.reduceBEq, Za5, true_and, and_true, eq_self, List.getElem?_cons_zero, List.getElem?_cons_succ, get_put_eq, get_put_ne, Env.put_length, Nat.reduceLT, Zaj, Zah, Zaf, Zai, Zad, Zae, Zag, Zes, Zet, Zer, Za2, Za3, Za1, Zeh, Zei, Zeg, Zab, Zac, Zaa, Zep, Zeo, Zcq, Zcn, Zcp, Zco, Zcr, Za7, Za6, Zee, Zef, Zed, Zbf,
    Zbv, Zby, Zbi, Zb2, Zbn, Zbo, Zbs, Zbr, Zbt, Zbq, Zbm, Zb0, Zbx, Zbg, ev_t, ev_c, ev_f, Zcb, Zca, Zb8, Zb9, Zb6, Zb7, Zd7, Zd9, Zd8, Zcm, Zcl, Zd1, Zdz, Zd0,
    Zd6, Zd5, Zd4, Zd3, Zan, Zeu, Zbb, Zbc, Zba, Zcc, Zdr, Zdo, Zdq, Zdp, Zdc, Zdd, Zds, Zc2, Za4, Za8, Zen, Zdy, Zdw, Zdx,
    Zao, Za0, Zaw, Zar, Zax, Zav, Zau, Zat, Zas, Zay, Zaz, Zap, Zaq, Zak, Zdf, Zdg, Zdm, Zdn, Zc0, Zcy, Zcz, Zc1, Option.map_some, Option.map_none, List.cons_append, List.nil_append, List.append_nil, decide_true, decide_false, Bool.not_true, Bool.not_false, Bool.false_eq_true, if_true, if_false, ↓reduceIte, reduceCtorEq, Nat.reduceAdd, Nat.reduceEqDiff, Nat.reduceBEq, Za5, true_and, and_true, eq_self, List.getElem?_cons_zero, List.getElem?_cons_succ, he, ha, h2]

theorem find_loop (s : List UInt8) (hs : s.length ≤ 9223372036854775807) (Q : Ex → Env → St → Prop) : ∀ (d i : Nat) (env : Env), (s.drop i).length ≤ d → env.length = 21 → env.get 0 = .str s → env.get 1 = .fn (.func 90) [] [] → env.get 2 = .bool true → env.get 10 = .ptr st.length 0 0 →
    (((runesN d (s.drop i)).all fun n => isChar n) = true → ∀ (e : Env) (p : Nat), e.length = 21 → Q (.exit 0) e (st ++ [.siter s p])) →
    (((runesN d (s.drop i)).all fun n => isChar n) = false → ∀ (e : Env) (p j : Nat), e.length = 21 → e.get 6 = .int .i64 (j : Nat) → Q .ret e (st ++ [.siter s p])) → W C k80l0 env (st ++ [.siter s i]) Q
  | d, i, env, hd, hl, h0, h1, h2, h10, hq1, hq2 => by
    rw [W_loop' (show k80l0 = .loop k80l0b from rfl)]
    unfold k80l0b
    by_cases hlt : i < s.length
    · have hn : ¬ s.drop i = [] := by
        intro e; have := congrArg List.length e; simp at this; omega
      obtain ⟨d, rfl⟩ : ∃ k, d = k + 1 := ⟨d - 1, by simp at hd; omega⟩
      have hw := Lib.decodeL_width (s.drop i)
      have hr : runesN (d + 1) (s.drop i) = (Lib.decodeL (s.drop i)).1 :: runesN d (s.drop (i + (Lib.decodeL (s.drop i)).2)) := by
        rw [runesN, if_neg hn, List.drop_drop]
      rw [hr, List.all_cons] at hq1 hq2
      cases hc : isChar (Lib.decodeL (s.drop i)).1 <;> rw [hc] at hq1 hq2
      · simp only [Zde, Zdj, Zdk, Zdl, Zdi, Zdh, Zbp, Zb1, Zbj, Zbu, Zbl, Zbz, Zbw, Zb4, Zb3, Zb5, Zdt, Zeb, Zbe, Zbd, Zam, Zal, Zcd, Zeq, Zew, Zev, Zdu, Zd2, Za9, Zce, Zcf, Zea, Zdv, Zcg, Zch, Zci, Zcj, Zck, Zem, Zbk, Zbh, Zec, Zej, Zek, Zel, Zc5, Zdb, Zc3, Zc8, Zc7, Zc6, Zc9, Zda, Zc4, Zct, Zcx, Zcs, Zcv, Zcu, Zcw, Option.bind_some, Option.bind_none, List.set_cons_zero, List.set_cons_succ, List.set_set, List.length_set, List.length_append, List.length_cons, List.length_nil, List.append_assoc, List.singleton_append, Nat.zero_add, Nat.add_zero, Nat.reduceLT, Nat.reduceAdd, Zaj, Zah, Zaf, Zai, Zad, Zae, Zag, Zes, Zet, Zer, Za2, Za3, Za1, Zeh, Zei, Zeg, Zab, Zac, Zaa, Zep, Zeo, Zcq, Zcn, Zcp, Zco, Zcr, Za7, Za6, Zee, Zef, Zed, Zbf,
    Zbv, Zby, Zbi, Zb2, Zbn, Zbo, Zbs, Zbr, Zbt, Zbq, Zbm, Zb0, Zbx, Zbg, ev_t, ev_c, ev_f, Zcb, Zca, Zb8, Zb9, Zb6, Zb7, Zd7, Zd9, Zd8, Zcm, Zcl, Zd1, Zdz, Zd0,
    Zd6, Zd5, Zd4, Zd3, Zan, Zeu, Zbb, Zbc, Zba, Zcc, Zdr, Zdo, Zdq, Zdp, Zdc, Zdd, Zds, Zc2, Za4, Za8, Zen, Zdy, Zdw, Zdx,
    Zao, Za0, Zaw, Zar, Zax, Zav, Zau, Zat, Zas, Zay, Zaz, Zap, Zaq, Zak, Zdf, Zdg, Zdm, Zdn, Zc0, Zcy, Zcz, Zc1, Option.map_some, Option.map_none, List.cons_append, List.nil_append, List.append_nil, decide_true, decide_false, Bool.not_true, Bool.not_false, Bool.false_eq_true, if_true, if_false, ↓reduceIte, reduceCtorEq, Nat.reduceAdd, Nat.reduceEqDiff, Nat.reduceBEq, Za5, true_and, and_true, eq_self, List.getElem?_cons_zero, List.getElem?_cons_succ, get_put_eq, get_put_ne, Env.put_length, Nat.reduceLT, Zaj, Zah, Zaf, Zai, Zad, Zae, Zag, Zes, Zet, Zer, Za2, Za3, Za1, Zeh, Zei, Zeg, Zab, Zac, Zaa, Zep, Zeo, Zcq, Zcn, Zcp, Zco, Zcr, Za7, Za6, Zee, Zef, Zed, Zbf,
    Zbv, Zby, Zbi, Zb2, Zbn, Zbo, Zbs, Zbr, Zbt, Zbq, Zbm, Zb0, Zbx, Zbg, ev_t, ev_c, ev_f, Zcb, Zca, Zb8, Zb9, Zb6, Zb7, Zd7, Zd9, Zd8, Zcm, Zcl, Zd1, Zdz, Zd0,
    Zd6, Zd5, Zd4, Zd3, Zan, Zeu, Zbb, Zbc, Zba, Zcc, Zdr, Zdo, Zdq, Zdp, Zdc, Zdd, Zds, Zc2, Za4, Za8, Zen, Zdy, Zdw, Zdx,
    Zao, Za0, Zaw, Zar, Zax, Zav, Zau, Zat, Zas, Zay, Zaz, Zap, Zaq, Zak, Zdf, Zdg, Zdm, Zdn, Zc0, Zcy, Zcz, Zc1, Option.map_some, Option.map_none, List.cons_append, List.nil_append, List.append_nil, decide_true, decide_false, Bool.not_true, Bool.not_false, Bool.false_eq_true, if_true, if_false, ↓reduceIte, reduceCtorEq, Nat.reduceAdd, Nat.reduceEqDiff, Nat.reduceBEq, Za5, true_and, and_true, eq_self, List.getElem?_cons_zero, List.getElem?_cons_succ, h0, h1, h2, h10, hl, nxE_more _ _ _ _ hlt, dec_drop, callE_cl, noChar_W H, hc, Bool.not_false]
        refine hq2 rfl _ _ i ?_ ?_
        · simp only [get_put_eq, get_put_ne, Env.put_length, Nat.reduceLT, Zaj, Zah, Zaf, Zai, Zad, Zae, Zag, Zes, Zet, Zer, Za2, Za3, Za1, Zeh, Zei, Zeg, Zab, Zac, Zaa, Zep, Zeo, Zcq, Zcn, Zcp, Zco, Zcr, Za7, Za6, Zee, Zef, Zed, Zbf,
    Zbv, Zby, Zbi, Zb2, Zbn, Zbo, Zbs, Zbr, Zbt, Zbq, Zbm, Zb0, Zbx, Zbg, ev_t, ev_c, ev_f, Zcb, Zca, Zb8, Zb9, Zb6, Zb7, Zd7, Zd9, Zd8, Zcm, Zcl, Zd1, Zdz, Zd0,
    Zd6, Zd5, Zd4, Zd3, Zan, Zeu, Zbb, Zbc, Zba, Zcc, Zdr, Zdo, Zdq, Zdp, Zdc, Zdd, Zds, Zc2, Za4, Za8, Zen, Zdy, Zdw, Zdx,
    Zao, Za0, Zaw, Zar, Zax, Zav, Zau, Zat, Zas, Zay, Zaz, Zap, Zaq, Zak, Zdf, Zdg, Zdm, Zdn, Zc0, Zcy, Zcz, Zc1, Option.map_some, Option.map_none, List.cons_append, List.nil_append, List.append_nil, decide_true, decide_false, Bool.not_true, Bool.not_false, Bool.false_eq_true, if_true, if_false, ↓reduceIte, reduceCtorEq, Nat.reduceAdd, Nat.reduceEqDiff, Nat.reduceBEq, Za5, true_and, and_true, eq_self, List.getElem?_cons_zero, List.getElem?_cons_succ, hl]
        · simp only [get_put_eq, get_put_ne, Env.put_length, Nat.reduceLT, Zaj, Zah, Zaf, Zai, Zad, Zae, Zag, Zes, Zet, Zer, Za2, Za3, Za1, Zeh, Zei, Zeg, Zab, Zac, Zaa, Zep, Zeo, Zcq, Zcn, Zcp, Zco, Zcr, Za7, Za6, Zee, Zef, Zed, Zbf,
    Zbv, Zby, Zbi, Zb2, Zbn, Zbo, Zbs, Zbr, Zbt, Zbq, Zbm, Zb0, Zbx, Zbg, ev_t, ev_c, ev_f, Zcb, Zca, Zb8, Zb9, Zb6, Zb7, Zd7, Zd9, Zd8, Zcm, Zcl, Zd1, Zdz, Zd0,
    Zd6, Zd5, Zd4, Zd3, Zan, Zeu, Zbb, Zbc, Zba, Zcc, Zdr, Zdo, Zdq, Zdp, Zdc, Zdd, Zds, Zc2, Za4, Za8, Zen, Zdy, Zdw, Zdx,
    Zao, Za0, Zaw, Zar, Zax, Zav, Zau, Zat, Zas, Zay, Zaz, Zap, Zaq, Zak, Zdf, Zdg, Zdm, Zdn, Zc0, Zcy, Zcz, Zc1, Option.map_some, Option.map_none, List.cons_append, List.nil_append, List.append_nil, decide_true, decide_false, Bool.not_true, Bool.not_false, Bool.false_eq_true, if_true, if_false, ↓reduceIte, reduceCtorEq, Nat.reduceAdd, Nat.reduceEqDiff, Nat.reduceBEq, Za5, true_and, and_true, eq_self, List.getElem?_cons_zero, List.getElem?_cons_succ, hl]
      · simp only [Zde, Zdj, Zdk, Zdl, Zdi, Zdh, Zbp, Zb1, Zbj, Zbu, Zbl, Zbz, Zbw, Zb4, Zb3, Zb5, Zdt, Zeb, Zbe, Zbd, Zam, Zal, Zcd, Zeq, Zew, Zev, Zdu, Zd2, Za9, Zce, Zcf, Zea, Zdv, Zcg, Zch, Zci, Zcj, Zck, Zem, Zbk, Zbh, Zec, Zej, Zek, Zel, Zc5, Zdb, Zc3, Zc8, Zc7, Zc6, Zc9, Zda, Zc4, Zct, Zcx, Zcs, Zcv, Zcu, Zcw, Option.bind_some, Option.bind_none, List.set_cons_zero, List.set_cons_succ, List.set_set, List.length_set, List.length_append, List.length_cons, List.length_nil, List.append_assoc, List.singleton_append, Nat.zero_add, Nat.add_zero, Nat.reduceLT, Nat.reduceAdd, Zaj, Zah, Zaf, Zai, Zad, Zae, Zag, Zes, Zet, Zer, Za2, Za3, Za1, Zeh, Zei, Zeg, Zab, Zac, Zaa, Zep, Zeo, Zcq, Zcn, Zcp, Zco, Zcr, Za7, Za6, Zee, Zef, Zed, Zbf,
    Zbv, Zby, Zbi, Zb2, Zbn, Zbo, Zbs, Zbr, Zbt, Zbq, Zbm, Zb0, Zbx, Zbg, ev_t, ev_c, ev_f, Zcb, Zca, Zb8, Zb9, Zb6, Zb7, Zd7, Zd9, Zd8, Zcm, Zcl, Zd1, Zdz, Zd0,
    Zd6, Zd5, Zd4, Zd3, Zan, Zeu, Zbb, Zbc, Zba, Zcc, Zdr, Zdo, Zdq, Zdp, Zdc, Zdd, Zds, Zc2, Za4, Za8, Zen, Zdy, Zdw, Zdx,
    Zao, Za0, Zaw, Zar, Zax, Zav, Zau, Zat, Zas, Zay, Zaz, Zap, Zaq, Zak, Zdf, Zdg, Zdm, Zdn, Zc0, Zcy, Zcz, Zc1, Option.map_some, Option.map_none, List.cons_append, List.nil_append, List.append_nil, decide_true, decide_false, Bool.not_true, Bool.not_false, Bool.false_eq_true, if_true, if_false, ↓reduceIte, reduceCtorEq, Nat.reduceAdd, Nat.reduceEqDiff, Nat.reduceBEq, Za5, true_and, and_true, eq_self, List.getElem?_cons_zero, List.getElem?_cons_succ, get_put_eq, get_put_ne, Env.put_length, Nat.reduceLT, Zaj, Zah, Zaf, Zai, Zad, Zae, Zag, Zes, Zet, Zer, Za2, Za3, Za1, Zeh, Zei, Zeg, Zab, Zac, Zaa, Zep, Zeo, Zcq, Zcn, Zcp, Zco, Zcr, Za7, Za6, Zee, Zef, Zed, Zbf,
    Zbv, Zby, Zbi, Zb2, Zbn, Zbo, Zbs, Zbr, Zbt, Zbq, Zbm, Zb0, Zbx, Zbg, ev_t, ev_c, ev_f, Zcb, Zca, Zb8, Zb9, Zb6, Zb7, Zd7, Zd9, Zd8, Zcm, Zcl, Zd1, Zdz, Zd0,
    Zd6, Zd5, Zd4, Zd3, Zan, Zeu, Zbb, Zbc, Zba, Zcc, Zdr, Zdo, Zdq, Zdp, Zdc, Zdd, Zds, Zc2, Za4, Za8, Zen, Zdy, Zdw, Zdx,
    Zao, Za0, Zaw, Zar, Zax, Zav, Zau, Zat, Zas, Zay, Zaz, Zap, Zaq, Zak, Zdf, Zdg, Zdm, Zdn, Zc0, Zcy, Zcz, Zc1, Option.map_some, Option.map_none, List.cons_append, List.nil_append, List.append_nil, decide_true, decide_false, Bool.not_true, Bool.not_false, Bool.false_eq_true, if_true, if_false, ↓reduceIte, reduceCtorEq, Nat.reduceAdd, Nat.reduceEqDiff, Nat.reduceBEq, Za5, true_and, and_true, eq_self, List.getElem?_cons_zero, List.getElem?_cons_succ, h0, h1, h2, h10, hl, nxE_more _ _ _ _ hlt, dec_drop, callE_cl, noChar_W H, hc, Bool.not_true]
        refine find_loop s hs Q d (i + (Lib.decodeL (s.drop i)).2) _ (by simp at hd ⊢; omega) ?_ ?_ ?_ ?_ ?_ (by simpa using hq1) (by simpa using hq2)
        · simp only [get_put_eq, get_put_ne, Env.put_length, Nat.reduceLT, Zaj, Zah, Zaf, Zai, Zad, Zae, Zag, Zes, Zet, Zer, Za2, Za3, Za1, Zeh, Zei, Zeg, Zab, Zac, Zaa, Zep, Zeo, Zcq, Zcn, Zcp, Zco, Zcr, Za7, Za6, Zee, Zef, Zed, Zbf,
    Zbv, Zby, Zbi, Zb2, Zbn, Zbo, Zbs, Zbr, Zbt, Zbq, Zbm, Zb0, Zbx, Zbg, ev_t, ev_c, ev_f, Zcb, Zca, Zb8, Zb9, Zb6, Zb7, Zd7, Zd9, Zd8, Zcm, Zcl, Zd1, Zdz, Zd0,
    Zd6, Zd5, Zd4, Zd3, Zan, Zeu, Zbb, Zbc, Zba, Zcc, Zdr, Zdo, Zdq, Zdp, Zdc, Zdd, Zds, Zc2, Za4, Za8, Zen, Zdy, Zdw, Zdx,
    Zao, Za0, Zaw, Zar, Zax, Zav, Zau, Zat, Zas, Zay, Zaz, Zap, Zaq, Zak, Zdf, Zdg, Zdm, Zdn, Zc0, Zcy, Zcz, Zc1, Option.map_some, Option.map_none, List.cons_append, List.nil_append, List.append_nil, decide_true, decide_false, Bool.not_true, Bool.not_false, Bool.false_eq_true, if_true, if_false, ↓reduceIte, reduceCtorEq, Nat.reduceAdd, Nat.reduceEqDiff, Nat.reduceBEq, Za5, true_and, and_true, eq_self, List.getElem?_cons_zero, List.getElem?_cons_succ, hl]
        · simp only [get_put_eq, get_put_ne, Env.put_length, Nat.reduceLT, Zaj, Zah, Zaf, Zai, Zad, Zae, Zag, Zes, Zet, Zer, Za2, Za3, Za1, Zeh, Zei, Zeg, Zab, Zac, Zaa, Zep, Zeo, Zcq, Zcn, Zcp, Zco, Zcr, Za7, Za6, Zee, Zef, Zed, Zbf,
    Zbv, Zby, Zbi, Zb2, Zbn, Zbo, Zbs, Zbr, Zbt, Zbq, Zbm, Zb0, Zbx, Zbg, ev_t, ev_c, ev_f, Zcb, Zca, Zb8, Zb9, Zb6, Zb7, Zd7, Zd9, Zd8, Zcm, Zcl, Zd1, Zdz, Zd0,
    Zd6, Zd5, Zd4, Zd3, Zan, Zeu, Zbb, Zbc, Zba, Zcc, Zdr, Zdo, Zdq, Zdp, Zdc, Zdd, Zds, Zc2, Za4, Za8, Zen, Zdy, Zdw, Zdx,
    Zao, Za0, Zaw, Zar, Zax, Zav, Zau, Zat, Zas, Zay, Zaz, Zap, Zaq, Zak, Zdf, Zdg, Zdm, Zdn, Zc0, Zcy, Zcz, Zc1, Option.map_some, Option.map_none, List.cons_append, List.nil_append, List.append_nil, decide_true, decide_false, Bool.not_true, Bool.not_false, Bool.false_eq_true, if_true, if_false, ↓reduceIte, reduceCtorEq, Nat.reduceAdd, Nat.reduceEqDiff, Nat.reduceBEq, Za5, true_and, and_true, eq_self, List.getElem?_cons_zero, List.getElem?_cons_succ, hl, h0]
        · simp only [get_put_eq, get_put_ne, Env.put_length, Nat.reduceLT, Zaj, Zah, Zaf, Zai, Zad, Zae, Zag, Zes, Zet, Zer, Za2, Za3, Za1, Zeh, Zei, Zeg, Zab, Zac, Zaa, Zep, Zeo, Zcq, Zcn, Zcp, Zco, Zcr, Za7, Za6, Zee, Zef, Zed, Zbf,
    Zbv, Zby, Zbi, Zb2, Zbn, Zbo, Zbs, Zbr, Zbt, Zbq, Zbm, Zb0, Zbx, Zbg, ev_t, ev_c, ev_f, Zcb, Zca, Zb8, Zb9, Zb6, Zb7, Zd7, Zd9, Zd8, Zcm, Zcl, Zd1, Zdz, Zd0,
    Zd6, Zd5, Zd4, Zd3, Zan, Zeu, Zbb, Zbc, Zba, Zcc, Zdr, Zdo, Zdq, Zdp, Zdc, Zdd, Zds, Zc2, Za4, Za8, Zen, Zdy, Zdw, Zdx,
    Zao, Za0, Zaw, Zar, Zax, Zav, Zau, Zat, Zas, Zay, Zaz, Zap, Zaq, Zak, Zdf, Zdg, Zdm, Zdn, Zc0, Zcy, Zcz, Zc1, Option.map_some, Option.map_none, List.cons_append, List.nil_append, List.append_nil, decide_true, decide_false, Bool.not_true, Bool.not_false, Bool.false_eq_true, if_true, if_false, ↓reduceIte, reduceCtorEq, Nat.reduceAdd, Nat.reduceEqDiff, Nat.reduceBEq, Za5, true_and, and_true, eq_self, List.getElem?_cons_zero, List.getElem?_cons_succ, hl, h1]
        · simp only [get_put_eq, get_put_ne, Env.put_length, Nat.reduceLT, Zaj, Zah, Zaf, Zai, Zad, Zae, Zag, Zes, Zet, Zer, Za2, Za3, Za1, Zeh, Zei, Zeg, Zab, Zac, Zaa, Zep, Zeo, Zcq, Zcn, Zcp, Zco, Zcr, Za7, Za6, Zee, Zef, Zed, Zbf,
    Zbv, Zby, Zbi, Zb2, Zbn, Zbo, Zbs, Zbr, Zbt, Zbq, Zbm, Zb0, Zbx, Zbg, ev_t, ev_c, ev_f, Zcb, Zca, Zb8, Zb9, Zb6, Zb7, Zd7, Zd9, Zd8, Zcm, Zcl, Zd1, Zdz, Zd0,
    Zd6, Zd5, Zd4, Zd3, Zan, Zeu, Zbb, Zbc, Zba, Zcc, Zdr, Zdo, Zdq, Zdp, Zdc, Zdd, Zds, Zc2, Za4, Za8, Zen, Zdy, Zdw, Zdx,
    Zao, Za0, Zaw, Zar, Zax, Zav, Zau, Zat, Zas, Zay, Zaz, Zap, Zaq, Zak, Zdf, Zdg, Zdm, Zdn, Zc0, Zcy, Zcz, Zc1, Option.map_some, Option.map_none, List.cons_append, List.nil_append, List.append_nil, decide_true, decide_false, Bool.not_true, Bool.not_false, Bool.false_eq_true, if_true, if_false, ↓reduceIte, reduceCtorEq, Nat.reduceAdd, Nat.reduceEqDiff, Nat.reduceBEq, Za5, true_and, and_true, eq_self, List.getElem?_cons_zero, List.getElem?_cons_succ, hl, h2]
        · simp only [get_put_eq, get_put_ne, Env.put_length, Nat.reduceLT, Zaj, Zah, Zaf, Zai, Zad, Zae, Zag, Zes, Zet, Zer, Za2, Za3, Za1, Zeh, Zei, Zeg, Zab, Zac, Zaa, Zep, Zeo, Zcq, Zcn, Zcp, Zco, Zcr, Za7, Za6, Zee, Zef, Zed, Zbf,
    Zbv, Zby, Zbi, Zb2, Zbn, Zbo, Zbs, Zbr, Zbt, Zbq, Zbm, Zb0, Zbx, Zbg, ev_t, ev_c, ev_f, Zcb, Zca, Zb8, Zb9, Zb6, Zb7, Zd7, Zd9, Zd8, Zcm, Zcl, Zd1, Zdz, Zd0,
    Zd6, Zd5, Zd4, Zd3, Zan, Zeu, Zbb, Zbc, Zba, Zcc, Zdr, Zdo, Zdq, Zdp, Zdc, Zdd, Zds, Zc2, Za4, Za8, Zen, Zdy, Zdw, Zdx,
    Zao, Za0, Zaw, Zar, Zax, Zav, Zau, Zat, Zas, Zay, Zaz, Zap, Zaq, Zak, Zdf, Zdg, Zdm, Zdn, Zc0, Zcy, Zcz, Zc1, Option.map_some, Option.map_none, List.cons_append, List.nil_append, List.append_nil, decide_true, decide_false, Bool.not_true, Bool.not_false, Bool.false_eq_true, if_true, if_false, ↓reduceIte, reduceCtorEq, Nat.reduceAdd, Nat.reduceEqDiff, Nat.reduceBEq, Za5, true_and, and_true, eq_self, List.getElem?_cons_zero, List.getElem?_cons_succ, hl, h10]
    · have hn : s.drop i = [] := List.drop_of_length_le (by omega)
      simp only [Zde, Zdj, Zdk, Zdl, Zdi, Zdh, Zbp, Zb1, Zbj, Zbu, Zbl, Zbz, Zbw, Zb4, Zb3, Zb5, Zdt, Zeb, Zbe, Zbd, Zam, Zal, Zcd, Zeq, Zew, Zev, Zdu, Zd2, Za9, Zce, Zcf, Zea, Zdv, Zcg, Zch, Zci, Zcj, Zck, Zem, Zbk, Zbh, Zec, Zej, Zek, Zel, Zc5, Zdb, Zc3, Zc8, Zc7, Zc6, Zc9, Zda, Zc4, Zct, Zcx, Zcs, Zcv, Zcu, Zcw, Option.bind_some, Option.bind_none, List.set_cons_zero, List.set_cons_succ, List.set_set, List.length_set, List.length_append, List.length_cons, List.length_nil, List.append_assoc, List.singleton_append, Nat.zero_add, Nat.add_zero, Nat.reduceLT, Nat.reduceAdd, Zaj, Zah, Zaf, Zai, Zad, Zae, Zag, Zes, Zet, Zer, Za2, Za3, Za1, Zeh, Zei, Zeg, Zab, Zac, Zaa, Zep, Zeo, Zcq, Zcn, Zcp, Zco, Zcr, Za7, Za6, Zee, Zef, Zed, Zbf,
    Zbv, Zby, Zbi, Zb2, Zbn, Zbo, Zbs, Zbr, Zbt, Zbq, Zbm, Zb0, Zbx, Zbg, ev_t, ev_c, ev_f, Zcb, Zca, Zb8, Zb9, Zb6, Zb7, Zd7, Zd9, Zd8, Zcm, Zcl, Zd1, Zdz, Zd0,
    Zd6, Zd5, Zd4, Zd3, Zan, Zeu, Zbb, Zbc, Zba, Zcc, Zdr, Zdo, Zdq, Zdp, Zdc, Zdd, Zds, Zc2, Za4, Za8, Zen, Zdy, Zdw, Zdx,
    Zao, Za0, Zaw, Zar, Zax, Zav, Zau, Zat, Zas, Zay, Zaz, Zap, Zaq, Zak, Zdf, Zdg, Zdm, Zdn, Zc0, Zcy, Zcz, Zc1, Option.map_some, Option.map_none, List.cons_append, List.nil_append, List.append_nil, decide_true, decide_false, Bool.not_true, Bool.not_false, Bool.false_eq_true, if_true, if_false, ↓reduceIte, reduceCtorEq, Nat.reduceAdd, Nat.reduceEqDiff, Nat.reduceBEq, Za5, true_and, and_true, eq_self, List.getElem?_cons_zero, List.getElem?_cons_succ, get_put_eq, get_put_ne, Env.put_length, Nat.reduceLT, Zaj, Zah, Zaf, Zai, Zad, Zae, Zag, Zes, Zet, Zer, Za2, Za3, Za1, Zeh, Zei, Zeg, Zab, Zac, Zaa, Zep, Zeo, Zcq, Zcn, Zcp, Zco, Zcr, Za7, Za6, Zee, Zef, Zed, Zbf,
    Zbv, Zby, Zbi, Zb2, Zbn, Zbo, Zbs, Zbr, Zbt, Zbq, Zbm, Zb0, Zbx, Zbg, ev_t, ev_c, ev_f, Zcb, Zca, Zb8, Zb9, Zb6, Zb7, Zd7, Zd9, Zd8, Zcm, Zcl, Zd1, Zdz, Zd0,
    Zd6, Zd5, Zd4, Zd3, Zan, Zeu, Zbb, Zbc, Zba, Zcc, Zdr, Zdo, Zdq, Zdp, Zdc, Zdd, Zds, Zc2, Za4, Za8, Zen, Zdy, Zdw, Zdx,
    Zao, Za0, Zaw, Zar, Zax, Zav, Zau, Zat, Zas, Zay, Zaz, Zap, Zaq, Zak, Zdf, Zdg, Zdm, Zdn, Zc0, Zcy, Zcz, Zc1, Option.map_some, Option.map_none, List.cons_append, List.nil_append, List.append_nil, decide_true, decide_false, Bool.not_true, Bool.not_false, Bool.false_eq_true, if_true, if_false, ↓reduceIte, reduceCtorEq, Nat.reduceAdd, Nat.reduceEqDiff, Nat.reduceBEq, Za5, true_and, and_true, eq_self, List.getElem?_cons_zero, List.getElem?_cons_succ, h0, h1, h2, h10, hl, nxE_end _ _ _ _ hlt]
      refine hq1 (by rw [hn]; cases d <;> simp [runesN]) _ _ ?_
      simp only [get_put_eq, get_put_ne, Env.put_length, Nat.reduceLT, Zaj, Zah, Zaf, Zai, Zad, Zae, Zag, Zes, Zet, Zer, Za2, Za3, Za1, Zeh, Zei, Zeg, Zab, Zac, Zaa, Zep, Zeo, Zcq, Zcn, Zcp, Zco, Zcr, Za7, Za6, Zee, Zef, Zed, Zbf,
    Zbv, Zby, Zbi, Zb2, Zbn, Zbo, Zbs, Zbr, Zbt, Zbq, Zbm, Zb0, Zbx, Zbg, ev_t, ev_c, ev_f, Zcb, Zca, Zb8, Zb9, Zb6, Zb7, Zd7, Zd9, Zd8, Zcm, Zcl, Zd1, Zdz, Zd0,
    Zd6, Zd5, Zd4, Zd3, Zan, Zeu, Zbb, Zbc, Zba, Zcc, Zdr, Zdo, Zdq, Zdp, Zdc, Zdd, Zds, Zc2, Za4, Za8, Zen, Zdy, Zdw, Zdx,
    Zao, Za0, Zaw, Zar, Zax, Zav, Zau, Zat, Zas, Zay, Zaz, Zap, Zaq, Zak, Zdf, Zdg, Zdm, Zdn, Zc0, Zcy, Zcz, Zc1, Option.map_some, Option.map_none, List.cons_append, List.nil_append, List.append_nil, decide_true, decide_false, Bool.not_true, Bool.not_false, Bool.false_eq_true, if_true, if_false, ↓reduceIte, reduceCtorEq, Nat.reduceAdd, Nat.reduceEqDiff, Nat.reduceBEq, Za5, true_and, and_true, eq_self, List.getElem?_cons_zero, List.getElem?_cons_succ, hl]

theorem hasBad_W (hG : Good st) (s : List UInt8) (hs : s.length ≤ 9223372036854775807) : callW C 89 [.str s, .fn (.func 90) [] []] st = some (.bool (!(runesN s.length s).all fun n => isChar n), st) := by
  have h80 : CW C 80 [.str s, .fn (.func 90) [] [], .bool true] st fun v s' => s' = st ∧ ∃ z : Int, v = .int .i64 z ∧ (0 ≤ z ↔ ((runesN s.length s).all fun n => isChar n) = false) := by
    rw [CW_is H.h80 _ (by simp)]
    simp only [List.length_cons, List.length_nil, Nat.zero_add, Nat.reduceAdd, Nat.reduceSub, List.reduceReplicate, List.cons_append, List.nil_append]
    unfold k80b
    simp only [Zde, Zdj, Zdk, Zdl, Zdi, Zdh, Zbp, Zb1, Zbj, Zbu, Zbl, Zbz, Zbw, Zb4, Zb3, Zb5, Zdt, Zeb, Zbe, Zbd, Zam, Zal, Zcd, Zeq, Zew, Zev, Zdu, Zd2, Za9, Zce, Zcf, Zea, Zdv, Zcg, Zch, Zci, Zcj, Zck, Zem, Zbk, Zbh, Zec, Zej, Zek, Zel, Zc5, Zdb, Zc3, Zc8, Zc7, Zc6, Zc9, Zda, Zc4, Zct, Zcx, Zcs, Zcv, Zcu, Zcw, Option.bind_some, Option.bind_none, List.set_cons_zero, List.set_cons_succ, List.set_set, List.length_set, List.length_append, List.length_cons, List.length_nil, List.append_assoc, List.singleton_append, Nat.zero_add, Nat.add_zero, Nat.reduceLT, Nat.reduceAdd, Zaj, Zah, Zaf, Zai, Zad, Zae, Zag, Zes, Zet, Zer, Za2, Za3, Za1, Zeh, Zei, Zeg, Zab, Zac, Zaa, Zep, Zeo, Zcq, Zcn, Zcp, Zco, Zcr, Za7, Za6, Zee, Zef, Zed, Zbf,
    Zbv, Zby, Zbi, Zb2, Zbn, Zbo, Zbs, Zbr, Zbt, Zbq, Zbm, Zb0, Zbx, Zbg, ev_t, ev_c, ev_f, Zcb, Zca, Zb8, Zb9, Zb6, Zb7, Zd7, Zd9, Zd8, Zcm, Zcl, Zd1, Zdz, Zd0,
    Zd6, Zd5, Zd4, Zd3, Zan, Zeu, Zbb, Zbc, Zba, Zcc, Zdr, Zdo, Zdq, Zdp, Zdc, Zdd, Zds, Zc2, Za4, Za8, Zen, Zdy, Zdw, Zdx,
    Zao, Za0, Zaw, Zar, Zax, Zav, Zau, Zat, Zas, Zay, Zaz, Zap, Zaq, Zak, Zdf, Zdg, Zdm, Zdn, Zc0, Zcy, Zcz, Zc1, Option.map_some, Option.map_none, List.cons_append, List.nil_append, List.append_nil, decide_true, decide_false, Bool.not_true, Bool.not_false, Bool.false_eq_true, if_true, if_false, ↓reduceIte, reduceCtorEq, Nat.reduceAdd, Nat.reduceEqDiff, Nat.reduceBEq, Za5, true_and, and_true, eq_self, List.getElem?_cons_zero, List.getElem?_cons_succ]
    refine find_loop H st s hs _ s.length 0 _ (by simp) rfl rfl rfl rfl rfl ?_ ?_
    · intro hall e p he
      rw [List.drop_zero] at hall
      simp only [Zde, Zdj, Zdk, Zdl, Zdi, Zdh, Zbp, Zb1, Zbj, Zbu, Zbl, Zbz, Zbw, Zb4, Zb3, Zb5, Zdt, Zeb, Zbe, Zbd, Zam, Zal, Zcd, Zeq, Zew, Zev, Zdu, Zd2, Za9, Zce, Zcf, Zea, Zdv, Zcg, Zch, Zci, Zcj, Zck, Zem, Zbk, Zbh, Zec, Zej, Zek, Zel, Zc5, Zdb, Zc3, Zc8, Zc7, Zc6, Zc9, Zda, Zc4, Zct, Zcx, Zcs, Zcv, Zcu, Zcw, Option.bind_some, Option.bind_none, List.set_cons_zero, List.set_cons_succ, List.set_set, List.length_set, List.length_append, List.length_cons, List.length_nil, List.append_assoc, List.singleton_append, Nat.zero_add, Nat.add_zero, Nat.reduceLT, Nat.reduceAdd, Zaj, Zah, Zaf, Zai, Zad, Zae, Zag, Zes, Zet, Zer, Za2, Za3, Za1, Zeh, Zei, Zeg, Zab, Zac, Zaa, Zep, Zeo, Zcq, Zcn, Zcp, Zco, Zcr, Za7, Za6, Zee, Zef, Zed, Zbf,
    Zbv, Zby, Zbi, Zb2, Zbn, Zbo, Zbs, Zbr, Zbt, Zbq, Zbm, Zb0, Zbx, Zbg, ev_t, ev_c, ev_f, Zcb, Zca, Zb8, Zb9, Zb6, Zb7, Zd7, Zd9, Zd8, Zcm, Zcl, Zd1, Zdz, Zd0,
    Zd6, Zd5, Zd4, Zd3, Zan, Zeu, Zbb, Zbc, Zba, Zcc, Zdr, Zdo, Zdq, Zdp, Zdc, Zdd, Zds, Zc2, Za4, Za8, Zen, Zdy, Zdw, Zdx,
    Zao, Za0, Zaw, Zar, Zax, Zav, Zau, Zat, Zas, Zay, Zaz, Zap, Zaq, Zak, Zdf, Zdg, Zdm, Zdn, Zc0, Zcy, Zcz, Zc1, Option.map_some, Option.map_none, List.cons_append, List.nil_append, List.append_nil, decide_true, decide_false, Bool.not_true, Bool.not_false, Bool.false_eq_true, if_true, if_false, ↓reduceIte, reduceCtorEq, Nat.reduceAdd, Nat.reduceEqDiff, Nat.reduceBEq, Za5, true_and, and_true, eq_self, List.getElem?_cons_zero, List.getElem?_cons_succ, get_put_eq, get_put_ne, Env.put_length, Nat.reduceLT, Zaj, Zah, Zaf, Zai, Zad, Zae, Zag, Zes, Zet, Zer, Za2, Za3, Za1, Zeh, Zei, Zeg, Zab, Zac, Zaa, Zep, Zeo, Zcq, Zcn, Zcp, Zco, Zcr, Za7, Za6, Zee, Zef, Zed, Zbf,
    Zbv, Zby, Zbi, Zb2, Zbn, Zbo, Zbs, Zbr, Zbt, Zbq, Zbm, Zb0, Zbx, Zbg, ev_t, ev_c, ev_f, Zcb, Zca, Zb8, Zb9, Zb6, Zb7, Zd7, Zd9, Zd8, Zcm, Zcl, Zd1, Zdz, Zd0,
    Zd6, Zd5, Zd4, Zd3, Zan, Zeu, Zbb, Zbc, Zba, Zcc, Zdr, Zdo, Zdq, Zdp, Zdc, Zdd, Zds, Zc2, Za4, Za8, Zen, Zdy, Zdw, Zdx,
    Zao, Za0, Zaw, Zar, Zax, Zav, Zau, Zat, Zas, Zay, Zaz, Zap, Zaq, Zak, Zdf, Zdg, Zdm, Zdn, Zc0, Zcy, Zcz, Zc1, Option.map_some, Option.map_none, List.cons_append, List.nil_append, List.append_nil, decide_true, decide_false, Bool.not_true, Bool.not_false, Bool.false_eq_true, if_true, if_false, ↓reduceIte, reduceCtorEq, Nat.reduceAdd, Nat.reduceEqDiff, Nat.reduceBEq, Za5, true_and, and_true, eq_self, List.getElem?_cons_zero, List.getElem?_cons_succ, he, hall]
      rw [leave_drop rfl hG (by simp [AV.hi])]
      exact ⟨rfl, -1, rfl, by simp⟩
    · intro hall e p j he h6
      rw [List.drop_zero] at hall
      simp only [Zde, Zdj, Zdk, Zdl, Zdi, Zdh, Zbp, Zb1, Zbj, Zbu, Zbl, Zbz, Zbw, Zb4, Zb3, Zb5, Zdt, Zeb, Zbe, Zbd, Zam, Zal, Zcd, Zeq, Zew, Zev, Zdu, Zd2, Za9, Zce, Zcf, Zea, Zdv, Zcg, Zch, Zci, Zcj, Zck, Zem, Zbk, Zbh, Zec, Zej, Zek, Zel, Zc5, Zdb, Zc3, Zc8, Zc7, Zc6, Zc9, Zda, Zc4, Zct, Zcx, Zcs, Zcv, Zcu, Zcw, Option.bind_some, Option.bind_none, List.set_cons_zero, List.set_cons_succ, List.set_set, List.length_set, List.length_append, List.length_cons, List.length_nil, List.append_assoc, List.singleton_append, Nat.zero_add, Nat.add_zero, Nat.reduceLT, Nat.reduceAdd, Zaj, Zah, Zaf, Zai, Zad, Zae, Zag, Zes, Zet, Zer, Za2, Za3, Za1, Zeh, Zei, Zeg, Zab, Zac, Zaa, Zep, Zeo, Zcq, Zcn, Zcp, Zco, Zcr, Za7, Za6, Zee, Zef, Zed, Zbf,
    Zbv, Zby, Zbi, Zb2, Zbn, Zbo, Zbs, Zbr, Zbt, Zbq, Zbm, Zb0, Zbx, Zbg, ev_t, ev_c, ev_f, Zcb, Zca, Zb8, Zb9, Zb6, Zb7, Zd7, Zd9, Zd8, Zcm, Zcl, Zd1, Zdz, Zd0,
    Zd6, Zd5, Zd4, Zd3, Zan, Zeu, Zbb, Zbc, Zba, Zcc, Zdr, Zdo, Zdq, Zdp, Zdc, Zdd, Zds, Zc2, Za4, Za8, Zen, Zdy, Zdw, Zdx,
    Zao, Za0, Zaw, Zar, Zax, Zav, Zau, Zat, Zas, Zay, Zaz, Zap, Zaq, Zak, Zdf, Zdg, Zdm, Zdn, Zc0, Zcy, Zcz, Zc1, Option.map_some, Option.map_none, List.cons_append, List.nil_append, List.append_nil, decide_true, decide_false, Bool.not_true, Bool.not_false, Bool.false_eq_true, if_true, if_false, ↓reduceIte, reduceCtorEq, Nat.reduceAdd, Nat.reduceEqDiff, Nat.reduceBEq, Za5, true_and, and_true, eq_self, List.getElem?_cons_zero, List.getElem?_cons_succ, get_put_eq, get_put_ne, Env.put_length, Nat.reduceLT, Zaj, Zah, Zaf, Zai, Zad, Zae, Zag, Zes, Zet, Zer, Za2, Za3, Za1, Zeh, Zei, Zeg, Zab, Zac, Zaa, Zep, Zeo, Zcq, Zcn, Zcp, Zco, Zcr, Za7, Za6, Zee, Zef, Zed, Zbf,
    Zbv, Zby, Zbi, Zb2, Zbn, Zbo, Zbs, Zbr, Zbt, Zbq, Zbm, Zb0, Zbx, Zbg, ev_t, ev_c, ev_f, Zcb, Zca, Zb8, Zb9, Zb6, Zb7, Zd7, Zd9, Zd8, Zcm, Zcl, Zd1, Zdz, Zd0,
    Zd6, Zd5, Zd4, Zd3, Zan, Zeu, Zbb, Zbc, Zba, Zcc, Zdr, Zdo, Zdq, Zdp, Zdc, Zdd, Zds, Zc2, Za4, Za8, Zen, Zdy, Zdw, Zdx,
    Zao, Za0, Zaw, Zar, Zax, Zav, Zau, Zat, Zas, Zay, Zaz, Zap, Zaq, Zak, Zdf, Zdg, Zdm, Zdn, Zc0, Zcy, Zcz, Zc1, Option.map_some, Option.map_none, List.cons_append, List.nil_append, List.append_nil, decide_true, decide_false, Bool.not_true, Bool.not_false, Bool.false_eq_true, if_true, if_false, ↓reduceIte, reduceCtorEq, Nat.reduceAdd, Nat.reduceEqDiff, Nat.reduceBEq, Za5, true_and, and_true, eq_self, List.getElem?_cons_zero, List.getElem?_cons_succ, he, hall, h6]
      rw [leave_drop rfl hG (by simp [AV.hi])]
      exact ⟨rfl, j, rfl, by simp⟩
  obtain ⟨v, s', h1, rfl, z, rfl, hz⟩ := h80
  have h107 : callW C 107 [.str s, .fn (.func 90) [] []] s' = some (.int .i64 z, s') := by
    rw [← CW_eq, CW_is H.h107 _ (by simp)]
    simp only [List.length_cons, List.length_nil, Nat.zero_add, Nat.reduceAdd, Nat.reduceSub, List.reduceReplicate, List.cons_append, List.nil_append]
    unfold k107b
    simp only [Zde, Zdj, Zdk, Zdl, Zdi, Zdh, Zbp, Zb1, Zbj, Zbu, Zbl, Zbz, Zbw, Zb4, Zb3, Zb5, Zdt, Zeb, Zbe, Zbd, Zam, Zal, Zcd, Zeq, Zew, Zev, Zdu, Zd2, Za9, Zce, Zcf, Zea, Zdv, Zcg, Zch, Zci, Zcj, Zck, Zem, Zbk, Zbh, Zec, Zej, Zek, Zel, Zc5, Zdb, Zc3, Zc8, Zc7, Zc6, Zc9, Zda, Zc4, Zct, Zcx, Zcs, Zcv, Zcu, Zcw, Option.bind_some, Option.bind_none, List.set_cons_zero, List.set_cons_succ, List.set_set, List.length_set, List.length_append, List.length_cons, List.length_nil, List.append_assoc, List.singleton_append, Nat.zero_add, Nat.add_zero, Nat.reduceLT, Nat.reduceAdd, Zaj, Zah, Zaf, Zai, Zad, Zae, Zag, Zes, Zet, Zer, Za2, Za3, Za1, Zeh, Zei, Zeg, Zab, Zac, Zaa, Zep, Zeo, Zcq, Zcn, Zcp, Zco, Zcr, Za7, Za6, Zee, Zef, Zed, Zbf,
    Zbv, Zby, Zbi, Zb2, Zbn, Zbo, Zbs, Zbr, Zbt, Zbq, Zbm, Zb0, Zbx, Zbg, ev_t, ev_c, ev_f, Zcb, Zca, Zb8, Zb9, Zb6, Zb7, Zd7, Zd9, Zd8, Zcm, Zcl, Zd1, Zdz, Zd0,
    Zd6, Zd5, Zd4, Zd3, Zan, Zeu, Zbb, Zbc, Zba, Zcc, Zdr, Zdo, Zdq, Zdp, Zdc, Zdd, Zds, Zc2, Za4, Za8, Zen, Zdy, Zdw, Zdx,
    Zao, Za0, Zaw, Zar, Zax, Zav, Zau, Zat, Zas, Zay, Zaz, Zap, Zaq, Zak, Zdf, Zdg, Zdm, Zdn, Zc0, Zcy, Zcz, Zc1, Option.map_some, Option.map_none, List.cons_append, List.nil_append, List.append_nil, decide_true, decide_false, Bool.not_true, Bool.not_false, Bool.false_eq_true, if_true, if_false, ↓reduceIte, reduceCtorEq, Nat.reduceAdd, Nat.reduceEqDiff, Nat.reduceBEq, Za5, true_and, and_true, eq_self, List.getElem?_cons_zero, List.getElem?_cons_succ, h1]
  rw [← CW_eq, CW_is H.h89 _ (by simp)]
  simp only [List.length_cons, List.length_nil, Nat.zero_add, Nat.reduceAdd, Nat.reduceSub, List.reduceReplicate, List.cons_append, List.nil_append]
  unfold k89b
  cases hall : (runesN s.length s).all fun n => isChar n
  · have h0 : (0 ≤ z) = True := by simp [hz, hall]
    simp only [Zde, Zdj, Zdk, Zdl, Zdi, Zdh, Zbp, Zb1, Zbj, Zbu, Zbl, Zbz, Zbw, Zb4, Zb3, Zb5, Zdt, Zeb, Zbe, Zbd, Zam, Zal, Zcd, Zeq, Zew, Zev, Zdu, Zd2, Za9, Zce, Zcf, Zea, Zdv, Zcg, Zch, Zci, Zcj, Zck, Zem, Zbk, Zbh, Zec, Zej, Zek, Zel, Zc5, Zdb, Zc3, Zc8, Zc7, Zc6, Zc9, Zda, Zc4, Zct, Zcx, Zcs, Zcv, Zcu, Zcw, Option.bind_some, Option.bind_none, List.set_cons_zero, List.set_cons_succ, List.set_set, List.length_set, List.length_append, List.length_cons, List.length_nil, List.append_assoc, List.singleton_append, Nat.zero_add, Nat.add_zero, Nat.reduceLT, Nat.reduceAdd, Zaj, Zah, Zaf, Zai, Zad, Zae, Zag, Zes, Zet, Zer, Za2, Za3, Za1, Zeh, Zei, Zeg, Zab, Zac, Zaa, Zep, Zeo, Zcq, Zcn, Zcp, Zco, Zcr, Za7, Za6, Zee, Zef, Zed, Zbf,
    Zbv, Zby, Zbi, Zb2, Zbn, Zbo, Zbs, Zbr, Zbt, Zbq, Zbm, Zb0, Zbx, Zbg, ev_t, ev_c, ev_f, Zcb, Zca, Zb8, Zb9, Zb6, Zb7, Zd7, Zd9, Zd8, Zcm, Zcl, Zd1, Zdz, Zd0,
    Zd6, Zd5, Zd4, Zd3, Zan, Zeu, Zbb, Zbc, Zba, Zcc, Zdr, Zdo, Zdq, Zdp, Zdc, Zdd, Zds, Zc2, Za4, Za8, Zen, Zdy, Zdw, Zdx,
    Zao, Za0, Zaw, Zar, Zax, Zav, Zau, Zat, Zas, Zay, Zaz, Zap, Zaq, Zak, Zdf, Zdg, Zdm, Zdn, Zc0, Zcy, Zcz, Zc1, Option.map_some, Option.map_none, List.cons_append, List.nil_append, List.append_nil, decide_true, decide_false, Bool.not_true, Bool.not_false, Bool.false_eq_true, if_true, if_false, ↓reduceIte, reduceCtorEq, Nat.reduceAdd, Nat.reduceEqDiff, Nat.reduceBEq, Za5, true_and, and_true, eq_self, List.getElem?_cons_zero, List.getElem?_cons_succ, h107, h0, Bool.not_false]
  · have h0 : (0 ≤ z) = False := by simp [hz, hall]
    simp only [Zde, Zdj, Zdk, Zdl, Zdi, Zdh, Zbp, Zb1, Zbj, Zbu, Zbl, Zbz, Zbw, Zb4, Zb3, Zb5, Zdt, Zeb, Zbe, Zbd, Zam, Zal, Zcd, Zeq, Zew, Zev, Zdu, Zd2, Za9, Zce, Zcf, Zea, Zdv, Zcg, Zch, Zci, Zcj, Zck, Zem, Zbk, Zbh, Zec, Zej, Zek, Zel, Zc5, Zdb, Zc3, Zc8, Zc7, Zc6, Zc9, Zda, Zc4, Zct, Zcx, Zcs, Zcv, Zcu, Zcw, Option.bind_some, Option.bind_none, List.set_cons_zero, List.set_cons_succ, List.set_set, List.length_set, List.length_append, List.length_cons, List.length_nil, List.append_assoc, List.singleton_append, Nat.zero_add, Nat.add_zero, Nat.reduceLT, Nat.reduceAdd, Zaj, Zah, Zaf, Zai, Zad, Zae, Zag, Zes, Zet, Zer, Za2, Za3, Za1, Zeh, Zei, Zeg, Zab, Zac, Zaa, Zep, Zeo, Zcq, Zcn, Zcp, Zco, Zcr, Za7, Za6, Zee, Zef, Zed, Zbf,
    Zbv, Zby, Zbi, Zb2, Zbn, Zbo, Zbs, Zbr, Zbt, Zbq, Zbm, Zb0, Zbx, Zbg, ev_t, ev_c, ev_f, Zcb, Zca, Zb8, Zb9, Zb6, Zb7, Zd7, Zd9, Zd8, Zcm, Zcl, Zd1, Zdz, Zd0,
    Zd6, Zd5, Zd4, Zd3, Zan, Zeu, Zbb, Zbc, Zba, Zcc, Zdr, Zdo, Zdq, Zdp, Zdc, Zdd, Zds, Zc2, Za4, Za8, Zen, Zdy, Zdw, Zdx,
    Zao, Za0, Zaw, Zar, Zax, Zav, Zau, Zat, Zas, Zay, Zaz, Zap, Zaq, Zak, Zdf, Zdg, Zdm, Zdn, Zc0, Zcy, Zcz, Zc1, Option.map_some, Option.map_none, List.cons_append, List.nil_append, List.append_nil, decide_true, decide_false, Bool.not_true, Bool.not_false, Bool.false_eq_true, if_true, if_false, ↓reduceIte, reduceCtorEq, Nat.reduceAdd, Nat.reduceEqDiff, Nat.reduceBEq, Za5, true_and, and_true, eq_self, List.getElem?_cons_zero, List.getElem?_cons_succ, h107, h0, Bool.not_true]

/-- name.isWhole -/
theorem isWhole_W (h35 : C.fns 35 = some (.ext xValid)) (hG : Good st) (s : List UInt8) (hs : s.length ≤ 9223372036854775807) : callW C 72 [.str s] st = some (.bool (signs s), st) := by
  rw [← CW_eq, CW_is H.h72 _ (by simp)]
  simp only [List.length_cons, List.length_nil, Nat.zero_add, Nat.reduceAdd, Nat.reduceSub, List.reduceReplicate, List.cons_append, List.nil_append]
  unfold k72b
  have hv : callW C 35 [.str s] st = some (.bool (Lib.validD s), st) := by
    rw [callW_ext h35]; simp [xValid, hs]
  have hb := hasBad_W H st hG s hs
  unfold signs
  cases h : Lib.validD s <;> rw [h] at hv
  · simp only [Zde, Zdj, Zdk, Zdl, Zdi, Zdh, Zbp, Zb1, Zbj, Zbu, Zbl, Zbz, Zbw, Zb4, Zb3, Zb5, Zdt, Zeb, Zbe, Zbd, Zam, Zal, Zcd, Zeq, Zew, Zev, Zdu, Zd2, Za9, Zce, Zcf, Zea, Zdv, Zcg, Zch, Zci, Zcj, Zck, Zem, Zbk, Zbh, Zec, Zej, Zek, Zel, Zc5, Zdb, Zc3, Zc8, Zc7, Zc6, Zc9, Zda, Zc4, Zct, Zcx, Zcs, Zcv, Zcu, Zcw, Option.bind_some, Option.bind_none, List.set_cons_zero, List.set_cons_succ, List.set_set, List.length_set, List.length_append, List.length_cons, List.length_nil, List.append_assoc, List.singleton_append, Nat.zero_add, Nat.add_zero, Nat.reduceLT, Nat.reduceAdd, Zaj, Zah, Zaf, Zai, Zad, Zae, Zag, Zes, Zet, Zer, Za2, Za3, Za1, Zeh, Zei, Zeg, Zab, Zac, Zaa, Zep, Zeo, Zcq, Zcn, Zcp, Zco, Zcr, Za7, Za6, Zee, Zef, Zed, Zbf,
    Zbv, Zby, Zbi, Zb2, Zbn, Zbo, Zbs, Zbr, Zbt, Zbq, Zbm, Zb0, Zbx, Zbg, ev_t, ev_c, ev_f, Zcb, Zca, Zb8, Zb9, Zb6, Zb7, Zd7, Zd9, Zd8, Zcm, Zcl, Zd1, Zdz, Zd0,
    Zd6, Zd5, Zd4, Zd3, Zan, Zeu, Zbb, Zbc, Zba, Zcc, Zdr, Zdo, Zdq, Zdp, Zdc, Zdd, Zds, Zc2, Za4, Za8, Zen, Zdy, Zdw, Zdx,
    Zao, Za0, Zaw, Zar, Zax, Zav, Zau, Zat, Zas, Zay, Zaz, Zap, Zaq, Zak, Zdf, Zdg, Zdm, Zdn, Zc0, Zcy, Zcz, Zc1, Option.map_some, Option.map_none, List.cons_append, List.nil_append, List.append_nil, decide_true, decide_false, Bool.not_true, Bool.not_false, Bool.false_eq_true, if_true, if_false, ↓reduceIte, reduceCtorEq, Nat.reduceAdd, Nat.reduceEqDiff, Nat.reduceBEq, Za5, true_and, and_true, eq_self, List.getElem?_cons_zero, List.getElem?_cons_succ, hv, Bool.false_and]
  · simp only [Zde, Zdj, Zdk, Zdl, Zdi, Zdh, Zbp, Zb1, Zbj, Zbu, Zbl, Zbz, Zbw, Zb4, Zb3, Zb5, Zdt, Zeb, Zbe, Zbd, Zam, Zal, Zcd, Zeq, Zew, Zev, Zdu, Zd2, Za9, Zce, Zcf, Zea, Zdv, Zcg, Zch, Zci, Zcj, Zck, Zem, Zbk, Zbh, Zec, Zej, Zek, Zel, Zc5, Zdb, Zc3, Zc8, Zc7, Zc6, Zc9, Zda, Zc4, Zct, Zcx, Zcs, Zcv, Zcu, Zcw, Option.bind_some, Option.bind_none, List.set_cons_zero, List.set_cons_succ, List.set_set, List.length_set, List.length_append, List.length_cons, List.length_nil, List.append_assoc, List.singleton_append, Nat.zero_add, Nat.add_zero, Nat.reduceLT, Nat.reduceAdd, Zaj, Zah, Zaf, Zai, Zad, Zae, Zag, Zes, Zet, Zer, Za2, Za3, Za1, Zeh, Zei, Zeg, Zab, Zac, Zaa, Zep, Zeo, Zcq, Zcn, Zcp, Zco, Zcr, Za7, Za6, Zee, Zef, Zed, Zbf,
    Zbv, Zby, Zbi, Zb2, Zbn, Zbo, Zbs, Zbr, Zbt, Zbq, Zbm, Zb0, Zbx, Zbg, ev_t, ev_c, ev_f, Zcb, Zca, Zb8, Zb9, Zb6, Zb7, Zd7, Zd9, Zd8, Zcm, Zcl, Zd1, Zdz, Zd0,
    Zd6, Zd5, Zd4, Zd3, Zan, Zeu, Zbb, Zbc, Zba, Zcc, Zdr, Zdo, Zdq, Zdp, Zdc, Zdd, Zds, Zc2, Za4, Za8, Zen, Zdy, Zdw, Zdx,
    Zao, Za0, Zaw, Zar, Zax, Zav, Zau, Zat, Zas, Zay, Zaz, Zap, Zaq, Zak, Zdf, Zdg, Zdm, Zdn, Zc0, Zcy, Zcz, Zc1, Option.map_some, Option.map_none, List.cons_append, List.nil_append, List.append_nil, decide_true, decide_false, Bool.not_true, Bool.not_false, Bool.false_eq_true, if_true, if_false, ↓reduceIte, reduceCtorEq, Nat.reduceAdd, Nat.reduceEqDiff, Nat.reduceBEq, Za5, true_and, and_true, eq_self, List.getElem?_cons_zero, List.getElem?_cons_succ, hv, hb, Bool.true_and, Bool.not_not]

theorem rep_W (h42 : C.fns 42 = some (.ext xReplace)) (s n : List UInt8) (c : UInt8) (hs : s.length < 4294967281) (hn : n.length ≤ 1000) (hne : ([c] == n) = false) : callW C 42 [.str s, .str [c], .str n] st = some (.str (rep c n s), st) := by
  rw [callW_ext h42]
  simp only [xReplace, List.length_cons, List.length_nil, Nat.zero_add, Nat.le_refl, hs, hn, and_self, if_true, replaceAll_one s n c hne]

/-- name.Escape, of a value. -/
theorem escape_W (h42 : C.fns 42 = some (.ext xReplace)) (s : List UInt8) (hs : s.length ≤ 1000) : callW C 23 [.str s, .bool true] st = some (.str (esc s), st) := by
  rw [← CW_eq, CW_is H.h23 _ (by simp)]
  simp only [List.length_cons, List.length_nil, Nat.zero_add, Nat.reduceAdd, Nat.reduceSub, List.reduceReplicate, List.cons_append, List.nil_append]
  unfold k23b
  have r := fun (s : List UInt8) (c : UInt8) (n : List UInt8) (h1 : s.length < 4294967281) (h2 : n.length ≤ 1000) (h3 : ([c] == n) = false) => rep_W H st h42 s n c h1 h2 h3
  have l1 := rep_len 38 [38, 97, 109, 112, 59] 6 (by simp) (by omega) s
  have l2 := rep_len 60 [38, 108, 116, 59] 6 (by simp) (by omega) (rep 38 [38, 97, 109, 112, 59] s)
  have l3 := rep_len 62 [38, 103, 116, 59] 6 (by simp) (by omega) (rep 60 [38, 108, 116, 59] (rep 38 [38, 97, 109, 112, 59] s))
  have l4 := rep_len 34 [38, 113, 117, 111, 116, 59] 6 (by simp) (by omega) (rep 62 [38, 103, 116, 59] (rep 60 [38, 108, 116, 59] (rep 38 [38, 97, 109, 112, 59] s)))
  have l5 := rep_len 9 [38, 35, 57, 59] 6 (by simp) (by omega) (rep 34 [38, 113, 117, 111, 116, 59] (rep 62 [38, 103, 116, 59] (rep 60 [38, 108, 116, 59] (rep 38 [38, 97, 109, 112, 59] s))))
  have l6 := rep_len 10 [38, 35, 49, 48, 59] 6 (by simp) (by omega) (rep 9 [38, 35, 57, 59] (rep 34 [38, 113, 117, 111, 116, 59] (rep 62 [38, 103, 116, 59] (rep 60 [38, 108, 116, 59] (rep 38 [38, 97, 109, 112, 59] s)))))
  have a1 := r s 38 [38, 97, 109, 112, 59] (by omega) (by simp) rfl
  have a2 := r (rep 38 [38, 97, 109, 112, 59] s) 60 [38, 108, 116, 59] (by omega) (by simp) rfl
  have a3 := r (rep 60 [38, 108, 116, 59] (rep 38 [38, 97, 109, 112, 59] s)) 62 [38, 103, 116, 59] (by omega) (by simp) rfl
  have a4 := r (rep 62 [38, 103, 116, 59] (rep 60 [38, 108, 116, 59] (rep 38 [38, 97, 109, 112, 59] s))) 34 [38, 113, 117, 111, 116, 59] (by omega) (by simp) rfl
  have a5 := r (rep 34 [38, 113, 117, 111, 116, 59] (rep 62 [38, 103, 116, 59] (rep 60 [38, 108, 116, 59] (rep 38 [38, 97, 109, 112, 59] s)))) 9 [38, 35, 57, 59] (by omega) (by simp) rfl
  have a6 := r (rep 9 [38, 35, 57, 59] (rep 34 [38, 113, 117, 111, 116, 59] (rep 62 [38, 103, 116, 59] (rep 60 [38, 108, 116, 59] (rep 38 [38, 97, 109, 112, 59] s))))) 10 [38, 35, 49, 48, 59] (by omega) (by simp) rfl
  have a7 := r (rep 10 [38, 35, 49, 48, 59] (rep 9 [38, 35, 57, 59] (rep 34 [38, 113, 117, 111, 116, 59] (rep 62 [38, 103, 116, 59] (rep 60 [38, 108, 116, 59] (rep 38 [38, 97, 109, 112, 59] s)))))) 13 [38, 35, 49, 51, 59] (by omega) (by simp) rfl
  simp only [Zde, Zdj, Zdk, Zdl, Zdi, Zdh, Zbp, Zb1, Zbj, Zbu, Zbl, Zbz, Zbw, Zb4, Zb3, Zb5, Zdt, Zeb, Zbe, Zbd, Zam, Zal, Zcd, Zeq, Zew, Zev, Zdu, Zd2, Za9, Zce, Zcf, Zea, Zdv, Zcg, Zch, Zci, Zcj, Zck, Zem, Zbk, Zbh, Zec, Zej, Zek, Zel, Zc5, Zdb, Zc3, Zc8, Zc7, Zc6, Zc9, Zda, Zc4, Zct, Zcx, Zcs, Zcv, Zcu, Zcw, Option.bind_some, Option.bind_none, List.set_cons_zero, List.set_cons_succ, List.set_set, List.length_set, List.length_append, List.length_cons, List.length_nil, List.append_assoc, List.singleton_append, Nat.zero_add, Nat.add_zero, Nat.reduceLT, Nat.reduceAdd, Zaj, Zah, Zaf, Zai, Zad, Zae, Zag, Zes, Zet, Zer, Za2, Za3, Za1, Zeh, Zei, Zeg, Zab, Zac, Zaa, Zep, Zeo, Zcq, Zcn, Zcp, Zco, Zcr, Za7, Za6, Zee, Zef, Zed, Zbf,
    Zbv, Zby, Zbi, Zb2, Zbn, Zbo, Zbs, Zbr, Zbt, Zbq, Zbm, Zb0, Zbx, Zbg, ev_t, ev_c, ev_f, Zcb, Zca, Zb8, Zb9, Zb6, Zb7, Zd7, Zd9, Zd8, Zcm, Zcl, Zd1, Zdz, Zd0,
    Zd6, Zd5, Zd4, Zd3, Zan, Zeu, Zbb, Zbc, Zba, Zcc, Zdr, Zdo, Zdq, Zdp, Zdc, Zdd, Zds, Zc2, Za4, Za8, Zen, Zdy, Zdw, Zdx,
    Zao, Za0, Zaw, Zar, Zax, Zav, Zau, Zat, Zas, Zay, Zaz, Zap, Zaq, Zak, Zdf, Zdg, Zdm, Zdn, Zc0, Zcy, Zcz, Zc1, Option.map_some, Option.map_none, List.cons_append, List.nil_append, List.append_nil, decide_true, decide_false, Bool.not_true, Bool.not_false, Bool.false_eq_true, if_true, if_false, ↓reduceIte, reduceCtorEq, Nat.reduceAdd, Nat.reduceEqDiff, Nat.reduceBEq, Za5, true_and, and_true, eq_self, List.getElem?_cons_zero, List.getElem?_cons_succ, a1, a2, a3, a4, a5, a6, a7, esc_reps]
end
end Go.Eng

