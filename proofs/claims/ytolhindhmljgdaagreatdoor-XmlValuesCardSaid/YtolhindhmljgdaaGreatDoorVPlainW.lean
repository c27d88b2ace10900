/-
  Texts of a proof. Conditions: none.
-/
import Derived.Test.YtolhindhmljgdaaGreatDoorVPlainU
set_option linter.unusedVariables false
set_option linter.unusedSimpArgs false
set_option linter.unnecessarySimpa false
set_option linter.unusedSectionVars false
namespace Go.Eng
open Go
open Go.Eng renaming WO_guard → Zaa, WO_nil → Zab, WO_op → Zac, W_block → Zad, W_cond → Zae, W_exit → Zaf, W_reg → Zag, W_ret → Zah, W_seq → Zai, W_skip → Zaj, aIndexAddr_sl → Zak, agg_all → Zal, agg_one → Zam, binE_some → Zan, bin_add → Zao, bin_beq → Zap, bin_bne → Zaq, bin_eql → Zar, bin_geq → Zas, bin_gtr → Zat, bin_leq → Zau, bin_lss → Zav, bin_mul → Zaw, bin_neq → Zax, bin_seq → Zay, bin_sne → Zaz, bin_sub → Za0, blockQ_exit → Za1, blockQ_norm → Za2, blockQ_ret → Za3, callE_f → Za4, cast0 → Za5, condQ_false → Za6, condQ_true → Za7, consO_some → Za8, consP_some → Za9, convE_bytes → Zba, convE_int → Zbb, convE_same → Zbc, cut_four → Zbd, cut_one → Zbe, endQ_some → Zbf, evOp_alloc → Zbg, evOp_append → Zbh, evOp_bin → Zbi, evOp_box → Zbj, evOp_bslice → Zbk, evOp_build → Zbl, evOp_callE → Zbm, evOp_conv → Zbn, evOp_ext → Zbo, evOp_faddr → Zbp, evOp_iaddr → Zbq, evOp_ixs → Zbr, evOp_len → Zbs, evOp_load → Zbt, evOp_mkfn → Zbu, evOp_mv → Zbv, evOp_next → Zbw, evOp_nilchk → Zbx, evOp_pick → Zby, evOp_range → Zbz, evOp_slice → Zb0, evOp_store → Zb1, evOp_un → Zb2, evParts_cons → Zb3, evParts_nil → Zb4, evRes_cell → Zb5, evRes_nil → Zb6, evRes_tmp → Zb7, evo_none → Zb8, evo_some → Zb9, evs_cons → Zca, evs_nil → Zcb, extE_tup → Zcc, faddrE_ptr → Zcd, fillA_nil → Zce, fillA_one → Zcf, get_new0 → Zcg, get_new1 → Zch, get_new2 → Zci, get_new3 → Zcj, get_new4 → Zck, get_succ → Zcl, get_zero → Zcm, guardQ_ff → Zcn, guardQ_ft → Zco, guardQ_tf → Zcp, guardQ_tt → Zcq, guardQ_undef → Zcr, hi_bool → Zcs, hi_int → Zct, hi_nilp → Zcu, hi_nils → Zcv, hi_sl → Zcw, hi_str → Zcx, his_bool → Zcy, his_int → Zcz, his_nil → Zc0, his_str → Zc1, iaddrE_some → Zc2, isCell_bool → Zc3, isCell_fn → Zc4, isCell_int → Zc5, isCell_nilp → Zc6, isCell_nils → Zc7, isCell_ptr → Zc8, isCell_sl → Zc9, isCell_slc → Zda, isCell_str → Zdb, ixsE_str → Zdc, ixsE_zero → Zdd, lays_load → Zde, leave0 → Zdf, leave_bool → Zdg, leave_int → Zdh, leave_nil → Zdi, leave_set0 → Zdj, leave_setb → Zdk, leave_setn → Zdl, leave_sets → Zdm, leave_str → Zdn, leave_tup → Zdo, lenE_nils → Zdp, lenE_sl → Zdq, lenE_slc → Zdr, lenE_str → Zds, loadE_one → Zdt, loadE_ptr → Zdu, mkfnE_some → Zdv, nextE_ptr → Zdw, nilE_cptr → Zdx, nilE_fn → Zdy, nilE_ptr → Zdz, oneOf_more → Zd0, oneOf_nil → Zd1, oneOf_one → Zd2, partsE_some → Zd3, pickE_false → Zd4, pickE_true → Zd5, prE_none → Zd6, prE_some → Zd7, put_none → Zd8, put_succ → Zd9, put_zero → Zea, rangeE_str → Zeb, rdE_cells → Zec, rep_one → Zed, retQ_exit → Zee, retQ_norm → Zef, retQ_ret → Zeg, roundQ_exit → Zeh, roundQ_norm → Zei, roundQ_ret → Zej, set_new0 → Zek, set_new1 → Zel, set_new2 → Zem, set_new3 → Zen, sliceE_some → Zeo, stepQ_none → Zep, stepQ_some → Zeq, storeE_ptr → Zer, thenK_exit → Zes, thenK_norm → Zet, thenK_ret → Zeu, unE_not → Zev, wrE_agg4 → Zew, wrE_one → Zex
set_option maxHeartbeats 4000000
set_option maxRecDepth 8000
set_option linter.unusedSimpArgs false
set_option linter.unusedVariables false
set_option linter.unusedSectionVars false

/-- A builder with something in it, and rows behind. -/
def bM (base : St) (g : Nat) (w : List UInt8) (l : List Row) : St := base ++ .cells [.ptr base.length 0 0, .slc (base.length + 1) 0 w.length w.length g 1 false] 0 (base.length + 2) false 47 :: .cells (bytesV w) g 0 false 5 :: l
theorem bM_push (base : St) (g : Nat) (w : List UInt8) (l : List Row) (a : Row) : bM base g w l ++ [a] = bM base g w (l ++ [a]) := by simp [bM]
theorem bM_of (base : St) (g : Nat) (w : List UInt8) (h : 0 < w.length) : base ++ bR base.length true g w = bM base g w [] := by
  cases w with
  | nil => simp at h
  | cons c l => rfl

theorem app_tail (base : St) (R0 : Row) (w t : List UInt8) (g : Nat) (l : List Row) (hw : 0 < w.length) (ht : 0 < t.length) (hl : w.length + t.length ≤ 1000000) :
    aAppend (base ++ R0 :: .cells (bytesV w) g 0 false 5 :: l) 5 1 1 (.slc (base.length + 1) 0 w.length w.length g 1 false) (bytesV t) t.length = some (.slc (base.length + 1) 0 (w ++ t).length (w ++ t).length (g + 1) 1 false, base ++ R0 :: .cells (bytesV (w ++ t)) (g + 1) 0 false 5 :: l) := by
  unfold aAppend
  rw [if_neg (by omega), if_neg (by simp [bytesV_len, bytesV_cells])]
  have h1 : (w.length + t.length + 1000) * (1 + 1) ≤ small := by unfold small; omega
  have h2 : ¬ w.length + t.length ≤ w.length := by omega
  simp only [ne_eq, not_true_eq_false, h1, or_self, if_false, Zch, bytesV_len, Nat.zero_add, Nat.mul_one, Nat.lt_irrefl, gt_iff_lt, h2, Bool.false_eq_true, and_self, if_true, Zel, List.drop_zero, bytesV_app, bytesV_his, Nat.max_self, List.length_append]

theorem loadE_agg2 (a b : AV) (st : St) : loadE true 2 (some (.cptr [a, b])) st = some (.agg [a, b], st) := rfl

section
variable {C : Ctx} (H : Codes C)
include H

theorem write_tail (h61 : C.fns 61 = some (.ext xNoEscape)) (base : St) (g : Nat) (w t : List UInt8) (l : List Row) (hw : 0 < w.length) (ht : 0 < t.length) (hl : w.length + t.length ≤ 1000000) :
    callW C 22 [.ptr base.length 0 0, .str t] (bM base g w l) = some (.tup [.int .i64 t.length, .nili], bM base (g + 1) (w ++ t) l) := by
  have hck : callW C 41 [.ptr base.length 0 0] (bM base g w l) = some (.tup [], bM base g w l) := check_again H _ _ _ _ Zcg
  have h1 := app_tail base (.cells [.ptr base.length 0 0, .slc (base.length + 1) 0 w.length w.length g 1 false] 0 (base.length + 2) false 47) w t g l hw ht hl
  rw [write_gen H base.length (base.length + 2) _ _ t _ _ _ hck Zcg h1 Zcg (by simp [AV.isCell])]
  have : max (base.length + 2) (base.length + 1 + 1) = base.length + 2 := by omega
  simp only [bM, Zek, hi_slc, this]
  rw [leave_keep (by simp) (by simp [AV.hi, AV.his])]

theorem string_tail (base : St) (g : Nat) (w : List UInt8) (l : List Row) (hw : 0 < w.length) (hl : w.length ≤ 1000000) :
    ∃ l', callW C 24 [.ptr base.length 0 0] (bM base g w l) = some (.str w, base ++ l') ∧ ∀ (r : Nat) , r < base.length → (base ++ l')[r]? = base[r]? := by
  refine ⟨.cells [.ptr base.length 0 0, .slc (base.length + 1) 0 w.length w.length g 1 false] 0 (base.length + 2) false 47 :: .cells (bytesV w) g 0 true 5 :: l, ?_, fun r hr => get_old hr⟩
  have us := us_bytes H (bM base g w l) (base.length + 1) g 0 w hw hl Zch
  have se : (bM base g w l).set (base.length + 1) (.cells (bytesV w) g 0 true 5) = base ++ .cells [.ptr base.length 0 0, .slc (base.length + 1) 0 w.length w.length g 1 false] 0 (base.length + 2) false 47 :: .cells (bytesV w) g 0 true 5 :: l := Zel
  rw [se] at us
  have hb : (bM base g w l)[base.length]? = some (.cells [.ptr base.length 0 0, .slc (base.length + 1) 0 w.length w.length g 1 false] 0 (base.length + 2) false 47) := Zcg
  have hlen : (bM base g w l).length = (base ++ .cells [.ptr base.length 0 0, .slc (base.length + 1) 0 w.length w.length g 1 false] 0 (base.length + 2) false 47 :: .cells (bytesV w) g 0 true 5 :: l).length := by simp [bM]
  obtain ⟨Z, hZ⟩ : ∃ Z, base ++ .cells [.ptr base.length 0 0, .slc (base.length + 1) 0 w.length w.length g 1 false] 0 (base.length + 2) false 47 :: .cells (bytesV w) g 0 true 5 :: l = Z := ⟨_, rfl⟩
  rw [hZ] at us hlen ⊢
  obtain ⟨S, hS⟩ : ∃ S, bM base g w l = S := ⟨_, rfl⟩
  rw [hS] at us hb hlen ⊢
  obtain ⟨n, hn⟩ : ∃ n, w.length = n := ⟨_, rfl⟩
  rw [hn] at us hb hw
  have sd : ∀ st : St, sdE (some (.slc (base.length + 1) 0 n n g 1 false)) st = some (.ptr (base.length + 1) 0 g, st) := fun st => sdE_slc _ _ _ _ _ _ _ hw
  rw [← CW_eq, CW_is H.h24 _ (by simp)]
  simp only [List.length_cons, List.length_nil, Nat.zero_add, Nat.reduceAdd, Nat.reduceSub, List.reduceReplicate, List.cons_append, List.nil_append]
  unfold k24b
  simp only [W_draw, WH_op, WH_nil, histQ_eff, histQ_pure, Zdf, Zdk, Zdl, Zdm, Zdj, Zdi, Zbp, Zb1, Zbj, Zbu, Zbl, Zbz, Zbw, Zb4, Zb3, Zb5, Zdu, Zec, Zbe, Zbd, Zam, Zal, Zcd, Zer, Zex, Zew, Zdv, Zd3, Za9, Zce, Zcf, Zeb, Zdw, Zcg, Zch, Zci, Zcj, Zck, Zen, Zbk, Zbh, Zed, Zek, Zel, Zem, Zc5, Zdb, Zc3, Zc8, Zc7, Zc6, Zc9, Zda, Zc4, Zct, Zcx, Zcs, Zcv, Zcu, Zcw, Option.bind_some, Option.bind_none, List.set_cons_zero, List.set_cons_succ, List.set_set, List.length_set, List.length_append, List.length_cons, List.length_nil, List.append_assoc, List.singleton_append, Nat.zero_add, Nat.add_zero, Nat.reduceLT, Nat.reduceAdd, Zaj, Zah, Zaf, Zai, Zad, Zae, Zag, Zet, Zeu, Zes, Za2, Za3, Za1, Zei, Zej, Zeh, Zab, Zac, Zaa, Zeq, Zep, Zcq, Zcn, Zcp, Zco, Zcr, Za7, Za6, Zef, Zeg, Zee, Zbf,
    Zbv, Zby, Zbi, Zb2, Zbn, Zbo, Zbs, Zbr, Zbt, Zbq, Zbm, Zb0, Zbx, Zbg, ev_t, ev_c, ev_f, Zcb, Zca, Zb8, Zb9, Zb6, Zb7, Zd8, Zea, Zd9, Zcm, Zcl, Zd2, Zd0, Zd1,
    Zd7, Zd6, Zd5, Zd4, Zan, Zev, Zbb, Zbc, Zba, Zcc, Zds, Zdp, Zdr, Zdq, Zdc, Zdd, Zdt, Zc2, Za4, Za8, Zeo, Zdz, Zdx, Zdy,
    Zao, Za0, Zaw, Zar, Zax, Zav, Zau, Zat, Zas, Zay, Zaz, Zap, Zaq, Zak, Zdg, Zdh, Zdn, Zdo, Zc0, Zcy, Zcz, Zc1, Option.map_some, Option.map_none, List.cons_append, List.nil_append, List.append_nil, decide_true, decide_false, Bool.not_true, Bool.not_false, Bool.false_eq_true, if_true, if_false, ↓reduceIte, reduceCtorEq, Nat.reduceAdd, Nat.reduceEqDiff, Nat.reduceBEq, Za5, true_and, and_true, eq_self, List.getElem?_cons_zero, List.getElem?_cons_succ, eff_mv, lays_mv, eff_pick, lays_pick, eff_build, lays_build, eff_load, Zde, eff_nilchk, lays_nilchk, eff_faddr, lays_faddr, eff_field, lays_field, eff_bin, lays_bin, eff_un, lays_un, eff_conv, lays_conv, eff_mkfn, lays_mkfn, eff_mkif, lays_mkif, eff_slice, lays_slice, eff_iaddr, lays_iaddr, eff_ixs, lays_ixs, eff_extract, lays_extract, eff_len, lays_len, eff_alloc, eff_box, eff_store, eff_call, eff_append, hb, evOp_sdata, sd, evOp_ustr, eff_sdata, lays_sdata, eff_ustr, Zdr, us]
  refine ⟨?_, ?_⟩
  · simp only [List.all_cons, List.all_nil, Bool.and_true, again_nil, Bool.true_and, Bool.and_eq_true]
    refine ⟨again_one _ _ _ _ _ _ _ rfl (by simp only [Env.mix, Zdf, Zdk, Zdl, Zdm, Zdj, Zdi, Zbp, Zb1, Zbj, Zbu, Zbl, Zbz, Zbw, Zb4, Zb3, Zb5, Zdu, Zec, Zbe, Zbd, Zam, Zal, Zcd, Zer, Zex, Zew, Zdv, Zd3, Za9, Zce, Zcf, Zeb, Zdw, Zcg, Zch, Zci, Zcj, Zck, Zen, Zbk, Zbh, Zed, Zek, Zel, Zem, Zc5, Zdb, Zc3, Zc8, Zc7, Zc6, Zc9, Zda, Zc4, Zct, Zcx, Zcs, Zcv, Zcu, Zcw, Option.bind_some, Option.bind_none, List.set_cons_zero, List.set_cons_succ, List.set_set, List.length_set, List.length_append, List.length_cons, List.length_nil, List.append_assoc, List.singleton_append, Nat.zero_add, Nat.add_zero, Nat.reduceLT, Nat.reduceAdd, Zaj, Zah, Zaf, Zai, Zad, Zae, Zag, Zet, Zeu, Zes, Za2, Za3, Za1, Zei, Zej, Zeh, Zab, Zac, Zaa, Zeq, Zep, Zcq, Zcn, Zcp, Zco, Zcr, Za7, Za6, Zef, Zeg, Zee, Zbf,
    Zbv, Zby, Zbi, Zb2, Zbn, Zbo, Zbs, Zbr, Zbt, Zbq, Zbm, Zb0, Zbx, Zbg, ev_t, ev_c, ev_f, Zcb, Zca, Zb8, Zb9, Zb6, Zb7, Zd8, Zea, Zd9, Zcm, Zcl, Zd2, Zd0, Zd1,
    Zd7, Zd6, Zd5, Zd4, Zan, Zev, Zbb, Zbc, Zba, Zcc, Zds, Zdp, Zdr, Zdq, Zdc, Zdd, Zdt, Zc2, Za4, Za8, Zeo, Zdz, Zdx, Zdy,
    Zao, Za0, Zaw, Zar, Zax, Zav, Zau, Zat, Zas, Zay, Zaz, Zap, Zaq, Zak, Zdg, Zdh, Zdn, Zdo, Zc0, Zcy, Zcz, Zc1, Option.map_some, Option.map_none, List.cons_append, List.nil_append, List.append_nil, decide_true, decide_false, Bool.not_true, Bool.not_false, Bool.false_eq_true, if_true, if_false, ↓reduceIte, reduceCtorEq, Nat.reduceAdd, Nat.reduceEqDiff, Nat.reduceBEq, Za5, true_and, and_true, eq_self, List.getElem?_cons_zero, List.getElem?_cons_succ, hb] <;> rfl) (Zde _ _ _) rfl, again_one _ _ _ _ _ _ _ rfl (by simp only [Env.mix, Zdf, Zdk, Zdl, Zdm, Zdj, Zdi, Zbp, Zb1, Zbj, Zbu, Zbl, Zbz, Zbw, Zb4, Zb3, Zb5, Zdu, Zec, Zbe, Zbd, Zam, Zal, Zcd, Zer, Zex, Zew, Zdv, Zd3, Za9, Zce, Zcf, Zeb, Zdw, Zcg, Zch, Zci, Zcj, Zck, Zen, Zbk, Zbh, Zed, Zek, Zel, Zem, Zc5, Zdb, Zc3, Zc8, Zc7, Zc6, Zc9, Zda, Zc4, Zct, Zcx, Zcs, Zcv, Zcu, Zcw, Option.bind_some, Option.bind_none, List.set_cons_zero, List.set_cons_succ, List.set_set, List.length_set, List.length_append, List.length_cons, List.length_nil, List.append_assoc, List.singleton_append, Nat.zero_add, Nat.add_zero, Nat.reduceLT, Nat.reduceAdd, Zaj, Zah, Zaf, Zai, Zad, Zae, Zag, Zet, Zeu, Zes, Za2, Za3, Za1, Zei, Zej, Zeh, Zab, Zac, Zaa, Zeq, Zep, Zcq, Zcn, Zcp, Zco, Zcr, Za7, Za6, Zef, Zeg, Zee, Zbf,
    Zbv, Zby, Zbi, Zb2, Zbn, Zbo, Zbs, Zbr, Zbt, Zbq, Zbm, Zb0, Zbx, Zbg, ev_t, ev_c, ev_f, Zcb, Zca, Zb8, Zb9, Zb6, Zb7, Zd8, Zea, Zd9, Zcm, Zcl, Zd2, Zd0, Zd1,
    Zd7, Zd6, Zd5, Zd4, Zan, Zev, Zbb, Zbc, Zba, Zcc, Zds, Zdp, Zdr, Zdq, Zdc, Zdd, Zdt, Zc2, Za4, Za8, Zeo, Zdz, Zdx, Zdy,
    Zao, Za0, Zaw, Zar, Zax, Zav, Zau, Zat, Zas, Zay, Zaz, Zap, Zaq, Zak, Zdg, Zdh, Zdn, Zdo, Zc0, Zcy, Zcz, Zc1, Option.map_some, Option.map_none, List.cons_append, List.nil_append, List.append_nil, decide_true, decide_false, Bool.not_true, Bool.not_false, Bool.false_eq_true, if_true, if_false, ↓reduceIte, reduceCtorEq, Nat.reduceAdd, Nat.reduceEqDiff, Nat.reduceBEq, Za5, true_and, and_true, eq_self, List.getElem?_cons_zero, List.getElem?_cons_succ, hb] <;> rfl) (Zde _ _ _) rfl, again_one _ _ _ _ _ _ _ rfl (by simp only [Env.mix, Zdf, Zdk, Zdl, Zdm, Zdj, Zdi, Zbp, Zb1, Zbj, Zbu, Zbl, Zbz, Zbw, Zb4, Zb3, Zb5, Zdu, Zec, Zbe, Zbd, Zam, Zal, Zcd, Zer, Zex, Zew, Zdv, Zd3, Za9, Zce, Zcf, Zeb, Zdw, Zcg, Zch, Zci, Zcj, Zck, Zen, Zbk, Zbh, Zed, Zek, Zel, Zem, Zc5, Zdb, Zc3, Zc8, Zc7, Zc6, Zc9, Zda, Zc4, Zct, Zcx, Zcs, Zcv, Zcu, Zcw, Option.bind_some, Option.bind_none, List.set_cons_zero, List.set_cons_succ, List.set_set, List.length_set, List.length_append, List.length_cons, List.length_nil, List.append_assoc, List.singleton_append, Nat.zero_add, Nat.add_zero, Nat.reduceLT, Nat.reduceAdd, Zaj, Zah, Zaf, Zai, Zad, Zae, Zag, Zet, Zeu, Zes, Za2, Za3, Za1, Zei, Zej, Zeh, Zab, Zac, Zaa, Zeq, Zep, Zcq, Zcn, Zcp, Zco, Zcr, Za7, Za6, Zef, Zeg, Zee, Zbf,
    Zbv, Zby, Zbi, Zb2, Zbn, Zbo, Zbs, Zbr, Zbt, Zbq, Zbm, Zb0, Zbx, Zbg, ev_t, ev_c, ev_f, Zcb, Zca, Zb8, Zb9, Zb6, Zb7, Zd8, Zea, Zd9, Zcm, Zcl, Zd2, Zd0, Zd1,
    Zd7, Zd6, Zd5, Zd4, Zan, Zev, Zbb, Zbc, Zba, Zcc, Zds, Zdp, Zdr, Zdq, Zdc, Zdd, Zdt, Zc2, Za4, Za8, Zeo, Zdz, Zdx, Zdy,
    Zao, Za0, Zaw, Zar, Zax, Zav, Zau, Zat, Zas, Zay, Zaz, Zap, Zaq, Zak, Zdg, Zdh, Zdn, Zdo, Zc0, Zcy, Zcz, Zc1, Option.map_some, Option.map_none, List.cons_append, List.nil_append, List.append_nil, decide_true, decide_false, Bool.not_true, Bool.not_false, Bool.false_eq_true, if_true, if_false, ↓reduceIte, reduceCtorEq, Nat.reduceAdd, Nat.reduceEqDiff, Nat.reduceBEq, Za5, true_and, and_true, eq_self, List.getElem?_cons_zero, List.getElem?_cons_succ, Zdr] <;> rfl) (lays_len _ _) rfl⟩
  · simp only [Zdf, Zdk, Zdl, Zdm, Zdj, Zdi, Zbp, Zb1, Zbj, Zbu, Zbl, Zbz, Zbw, Zb4, Zb3, Zb5, Zdu, Zec, Zbe, Zbd, Zam, Zal, Zcd, Zer, Zex, Zew, Zdv, Zd3, Za9, Zce, Zcf, Zeb, Zdw, Zcg, Zch, Zci, Zcj, Zck, Zen, Zbk, Zbh, Zed, Zek, Zel, Zem, Zc5, Zdb, Zc3, Zc8, Zc7, Zc6, Zc9, Zda, Zc4, Zct, Zcx, Zcs, Zcv, Zcu, Zcw, Option.bind_some, Option.bind_none, List.set_cons_zero, List.set_cons_succ, List.set_set, List.length_set, List.length_append, List.length_cons, List.length_nil, List.append_assoc, List.singleton_append, Nat.zero_add, Nat.add_zero, Nat.reduceLT, Nat.reduceAdd, Zaj, Zah, Zaf, Zai, Zad, Zae, Zag, Zet, Zeu, Zes, Za2, Za3, Za1, Zei, Zej, Zeh, Zab, Zac, Zaa, Zeq, Zep, Zcq, Zcn, Zcp, Zco, Zcr, Za7, Za6, Zef, Zeg, Zee, Zbf,
    Zbv, Zby, Zbi, Zb2, Zbn, Zbo, Zbs, Zbr, Zbt, Zbq, Zbm, Zb0, Zbx, Zbg, ev_t, ev_c, ev_f, Zcb, Zca, Zb8, Zb9, Zb6, Zb7, Zd8, Zea, Zd9, Zcm, Zcl, Zd2, Zd0, Zd1,
    Zd7, Zd6, Zd5, Zd4, Zan, Zev, Zbb, Zbc, Zba, Zcc, Zds, Zdp, Zdr, Zdq, Zdc, Zdd, Zdt, Zc2, Za4, Za8, Zeo, Zdz, Zdx, Zdy,
    Zao, Za0, Zaw, Zar, Zax, Zav, Zau, Zat, Zas, Zay, Zaz, Zap, Zaq, Zak, Zdg, Zdh, Zdn, Zdo, Zc0, Zcy, Zcz, Zc1, Option.map_some, Option.map_none, List.cons_append, List.nil_append, List.append_nil, decide_true, decide_false, Bool.not_true, Bool.not_false, Bool.false_eq_true, if_true, if_false, ↓reduceIte, reduceCtorEq, Nat.reduceAdd, Nat.reduceEqDiff, Nat.reduceBEq, Za5, true_and, and_true, eq_self, List.getElem?_cons_zero, List.getElem?_cons_succ]
    rw [leave_keep hlen.symm (by simp [AV.hi])]
    exact ⟨rfl, rfl⟩

def attrT (p : List UInt8 × List UInt8) : List UInt8 := 32 :: (p.1 ++ 61 :: 34 :: (esc p.2 ++ [34]))
def attrC (p : List UInt8 × List UInt8) : List AV := [.str p.1, .str p.2]

theorem printA_loop (h61 : C.fns 61 = some (.ext xNoEscape)) (h42 : C.fns 42 = some (.ext xReplace)) (base : St) (Q : Ex → Env → St → Prop) (ex : Bool) (as : List (List UInt8 × List UInt8)) (hlen : as.length ≤ 1000) (hall : ∀ p ∈ as, p.1.length ≤ 100 ∧ p.2.length ≤ 1000) (E1 : AV) :
    ∀ (d i : Nat) (g : Nat) (w : List UInt8) (l : List Row) (env : Env), i + d = as.length → 0 < w.length → w.length + d * 10000 ≤ 900000 → env.length = 54 → env.get 1 = E1 → env.get 3 = .ptr base.length 0 0 → env.get 13 = .sl 2 (as.map attrC) ex → env.get 14 = .int .i64 as.length → env.get 15 = .int .i64 i →
    (∀ (e : Env) (g' : Nat) (l' : List Row), e.length = 54 → e.get 1 = E1 → e.get 3 = .ptr base.length 0 0 → Q (.exit 0) e (bM base g' (w ++ (as.drop i).flatMap attrT) l')) → W C k13l0 env (bM base g w l) Q
  | d, i, g, w, l, env, hd, hw, hwl, hl, h1, h3, h13, h14, h15, hq => by
    rw [W_loop' (show k13l0 = .loop k13l0b from rfl)]
    unfold k13l0b
    have hi : (↑i : Int) < ↑as.length ↔ i < as.length := by omega
    by_cases hlt : i < as.length
    · obtain ⟨d, rfl⟩ : ∃ k, d = k + 1 := ⟨d - 1, by omega⟩
      obtain ⟨p, hp⟩ : ∃ p, as[i] = p := ⟨_, rfl⟩
      obtain ⟨n, v⟩ := p
      have hget : (as.map attrC)[i]? = some [.str n, .str v] := by simp [hlt, hp, attrC]
      have hb := hall (n, v) (by rw [← hp]; exact List.getElem_mem _)
      simp only at hb
      have hel := esc_len v
      have hdrop : (as.drop i).flatMap attrT = attrT (n, v) ++ (as.drop (i + 1)).flatMap attrT := by
        rw [List.drop_eq_getElem_cons hlt, hp]; rfl
      have hwr : IntKind.wrap .i64 ((i : Int) + 1) = ((i + 1 : Nat) : Int) := by rw [wrap_i64 (by omega) (by omega)]; omega
      have wr2 : ∀ (st : St) (r : Nat), wrE (some (.cells [.str [], .str []] 0 0 false 41)) r 0 0 2 (.agg [.str n, .str v]) st = some (undefA, st.set r (.cells [.str n, .str v] 0 0 false 41)) := fun st r => by
        rw [wrE_all [.str [], .str []] [.str n, .str v] r 0 0 41 2 st rfl rfl (by simp [AV.isCell])]
        simp [AV.his, AV.hi]
      obtain ⟨S, hS⟩ : ∃ S, bM base g w l = S := ⟨_, rfl⟩
      obtain ⟨A, hA⟩ : ∃ A : Row, A = .cells [.str n, .str v] 0 0 false 41 := ⟨_, rfl⟩
      have hSA : S ++ [A] = bM base g w (l ++ [A]) := by rw [← hS, bM_push]
      have hrd0 : ∀ st : St, rdE (some A) 0 0 1 false st = some (.str n, st) := fun st => by rw [hA]; rfl
      have hrd1 : ∀ st : St, rdE (some A) 1 0 1 false st = some (.str v, st) := fun st => by rw [hA]; rfl
      have hes := escape_W H (S ++ [A]) h42 v hb.2
      have hwt := write_tail H h61 base g w (attrT (n, v)) (l ++ [A]) hw (by simp [attrT]) (by simp [attrT]; omega)
      rw [← hSA] at hwt
      have a1 : ∀ st : St, aBin st .add .s (.str [32]) (.str n) = some (.str ([32] ++ n)) := fun st => bin_sadd _ _ _ (by simp; omega)
      have a2 : ∀ st : St, aBin st .add .s (.str ([32] ++ n)) (.str [61, 34]) = some (.str ([32] ++ n ++ [61, 34])) := fun st => bin_sadd _ _ _ (by simp; omega)
      have a3 : ∀ st : St, aBin st .add .s (.str ([32] ++ n ++ [61, 34])) (.str (esc v)) = some (.str ([32] ++ n ++ [61, 34] ++ esc v)) := fun st => bin_sadd _ _ _ (by simp; omega)
      have a4 : ∀ st : St, aBin st .add .s (.str ([32] ++ n ++ [61, 34] ++ esc v)) (.str [34]) = some (.str (attrT (n, v))) := fun st => by
        rw [bin_sadd _ _ _ (by simp; omega)]; simp [attrT]
      obtain ⟨T1, hT1⟩ : ∃ T, [32] ++ n = T := ⟨_, rfl⟩
      rw [hT1] at a2 a3 a4
      simp only [hT1] at a1
      obtain ⟨T2, hT2⟩ : ∃ T, T1 ++ [61, 34] = T := ⟨_, rfl⟩
      simp only [hT2] at a2 a3 a4
      obtain ⟨T3, hT3⟩ : ∃ T, T2 ++ esc v = T := ⟨_, rfl⟩
      simp only [hT3] at a3 a4
      obtain ⟨T4, hT4⟩ : ∃ T, attrT (n, v) = T := ⟨_, rfl⟩
      simp only [hT4] at a4 hwt hdrop
      simp only [Zdf, Zdk, Zdl, Zdm, Zdj, Zdi, Zbp, Zb1, Zbj, Zbu, Zbl, Zbz, Zbw, Zb4, Zb3, Zb5, Zdu, Zec, Zbe, Zbd, Zam, Zal, Zcd, Zer, Zex, Zew, Zdv, Zd3, Za9, Zce, Zcf, Zeb, Zdw, Zcg, Zch, Zci, Zcj, Zck, Zen, Zbk, Zbh, Zed, Zek, Zel, Zem, Zc5, Zdb, Zc3, Zc8, Zc7, Zc6, Zc9, Zda, Zc4, Zct, Zcx, Zcs, Zcv, Zcu, Zcw, Option.bind_some, Option.bind_none, List.set_cons_zero, List.set_cons_succ, List.set_set, List.length_set, List.length_append, List.length_cons, List.length_nil, List.append_assoc, List.singleton_append, Nat.zero_add, Nat.add_zero, Nat.reduceLT, Nat.reduceAdd, Zaj, Zah, Zaf, Zai, Zad, Zae, Zag, Zet, Zeu, Zes, Za2, Za3, Za1, Zei, Zej, Zeh, Zab, Zac, Zaa, Zeq, Zep, Zcq, Zcn, Zcp, Zco, Zcr, Za7, Za6, Zef, Zeg, Zee, Zbf,
    Zbv, Zby, Zbi, Zb2, Zbn, Zbo, Zbs, Zbr, Zbt, Zbq, Zbm, Zb0, Zbx, Zbg, ev_t, ev_c, ev_f, Zcb, Zca, Zb8, Zb9, Zb6, Zb7, Zd8, Zea, Zd9, Zcm, Zcl, Zd2, Zd0, Zd1,
    Zd7, Zd6, Zd5, Zd4, Zan, Zev, Zbb, Zbc, Zba, Zcc, Zds, Zdp, Zdr, Zdq, Zdc, Zdd, Zdt, Zc2, Za4, Za8, Zeo, Zdz, Zdx, Zdy,
    Zao, Za0, Zaw, Zar, Zax, Zav, Zau, Zat, Zas, Zay, Zaz, Zap, Zaq, Zak, Zdg, Zdh, Zdn, Zdo, Zc0, Zcy, Zcz, Zc1, Option.map_some, Option.map_none, List.cons_append, List.nil_append, List.append_nil, decide_true, decide_false, Bool.not_true, Bool.not_false, Bool.false_eq_true, if_true, if_false, ↓reduceIte, reduceCtorEq, Nat.reduceAdd, Nat.reduceEqDiff, Nat.reduceBEq, Za5, true_and, and_true, eq_self, List.getElem?_cons_zero, List.getElem?_cons_succ, get_put_eq, get_put_ne, Env.put_length, Nat.reduceLT, Zaj, Zah, Zaf, Zai, Zad, Zae, Zag, Zet, Zeu, Zes, Za2, Za3, Za1, Zei, Zej, Zeh, Zab, Zac, Zaa, Zeq, Zep, Zcq, Zcn, Zcp, Zco, Zcr, Za7, Za6, Zef, Zeg, Zee, Zbf,
    Zbv, Zby, Zbi, Zb2, Zbn, Zbo, Zbs, Zbr, Zbt, Zbq, Zbm, Zb0, Zbx, Zbg, ev_t, ev_c, ev_f, Zcb, Zca, Zb8, Zb9, Zb6, Zb7, Zd8, Zea, Zd9, Zcm, Zcl, Zd2, Zd0, Zd1,
    Zd7, Zd6, Zd5, Zd4, Zan, Zev, Zbb, Zbc, Zba, Zcc, Zds, Zdp, Zdr, Zdq, Zdc, Zdd, Zdt, Zc2, Za4, Za8, Zeo, Zdz, Zdx, Zdy,
    Zao, Za0, Zaw, Zar, Zax, Zav, Zau, Zat, Zas, Zay, Zaz, Zap, Zaq, Zak, Zdg, Zdh, Zdn, Zdo, Zc0, Zcy, Zcz, Zc1, Option.map_some, Option.map_none, List.cons_append, List.nil_append, List.append_nil, decide_true, decide_false, Bool.not_true, Bool.not_false, Bool.false_eq_true, if_true, if_false, ↓reduceIte, reduceCtorEq, Nat.reduceAdd, Nat.reduceEqDiff, Nat.reduceBEq, Za5, true_and, and_true, eq_self, List.getElem?_cons_zero, List.getElem?_cons_succ, h1, h3, h13, h14, h15, hl, hi, hlt, hget, loadE_agg2, wr2, ← hA]
      rw [hS]
      have hSg : (S ++ [A])[S.length]? = some A := Zcg
      simp only [W_draw, WH_op, WH_nil, histQ_eff, histQ_pure, Zdf, Zdk, Zdl, Zdm, Zdj, Zdi, Zbp, Zb1, Zbj, Zbu, Zbl, Zbz, Zbw, Zb4, Zb3, Zb5, Zdu, Zec, Zbe, Zbd, Zam, Zal, Zcd, Zer, Zex, Zew, Zdv, Zd3, Za9, Zce, Zcf, Zeb, Zdw, Zcg, Zch, Zci, Zcj, Zck, Zen, Zbk, Zbh, Zed, Zek, Zel, Zem, Zc5, Zdb, Zc3, Zc8, Zc7, Zc6, Zc9, Zda, Zc4, Zct, Zcx, Zcs, Zcv, Zcu, Zcw, Option.bind_some, Option.bind_none, List.set_cons_zero, List.set_cons_succ, List.set_set, List.length_set, List.length_append, List.length_cons, List.length_nil, List.append_assoc, List.singleton_append, Nat.zero_add, Nat.add_zero, Nat.reduceLT, Nat.reduceAdd, Zaj, Zah, Zaf, Zai, Zad, Zae, Zag, Zet, Zeu, Zes, Za2, Za3, Za1, Zei, Zej, Zeh, Zab, Zac, Zaa, Zeq, Zep, Zcq, Zcn, Zcp, Zco, Zcr, Za7, Za6, Zef, Zeg, Zee, Zbf,
    Zbv, Zby, Zbi, Zb2, Zbn, Zbo, Zbs, Zbr, Zbt, Zbq, Zbm, Zb0, Zbx, Zbg, ev_t, ev_c, ev_f, Zcb, Zca, Zb8, Zb9, Zb6, Zb7, Zd8, Zea, Zd9, Zcm, Zcl, Zd2, Zd0, Zd1,
    Zd7, Zd6, Zd5, Zd4, Zan, Zev, Zbb, Zbc, Zba, Zcc, Zds, Zdp, Zdr, Zdq, Zdc, Zdd, Zdt, Zc2, Za4, Za8, Zeo, Zdz, Zdx, Zdy,
    Zao, Za0, Zaw, Zar, Zax, Zav, Zau, Zat, Zas, Zay, Zaz, Zap, Zaq, Zak, Zdg, Zdh, Zdn, Zdo, Zc0, Zcy, Zcz, Zc1, Option.map_some, Option.map_none, List.cons_append, List.nil_append, List.append_nil, decide_true, decide_false, Bool.not_true, Bool.not_false, Bool.false_eq_true, if_true, if_false, ↓reduceIte, reduceCtorEq, Nat.reduceAdd, Nat.reduceEqDiff, Nat.reduceBEq, Za5, true_and, and_true, eq_self, List.getElem?_cons_zero, List.getElem?_cons_succ, eff_mv, lays_mv, eff_pick, lays_pick, eff_build, lays_build, eff_load, Zde, eff_nilchk, lays_nilchk, eff_faddr, lays_faddr, eff_field, lays_field, eff_bin, lays_bin, eff_un, lays_un, eff_conv, lays_conv, eff_mkfn, lays_mkfn, eff_mkif, lays_mkif, eff_slice, lays_slice, eff_iaddr, lays_iaddr, eff_ixs, lays_ixs, eff_extract, lays_extract, eff_len, lays_len, eff_alloc, eff_box, eff_store, eff_call, eff_append, get_put_eq, get_put_ne, Env.put_length, Nat.reduceLT, Zaj, Zah, Zaf, Zai, Zad, Zae, Zag, Zet, Zeu, Zes, Za2, Za3, Za1, Zei, Zej, Zeh, Zab, Zac, Zaa, Zeq, Zep, Zcq, Zcn, Zcp, Zco, Zcr, Za7, Za6, Zef, Zeg, Zee, Zbf,
    Zbv, Zby, Zbi, Zb2, Zbn, Zbo, Zbs, Zbr, Zbt, Zbq, Zbm, Zb0, Zbx, Zbg, ev_t, ev_c, ev_f, Zcb, Zca, Zb8, Zb9, Zb6, Zb7, Zd8, Zea, Zd9, Zcm, Zcl, Zd2, Zd0, Zd1,
    Zd7, Zd6, Zd5, Zd4, Zan, Zev, Zbb, Zbc, Zba, Zcc, Zds, Zdp, Zdr, Zdq, Zdc, Zdd, Zdt, Zc2, Za4, Za8, Zeo, Zdz, Zdx, Zdy,
    Zao, Za0, Zaw, Zar, Zax, Zav, Zau, Zat, Zas, Zay, Zaz, Zap, Zaq, Zak, Zdg, Zdh, Zdn, Zdo, Zc0, Zcy, Zcz, Zc1, Option.map_some, Option.map_none, List.cons_append, List.nil_append, List.append_nil, decide_true, decide_false, Bool.not_true, Bool.not_false, Bool.false_eq_true, if_true, if_false, ↓reduceIte, reduceCtorEq, Nat.reduceAdd, Nat.reduceEqDiff, Nat.reduceBEq, Za5, true_and, and_true, eq_self, List.getElem?_cons_zero, List.getElem?_cons_succ, hl, h3, hSg, hrd0, hrd1, a1, a2, hes, a3, a4, hwt]
      refine ⟨?_, ?_⟩
      · simp only [List.all_cons, List.all_nil, Bool.and_true, again_nil, Bool.true_and, Bool.and_eq_true]
        refine ⟨again_two _ _ _ _ _ _ _ _ (again_one _ _ _ _ _ _ _ (v := .str n) (s' := S ++ [A]) rfl ?_ (Zde _ _ _) ?_) (again_one _ _ _ _ _ _ _ (v := .str n) (s' := S ++ [A]) rfl ?_ (Zde _ _ _) ?_), again_one _ _ _ _ _ _ _ (v := .str v) (s' := S ++ [A]) rfl ?_ (Zde _ _ _) ?_⟩
        all_goals simp only [Env.mix, Zdf, Zdk, Zdl, Zdm, Zdj, Zdi, Zbp, Zb1, Zbj, Zbu, Zbl, Zbz, Zbw, Zb4, Zb3, Zb5, Zdu, Zec, Zbe, Zbd, Zam, Zal, Zcd, Zer, Zex, Zew, Zdv, Zd3, Za9, Zce, Zcf, Zeb, Zdw, Zcg, Zch, Zci, Zcj, Zck, Zen, Zbk, Zbh, Zed, Zek, Zel, Zem, Zc5, Zdb, Zc3, Zc8, Zc7, Zc6, Zc9, Zda, Zc4, Zct, Zcx, Zcs, Zcv, Zcu, Zcw, Option.bind_some, Option.bind_none, List.set_cons_zero, List.set_cons_succ, List.set_set, List.length_set, List.length_append, List.length_cons, List.length_nil, List.append_assoc, List.singleton_append, Nat.zero_add, Nat.add_zero, Nat.reduceLT, Nat.reduceAdd, Zaj, Zah, Zaf, Zai, Zad, Zae, Zag, Zet, Zeu, Zes, Za2, Za3, Za1, Zei, Zej, Zeh, Zab, Zac, Zaa, Zeq, Zep, Zcq, Zcn, Zcp, Zco, Zcr, Za7, Za6, Zef, Zeg, Zee, Zbf,
    Zbv, Zby, Zbi, Zb2, Zbn, Zbo, Zbs, Zbr, Zbt, Zbq, Zbm, Zb0, Zbx, Zbg, ev_t, ev_c, ev_f, Zcb, Zca, Zb8, Zb9, Zb6, Zb7, Zd8, Zea, Zd9, Zcm, Zcl, Zd2, Zd0, Zd1,
    Zd7, Zd6, Zd5, Zd4, Zan, Zev, Zbb, Zbc, Zba, Zcc, Zds, Zdp, Zdr, Zdq, Zdc, Zdd, Zdt, Zc2, Za4, Za8, Zeo, Zdz, Zdx, Zdy,
    Zao, Za0, Zaw, Zar, Zax, Zav, Zau, Zat, Zas, Zay, Zaz, Zap, Zaq, Zak, Zdg, Zdh, Zdn, Zdo, Zc0, Zcy, Zcz, Zc1, Option.map_some, Option.map_none, List.cons_append, List.nil_append, List.append_nil, decide_true, decide_false, Bool.not_true, Bool.not_false, Bool.false_eq_true, if_true, if_false, ↓reduceIte, reduceCtorEq, Nat.reduceAdd, Nat.reduceEqDiff, Nat.reduceBEq, Za5, true_and, and_true, eq_self, List.getElem?_cons_zero, List.getElem?_cons_succ, get_put_eq, get_put_ne, Env.put_length, Nat.reduceLT, Zaj, Zah, Zaf, Zai, Zad, Zae, Zag, Zet, Zeu, Zes, Za2, Za3, Za1, Zei, Zej, Zeh, Zab, Zac, Zaa, Zeq, Zep, Zcq, Zcn, Zcp, Zco, Zcr, Za7, Za6, Zef, Zeg, Zee, Zbf,
    Zbv, Zby, Zbi, Zb2, Zbn, Zbo, Zbs, Zbr, Zbt, Zbq, Zbm, Zb0, Zbx, Zbg, ev_t, ev_c, ev_f, Zcb, Zca, Zb8, Zb9, Zb6, Zb7, Zd8, Zea, Zd9, Zcm, Zcl, Zd2, Zd0, Zd1,
    Zd7, Zd6, Zd5, Zd4, Zan, Zev, Zbb, Zbc, Zba, Zcc, Zds, Zdp, Zdr, Zdq, Zdc, Zdd, Zdt, Zc2, Za4, Za8, Zeo, Zdz, Zdx, Zdy,
    Zao, Za0, Zaw, Zar, Zax, Zav, Zau, Zat, Zas, Zay, Zaz, Zap, Zaq, Zak, Zdg, Zdh, Zdn, Zdo, Zc0, Zcy, Zcz, Zc1, Option.map_some, Option.map_none, List.cons_append, List.nil_append, List.append_nil, decide_true, decide_false, Bool.not_true, Bool.not_false, Bool.false_eq_true, if_true, if_false, ↓reduceIte, reduceCtorEq, Nat.reduceAdd, Nat.reduceEqDiff, Nat.reduceBEq, Za5, true_and, and_true, eq_self, List.getElem?_cons_zero, List.getElem?_cons_succ, hl, hSg, hrd0, hrd1]
      · simp only [Zdf, Zdk, Zdl, Zdm, Zdj, Zdi, Zbp, Zb1, Zbj, Zbu, Zbl, Zbz, Zbw, Zb4, Zb3, Zb5, Zdu, Zec, Zbe, Zbd, Zam, Zal, Zcd, Zer, Zex, Zew, Zdv, Zd3, Za9, Zce, Zcf, Zeb, Zdw, Zcg, Zch, Zci, Zcj, Zck, Zen, Zbk, Zbh, Zed, Zek, Zel, Zem, Zc5, Zdb, Zc3, Zc8, Zc7, Zc6, Zc9, Zda, Zc4, Zct, Zcx, Zcs, Zcv, Zcu, Zcw, Option.bind_some, Option.bind_none, List.set_cons_zero, List.set_cons_succ, List.set_set, List.length_set, List.length_append, List.length_cons, List.length_nil, List.append_assoc, List.singleton_append, Nat.zero_add, Nat.add_zero, Nat.reduceLT, Nat.reduceAdd, Zaj, Zah, Zaf, Zai, Zad, Zae, Zag, Zet, Zeu, Zes, Za2, Za3, Za1, Zei, Zej, Zeh, Zab, Zac, Zaa, Zeq, Zep, Zcq, Zcn, Zcp, Zco, Zcr, Za7, Za6, Zef, Zeg, Zee, Zbf,
    Zbv, Zby, Zbi, Zb2, Zbn, Zbo, Zbs, Zbr, Zbt, Zbq, Zbm, Zb0, Zbx, Zbg, ev_t, ev_c, ev_f, Zcb, Zca, Zb8, Zb9, Zb6, Zb7, Zd8, Zea, Zd9, Zcm, Zcl, Zd2, Zd0, Zd1,
    Zd7, Zd6, Zd5, Zd4, Zan, Zev, Zbb, Zbc, Zba, Zcc, Zds, Zdp, Zdr, Zdq, Zdc, Zdd, Zdt, Zc2, Za4, Za8, Zeo, Zdz, Zdx, Zdy,
    Zao, Za0, Zaw, Zar, Zax, Zav, Zau, Zat, Zas, Zay, Zaz, Zap, Zaq, Zak, Zdg, Zdh, Zdn, Zdo, Zc0, Zcy, Zcz, Zc1, Option.map_some, Option.map_none, List.cons_append, List.nil_append, List.append_nil, decide_true, decide_false, Bool.not_true, Bool.not_false, Bool.false_eq_true, if_true, if_false, ↓reduceIte, reduceCtorEq, Nat.reduceAdd, Nat.reduceEqDiff, Nat.reduceBEq, Za5, true_and, and_true, eq_self, List.getElem?_cons_zero, List.getElem?_cons_succ, get_put_eq, get_put_ne, Env.put_length, Nat.reduceLT, Zaj, Zah, Zaf, Zai, Zad, Zae, Zag, Zet, Zeu, Zes, Za2, Za3, Za1, Zei, Zej, Zeh, Zab, Zac, Zaa, Zeq, Zep, Zcq, Zcn, Zcp, Zco, Zcr, Za7, Za6, Zef, Zeg, Zee, Zbf,
    Zbv, Zby, Zbi, Zb2, Zbn, Zbo, Zbs, Zbr, Zbt, Zbq, Zbm, Zb0, Zbx, Zbg, ev_t, ev_c, ev_f, Zcb, Zca, Zb8, Zb9, Zb6, Zb7, Zd8, Zea, Zd9, Zcm, Zcl, Zd2, Zd0, Zd1,
    Zd7, Zd6, Zd5, Zd4, Zan, Zev, Zbb, Zbc, Zba, Zcc, Zds, Zdp, Zdr, Zdq, Zdc, Zdd, Zdt, Zc2, Za4, Za8, Zeo, Zdz, Zdx, Zdy,
    Zao, Za0, Zaw, Zar, Zax, Zav, Zau, Zat, Zas, Zay, Zaz, Zap, Zaq, Zak, Zdg, Zdh, Zdn, Zdo, Zc0, Zcy, Zcz, Zc1, Option.map_some, Option.map_none, List.cons_append, List.nil_append, List.append_nil, decide_true, decide_false, Bool.not_true, Bool.not_false, Bool.false_eq_true, if_true, if_false, ↓reduceIte, reduceCtorEq, Nat.reduceAdd, Nat.reduceEqDiff, Nat.reduceBEq, Za5, true_and, and_true, eq_self, List.getElem?_cons_zero, List.getElem?_cons_succ, hl, h15, hwr]
        have hT : T4.length ≤ 10000 := by rw [← hT4]; simp [attrT]; omega
        refine printA_loop h61 h42 base Q ex as hlen hall E1 d (i + 1) (g + 1) (w ++ T4) (l ++ [A]) _ (by omega) (by simp; omega) (by simp; omega) ?_ ?_ ?_ ?_ ?_ ?_ ?_
        · simp only [get_put_eq, get_put_ne, Env.put_length, Nat.reduceLT, Zaj, Zah, Zaf, Zai, Zad, Zae, Zag, Zet, Zeu, Zes, Za2, Za3, Za1, Zei, Zej, Zeh, Zab, Zac, Zaa, Zeq, Zep, Zcq, Zcn, Zcp, Zco, Zcr, Za7, Za6, Zef, Zeg, Zee, Zbf,
    Zbv, Zby, Zbi, Zb2, Zbn, Zbo, Zbs, Zbr, Zbt, Zbq, Zbm, Zb0, Zbx, Zbg, ev_t, ev_c, ev_f, Zcb, Zca, Zb8, Zb9, Zb6, Zb7, Zd8, Zea, Zd9, Zcm, Zcl, Zd2, Zd0, Zd1,
    Zd7, Zd6, Zd5, Zd4, Zan, Zev, Zbb, Zbc, Zba, Zcc, Zds, Zdp, Zdr, Zdq, Zdc, Zdd, Zdt, Zc2, Za4, Za8, Zeo, Zdz, Zdx, Zdy,
    Zao, Za0, Zaw, Zar, Zax, Zav, Zau, Zat, Zas, Zay, Zaz, Zap, Zaq, Zak, Zdg, Zdh, Zdn, Zdo, Zc0, Zcy, Zcz, Zc1, Option.map_some, Option.map_none, List.cons_append, List.nil_append, List.append_nil, decide_true, decide_false, Bool.not_true, Bool.not_false, Bool.false_eq_true, if_true, if_false, ↓reduceIte, reduceCtorEq, Nat.reduceAdd, Nat.reduceEqDiff, Nat.reduceBEq, Za5, true_and, and_true, eq_self, List.getElem?_cons_zero, List.getElem?_cons_succ, hl]
        · simp only [get_put_eq, get_put_ne, Env.put_length, Nat.reduceLT, Zaj, Zah, Zaf, Zai, Zad, Zae, Zag, Zet, Zeu, Zes, Za2, Za3, Za1, Zei, Zej, Zeh, Zab, Zac, Zaa, Zeq, Zep, Zcq, Zcn, Zcp, Zco, Zcr, Za7, Za6, Zef, Zeg, Zee, Zbf,
    Zbv, Zby, Zbi, Zb2, Zbn, Zbo, Zbs, Zbr, Zbt, Zbq, Zbm, Zb0, Zbx, Zbg, ev_t, ev_c, ev_f, Zcb, Zca, Zb8, Zb9, Zb6, Zb7, Zd8, Zea, Zd9, Zcm, Zcl, Zd2, Zd0, Zd1,
    Zd7, Zd6, Zd5, Zd4, Zan, Zev, Zbb, Zbc, Zba, Zcc, Zds, Zdp, Zdr, Zdq, Zdc, Zdd, Zdt, Zc2, Za4, Za8, Zeo, Zdz, Zdx, Zdy,
    Zao, Za0, Zaw, Zar, Zax, Zav, Zau, Zat, Zas, Zay, Zaz, Zap, Zaq, Zak, Zdg, Zdh, Zdn, Zdo, Zc0, Zcy, Zcz, Zc1, Option.map_some, Option.map_none, List.cons_append, List.nil_append, List.append_nil, decide_true, decide_false, Bool.not_true, Bool.not_false, Bool.false_eq_true, if_true, if_false, ↓reduceIte, reduceCtorEq, Nat.reduceAdd, Nat.reduceEqDiff, Nat.reduceBEq, Za5, true_and, and_true, eq_self, List.getElem?_cons_zero, List.getElem?_cons_succ, hl, h1]
        · simp only [get_put_eq, get_put_ne, Env.put_length, Nat.reduceLT, Zaj, Zah, Zaf, Zai, Zad, Zae, Zag, Zet, Zeu, Zes, Za2, Za3, Za1, Zei, Zej, Zeh, Zab, Zac, Zaa, Zeq, Zep, Zcq, Zcn, Zcp, Zco, Zcr, Za7, Za6, Zef, Zeg, Zee, Zbf,
    Zbv, Zby, Zbi, Zb2, Zbn, Zbo, Zbs, Zbr, Zbt, Zbq, Zbm, Zb0, Zbx, Zbg, ev_t, ev_c, ev_f, Zcb, Zca, Zb8, Zb9, Zb6, Zb7, Zd8, Zea, Zd9, Zcm, Zcl, Zd2, Zd0, Zd1,
    Zd7, Zd6, Zd5, Zd4, Zan, Zev, Zbb, Zbc, Zba, Zcc, Zds, Zdp, Zdr, Zdq, Zdc, Zdd, Zdt, Zc2, Za4, Za8, Zeo, Zdz, Zdx, Zdy,
    Zao, Za0, Zaw, Zar, Zax, Zav, Zau, Zat, Zas, Zay, Zaz, Zap, Zaq, Zak, Zdg, Zdh, Zdn, Zdo, Zc0, Zcy, Zcz, Zc1, Option.map_some, Option.map_none, List.cons_append, List.nil_append, List.append_nil, decide_true, decide_false, Bool.not_true, Bool.not_false, Bool.false_eq_true, if_true, if_false, ↓reduceIte, reduceCtorEq, Nat.reduceAdd, Nat.reduceEqDiff, Nat.reduceBEq, Za5, true_and, and_true, eq_self, List.getElem?_cons_zero, List.getElem?_cons_succ, hl, h3]
        · simp only [get_put_eq, get_put_ne, Env.put_length, Nat.reduceLT, Zaj, Zah, Zaf, Zai, Zad, Zae, Zag, Zet, Zeu, Zes, Za2, Za3, Za1, Zei, Zej, Zeh, Zab, Zac, Zaa, Zeq, Zep, Zcq, Zcn, Zcp, Zco, Zcr, Za7, Za6, Zef, Zeg, Zee, Zbf,
    Zbv, Zby, Zbi, Zb2, Zbn, Zbo, Zbs, Zbr, Zbt, Zbq, Zbm, Zb0, Zbx, Zbg, ev_t, ev_c, ev_f, Zcb, Zca, Zb8, Zb9, Zb6, Zb7, Zd8, Zea, Zd9, Zcm, Zcl, Zd2, Zd0, Zd1,
    Zd7, Zd6, Zd5, Zd4, Zan, Zev, Zbb, Zbc, Zba, Zcc, Zds, Zdp, Zdr, Zdq, Zdc, Zdd, Zdt, Zc2, Za4, Za8, Zeo, Zdz, Zdx, Zdy,
    Zao, Za0, Zaw, Zar, Zax, Zav, Zau, Zat, Zas, Zay, Zaz, Zap, Zaq, Zak, Zdg, Zdh, Zdn, Zdo, Zc0, Zcy, Zcz, Zc1, Option.map_some, Option.map_none, List.cons_append, List.nil_append, List.append_nil, decide_true, decide_false, Bool.not_true, Bool.not_false, Bool.false_eq_true, if_true, if_false, ↓reduceIte, reduceCtorEq, Nat.reduceAdd, Nat.reduceEqDiff, Nat.reduceBEq, Za5, true_and, and_true, eq_self, List.getElem?_cons_zero, List.getElem?_cons_succ, hl, h13]
        · simp only [get_put_eq, get_put_ne, Env.put_length, Nat.reduceLT, Zaj, Zah, Zaf, Zai, Zad, Zae, Zag, Zet, Zeu, Zes, Za2, Za3, Za1, Zei, Zej, Zeh, Zab, Zac, Zaa, Zeq, Zep, Zcq, Zcn, Zcp, Zco, Zcr, Za7, Za6, Zef, Zeg, Zee, Zbf,
    Zbv, Zby, Zbi, Zb2, Zbn, Zbo, Zbs, Zbr, Zbt, Zbq, Zbm, Zb0, Zbx, Zbg, ev_t, ev_c, ev_f, Zcb, Zca, Zb8, Zb9, Zb6, Zb7, Zd8, Zea, Zd9, Zcm, Zcl, Zd2, Zd0, Zd1,
    Zd7, Zd6, Zd5, Zd4, Zan, Zev, Zbb, Zbc, Zba, Zcc, Zds, Zdp, Zdr, Zdq, Zdc, Zdd, Zdt, Zc2, Za4, Za8, Zeo, Zdz, Zdx, Zdy,
    Zao, Za0, Zaw, Zar, Zax, Zav, Zau, Zat, Zas, Zay, Zaz, Zap, Zaq, Zak, Zdg, Zdh, Zdn, Zdo, Zc0, Zcy, Zcz, Zc1, Option.map_some, Option.map_none, List.cons_append, List.nil_append, List.append_nil, decide_true, decide_false, Bool.not_true, Bool.not_false, Bool.false_eq_true, if_true, if_false, ↓reduceIte, reduceCtorEq, Nat.reduceAdd, Nat.reduceEqDiff, Nat.reduceBEq, Za5, true_and, and_true, eq_self, List.getElem?_cons_zero, List.getElem?_cons_succ, hl, h14]
        · simp only [get_put_eq, get_put_ne, Env.put_length, Nat.reduceLT, Zaj, Zah, Zaf, Zai, Zad, Zae, Zag, Zet, Zeu, Zes, Za2, Za3, Za1, Zei, Zej, Zeh, Zab, Zac, Zaa, Zeq, Zep, Zcq, Zcn, Zcp, Zco, Zcr, Za7, Za6, Zef, Zeg, Zee, Zbf,
    Zbv, Zby, Zbi, Zb2, Zbn, Zbo, Zbs, Zbr, Zbt, Zbq, Zbm, Zb0, Zbx, Zbg, ev_t, ev_c, ev_f, Zcb, Zca, Zb8, Zb9, Zb6, Zb7, Zd8, Zea, Zd9, Zcm, Zcl, Zd2, Zd0, Zd1,
    Zd7, Zd6, Zd5, Zd4, Zan, Zev, Zbb, Zbc, Zba, Zcc, Zds, Zdp, Zdr, Zdq, Zdc, Zdd, Zdt, Zc2, Za4, Za8, Zeo, Zdz, Zdx, Zdy,
    Zao, Za0, Zaw, Zar, Zax, Zav, Zau, Zat, Zas, Zay, Zaz, Zap, Zaq, Zak, Zdg, Zdh, Zdn, Zdo, Zc0, Zcy, Zcz, Zc1, Option.map_some, Option.map_none, List.cons_append, List.nil_append, List.append_nil, decide_true, decide_false, Bool.not_true, Bool.not_false, Bool.false_eq_true, if_true, if_false, ↓reduceIte, reduceCtorEq, Nat.reduceAdd, Nat.reduceEqDiff, Nat.reduceBEq, Za5, true_and, and_true, eq_self, List.getElem?_cons_zero, List.getElem?_cons_succ, hl]
        · intro e g' l' e1 e2 e3
          have := hq e g' l' e1 e2 e3
          rwa [hdrop, ← List.append_assoc] at this
    · have hdr : as.drop i = [] := List.drop_of_length_le (by omega)
      simp only [Zdf, Zdk, Zdl, Zdm, Zdj, Zdi, Zbp, Zb1, Zbj, Zbu, Zbl, Zbz, Zbw, Zb4, Zb3, Zb5, Zdu, Zec, Zbe, Zbd, Zam, Zal, Zcd, Zer, Zex, Zew, Zdv, Zd3, Za9, Zce, Zcf, Zeb, Zdw, Zcg, Zch, Zci, Zcj, Zck, Zen, Zbk, Zbh, Zed, Zek, Zel, Zem, Zc5, Zdb, Zc3, Zc8, Zc7, Zc6, Zc9, Zda, Zc4, Zct, Zcx, Zcs, Zcv, Zcu, Zcw, Option.bind_some, Option.bind_none, List.set_cons_zero, List.set_cons_succ, List.set_set, List.length_set, List.length_append, List.length_cons, List.length_nil, List.append_assoc, List.singleton_append, Nat.zero_add, Nat.add_zero, Nat.reduceLT, Nat.reduceAdd, Zaj, Zah, Zaf, Zai, Zad, Zae, Zag, Zet, Zeu, Zes, Za2, Za3, Za1, Zei, Zej, Zeh, Zab, Zac, Zaa, Zeq, Zep, Zcq, Zcn, Zcp, Zco, Zcr, Za7, Za6, Zef, Zeg, Zee, Zbf,
    Zbv, Zby, Zbi, Zb2, Zbn, Zbo, Zbs, Zbr, Zbt, Zbq, Zbm, Zb0, Zbx, Zbg, ev_t, ev_c, ev_f, Zcb, Zca, Zb8, Zb9, Zb6, Zb7, Zd8, Zea, Zd9, Zcm, Zcl, Zd2, Zd0, Zd1,
    Zd7, Zd6, Zd5, Zd4, Zan, Zev, Zbb, Zbc, Zba, Zcc, Zds, Zdp, Zdr, Zdq, Zdc, Zdd, Zdt, Zc2, Za4, Za8, Zeo, Zdz, Zdx, Zdy,
    Zao, Za0, Zaw, Zar, Zax, Zav, Zau, Zat, Zas, Zay, Zaz, Zap, Zaq, Zak, Zdg, Zdh, Zdn, Zdo, Zc0, Zcy, Zcz, Zc1, Option.map_some, Option.map_none, List.cons_append, List.nil_append, List.append_nil, decide_true, decide_false, Bool.not_true, Bool.not_false, Bool.false_eq_true, if_true, if_false, ↓reduceIte, reduceCtorEq, Nat.reduceAdd, Nat.reduceEqDiff, Nat.reduceBEq, Za5, true_and, and_true, eq_self, List.getElem?_cons_zero, List.getElem?_cons_succ, get_put_eq, get_put_ne, Env.put_length, Nat.reduceLT, Zaj, Zah, Zaf, Zai, Zad, Zae, Zag, Zet, Zeu, Zes, Za2, Za3, Za1, Zei, Zej, Zeh, Zab, Zac, Zaa, Zeq, Zep, Zcq, Zcn, Zcp, Zco, Zcr, Za7, Za6, Zef, Zeg, Zee, Zbf,
    Zbv, Zby, Zbi, Zb2, Zbn, Zbo, Zbs, Zbr, Zbt, Zbq, Zbm, Zb0, Zbx, Zbg, ev_t, ev_c, ev_f, Zcb, Zca, Zb8, Zb9, Zb6, Zb7, Zd8, Zea, Zd9, Zcm, Zcl, Zd2, Zd0, Zd1,
    Zd7, Zd6, Zd5, Zd4, Zan, Zev, Zbb, Zbc, Zba, Zcc, Zds, Zdp, Zdr, Zdq, Zdc, Zdd, Zdt, Zc2, Za4, Za8, Zeo, Zdz, Zdx, Zdy,
    Zao, Za0, Zaw, Zar, Zax, Zav, Zau, Zat, Zas, Zay, Zaz, Zap, Zaq, Zak, Zdg, Zdh, Zdn, Zdo, Zc0, Zcy, Zcz, Zc1, Option.map_some, Option.map_none, List.cons_append, List.nil_append, List.append_nil, decide_true, decide_false, Bool.not_true, Bool.not_false, Bool.false_eq_true, if_true, if_false, ↓reduceIte, reduceCtorEq, Nat.reduceAdd, Nat.reduceEqDiff, Nat.reduceBEq, Za5, true_and, and_true, eq_self, List.getElem?_cons_zero, List.getElem?_cons_succ, h14, h15, hl, hi, hlt]
      rw [hdr] at hq
      simp only [List.flatMap_nil, List.append_nil] at hq
      refine hq _ _ _ ?_ ?_ ?_
      · simp only [get_put_eq, get_put_ne, Env.put_length, Nat.reduceLT, Zaj, Zah, Zaf, Zai, Zad, Zae, Zag, Zet, Zeu, Zes, Za2, Za3, Za1, Zei, Zej, Zeh, Zab, Zac, Zaa, Zeq, Zep, Zcq, Zcn, Zcp, Zco, Zcr, Za7, Za6, Zef, Zeg, Zee, Zbf,
    Zbv, Zby, Zbi, Zb2, Zbn, Zbo, Zbs, Zbr, Zbt, Zbq, Zbm, Zb0, Zbx, Zbg, ev_t, ev_c, ev_f, Zcb, Zca, Zb8, Zb9, Zb6, Zb7, Zd8, Zea, Zd9, Zcm, Zcl, Zd2, Zd0, Zd1,
    Zd7, Zd6, Zd5, Zd4, Zan, Zev, Zbb, Zbc, Zba, Zcc, Zds, Zdp, Zdr, Zdq, Zdc, Zdd, Zdt, Zc2, Za4, Za8, Zeo, Zdz, Zdx, Zdy,
    Zao, Za0, Zaw, Zar, Zax, Zav, Zau, Zat, Zas, Zay, Zaz, Zap, Zaq, Zak, Zdg, Zdh, Zdn, Zdo, Zc0, Zcy, Zcz, Zc1, Option.map_some, Option.map_none, List.cons_append, List.nil_append, List.append_nil, decide_true, decide_false, Bool.not_true, Bool.not_false, Bool.false_eq_true, if_true, if_false, ↓reduceIte, reduceCtorEq, Nat.reduceAdd, Nat.reduceEqDiff, Nat.reduceBEq, Za5, true_and, and_true, eq_self, List.getElem?_cons_zero, List.getElem?_cons_succ, hl]
      · simp only [get_put_eq, get_put_ne, Env.put_length, Nat.reduceLT, Zaj, Zah, Zaf, Zai, Zad, Zae, Zag, Zet, Zeu, Zes, Za2, Za3, Za1, Zei, Zej, Zeh, Zab, Zac, Zaa, Zeq, Zep, Zcq, Zcn, Zcp, Zco, Zcr, Za7, Za6, Zef, Zeg, Zee, Zbf,
    Zbv, Zby, Zbi, Zb2, Zbn, Zbo, Zbs, Zbr, Zbt, Zbq, Zbm, Zb0, Zbx, Zbg, ev_t, ev_c, ev_f, Zcb, Zca, Zb8, Zb9, Zb6, Zb7, Zd8, Zea, Zd9, Zcm, Zcl, Zd2, Zd0, Zd1,
    Zd7, Zd6, Zd5, Zd4, Zan, Zev, Zbb, Zbc, Zba, Zcc, Zds, Zdp, Zdr, Zdq, Zdc, Zdd, Zdt, Zc2, Za4, Za8, Zeo, Zdz, Zdx, Zdy,
    Zao, Za0, Zaw, Zar, Zax, Zav, Zau, Zat, Zas, Zay, Zaz, Zap, Zaq, Zak, Zdg, Zdh, Zdn, Zdo, Zc0, Zcy, Zcz, Zc1, Option.map_some, Option.map_none, List.cons_append, List.nil_append, List.append_nil, decide_true, decide_false, Bool.not_true, Bool.not_false, Bool.false_eq_true, if_true, if_false, ↓reduceIte, reduceCtorEq, Nat.reduceAdd, Nat.reduceEqDiff, Nat.reduceBEq, Za5, true_and, and_true, eq_self, List.getElem?_cons_zero, List.getElem?_cons_succ, hl, h1]
      · simp only [get_put_eq, get_put_ne, Env.put_length, Nat.reduceLT, Zaj, Zah, Zaf, Zai, Zad, Zae, Zag, Zet, Zeu, Zes, Za2, Za3, Za1, Zei, Zej, Zeh, Zab, Zac, Zaa, Zeq, Zep, Zcq, Zcn, Zcp, Zco, Zcr, Za7, Za6, Zef, Zeg, Zee, Zbf,
    Zbv, Zby, Zbi, Zb2, Zbn, Zbo, Zbs, Zbr, Zbt, Zbq, Zbm, Zb0, Zbx, Zbg, ev_t, ev_c, ev_f, Zcb, Zca, Zb8, Zb9, Zb6, Zb7, Zd8, Zea, Zd9, Zcm, Zcl, Zd2, Zd0, Zd1,
    Zd7, Zd6, Zd5, Zd4, Zan, Zev, Zbb, Zbc, Zba, Zcc, Zds, Zdp, Zdr, Zdq, Zdc, Zdd, Zdt, Zc2, Za4, Za8, Zeo, Zdz, Zdx, Zdy,
    Zao, Za0, Zaw, Zar, Zax, Zav, Zau, Zat, Zas, Zay, Zaz, Zap, Zaq, Zak, Zdg, Zdh, Zdn, Zdo, Zc0, Zcy, Zcz, Zc1, Option.map_some, Option.map_none, List.cons_append, List.nil_append, List.append_nil, decide_true, decide_false, Bool.not_true, Bool.not_false, Bool.false_eq_true, if_true, if_false, ↓reduceIte, reduceCtorEq, Nat.reduceAdd, Nat.reduceEqDiff, Nat.reduceBEq, Za5, true_and, and_true, eq_self, List.getElem?_cons_zero, List.getElem?_cons_succ, hl, h3]
end
end Go.Eng

