/-
  Texts of a proof. Conditions: none.
-/
import Derived.Test.YtolhindhmljgdaaGreatDoorVPlainO
import Derived.Test.YtolhindhmljgdaaGreatDoorVPlainI
set_option linter.unusedVariables false
set_option linter.unusedSimpArgs false
set_option linter.unnecessarySimpa false
set_option linter.unusedSectionVars false
namespace Go.Eng
open Go
open Go.Eng renaming WO_guard → Zaa, WO_nil → Zab, WO_op → Zac, W_block → Zad, W_cond → Zae, W_exit → Zaf, W_reg → Zag, W_ret → Zah, W_seq → Zai, W_skip → Zaj, aIndexAddr_sl → Zak, agg_all → Zal, agg_one → Zam, binE_some → Zan, bin_add → Zao, bin_beq → Zap, bin_bne → Zaq, bin_eql → Zar, bin_geq → Zas, bin_gtr → Zat, bin_leq → Zau, bin_lss → Zav, bin_mul → Zaw, bin_neq → Zax, bin_seq → Zay, bin_sne → Zaz, bin_sub → Za0, blockQ_exit → Za1, blockQ_norm → Za2, blockQ_ret → Za3, callE_f → Za4, cast0 → Za5, condQ_false → Za6, condQ_true → Za7, consO_some → Za8, consP_some → Za9, convE_bytes → Zba, convE_int → Zbb, convE_same → Zbc, cut_four → Zbd, cut_one → Zbe, endQ_some → Zbf, evOp_alloc → Zbg, evOp_append → Zbh, evOp_bin → Zbi, evOp_box → Zbj, evOp_bslice → Zbk, evOp_build → Zbl, evOp_callE → Zbm, evOp_conv → Zbn, evOp_ext → Zbo, evOp_faddr → Zbp, evOp_iaddr → Zbq, evOp_ixs → Zbr, evOp_len → Zbs, evOp_load → Zbt, evOp_mkfn → Zbu, evOp_mv → Zbv, evOp_next → Zbw, evOp_nilchk → Zbx, evOp_pick → Zby, evOp_range → Zbz, evOp_slice → Zb0, evOp_store → Zb1, evOp_un → Zb2, evParts_cons → Zb3, evParts_nil → Zb4, evRes_cell → Zb5, evRes_nil → Zb6, evRes_tmp → Zb7, evo_none → Zb8, evo_some → Zb9, evs_cons → Zca, evs_nil → Zcb, extE_tup → Zcc, faddrE_ptr → Zcd, fillA_nil → Zce, fillA_one → Zcf, get_new0 → Zcg, get_new1 → Zch, get_new2 → Zci, get_new3 → Zcj, get_new4 → Zck, get_succ → Zcl, get_zero → Zcm, guardQ_ff → Zcn, guardQ_ft → Zco, guardQ_tf → Zcp, guardQ_tt → Zcq, guardQ_undef → Zcr, hi_bool → Zcs, hi_int → Zct, hi_nilp → Zcu, hi_nils → Zcv, hi_sl → Zcw, hi_str → Zcx, his_bool → Zcy, his_int → Zcz, his_nil → Zc0, his_str → Zc1, iaddrE_some → Zc2, isCell_bool → Zc3, isCell_fn → Zc4, isCell_int → Zc5, isCell_nilp → Zc6, isCell_nils → Zc7, isCell_ptr → Zc8, isCell_sl → Zc9, isCell_slc → Zda, isCell_str → Zdb, ixsE_str → Zdc, ixsE_zero → Zdd, lays_load → Zde, leave0 → Zdf, leave_bool → Zdg, leave_int → Zdh, leave_nil → Zdi, leave_set0 → Zdj, leave_setb → Zdk, leave_setn → Zdl, leave_sets → Zdm, leave_str → Zdn, leave_tup → Zdo, lenE_nils → Zdp, lenE_sl → Zdq, lenE_slc → Zdr, lenE_str → Zds, loadE_one → Zdt, loadE_ptr → Zdu, mkfnE_some → Zdv, nextE_ptr → Zdw, nilE_cptr → Zdx, nilE_fn → Zdy, nilE_ptr → Zdz, oneOf_more → Zd0, oneOf_nil → Zd1, oneOf_one → Zd2, partsE_some → Zd3, pickE_false → Zd4, pickE_true → Zd5, prE_none → Zd6, prE_some → Zd7, put_none → Zd8, put_succ → Zd9, put_zero → Zea, rangeE_str → Zeb, rdE_cells → Zec, rep_one → Zed, retQ_exit → Zee, retQ_norm → Zef, retQ_ret → Zeg, roundQ_exit → Zeh, roundQ_norm → Zei, roundQ_ret → Zej, set_new0 → Zek, set_new1 → Zel, set_new2 → Zem, set_new3 → Zen, sliceE_some → Zeo, stepQ_none → Zep, stepQ_some → Zeq, storeE_ptr → Zer, thenK_exit → Zes, thenK_norm → Zet, thenK_ret → Zeu, unE_not → Zev, wrE_agg4 → Zew, wrE_one → Zex
set_option maxHeartbeats 1000000
set_option maxRecDepth 4000
set_option linter.unusedSimpArgs false
set_option linter.unusedVariables false
set_option linter.unusedSectionVars false

theorem aeq_pn (st : St) (r o g : Nat) : aBin st .eql .p (.ptr r o g) .nilp = some (.bool false) := by simp [aBin, aeq]
theorem aeq_nn (st : St) : aBin st .eql .p .nilp .nilp = some (.bool true) := by simp [aBin, aeq]
theorem ane_pp {st : St} {r o g h ty : Nat} {cs : List AV} {fz : Bool} (hr : st[r]? = some (.cells cs g h fz ty)) : aBin st .neq .p (.ptr r o g) (.ptr r o g) = some (.bool false) := by simp [aBin, aeq, hr]

def bytesV (w : List UInt8) : List AV := w.map fun c => .int .u8 c.toNat
/-- A builder at row b: what it has so far. -/
def bR (b : Nat) (f : Bool) (g : Nat) (w : List UInt8) : List Row :=
  match w with
  | [] => if f then [.cells [.ptr b 0 0, .nils] 0 (b + 1) false 47] else [.cells [.nilp, .nils] 0 0 false 47]
  | _ :: _ => [.cells [.ptr b 0 0, .slc (b + 1) 0 w.length w.length g 1 false] 0 (b + 2) false 47, .cells (bytesV w) g 0 false 5]

theorem bytesV_his (w : List UInt8) : AV.his (bytesV w) = 0 := by
  induction w with
  | nil => rfl
  | cons c l ih => simp only [bytesV, List.map_cons, his_cons, Zct] at ih ⊢; rw [ih]; rfl
theorem bytesV_cells (w : List UInt8) : (bytesV w).all AV.isCell = true := by
  simp [bytesV, AV.isCell]
theorem bytesV_len (w : List UInt8) : (bytesV w).length = w.length := by simp [bytesV]
theorem bytesV_app (w t : List UInt8) : bytesV w ++ bytesV t = bytesV (w ++ t) := by simp [bytesV]
theorem bytesV_str (w : List UInt8) : strOf (bytesV w) = some w := by
  induction w with
  | nil => rfl
  | cons c l ih =>
    simp only [bytesV, List.map_cons, strOf] at ih ⊢
    rw [ih]; simp

theorem app_none (st : St) (s : AV) (hs : (lenA s).isSome = true) (hn : ∀ b, s ≠ .str b) : aAppend st 5 1 1 s [] 0 = some (s, st) := by
  unfold aAppend
  rw [if_pos rfl]
  obtain ⟨n, h⟩ := Option.isSome_iff_exists.1 hs
  split
  · rename_i b; exact absurd rfl (hn b)
  · rw [h]; rfl
theorem app_first (st : St) (t : List UInt8) (ht : 0 < t.length) (hl : t.length ≤ 1000000) : aAppend st 5 1 1 .nils (bytesV t) t.length = some (.slc st.length 0 t.length t.length 0 1 false, st ++ [.cells (bytesV t) 0 0 false 5]) := by
  unfold aAppend
  rw [if_neg (by omega), if_neg (by simp [bytesV_len, bytesV_cells])]
  have : (t.length + 1000) * (1 + 1) ≤ small := by unfold small; omega
  simp only [this, if_true, bytesV_his]
theorem app_more (base : St) (R0 : Row) (w t : List UInt8) (g : Nat) (hw : 0 < w.length) (ht : 0 < t.length) (hl : w.length + t.length ≤ 1000000) :
    aAppend (base ++ [R0, .cells (bytesV w) g 0 false 5]) 5 1 1 (.slc (base.length + 1) 0 w.length w.length g 1 false) (bytesV t) t.length = some (.slc (base.length + 1) 0 (w ++ t).length (w ++ t).length (g + 1) 1 false, base ++ [R0, .cells (bytesV (w ++ t)) (g + 1) 0 false 5]) := by
  unfold aAppend
  rw [if_neg (by omega), if_neg (by simp [bytesV_len, bytesV_cells])]
  have h1 : (w.length + t.length + 1000) * (1 + 1) ≤ small := by unfold small; omega
  have h2 : ¬ w.length + t.length ≤ w.length := by omega
  simp only [ne_eq, not_true_eq_false, h1, or_self, if_false, Zch, bytesV_len, Nat.zero_add, Nat.mul_one, Nat.lt_irrefl, gt_iff_lt, h2, Bool.false_eq_true, and_self, if_true, Zel, List.drop_zero, bytesV_app, bytesV_his, Nat.max_self, List.length_append]
theorem leave_stay {base : St} {sl : Bool} {v : AV} {R0 : Row} {l : List Row} {n0 : Nat} (hn : n0 = base.length + 1) (ht : n0 < R0.top) : leave n0 sl v (base ++ R0 :: l) = (v, base ++ R0 :: l) := by
  subst hn
  unfold leave
  rw [if_neg]
  have e : (base ++ R0 :: l).take (base.length + 1) = base ++ [R0] := by
    rw [List.take_append]; simp [List.take_of_length_le]
  rw [e]
  simp; intro _; omega

section
variable {C : Ctx} (H : Codes C) (h61 : C.fns 61 = some (.ext xNoEscape)) (base : St)
include H

theorem check_fresh (h61 : C.fns 61 = some (.ext xNoEscape)) : callW C 41 [.ptr base.length 0 0] (base ++ [.cells [.nilp, .nils] 0 0 false 47]) = some (.tup [], base ++ [.cells [.ptr base.length 0 0, .nils] 0 (base.length + 1) false 47]) := by
  have hx : ∀ st : St, callW C 61 [.ptr base.length 0 0] st = some (.ptr base.length 0 0, st) := fun st => by rw [callW_ext h61]; rfl
  rw [← CW_eq, CW_is H.h41 _ (by simp)]
  simp only [List.length_cons, List.length_nil, Nat.zero_add, Nat.reduceAdd, Nat.reduceSub, List.reduceReplicate, List.cons_append, List.nil_append]
  unfold k41b
  simp only [Zdf, Zdk, Zdl, Zdm, Zdj, Zdi, Zbp, Zb1, Zbj, Zbu, Zbl, Zbz, Zbw, Zb4, Zb3, Zb5, Zdu, Zec, Zbe, Zbd, Zam, Zal, Zcd, Zer, Zex, Zew, Zdv, Zd3, Za9, Zce, Zcf, Zeb, Zdw, Zcg, Zch, Zci, Zcj, Zck, Zen, Zbk, Zbh, Zed, Zek, Zel, Zem, Zc5, Zdb, Zc3, Zc8, Zc7, Zc6, Zc9, Zda, Zc4, Zct, Zcx, Zcs, Zcv, Zcu, Zcw, Option.bind_some, Option.bind_none, List.set_cons_zero, List.set_cons_succ, List.set_set, List.length_set, List.length_append, List.length_cons, List.length_nil, List.append_assoc, List.singleton_append, Nat.zero_add, Nat.add_zero, Nat.reduceLT, Nat.reduceAdd, Zaj, Zah, Zaf, Zai, Zad, Zae, Zag, Zet, Zeu, Zes, Za2, Za3, Za1, Zei, Zej, Zeh, Zab, Zac, Zaa, Zeq, Zep, Zcq, Zcn, Zcp, Zco, Zcr, Za7, Za6, Zef, Zeg, Zee, Zbf,
    Zbv, Zby, Zbi, Zb2, Zbn, Zbo, Zbs, Zbr, Zbt, Zbq, Zbm, Zb0, Zbx, Zbg, ev_t, ev_c, ev_f, Zcb, Zca, Zb8, Zb9, Zb6, Zb7, Zd8, Zea, Zd9, Zcm, Zcl, Zd2, Zd0, Zd1,
    Zd7, Zd6, Zd5, Zd4, Zan, Zev, Zbb, Zbc, Zba, Zcc, Zds, Zdp, Zdr, Zdq, Zdc, Zdd, Zdt, Zc2, Za4, Za8, Zeo, Zdz, Zdx, Zdy,
    Zao, Za0, Zaw, Zar, Zax, Zav, Zau, Zat, Zas, Zay, Zaz, Zap, Zaq, Zak, Zdg, Zdh, Zdn, Zdo, Zc0, Zcy, Zcz, Zc1, Option.map_some, Option.map_none, List.cons_append, List.nil_append, List.append_nil, decide_true, decide_false, Bool.not_true, Bool.not_false, Bool.false_eq_true, if_true, if_false, ↓reduceIte, reduceCtorEq, Nat.reduceAdd, Nat.reduceEqDiff, Nat.reduceBEq, Za5, true_and, and_true, eq_self, List.getElem?_cons_zero, List.getElem?_cons_succ, aeq_nn, evOp_uto, utoE_ptr, utR_cells, hx, evOp_ufrom, ufE_ptr, ufR_cells, wrE_ref, hi_ptr, Nat.reduceLeDiff, Nat.reduceLT, Nat.zero_max, Nat.max_zero]
  rw [leave_keep (by simp) (by simp [AV.hi, AV.his])]
  exact ⟨rfl, rfl⟩

theorem check_again (x : AV) (h : Nat) (st : St) (b : Nat) (hb : st[b]? = some (.cells [.ptr b 0 0, x] 0 h false 47)) : callW C 41 [.ptr b 0 0] st = some (.tup [], st) := by
  rw [← CW_eq, CW_is H.h41 _ (by simp)]
  simp only [List.length_cons, List.length_nil, Nat.zero_add, Nat.reduceAdd, Nat.reduceSub, List.reduceReplicate, List.cons_append, List.nil_append]
  unfold k41b
  have hp := ane_pp (o := 0) hb
  simp only [Zdf, Zdk, Zdl, Zdm, Zdj, Zdi, Zbp, Zb1, Zbj, Zbu, Zbl, Zbz, Zbw, Zb4, Zb3, Zb5, Zdu, Zec, Zbe, Zbd, Zam, Zal, Zcd, Zer, Zex, Zew, Zdv, Zd3, Za9, Zce, Zcf, Zeb, Zdw, Zcg, Zch, Zci, Zcj, Zck, Zen, Zbk, Zbh, Zed, Zek, Zel, Zem, Zc5, Zdb, Zc3, Zc8, Zc7, Zc6, Zc9, Zda, Zc4, Zct, Zcx, Zcs, Zcv, Zcu, Zcw, Option.bind_some, Option.bind_none, List.set_cons_zero, List.set_cons_succ, List.set_set, List.length_set, List.length_append, List.length_cons, List.length_nil, List.append_assoc, List.singleton_append, Nat.zero_add, Nat.add_zero, Nat.reduceLT, Nat.reduceAdd, Zaj, Zah, Zaf, Zai, Zad, Zae, Zag, Zet, Zeu, Zes, Za2, Za3, Za1, Zei, Zej, Zeh, Zab, Zac, Zaa, Zeq, Zep, Zcq, Zcn, Zcp, Zco, Zcr, Za7, Za6, Zef, Zeg, Zee, Zbf,
    Zbv, Zby, Zbi, Zb2, Zbn, Zbo, Zbs, Zbr, Zbt, Zbq, Zbm, Zb0, Zbx, Zbg, ev_t, ev_c, ev_f, Zcb, Zca, Zb8, Zb9, Zb6, Zb7, Zd8, Zea, Zd9, Zcm, Zcl, Zd2, Zd0, Zd1,
    Zd7, Zd6, Zd5, Zd4, Zan, Zev, Zbb, Zbc, Zba, Zcc, Zds, Zdp, Zdr, Zdq, Zdc, Zdd, Zdt, Zc2, Za4, Za8, Zeo, Zdz, Zdx, Zdy,
    Zao, Za0, Zaw, Zar, Zax, Zav, Zau, Zat, Zas, Zay, Zaz, Zap, Zaq, Zak, Zdg, Zdh, Zdn, Zdo, Zc0, Zcy, Zcz, Zc1, Option.map_some, Option.map_none, List.cons_append, List.nil_append, List.append_nil, decide_true, decide_false, Bool.not_true, Bool.not_false, Bool.false_eq_true, if_true, if_false, ↓reduceIte, reduceCtorEq, Nat.reduceAdd, Nat.reduceEqDiff, Nat.reduceBEq, Za5, true_and, and_true, eq_self, List.getElem?_cons_zero, List.getElem?_cons_succ, hb, aeq_pn, hp]

theorem check_W (h61 : C.fns 61 = some (.ext xNoEscape)) (f : Bool) (g : Nat) (w : List UInt8) : callW C 41 [.ptr base.length 0 0] (base ++ bR base.length f g w) = some (.tup [], base ++ bR base.length true g w) := by
  cases w with
  | nil => cases f with
    | false => exact check_fresh H base h61
    | true => exact check_again H .nils _ _ _ Zcg
  | cons c l => exact check_again H _ _ _ _ Zcg

theorem write_gen (b h : Nat) (x v : AV) (t : List UInt8) (st0 st1 st2 : St) (hck : callW C 41 [.ptr b 0 0] st0 = some (.tup [], st1)) (h1 : st1[b]? = some (.cells [.ptr b 0 0, x] 0 h false 47))
    (ha : aAppend st1 5 1 1 x (bytesV t) t.length = some (v, st2)) (h2 : st2[b]? = some (.cells [.ptr b 0 0, x] 0 h false 47)) (hv : v.isCell = true) :
    callW C 22 [.ptr b 0 0, .str t] st0 = some (leave st0.length true (.tup [.int .i64 t.length, .nili]) (st2.set b (.cells [.ptr b 0 0, v] 0 (max h v.hi) false 47))) := by
  have ha2 : aAppend st1 5 1 1 x (t.map fun c => .int .u8 c.toNat) t.length = some (v, st2) := ha
  obtain ⟨A, B, hL⟩ : ∃ A B, leave st0.length true (.tup [.int .i64 t.length, .nili]) (st2.set b (.cells [.ptr b 0 0, v] 0 (max h v.hi) false 47)) = (A, B) := ⟨_, _, rfl⟩
  rw [hL]
  rw [← CW_eq, CW_is H.h22 _ (by simp)]
  simp only [List.length_cons, List.length_nil, Nat.zero_add, Nat.reduceAdd, Nat.reduceSub, List.reduceReplicate, List.cons_append, List.nil_append]
  unfold k22b
  simp only [Zdf, Zdk, Zdl, Zdm, Zdj, Zdi, Zbp, Zb1, Zbj, Zbu, Zbl, Zbz, Zbw, Zb4, Zb3, Zb5, Zdu, Zec, Zbe, Zbd, Zam, Zal, Zcd, Zer, Zex, Zew, Zdv, Zd3, Za9, Zce, Zcf, Zeb, Zdw, Zcg, Zch, Zci, Zcj, Zck, Zen, Zbk, Zbh, Zed, Zek, Zel, Zem, Zc5, Zdb, Zc3, Zc8, Zc7, Zc6, Zc9, Zda, Zc4, Zct, Zcx, Zcs, Zcv, Zcu, Zcw, Option.bind_some, Option.bind_none, List.set_cons_zero, List.set_cons_succ, List.set_set, List.length_set, List.length_append, List.length_cons, List.length_nil, List.append_assoc, List.singleton_append, Nat.zero_add, Nat.add_zero, Nat.reduceLT, Nat.reduceAdd, Zaj, Zah, Zaf, Zai, Zad, Zae, Zag, Zet, Zeu, Zes, Za2, Za3, Za1, Zei, Zej, Zeh, Zab, Zac, Zaa, Zeq, Zep, Zcq, Zcn, Zcp, Zco, Zcr, Za7, Za6, Zef, Zeg, Zee, Zbf,
    Zbv, Zby, Zbi, Zb2, Zbn, Zbo, Zbs, Zbr, Zbt, Zbq, Zbm, Zb0, Zbx, Zbg, ev_t, ev_c, ev_f, Zcb, Zca, Zb8, Zb9, Zb6, Zb7, Zd8, Zea, Zd9, Zcm, Zcl, Zd2, Zd0, Zd1,
    Zd7, Zd6, Zd5, Zd4, Zan, Zev, Zbb, Zbc, Zba, Zcc, Zds, Zdp, Zdr, Zdq, Zdc, Zdd, Zdt, Zc2, Za4, Za8, Zeo, Zdz, Zdx, Zdy,
    Zao, Za0, Zaw, Zar, Zax, Zav, Zau, Zat, Zas, Zay, Zaz, Zap, Zaq, Zak, Zdg, Zdh, Zdn, Zdo, Zc0, Zcy, Zcz, Zc1, Option.map_some, Option.map_none, List.cons_append, List.nil_append, List.append_nil, decide_true, decide_false, Bool.not_true, Bool.not_false, Bool.false_eq_true, if_true, if_false, ↓reduceIte, reduceCtorEq, Nat.reduceAdd, Nat.reduceEqDiff, Nat.reduceBEq, Za5, true_and, and_true, eq_self, List.getElem?_cons_zero, List.getElem?_cons_succ, hck, h1, appE_str, ha2, h2, wrE_ref, hv, Nat.reduceLeDiff, hL]

/-- Builder.WriteString -/
theorem write_W (h61 : C.fns 61 = some (.ext xNoEscape)) (f : Bool) (g : Nat) (w t : List UInt8) (hl : w.length + t.length ≤ 1000000) :
    ∃ g', callW C 22 [.ptr base.length 0 0, .str t] (base ++ bR base.length f g w) = some (.tup [.int .i64 t.length, .nili], base ++ bR base.length true g' (w ++ t)) := by
  have hck := check_W H base h61 f g w
  cases w with
  | nil => cases t with
    | nil =>
      refine ⟨g, ?_⟩
      have h1 := app_none (base ++ bR base.length true g []) .nils rfl (by intro b h; cases h)
      rw [write_gen H base.length (base.length + 1) .nils .nils [] _ _ _ hck Zcg h1 Zcg (by simp [AV.isCell])]
      simp only [bR, if_true, Zek, Zcv, Nat.max_zero, List.append_nil, Nat.zero_max]
      rw [leave_keep (by cases f <;> simp) (by simp [AV.hi, AV.his])]
    | cons c l =>
      refine ⟨0, ?_⟩
      have h1 := app_first (base ++ bR base.length true g []) (c :: l) (by simp) (by simpa using hl)
      rw [write_gen H base.length (base.length + 1) .nils _ (c :: l) _ _ _ hck Zcg h1 (by simp [bR]) (by simp [AV.isCell])]
      simp only [bR, if_true, List.append_assoc, List.cons_append, List.nil_append, Zek, hi_slc, List.length_append, List.length_cons, List.length_nil, Nat.zero_add]
      rw [leave_stay (by cases f <;> simp) (by cases f <;> simp [Row.top])]
      have : max (base.length + 1) (base.length + 1 + 1) = base.length + 2 := by omega
      simp only [this]
  | cons a v => cases t with
    | nil =>
      refine ⟨g, ?_⟩
      have h1 := app_none (base ++ bR base.length true g (a :: v)) (.slc (base.length + 1) 0 (a :: v).length (a :: v).length g 1 false) rfl (by intro b h; cases h)
      rw [write_gen H base.length (base.length + 2) _ _ [] _ _ _ hck Zcg h1 Zcg (by simp [AV.isCell])]
      have : max (base.length + 2) (base.length + 1 + 1) = base.length + 2 := by omega
      simp only [bR, Zek, hi_slc, List.append_nil, this]
      rw [leave_keep (by simp) (by simp [AV.hi, AV.his])]
    | cons c l =>
      refine ⟨g + 1, ?_⟩
      have h1 := app_more base (.cells [.ptr base.length 0 0, .slc (base.length + 1) 0 (a :: v).length (a :: v).length g 1 false] 0 (base.length + 2) false 47) (a :: v) (c :: l) g (by simp) (by simp) hl
      rw [write_gen H base.length (base.length + 2) _ _ (c :: l) _ _ _ hck Zcg h1 Zcg (by simp [AV.isCell])]
      have : max (base.length + 2) (base.length + 1 + 1) = base.length + 2 := by omega
      simp only [List.cons_append, bR, Zek, hi_slc, this]
      rw [leave_keep (by simp) (by simp [AV.hi, AV.his])]

/-- What is left of a builder's rows behind String. -/
def bZ (b : Nat) (f : Bool) (g : Nat) (w : List UInt8) : List Row :=
  match w with
  | [] => bR b f g []
  | _ :: _ => [.cells [.ptr b 0 0, .slc (b + 1) 0 w.length w.length g 1 false] 0 (b + 2) false 47, .cells (bytesV w) g 0 true 5]

theorem us_bytes (st : St) (r g h : Nat) (w : List UInt8) (hw : 0 < w.length) (hl : w.length ≤ 1000000) (hr : st[r]? = some (.cells (bytesV w) g h false 5)) :
    usE 5 (some (.ptr r 0 g)) (some (.int .i64 w.length)) st = some (.str w, st.set r (.cells (bytesV w) g h true 5)) := by
  have h0 : ¬ w.length = 0 := by omega
  have hs : w.length ≤ small := by unfold small; omega
  have hn : natOf (.int .i64 w.length) = some w.length := by simp [natOf]
  have hc : cut (bytesV w) 0 w.length = some (bytesV w) := cut_all _ _ (bytesV_len w)
  unfold usE
  simp only [Option.bind_some, hn, h0, if_false, hs, not_true_eq_false, hr, hc, bytesV_str, and_self, if_true]

/-- Builder.String -/
theorem string_W (g : Nat) (w : List UInt8) (hl : w.length ≤ 1000000) : callW C 24 [.ptr base.length 0 0] (base ++ bR base.length true g w) = some (.str w, base ++ bZ base.length true g w) := by
  rw [← CW_eq, CW_is H.h24 _ (by simp)]
  simp only [List.length_cons, List.length_nil, Nat.zero_add, Nat.reduceAdd, Nat.reduceSub, List.reduceReplicate, List.cons_append, List.nil_append]
  unfold k24b
  cases w with
  | nil =>
    simp only [bR, bZ, if_true]
    have us : ∀ st : St, usE 5 (some .nilp) (some (.int .i64 0)) st = some (.str [], st) := fun _ => rfl
    simp only [W_draw, WH_op, WH_nil, histQ_eff, histQ_pure, Zdf, Zdk, Zdl, Zdm, Zdj, Zdi, Zbp, Zb1, Zbj, Zbu, Zbl, Zbz, Zbw, Zb4, Zb3, Zb5, Zdu, Zec, Zbe, Zbd, Zam, Zal, Zcd, Zer, Zex, Zew, Zdv, Zd3, Za9, Zce, Zcf, Zeb, Zdw, Zcg, Zch, Zci, Zcj, Zck, Zen, Zbk, Zbh, Zed, Zek, Zel, Zem, Zc5, Zdb, Zc3, Zc8, Zc7, Zc6, Zc9, Zda, Zc4, Zct, Zcx, Zcs, Zcv, Zcu, Zcw, Option.bind_some, Option.bind_none, List.set_cons_zero, List.set_cons_succ, List.set_set, List.length_set, List.length_append, List.length_cons, List.length_nil, List.append_assoc, List.singleton_append, Nat.zero_add, Nat.add_zero, Nat.reduceLT, Nat.reduceAdd, Zaj, Zah, Zaf, Zai, Zad, Zae, Zag, Zet, Zeu, Zes, Za2, Za3, Za1, Zei, Zej, Zeh, Zab, Zac, Zaa, Zeq, Zep, Zcq, Zcn, Zcp, Zco, Zcr, Za7, Za6, Zef, Zeg, Zee, Zbf,
    Zbv, Zby, Zbi, Zb2, Zbn, Zbo, Zbs, Zbr, Zbt, Zbq, Zbm, Zb0, Zbx, Zbg, ev_t, ev_c, ev_f, Zcb, Zca, Zb8, Zb9, Zb6, Zb7, Zd8, Zea, Zd9, Zcm, Zcl, Zd2, Zd0, Zd1,
    Zd7, Zd6, Zd5, Zd4, Zan, Zev, Zbb, Zbc, Zba, Zcc, Zds, Zdp, Zdr, Zdq, Zdc, Zdd, Zdt, Zc2, Za4, Za8, Zeo, Zdz, Zdx, Zdy,
    Zao, Za0, Zaw, Zar, Zax, Zav, Zau, Zat, Zas, Zay, Zaz, Zap, Zaq, Zak, Zdg, Zdh, Zdn, Zdo, Zc0, Zcy, Zcz, Zc1, Option.map_some, Option.map_none, List.cons_append, List.nil_append, List.append_nil, decide_true, decide_false, Bool.not_true, Bool.not_false, Bool.false_eq_true, if_true, if_false, ↓reduceIte, reduceCtorEq, Nat.reduceAdd, Nat.reduceEqDiff, Nat.reduceBEq, Za5, true_and, and_true, eq_self, List.getElem?_cons_zero, List.getElem?_cons_succ, eff_mv, lays_mv, eff_pick, lays_pick, eff_build, lays_build, eff_load, Zde, eff_nilchk, lays_nilchk, eff_faddr, lays_faddr, eff_field, lays_field, eff_bin, lays_bin, eff_un, lays_un, eff_conv, lays_conv, eff_mkfn, lays_mkfn, eff_mkif, lays_mkif, eff_slice, lays_slice, eff_iaddr, lays_iaddr, eff_ixs, lays_ixs, eff_extract, lays_extract, eff_len, lays_len, eff_alloc, eff_box, eff_store, eff_call, eff_append, evOp_sdata, sdE_nils, evOp_ustr, eff_sdata, lays_sdata, eff_ustr, Zdp, us]
    refine ⟨?_, ?_⟩
    · simp only [List.all_cons, List.all_nil, Bool.and_true, again_nil, Bool.true_and, Bool.and_eq_true]
      refine ⟨again_one _ _ _ _ _ _ _ rfl (by simp only [Env.mix, Zdf, Zdk, Zdl, Zdm, Zdj, Zdi, Zbp, Zb1, Zbj, Zbu, Zbl, Zbz, Zbw, Zb4, Zb3, Zb5, Zdu, Zec, Zbe, Zbd, Zam, Zal, Zcd, Zer, Zex, Zew, Zdv, Zd3, Za9, Zce, Zcf, Zeb, Zdw, Zcg, Zch, Zci, Zcj, Zck, Zen, Zbk, Zbh, Zed, Zek, Zel, Zem, Zc5, Zdb, Zc3, Zc8, Zc7, Zc6, Zc9, Zda, Zc4, Zct, Zcx, Zcs, Zcv, Zcu, Zcw, Option.bind_some, Option.bind_none, List.set_cons_zero, List.set_cons_succ, List.set_set, List.length_set, List.length_append, List.length_cons, List.length_nil, List.append_assoc, List.singleton_append, Nat.zero_add, Nat.add_zero, Nat.reduceLT, Nat.reduceAdd, Zaj, Zah, Zaf, Zai, Zad, Zae, Zag, Zet, Zeu, Zes, Za2, Za3, Za1, Zei, Zej, Zeh, Zab, Zac, Zaa, Zeq, Zep, Zcq, Zcn, Zcp, Zco, Zcr, Za7, Za6, Zef, Zeg, Zee, Zbf,
    Zbv, Zby, Zbi, Zb2, Zbn, Zbo, Zbs, Zbr, Zbt, Zbq, Zbm, Zb0, Zbx, Zbg, ev_t, ev_c, ev_f, Zcb, Zca, Zb8, Zb9, Zb6, Zb7, Zd8, Zea, Zd9, Zcm, Zcl, Zd2, Zd0, Zd1,
    Zd7, Zd6, Zd5, Zd4, Zan, Zev, Zbb, Zbc, Zba, Zcc, Zds, Zdp, Zdr, Zdq, Zdc, Zdd, Zdt, Zc2, Za4, Za8, Zeo, Zdz, Zdx, Zdy,
    Zao, Za0, Zaw, Zar, Zax, Zav, Zau, Zat, Zas, Zay, Zaz, Zap, Zaq, Zak, Zdg, Zdh, Zdn, Zdo, Zc0, Zcy, Zcz, Zc1, Option.map_some, Option.map_none, List.cons_append, List.nil_append, List.append_nil, decide_true, decide_false, Bool.not_true, Bool.not_false, Bool.false_eq_true, if_true, if_false, ↓reduceIte, reduceCtorEq, Nat.reduceAdd, Nat.reduceEqDiff, Nat.reduceBEq, Za5, true_and, and_true, eq_self, List.getElem?_cons_zero, List.getElem?_cons_succ] <;> rfl) (Zde _ _ _) rfl, again_one _ _ _ _ _ _ _ rfl (by simp only [Env.mix, Zdf, Zdk, Zdl, Zdm, Zdj, Zdi, Zbp, Zb1, Zbj, Zbu, Zbl, Zbz, Zbw, Zb4, Zb3, Zb5, Zdu, Zec, Zbe, Zbd, Zam, Zal, Zcd, Zer, Zex, Zew, Zdv, Zd3, Za9, Zce, Zcf, Zeb, Zdw, Zcg, Zch, Zci, Zcj, Zck, Zen, Zbk, Zbh, Zed, Zek, Zel, Zem, Zc5, Zdb, Zc3, Zc8, Zc7, Zc6, Zc9, Zda, Zc4, Zct, Zcx, Zcs, Zcv, Zcu, Zcw, Option.bind_some, Option.bind_none, List.set_cons_zero, List.set_cons_succ, List.set_set, List.length_set, List.length_append, List.length_cons, List.length_nil, List.append_assoc, List.singleton_append, Nat.zero_add, Nat.add_zero, Nat.reduceLT, Nat.reduceAdd, Zaj, Zah, Zaf, Zai, Zad, Zae, Zag, Zet, Zeu, Zes, Za2, Za3, Za1, Zei, Zej, Zeh, Zab, Zac, Zaa, Zeq, Zep, Zcq, Zcn, Zcp, Zco, Zcr, Za7, Za6, Zef, Zeg, Zee, Zbf,
    Zbv, Zby, Zbi, Zb2, Zbn, Zbo, Zbs, Zbr, Zbt, Zbq, Zbm, Zb0, Zbx, Zbg, ev_t, ev_c, ev_f, Zcb, Zca, Zb8, Zb9, Zb6, Zb7, Zd8, Zea, Zd9, Zcm, Zcl, Zd2, Zd0, Zd1,
    Zd7, Zd6, Zd5, Zd4, Zan, Zev, Zbb, Zbc, Zba, Zcc, Zds, Zdp, Zdr, Zdq, Zdc, Zdd, Zdt, Zc2, Za4, Za8, Zeo, Zdz, Zdx, Zdy,
    Zao, Za0, Zaw, Zar, Zax, Zav, Zau, Zat, Zas, Zay, Zaz, Zap, Zaq, Zak, Zdg, Zdh, Zdn, Zdo, Zc0, Zcy, Zcz, Zc1, Option.map_some, Option.map_none, List.cons_append, List.nil_append, List.append_nil, decide_true, decide_false, Bool.not_true, Bool.not_false, Bool.false_eq_true, if_true, if_false, ↓reduceIte, reduceCtorEq, Nat.reduceAdd, Nat.reduceEqDiff, Nat.reduceBEq, Za5, true_and, and_true, eq_self, List.getElem?_cons_zero, List.getElem?_cons_succ] <;> rfl) (Zde _ _ _) rfl, again_one _ _ _ _ _ _ _ rfl (by simp only [Env.mix, Zdf, Zdk, Zdl, Zdm, Zdj, Zdi, Zbp, Zb1, Zbj, Zbu, Zbl, Zbz, Zbw, Zb4, Zb3, Zb5, Zdu, Zec, Zbe, Zbd, Zam, Zal, Zcd, Zer, Zex, Zew, Zdv, Zd3, Za9, Zce, Zcf, Zeb, Zdw, Zcg, Zch, Zci, Zcj, Zck, Zen, Zbk, Zbh, Zed, Zek, Zel, Zem, Zc5, Zdb, Zc3, Zc8, Zc7, Zc6, Zc9, Zda, Zc4, Zct, Zcx, Zcs, Zcv, Zcu, Zcw, Option.bind_some, Option.bind_none, List.set_cons_zero, List.set_cons_succ, List.set_set, List.length_set, List.length_append, List.length_cons, List.length_nil, List.append_assoc, List.singleton_append, Nat.zero_add, Nat.add_zero, Nat.reduceLT, Nat.reduceAdd, Zaj, Zah, Zaf, Zai, Zad, Zae, Zag, Zet, Zeu, Zes, Za2, Za3, Za1, Zei, Zej, Zeh, Zab, Zac, Zaa, Zeq, Zep, Zcq, Zcn, Zcp, Zco, Zcr, Za7, Za6, Zef, Zeg, Zee, Zbf,
    Zbv, Zby, Zbi, Zb2, Zbn, Zbo, Zbs, Zbr, Zbt, Zbq, Zbm, Zb0, Zbx, Zbg, ev_t, ev_c, ev_f, Zcb, Zca, Zb8, Zb9, Zb6, Zb7, Zd8, Zea, Zd9, Zcm, Zcl, Zd2, Zd0, Zd1,
    Zd7, Zd6, Zd5, Zd4, Zan, Zev, Zbb, Zbc, Zba, Zcc, Zds, Zdp, Zdr, Zdq, Zdc, Zdd, Zdt, Zc2, Za4, Za8, Zeo, Zdz, Zdx, Zdy,
    Zao, Za0, Zaw, Zar, Zax, Zav, Zau, Zat, Zas, Zay, Zaz, Zap, Zaq, Zak, Zdg, Zdh, Zdn, Zdo, Zc0, Zcy, Zcz, Zc1, Option.map_some, Option.map_none, List.cons_append, List.nil_append, List.append_nil, decide_true, decide_false, Bool.not_true, Bool.not_false, Bool.false_eq_true, if_true, if_false, ↓reduceIte, reduceCtorEq, Nat.reduceAdd, Nat.reduceEqDiff, Nat.reduceBEq, Za5, true_and, and_true, eq_self, List.getElem?_cons_zero, List.getElem?_cons_succ, Zdp] <;> rfl) (lays_len _ _) rfl⟩
    · simp only [Zdf, Zdk, Zdl, Zdm, Zdj, Zdi, Zbp, Zb1, Zbj, Zbu, Zbl, Zbz, Zbw, Zb4, Zb3, Zb5, Zdu, Zec, Zbe, Zbd, Zam, Zal, Zcd, Zer, Zex, Zew, Zdv, Zd3, Za9, Zce, Zcf, Zeb, Zdw, Zcg, Zch, Zci, Zcj, Zck, Zen, Zbk, Zbh, Zed, Zek, Zel, Zem, Zc5, Zdb, Zc3, Zc8, Zc7, Zc6, Zc9, Zda, Zc4, Zct, Zcx, Zcs, Zcv, Zcu, Zcw, Option.bind_some, Option.bind_none, List.set_cons_zero, List.set_cons_succ, List.set_set, List.length_set, List.length_append, List.length_cons, List.length_nil, List.append_assoc, List.singleton_append, Nat.zero_add, Nat.add_zero, Nat.reduceLT, Nat.reduceAdd, Zaj, Zah, Zaf, Zai, Zad, Zae, Zag, Zet, Zeu, Zes, Za2, Za3, Za1, Zei, Zej, Zeh, Zab, Zac, Zaa, Zeq, Zep, Zcq, Zcn, Zcp, Zco, Zcr, Za7, Za6, Zef, Zeg, Zee, Zbf,
    Zbv, Zby, Zbi, Zb2, Zbn, Zbo, Zbs, Zbr, Zbt, Zbq, Zbm, Zb0, Zbx, Zbg, ev_t, ev_c, ev_f, Zcb, Zca, Zb8, Zb9, Zb6, Zb7, Zd8, Zea, Zd9, Zcm, Zcl, Zd2, Zd0, Zd1,
    Zd7, Zd6, Zd5, Zd4, Zan, Zev, Zbb, Zbc, Zba, Zcc, Zds, Zdp, Zdr, Zdq, Zdc, Zdd, Zdt, Zc2, Za4, Za8, Zeo, Zdz, Zdx, Zdy,
    Zao, Za0, Zaw, Zar, Zax, Zav, Zau, Zat, Zas, Zay, Zaz, Zap, Zaq, Zak, Zdg, Zdh, Zdn, Zdo, Zc0, Zcy, Zcz, Zc1, Option.map_some, Option.map_none, List.cons_append, List.nil_append, List.append_nil, decide_true, decide_false, Bool.not_true, Bool.not_false, Bool.false_eq_true, if_true, if_false, ↓reduceIte, reduceCtorEq, Nat.reduceAdd, Nat.reduceEqDiff, Nat.reduceBEq, Za5, true_and, and_true, eq_self, List.getElem?_cons_zero, List.getElem?_cons_succ]
      rw [leave_keep (by simp) (by simp [AV.hi])]
      exact ⟨rfl, rfl⟩
  | cons a v =>
    have us := us_bytes H (base ++ [.cells [.ptr base.length 0 0, .slc (base.length + 1) 0 (a :: v).length (a :: v).length g 1 false] 0 (base.length + 2) false 47, .cells (bytesV (a :: v)) g 0 false 5]) (base.length + 1) g 0 (a :: v) (by simp) hl Zch
    rw [Zel] at us
    have hpos : 0 < (a :: v).length := by simp
    obtain ⟨n, hn⟩ : ∃ n, (a :: v).length = n := ⟨_, rfl⟩
    rw [hn] at hpos
    simp only [bR, bZ, hn] at us ⊢
    have sd : ∀ st : St, sdE (some (.slc (base.length + 1) 0 n n g 1 false)) st = some (.ptr (base.length + 1) 0 g, st) := fun st => sdE_slc _ _ _ _ _ _ _ hpos
    simp only [W_draw, WH_op, WH_nil, histQ_eff, histQ_pure, Zdf, Zdk, Zdl, Zdm, Zdj, Zdi, Zbp, Zb1, Zbj, Zbu, Zbl, Zbz, Zbw, Zb4, Zb3, Zb5, Zdu, Zec, Zbe, Zbd, Zam, Zal, Zcd, Zer, Zex, Zew, Zdv, Zd3, Za9, Zce, Zcf, Zeb, Zdw, Zcg, Zch, Zci, Zcj, Zck, Zen, Zbk, Zbh, Zed, Zek, Zel, Zem, Zc5, Zdb, Zc3, Zc8, Zc7, Zc6, Zc9, Zda, Zc4, Zct, Zcx, Zcs, Zcv, Zcu, Zcw, Option.bind_some, Option.bind_none, List.set_cons_zero, List.set_cons_succ, List.set_set, List.length_set, List.length_append, List.length_cons, List.length_nil, List.append_assoc, List.singleton_append, Nat.zero_add, Nat.add_zero, Nat.reduceLT, Nat.reduceAdd, Zaj, Zah, Zaf, Zai, Zad, Zae, Zag, Zet, Zeu, Zes, Za2, Za3, Za1, Zei, Zej, Zeh, Zab, Zac, Zaa, Zeq, Zep, Zcq, Zcn, Zcp, Zco, Zcr, Za7, Za6, Zef, Zeg, Zee, Zbf,
    Zbv, Zby, Zbi, Zb2, Zbn, Zbo, Zbs, Zbr, Zbt, Zbq, Zbm, Zb0, Zbx, Zbg, ev_t, ev_c, ev_f, Zcb, Zca, Zb8, Zb9, Zb6, Zb7, Zd8, Zea, Zd9, Zcm, Zcl, Zd2, Zd0, Zd1,
    Zd7, Zd6, Zd5, Zd4, Zan, Zev, Zbb, Zbc, Zba, Zcc, Zds, Zdp, Zdr, Zdq, Zdc, Zdd, Zdt, Zc2, Za4, Za8, Zeo, Zdz, Zdx, Zdy,
    Zao, Za0, Zaw, Zar, Zax, Zav, Zau, Zat, Zas, Zay, Zaz, Zap, Zaq, Zak, Zdg, Zdh, Zdn, Zdo, Zc0, Zcy, Zcz, Zc1, Option.map_some, Option.map_none, List.cons_append, List.nil_append, List.append_nil, decide_true, decide_false, Bool.not_true, Bool.not_false, Bool.false_eq_true, if_true, if_false, ↓reduceIte, reduceCtorEq, Nat.reduceAdd, Nat.reduceEqDiff, Nat.reduceBEq, Za5, true_and, and_true, eq_self, List.getElem?_cons_zero, List.getElem?_cons_succ, eff_mv, lays_mv, eff_pick, lays_pick, eff_build, lays_build, eff_load, Zde, eff_nilchk, lays_nilchk, eff_faddr, lays_faddr, eff_field, lays_field, eff_bin, lays_bin, eff_un, lays_un, eff_conv, lays_conv, eff_mkfn, lays_mkfn, eff_mkif, lays_mkif, eff_slice, lays_slice, eff_iaddr, lays_iaddr, eff_ixs, lays_ixs, eff_extract, lays_extract, eff_len, lays_len, eff_alloc, eff_box, eff_store, eff_call, eff_append, evOp_sdata, sd, evOp_ustr, eff_sdata, lays_sdata, eff_ustr, Zdr, us]
    refine ⟨?_, ?_⟩
    · simp only [List.all_cons, List.all_nil, Bool.and_true, again_nil, Bool.true_and, Bool.and_eq_true]
      refine ⟨again_one _ _ _ _ _ _ _ rfl (by simp only [Env.mix, Zdf, Zdk, Zdl, Zdm, Zdj, Zdi, Zbp, Zb1, Zbj, Zbu, Zbl, Zbz, Zbw, Zb4, Zb3, Zb5, Zdu, Zec, Zbe, Zbd, Zam, Zal, Zcd, Zer, Zex, Zew, Zdv, Zd3, Za9, Zce, Zcf, Zeb, Zdw, Zcg, Zch, Zci, Zcj, Zck, Zen, Zbk, Zbh, Zed, Zek, Zel, Zem, Zc5, Zdb, Zc3, Zc8, Zc7, Zc6, Zc9, Zda, Zc4, Zct, Zcx, Zcs, Zcv, Zcu, Zcw, Option.bind_some, Option.bind_none, List.set_cons_zero, List.set_cons_succ, List.set_set, List.length_set, List.length_append, List.length_cons, List.length_nil, List.append_assoc, List.singleton_append, Nat.zero_add, Nat.add_zero, Nat.reduceLT, Nat.reduceAdd, Zaj, Zah, Zaf, Zai, Zad, Zae, Zag, Zet, Zeu, Zes, Za2, Za3, Za1, Zei, Zej, Zeh, Zab, Zac, Zaa, Zeq, Zep, Zcq, Zcn, Zcp, Zco, Zcr, Za7, Za6, Zef, Zeg, Zee, Zbf,
    Zbv, Zby, Zbi, Zb2, Zbn, Zbo, Zbs, Zbr, Zbt, Zbq, Zbm, Zb0, Zbx, Zbg, ev_t, ev_c, ev_f, Zcb, Zca, Zb8, Zb9, Zb6, Zb7, Zd8, Zea, Zd9, Zcm, Zcl, Zd2, Zd0, Zd1,
    Zd7, Zd6, Zd5, Zd4, Zan, Zev, Zbb, Zbc, Zba, Zcc, Zds, Zdp, Zdr, Zdq, Zdc, Zdd, Zdt, Zc2, Za4, Za8, Zeo, Zdz, Zdx, Zdy,
    Zao, Za0, Zaw, Zar, Zax, Zav, Zau, Zat, Zas, Zay, Zaz, Zap, Zaq, Zak, Zdg, Zdh, Zdn, Zdo, Zc0, Zcy, Zcz, Zc1, Option.map_some, Option.map_none, List.cons_append, List.nil_append, List.append_nil, decide_true, decide_false, Bool.not_true, Bool.not_false, Bool.false_eq_true, if_true, if_false, ↓reduceIte, reduceCtorEq, Nat.reduceAdd, Nat.reduceEqDiff, Nat.reduceBEq, Za5, true_and, and_true, eq_self, List.getElem?_cons_zero, List.getElem?_cons_succ] <;> rfl) (Zde _ _ _) rfl, again_one _ _ _ _ _ _ _ rfl (by simp only [Env.mix, Zdf, Zdk, Zdl, Zdm, Zdj, Zdi, Zbp, Zb1, Zbj, Zbu, Zbl, Zbz, Zbw, Zb4, Zb3, Zb5, Zdu, Zec, Zbe, Zbd, Zam, Zal, Zcd, Zer, Zex, Zew, Zdv, Zd3, Za9, Zce, Zcf, Zeb, Zdw, Zcg, Zch, Zci, Zcj, Zck, Zen, Zbk, Zbh, Zed, Zek, Zel, Zem, Zc5, Zdb, Zc3, Zc8, Zc7, Zc6, Zc9, Zda, Zc4, Zct, Zcx, Zcs, Zcv, Zcu, Zcw, Option.bind_some, Option.bind_none, List.set_cons_zero, List.set_cons_succ, List.set_set, List.length_set, List.length_append, List.length_cons, List.length_nil, List.append_assoc, List.singleton_append, Nat.zero_add, Nat.add_zero, Nat.reduceLT, Nat.reduceAdd, Zaj, Zah, Zaf, Zai, Zad, Zae, Zag, Zet, Zeu, Zes, Za2, Za3, Za1, Zei, Zej, Zeh, Zab, Zac, Zaa, Zeq, Zep, Zcq, Zcn, Zcp, Zco, Zcr, Za7, Za6, Zef, Zeg, Zee, Zbf,
    Zbv, Zby, Zbi, Zb2, Zbn, Zbo, Zbs, Zbr, Zbt, Zbq, Zbm, Zb0, Zbx, Zbg, ev_t, ev_c, ev_f, Zcb, Zca, Zb8, Zb9, Zb6, Zb7, Zd8, Zea, Zd9, Zcm, Zcl, Zd2, Zd0, Zd1,
    Zd7, Zd6, Zd5, Zd4, Zan, Zev, Zbb, Zbc, Zba, Zcc, Zds, Zdp, Zdr, Zdq, Zdc, Zdd, Zdt, Zc2, Za4, Za8, Zeo, Zdz, Zdx, Zdy,
    Zao, Za0, Zaw, Zar, Zax, Zav, Zau, Zat, Zas, Zay, Zaz, Zap, Zaq, Zak, Zdg, Zdh, Zdn, Zdo, Zc0, Zcy, Zcz, Zc1, Option.map_some, Option.map_none, List.cons_append, List.nil_append, List.append_nil, decide_true, decide_false, Bool.not_true, Bool.not_false, Bool.false_eq_true, if_true, if_false, ↓reduceIte, reduceCtorEq, Nat.reduceAdd, Nat.reduceEqDiff, Nat.reduceBEq, Za5, true_and, and_true, eq_self, List.getElem?_cons_zero, List.getElem?_cons_succ] <;> rfl) (Zde _ _ _) rfl, again_one _ _ _ _ _ _ _ rfl (by simp only [Env.mix, Zdf, Zdk, Zdl, Zdm, Zdj, Zdi, Zbp, Zb1, Zbj, Zbu, Zbl, Zbz, Zbw, Zb4, Zb3, Zb5, Zdu, Zec, Zbe, Zbd, Zam, Zal, Zcd, Zer, Zex, Zew, Zdv, Zd3, Za9, Zce, Zcf, Zeb, Zdw, Zcg, Zch, Zci, Zcj, Zck, Zen, Zbk, Zbh, Zed, Zek, Zel, Zem, Zc5, Zdb, Zc3, Zc8, Zc7, Zc6, Zc9, Zda, Zc4, Zct, Zcx, Zcs, Zcv, Zcu, Zcw, Option.bind_some, Option.bind_none, List.set_cons_zero, List.set_cons_succ, List.set_set, List.length_set, List.length_append, List.length_cons, List.length_nil, List.append_assoc, List.singleton_append, Nat.zero_add, Nat.add_zero, Nat.reduceLT, Nat.reduceAdd, Zaj, Zah, Zaf, Zai, Zad, Zae, Zag, Zet, Zeu, Zes, Za2, Za3, Za1, Zei, Zej, Zeh, Zab, Zac, Zaa, Zeq, Zep, Zcq, Zcn, Zcp, Zco, Zcr, Za7, Za6, Zef, Zeg, Zee, Zbf,
    Zbv, Zby, Zbi, Zb2, Zbn, Zbo, Zbs, Zbr, Zbt, Zbq, Zbm, Zb0, Zbx, Zbg, ev_t, ev_c, ev_f, Zcb, Zca, Zb8, Zb9, Zb6, Zb7, Zd8, Zea, Zd9, Zcm, Zcl, Zd2, Zd0, Zd1,
    Zd7, Zd6, Zd5, Zd4, Zan, Zev, Zbb, Zbc, Zba, Zcc, Zds, Zdp, Zdr, Zdq, Zdc, Zdd, Zdt, Zc2, Za4, Za8, Zeo, Zdz, Zdx, Zdy,
    Zao, Za0, Zaw, Zar, Zax, Zav, Zau, Zat, Zas, Zay, Zaz, Zap, Zaq, Zak, Zdg, Zdh, Zdn, Zdo, Zc0, Zcy, Zcz, Zc1, Option.map_some, Option.map_none, List.cons_append, List.nil_append, List.append_nil, decide_true, decide_false, Bool.not_true, Bool.not_false, Bool.false_eq_true, if_true, if_false, ↓reduceIte, reduceCtorEq, Nat.reduceAdd, Nat.reduceEqDiff, Nat.reduceBEq, Za5, true_and, and_true, eq_self, List.getElem?_cons_zero, List.getElem?_cons_succ, Zdr] <;> rfl) (lays_len _ _) rfl⟩
    · simp only [Zdf, Zdk, Zdl, Zdm, Zdj, Zdi, Zbp, Zb1, Zbj, Zbu, Zbl, Zbz, Zbw, Zb4, Zb3, Zb5, Zdu, Zec, Zbe, Zbd, Zam, Zal, Zcd, Zer, Zex, Zew, Zdv, Zd3, Za9, Zce, Zcf, Zeb, Zdw, Zcg, Zch, Zci, Zcj, Zck, Zen, Zbk, Zbh, Zed, Zek, Zel, Zem, Zc5, Zdb, Zc3, Zc8, Zc7, Zc6, Zc9, Zda, Zc4, Zct, Zcx, Zcs, Zcv, Zcu, Zcw, Option.bind_some, Option.bind_none, List.set_cons_zero, List.set_cons_succ, List.set_set, List.length_set, List.length_append, List.length_cons, List.length_nil, List.append_assoc, List.singleton_append, Nat.zero_add, Nat.add_zero, Nat.reduceLT, Nat.reduceAdd, Zaj, Zah, Zaf, Zai, Zad, Zae, Zag, Zet, Zeu, Zes, Za2, Za3, Za1, Zei, Zej, Zeh, Zab, Zac, Zaa, Zeq, Zep, Zcq, Zcn, Zcp, Zco, Zcr, Za7, Za6, Zef, Zeg, Zee, Zbf,
    Zbv, Zby, Zbi, Zb2, Zbn, Zbo, Zbs, Zbr, Zbt, Zbq, Zbm, Zb0, Zbx, Zbg, ev_t, ev_c, ev_f, Zcb, Zca, Zb8, Zb9, Zb6, Zb7, Zd8, Zea, Zd9, Zcm, Zcl, Zd2, Zd0, Zd1,
    Zd7, Zd6, Zd5, Zd4, Zan, Zev, Zbb, Zbc, Zba, Zcc, Zds, Zdp, Zdr, Zdq, Zdc, Zdd, Zdt, Zc2, Za4, Za8, Zeo, Zdz, Zdx, Zdy,
    Zao, Za0, Zaw, Zar, Zax, Zav, Zau, Zat, Zas, Zay, Zaz, Zap, Zaq, Zak, Zdg, Zdh, Zdn, Zdo, Zc0, Zcy, Zcz, Zc1, Option.map_some, Option.map_none, List.cons_append, List.nil_append, List.append_nil, decide_true, decide_false, Bool.not_true, Bool.not_false, Bool.false_eq_true, if_true, if_false, ↓reduceIte, reduceCtorEq, Nat.reduceAdd, Nat.reduceEqDiff, Nat.reduceBEq, Za5, true_and, and_true, eq_self, List.getElem?_cons_zero, List.getElem?_cons_succ]
      rw [leave_keep (by simp) (by simp [AV.hi])]
      exact ⟨rfl, rfl⟩
end
end Go.Eng

