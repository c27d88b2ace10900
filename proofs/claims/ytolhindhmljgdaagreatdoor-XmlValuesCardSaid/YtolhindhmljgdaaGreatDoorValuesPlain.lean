/-
  Texts of a proof. Conditions: none.
-/
import Derived.Test.YtolhindhmljgdaaGreatDoorVPlainX
set_option linter.unusedVariables false
set_option linter.unusedSimpArgs false
set_option linter.unnecessarySimpa false
set_option linter.unusedSectionVars false
namespace Go.Eng
open Go
open Go.Eng renaming aIndexAddr_sl → Zaa, binE_some → Zab, blockQ_exit → Zac, blockQ_norm → Zad, blockQ_ret → Zae, condQ_false → Zaf, condQ_true → Zag, consO_some → Zah, consP_some → Zai, convE_bytes → Zaj, convE_int → Zak, convE_same → Zal, endQ_some → Zam, evOp_alloc → Zan, evOp_append → Zao, evOp_bslice → Zap, evOp_build → Zaq, evOp_callE → Zar, evOp_conv → Zas, evOp_faddr → Zat, evOp_iaddr → Zau, evOp_load → Zav, evOp_mkfn → Zaw, evOp_next → Zax, evOp_nilchk → Zay, evOp_pick → Zaz, evOp_range → Za0, evOp_slice → Za1, evOp_store → Za2, evParts_cons → Za3, evParts_nil → Za4, evRes_cell → Za5, evRes_nil → Za6, evRes_tmp → Za7, faddrE_ptr → Za8, fillA_nil → Za9, fillA_one → Zba, guardQ_ff → Zbb, guardQ_ft → Zbc, guardQ_tf → Zbd, guardQ_tt → Zbe, guardQ_undef → Zbf, iaddrE_some → Zbg, isCell_bool → Zbh, isCell_fn → Zbi, isCell_int → Zbj, isCell_nilp → Zbk, isCell_nils → Zbl, isCell_ptr → Zbm, isCell_sl → Zbn, isCell_slc → Zbo, isCell_str → Zbp, ixsE_zero → Zbq, leave_bool → Zbr, leave_int → Zbs, leave_nil → Zbt, leave_set0 → Zbu, leave_setb → Zbv, leave_setn → Zbw, leave_sets → Zbx, leave_str → Zby, leave_tup → Zbz, lenE_nils → Zb0, loadE_one → Zb1, loadE_ptr → Zb2, mkfnE_some → Zb3, nextE_ptr → Zb4, nilE_cptr → Zb5, oneOf_more → Zb6, oneOf_nil → Zb7, oneOf_one → Zb8, partsE_some → Zb9, pickE_false → Zca, pickE_true → Zcb, rangeE_str → Zcc, rdE_cells → Zcd, retQ_exit → Zce, retQ_norm → Zcf, roundQ_exit → Zcg, roundQ_norm → Zch, roundQ_ret → Zci, sliceE_some → Zcj, stepQ_none → Zck, stepQ_some → Zcl, storeE_ptr → Zcm, thenK_exit → Zcn, thenK_norm → Zco, thenK_ret → Zcp
set_option maxHeartbeats 4000000
set_option maxRecDepth 8000
set_option linter.unusedSimpArgs false
set_option linter.unusedVariables false
set_option linter.unusedSectionVars false

theorem pre_split {p s : List UInt8} (h : pre p s = true) : s = p ++ s.drop p.length := by
  unfold pre at h
  have := of_decide_eq_true h
  conv => lhs; rw [← List.take_append_drop p.length s, this]
theorem pre_app (p t : List UInt8) : pre p (p ++ t) = true := by simp [pre]

def AO1 (v : List UInt8) (x : Rd) : Option (AV × Rd) :=
  if pre (32 :: 120 :: 61 :: 34 :: (esc v ++ [34, 47])) x.rest then some (.sl 2 [[.str [120], .str v]] false, x.go (3 + ((esc v).length + 2))) else none
def RO0 (_ : Rd) : Option Rd := none

def valT (v : List UInt8) : List UInt8 := 60 :: 97 :: 32 :: 120 :: 61 :: 34 :: (esc v ++ 34 :: 47 :: [62])
theorem valT_eq (v : List UInt8) : (60 :: [97]) ++ attrsT [([120], v)] ++ [47, 62] = valT v := by simp [attrsT, attrT, valT]

section
variable {C : Ctx} (H : Codes C)
include H

theorem ao1_ok (he : C.fns 113 = some (.ext xIndexByte)) (h61 : C.fns 61 = some (.ext xNoEscape)) (h35 : C.fns 35 = some (.ext xValid)) (v : List UInt8) (hv : Whole v) (hl : v.length ≤ 60) : AOok C (AO1 v) := by
  intro x av y h hx
  unfold AO1 at h
  split at h
  · rename_i hp
    cases h
    obtain ⟨tl, htl⟩ : ∃ tl, x.rest.drop (32 :: 120 :: 61 :: 34 :: (esc v ++ [34, 47])).length = tl := ⟨_, rfl⟩
    have hr := pre_split hp
    rw [htl] at hr
    have hr2 : x.rest = 32 :: 120 :: 61 :: 34 :: (esc v ++ 34 :: 47 :: tl) := by rw [hr]; simp
    exact ⟨ok_go hx (by rw [hr2]; simp; omega), by simp [flatV, AV.hi], fun st r hg hG => attr1_W H he h61 h35 st r x hg hx hG v tl hv hl hr2⟩
  · cases h

theorem parseV_W (he : C.fns 113 = some (.ext xIndexByte)) (h61 : C.fns 61 = some (.ext xNoEscape)) (h35 : C.fns 35 = some (.ext xValid)) (st : St) (hG : Good st) (v : List UInt8) (hv : Whole v) (hl : v.length ≤ 60) :
    callW C 14 [.str (valT v)] st = some (.tup [.agg [.str [97], .sl 2 [[.str [120], .str v]] false, .nils, .int .i64 0], .int .i64 ((valT v).length : Nat), .int .i64 0], st) := by
  have hel := esc_len v
  have hT : (valT v).length ≤ 8000 := by simp [valT]; omega
  obtain ⟨x1, e1⟩ : ∃ x : Rd, x = ⟨valT v, 0, 0, 0, 0⟩ := ⟨_, rfl⟩
  obtain ⟨x2, e2⟩ : ∃ x : Rd, x = ((x1.more.go 1).go 1).go (3 + ((esc v).length + 2)) := ⟨_, rfl⟩
  obtain ⟨x3, e3⟩ : ∃ x : Rd, x = x2.go 2 := ⟨_, rfl⟩
  have r1 : x1.rest = 60 :: 97 :: 32 :: 120 :: 61 :: 34 :: (esc v ++ 34 :: 47 :: [62]) := by rw [e1]; rfl
  have r1b : (x1.more.go 1).rest = 97 :: 32 :: 120 :: 61 :: 34 :: (esc v ++ 34 :: 47 :: [62]) := by
    rw [rest_go]; show x1.rest.drop 1 = _; rw [r1]; rfl
  have r1c : ((x1.more.go 1).go 1).rest = 32 :: 120 :: 61 :: 34 :: (esc v ++ 34 :: 47 :: [62]) := by
    rw [rest_go, r1b]; rfl
  have r2 : x2.rest = [47, 62] := by
    rw [e2, rest_go, r1c]
    have : (32 :: 120 :: 61 :: 34 :: (esc v ++ 34 :: 47 :: [62])).drop (3 + ((esc v).length + 2)) = (34 :: (esc v ++ 34 :: 47 :: [62])).drop ((esc v).length + 2) := by
      rw [← List.drop_drop]; rfl
    rw [this]
    have : (34 :: (esc v ++ 34 :: 47 :: [62])).drop ((esc v).length + 2) = ((esc v ++ 34 :: 47 :: [62]).drop (esc v).length).drop 1 := by
      rw [List.drop_drop]; rfl
    rw [this]; simp
  have r3 : x3.rest = [] := by rw [e3, rest_go, r2]; rfl
  have o1 : x1.Ok := by rw [e1]; exact ⟨Nat.zero_le _, hT⟩
  have w1 : (x1.more.go 1).word = [97] := by
    unfold Rd.word; rw [r1b]
    have a1 : signB 97 = true := by decide
    have a2 : signB 32 = false := by decide
    simp [List.takeWhile_cons, a1, a2]
  have n1 : (x1.more.go 1).name = (x1.more.go 1).go 1 := by
    unfold Rd.name; rw [w1]
    have : isQual [97] = true := by decide
    rw [if_pos this]; rfl
  have ha : AO1 v ((x1.more.go 1).go 1) = some (.sl 2 [[.str [120], .str v]] false, x2) := by
    unfold AO1
    rw [r1c, if_pos, e2]
    have := pre_app (32 :: 120 :: 61 :: 34 :: (esc v ++ [34, 47])) [62]
    simpa using this
  have hf : elemF (AO1 v) RO0 1 0 x1 = some (elemCells [97] (.sl 2 [[.str [120], .str v]] false) .nils x1.a, x3) := by
    simp only [elemF]
    rw [if_neg (by rw [e1]; simp), if_neg (by rw [r1]; simp [pre]), if_neg (by rw [e1]; simp [Rd.more]), n1, ha]
    simp only
    rw [if_pos (by rw [r2]; simp [pre]), w1, e3]
  have hE := elem_step H he (ao1_ok H he h61 h35 v hv hl) (RO := RO0) (fun x y h => by cases h) 0 (fun w d x kv y h => by simp [kidsF] at h)
  obtain ⟨o3, _, _, hcall⟩ := hE 0 x1 _ x3 hf o1 (by omega)
  have g1 : x1.gap = 0 := by unfold Rd.gap; rw [r1]; simp [isBlank]
  have g3 : x3.gap = 0 := by unfold Rd.gap; rw [r3]; rfl
  have nb1 : noBlank x1.rest = x1.rest := by rw [← gap_rest, g1, go_zero]
  have nb3 : noBlank x3.rest = [] := by rw [← gap_rest, g3, go_zero, r3]
  have t3 : x3.tail = x3 := by simp [Rd.tail, r3]
  have z3 : x3.e = 0 := by rw [e3, e2, e1]; rfl
  have a1 : (x1.a : Int) = 0 := by rw [e1]; rfl
  have h := parse_W H st hG (valT v) hT x1 x3 x3 (.str [97]) (.sl 2 [[.str [120], .str v]] false) .nils (.int .i64 0) ⟨rfl, by simp [AV.hi]⟩ ⟨rfl, by simp [AV.hi]⟩ ⟨rfl, by simp [AV.hi]⟩ ⟨rfl, by simp [AV.hi]⟩ o3
    (fun st r hr hG => by
      rw [← e1] at hr
      have := remarks_W H st r x1 hr o1 hG (by rw [nb1, r1]; simp [pre])
      rw [g1, go_zero] at this; exact this)
    (fun st r hr hG => by
      have := hcall st r hr hG
      unfold elemCells at this
      rw [a1] at this
      exact this)
    (fun st r hr hG => by
      have := remarks_W H st r x3 hr o3 hG (by rw [nb3]; simp [pre])
      rw [g3, go_zero] at this; exact this)
  rw [h, t3, z3]
  rfl

/-- XmlValues. -/
theorem values_W (he : C.fns 113 = some (.ext xIndexByte)) (h61 : C.fns 61 = some (.ext xNoEscape)) (h35 : C.fns 35 = some (.ext xValid)) (h42 : C.fns 42 = some (.ext xReplace))
    (hk : ∀ X Y : Row, X.top = 0 → Y.top = 0 → callW C 15 [] [X, Y] = some (.bool true, [X, Y])) (v : List UInt8) (hv : v.length ≤ 9223372036854775807) : callW C 7 [.str v] [] = some (.bool true, []) := by
  have hs := refSigns_W H [] h35 v hv
  rw [← CW_eq, CW_is H.h7 _ (by simp)]
  simp only [List.length_cons, List.length_nil, Nat.zero_add, Nat.reduceAdd, Nat.reduceSub, List.reduceReplicate, List.cons_append, List.nil_append]
  unfold k7b
  cases hw : signs v <;> rw [hw] at hs
  · simp only [leave0, Zbv, Zbw, Zbx, Zbu, Zbt, Zat, Za2, evOp_box, Zaw, Zaq, Za0, Zax, Za4, Za3, Za5, Zb2, Zcd, cut_one, cut_four, agg_one, agg_all, Za8, Zcm, wrE_one, wrE_agg4, Zb3, Zb9, Zai, Za9, Zba, Zcc, Zb4, get_new0, get_new1, get_new2, get_new3, get_new4, set_new3, Zap, Zao, rep_one, set_new0, set_new1, set_new2, Zbj, Zbp, Zbh, Zbm, Zbl, Zbk, Zbn, Zbo, Zbi, hi_int, hi_str, hi_bool, hi_nils, hi_nilp, hi_sl, Option.bind_some, Option.bind_none, List.set_cons_zero, List.set_cons_succ, List.set_set, List.length_set, List.length_append, List.length_cons, List.length_nil, List.append_assoc, List.singleton_append, Nat.zero_add, Nat.add_zero, Nat.reduceLT, Nat.reduceAdd, W_skip, W_ret, W_exit, W_seq, W_block, W_cond, W_reg, Zco, Zcp, Zcn, Zad, Zae, Zac, Zch, Zci, Zcg, WO_nil, WO_op, WO_guard, Zcl, Zck, Zbe, Zbb, Zbd, Zbc, Zbf, Zag, Zaf, Zcf, retQ_ret, Zce, Zam,
    evOp_mv, Zaz, evOp_bin, evOp_un, Zas, evOp_ext, evOp_len, evOp_ixs, Zav, Zau, Zar, Za1, Zay, Zan, ev_t, ev_c, ev_f, evs_nil, evs_cons, evo_none, evo_some, Za6, Za7, put_none, put_zero, put_succ, get_zero, get_succ, Zb8, Zb6, Zb7,
    prE_some, prE_none, Zcb, Zca, Zab, unE_not, Zak, Zal, Zaj, extE_tup, lenE_str, Zb0, lenE_slc, lenE_sl, ixsE_str, Zbq, Zb1, Zbg, callE_f, Zah, Zcj, nilE_ptr, Zb5, nilE_fn,
    bin_add, bin_sub, bin_mul, bin_eql, bin_neq, bin_lss, bin_leq, bin_gtr, bin_geq, bin_seq, bin_sne, bin_beq, bin_bne, Zaa, Zbr, Zbs, Zby, Zbz, his_nil, his_bool, his_int, his_str, Option.map_some, Option.map_none, List.cons_append, List.nil_append, List.append_nil, decide_true, decide_false, Bool.not_true, Bool.not_false, Bool.false_eq_true, if_true, if_false, ↓reduceIte, reduceCtorEq, Nat.reduceAdd, Nat.reduceEqDiff, Nat.reduceBEq, cast0, true_and, and_true, eq_self, List.getElem?_cons_zero, List.getElem?_cons_succ, hs]
  have h60 : ((60 : Int) < (v.length : Int)) ↔ 60 < v.length := by omega
  by_cases hl : 60 < v.length
  · simp only [leave0, Zbv, Zbw, Zbx, Zbu, Zbt, Zat, Za2, evOp_box, Zaw, Zaq, Za0, Zax, Za4, Za3, Za5, Zb2, Zcd, cut_one, cut_four, agg_one, agg_all, Za8, Zcm, wrE_one, wrE_agg4, Zb3, Zb9, Zai, Za9, Zba, Zcc, Zb4, get_new0, get_new1, get_new2, get_new3, get_new4, set_new3, Zap, Zao, rep_one, set_new0, set_new1, set_new2, Zbj, Zbp, Zbh, Zbm, Zbl, Zbk, Zbn, Zbo, Zbi, hi_int, hi_str, hi_bool, hi_nils, hi_nilp, hi_sl, Option.bind_some, Option.bind_none, List.set_cons_zero, List.set_cons_succ, List.set_set, List.length_set, List.length_append, List.length_cons, List.length_nil, List.append_assoc, List.singleton_append, Nat.zero_add, Nat.add_zero, Nat.reduceLT, Nat.reduceAdd, W_skip, W_ret, W_exit, W_seq, W_block, W_cond, W_reg, Zco, Zcp, Zcn, Zad, Zae, Zac, Zch, Zci, Zcg, WO_nil, WO_op, WO_guard, Zcl, Zck, Zbe, Zbb, Zbd, Zbc, Zbf, Zag, Zaf, Zcf, retQ_ret, Zce, Zam,
    evOp_mv, Zaz, evOp_bin, evOp_un, Zas, evOp_ext, evOp_len, evOp_ixs, Zav, Zau, Zar, Za1, Zay, Zan, ev_t, ev_c, ev_f, evs_nil, evs_cons, evo_none, evo_some, Za6, Za7, put_none, put_zero, put_succ, get_zero, get_succ, Zb8, Zb6, Zb7,
    prE_some, prE_none, Zcb, Zca, Zab, unE_not, Zak, Zal, Zaj, extE_tup, lenE_str, Zb0, lenE_slc, lenE_sl, ixsE_str, Zbq, Zb1, Zbg, callE_f, Zah, Zcj, nilE_ptr, Zb5, nilE_fn,
    bin_add, bin_sub, bin_mul, bin_eql, bin_neq, bin_lss, bin_leq, bin_gtr, bin_geq, bin_seq, bin_sne, bin_beq, bin_bne, Zaa, Zbr, Zbs, Zby, Zbz, his_nil, his_bool, his_int, his_str, Option.map_some, Option.map_none, List.cons_append, List.nil_append, List.append_nil, decide_true, decide_false, Bool.not_true, Bool.not_false, Bool.false_eq_true, if_true, if_false, ↓reduceIte, reduceCtorEq, Nat.reduceAdd, Nat.reduceEqDiff, Nat.reduceBEq, cast0, true_and, and_true, eq_self, List.getElem?_cons_zero, List.getElem?_cons_succ, hs, h60, hl]
  have hl2 : v.length ≤ 60 := by omega
  obtain ⟨E, hE⟩ : ∃ E : Row, E = .cells [.str [97], .sl 2 [[.str [120], .str v]] true, .nils, .int .i64 0] 0 0 false 25 := ⟨_, rfl⟩
  obtain ⟨F, hF⟩ : ∃ F : Row, F = .cells [.str [97], .sl 2 [[.str [120], .str v]] false, .nils, .int .i64 0] 0 0 false 25 := ⟨_, rfl⟩
  have hpr := printLeaf_W H h61 h42 [E] (by intro r hr; simp at hr; subst hr; rw [hE]; simp [Row.top]) [97] (by simp) [([120], v)] (by simp) (by intro p hp; simp at hp; subst hp; simp; omega) true (.int .i64 0) rfl (by simp [AV.hi])
  rw [valT_eq] at hpr
  have hpr2 : callW C 13 [.agg [.str [97], .sl 2 [[.str [120], .str v]] true, .nils, .int .i64 0]] [E] = some (.str (valT v), [E]) := hpr
  have hpa := parseV_W H he h61 h35 [E] (by intro r hr; simp at hr; subst hr; rw [hE]; simp [Row.top]) v hw hl2
  have bs : ∀ st : St, bslE 41 2 1 [.str [], .str []] (some [(0, 2, .agg [.str [120], .str v])]) st = some (.sl 2 [[.str [120], .str v]] true, st) := fun st => by
    rw [bslE_pure 41 2 1 _ _ st [.str [120], .str v] (by simp [repCells, fillA, AV.cells, AV.isAny, splice, AV.isCell]) (by simp [AV.his, AV.hi])]
    rfl
  have hkn := hk E F (by rw [hE]; rfl) (by rw [hF]; rfl)
  have rE : ∀ st : St, rdE (some E) 0 0 4 true st = some (.agg [.str [97], .sl 2 [[.str [120], .str v]] true, .nils, .int .i64 0], st) := fun st => by rw [hE]; rfl
  have rF : ∀ st : St, rdE (some F) 1 0 1 false st = some (.sl 2 [[.str [120], .str v]] false, st) := fun st => by rw [hF]; rfl
  simp only [leave0, Zbv, Zbw, Zbx, Zbu, Zbt, Zat, Za2, evOp_box, Zaw, Zaq, Za0, Zax, Za4, Za3, Za5, Zb2, Zcd, cut_one, cut_four, agg_one, agg_all, Za8, Zcm, wrE_one, wrE_agg4, Zb3, Zb9, Zai, Za9, Zba, Zcc, Zb4, get_new0, get_new1, get_new2, get_new3, get_new4, set_new3, Zap, Zao, rep_one, set_new0, set_new1, set_new2, Zbj, Zbp, Zbh, Zbm, Zbl, Zbk, Zbn, Zbo, Zbi, hi_int, hi_str, hi_bool, hi_nils, hi_nilp, hi_sl, Option.bind_some, Option.bind_none, List.set_cons_zero, List.set_cons_succ, List.set_set, List.length_set, List.length_append, List.length_cons, List.length_nil, List.append_assoc, List.singleton_append, Nat.zero_add, Nat.add_zero, Nat.reduceLT, Nat.reduceAdd, W_skip, W_ret, W_exit, W_seq, W_block, W_cond, W_reg, Zco, Zcp, Zcn, Zad, Zae, Zac, Zch, Zci, Zcg, WO_nil, WO_op, WO_guard, Zcl, Zck, Zbe, Zbb, Zbd, Zbc, Zbf, Zag, Zaf, Zcf, retQ_ret, Zce, Zam,
    evOp_mv, Zaz, evOp_bin, evOp_un, Zas, evOp_ext, evOp_len, evOp_ixs, Zav, Zau, Zar, Za1, Zay, Zan, ev_t, ev_c, ev_f, evs_nil, evs_cons, evo_none, evo_some, Za6, Za7, put_none, put_zero, put_succ, get_zero, get_succ, Zb8, Zb6, Zb7,
    prE_some, prE_none, Zcb, Zca, Zab, unE_not, Zak, Zal, Zaj, extE_tup, lenE_str, Zb0, lenE_slc, lenE_sl, ixsE_str, Zbq, Zb1, Zbg, callE_f, Zah, Zcj, nilE_ptr, Zb5, nilE_fn,
    bin_add, bin_sub, bin_mul, bin_eql, bin_neq, bin_lss, bin_leq, bin_gtr, bin_geq, bin_seq, bin_sne, bin_beq, bin_bne, Zaa, Zbr, Zbs, Zby, Zbz, his_nil, his_bool, his_int, his_str, Option.map_some, Option.map_none, List.cons_append, List.nil_append, List.append_nil, decide_true, decide_false, Bool.not_true, Bool.not_false, Bool.false_eq_true, if_true, if_false, ↓reduceIte, reduceCtorEq, Nat.reduceAdd, Nat.reduceEqDiff, Nat.reduceBEq, cast0, true_and, and_true, eq_self, List.getElem?_cons_zero, List.getElem?_cons_succ, hs, h60, hl, bs, ← hE, rE, hpr2, hpa]
  simp only [leave0, Zbv, Zbw, Zbx, Zbu, Zbt, Zat, Za2, evOp_box, Zaw, Zaq, Za0, Zax, Za4, Za3, Za5, Zb2, Zcd, cut_one, cut_four, agg_one, agg_all, Za8, Zcm, wrE_one, wrE_agg4, Zb3, Zb9, Zai, Za9, Zba, Zcc, Zb4, get_new0, get_new1, get_new2, get_new3, get_new4, set_new3, Zap, Zao, rep_one, set_new0, set_new1, set_new2, Zbj, Zbp, Zbh, Zbm, Zbl, Zbk, Zbn, Zbo, Zbi, hi_int, hi_str, hi_bool, hi_nils, hi_nilp, hi_sl, Option.bind_some, Option.bind_none, List.set_cons_zero, List.set_cons_succ, List.set_set, List.length_set, List.length_append, List.length_cons, List.length_nil, List.append_assoc, List.singleton_append, Nat.zero_add, Nat.add_zero, Nat.reduceLT, Nat.reduceAdd, W_skip, W_ret, W_exit, W_seq, W_block, W_cond, W_reg, Zco, Zcp, Zcn, Zad, Zae, Zac, Zch, Zci, Zcg, WO_nil, WO_op, WO_guard, Zcl, Zck, Zbe, Zbb, Zbd, Zbc, Zbf, Zag, Zaf, Zcf, retQ_ret, Zce, Zam,
    evOp_mv, Zaz, evOp_bin, evOp_un, Zas, evOp_ext, evOp_len, evOp_ixs, Zav, Zau, Zar, Za1, Zay, Zan, ev_t, ev_c, ev_f, evs_nil, evs_cons, evo_none, evo_some, Za6, Za7, put_none, put_zero, put_succ, get_zero, get_succ, Zb8, Zb6, Zb7,
    prE_some, prE_none, Zcb, Zca, Zab, unE_not, Zak, Zal, Zaj, extE_tup, lenE_str, Zb0, lenE_slc, lenE_sl, ixsE_str, Zbq, Zb1, Zbg, callE_f, Zah, Zcj, nilE_ptr, Zb5, nilE_fn,
    bin_add, bin_sub, bin_mul, bin_eql, bin_neq, bin_lss, bin_leq, bin_gtr, bin_geq, bin_seq, bin_sne, bin_beq, bin_bne, Zaa, Zbr, Zbs, Zby, Zbz, his_nil, his_bool, his_int, his_str, Option.map_some, Option.map_none, List.cons_append, List.nil_append, List.append_nil, decide_true, decide_false, Bool.not_true, Bool.not_false, Bool.false_eq_true, if_true, if_false, ↓reduceIte, reduceCtorEq, Nat.reduceAdd, Nat.reduceEqDiff, Nat.reduceBEq, cast0, true_and, and_true, eq_self, List.getElem?_cons_zero, List.getElem?_cons_succ, ← hF, rF, ix0, c1, List.drop_succ_cons, List.drop_zero, hkn, List.drop, faddrE_cptr]
end
end Go.Eng

