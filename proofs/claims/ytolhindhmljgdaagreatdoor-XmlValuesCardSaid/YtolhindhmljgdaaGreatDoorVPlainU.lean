/-
  Texts of a proof. Conditions: none.
-/
import Derived.Test.YtolhindhmljgdaaGreatDoorVPlainT
import Derived.Test.YtolhindhmljgdaaGreatDoorVPlainJ
set_option linter.unusedVariables false
set_option linter.unusedSimpArgs false
set_option linter.unnecessarySimpa false
set_option linter.unusedSectionVars false
namespace Go.Eng
open Go
open Go.Eng renaming WO_guard → Zaa, WO_nil → Zab, WO_op → Zac, W_block → Zad, W_cond → Zae, W_exit → Zaf, W_reg → Zag, W_ret → Zah, W_seq → Zai, W_skip → Zaj, aIndexAddr_sl → Zak, agg_all → Zal, agg_one → Zam, binE_some → Zan, bin_add → Zao, bin_beq → Zap, bin_bne → Zaq, bin_eql → Zar, bin_geq → Zas, bin_gtr → Zat, bin_leq → Zau, bin_lss → Zav, bin_mul → Zaw, bin_neq → Zax, bin_seq → Zay, bin_sne → Zaz, bin_sub → Za0, blockQ_exit → Za1, blockQ_norm → Za2, blockQ_ret → Za3, callE_f → Za4, cast0 → Za5, condQ_false → Za6, condQ_true → Za7, consO_some → Za8, consP_some → Za9, convE_bytes → Zba, convE_int → Zbb, convE_same → Zbc, cut_four → Zbd, cut_one → Zbe, endQ_some → Zbf, evOp_alloc → Zbg, evOp_append → Zbh, evOp_bin → Zbi, evOp_box → Zbj, evOp_bslice → Zbk, evOp_build → Zbl, evOp_callE → Zbm, evOp_conv → Zbn, evOp_ext → Zbo, evOp_faddr → Zbp, evOp_iaddr → Zbq, evOp_ixs → Zbr, evOp_len → Zbs, evOp_load → Zbt, evOp_mkfn → Zbu, evOp_mv → Zbv, evOp_next → Zbw, evOp_nilchk → Zbx, evOp_pick → Zby, evOp_range → Zbz, evOp_slice → Zb0, evOp_store → Zb1, evOp_un → Zb2, evParts_cons → Zb3, evParts_nil → Zb4, evRes_cell → Zb5, evRes_nil → Zb6, evRes_tmp → Zb7, evo_none → Zb8, evo_some → Zb9, evs_cons → Zca, evs_nil → Zcb, extE_tup → Zcc, faddrE_ptr → Zcd, fillA_nil → Zce, fillA_one → Zcf, get_new0 → Zcg, get_new1 → Zch, get_new2 → Zci, get_new3 → Zcj, get_new4 → Zck, get_succ → Zcl, get_zero → Zcm, guardQ_ff → Zcn, guardQ_ft → Zco, guardQ_tf → Zcp, guardQ_tt → Zcq, guardQ_undef → Zcr, hi_bool → Zcs, hi_int → Zct, hi_nilp → Zcu, hi_nils → Zcv, hi_sl → Zcw, hi_str → Zcx, his_bool → Zcy, his_int → Zcz, his_nil → Zc0, his_str → Zc1, iaddrE_some → Zc2, isCell_bool → Zc3, isCell_fn → Zc4, isCell_int → Zc5, isCell_nilp → Zc6, isCell_nils → Zc7, isCell_ptr → Zc8, isCell_sl → Zc9, isCell_slc → Zda, isCell_str → Zdb, ixsE_str → Zdc, ixsE_zero → Zdd, leave0 → Zde, leave_bool → Zdf, leave_int → Zdg, leave_nil → Zdh, leave_set0 → Zdi, leave_setb → Zdj, leave_setn → Zdk, leave_sets → Zdl, leave_str → Zdm, leave_tup → Zdn, lenE_nils → Zdo, lenE_sl → Zdp, lenE_slc → Zdq, lenE_str → Zdr, loadE_one → Zds, loadE_ptr → Zdt, mkfnE_some → Zdu, nextE_ptr → Zdv, nilE_cptr → Zdw, nilE_fn → Zdx, nilE_ptr → Zdy, oneOf_more → Zdz, oneOf_nil → Zd0, oneOf_one → Zd1, partsE_some → Zd2, pickE_false → Zd3, pickE_true → Zd4, prE_none → Zd5, prE_some → Zd6, put_none → Zd7, put_succ → Zd8, put_zero → Zd9, rangeE_str → Zea, rdE_cells → Zeb, rep_one → Zec, retQ_exit → Zed, retQ_norm → Zee, retQ_ret → Zef, roundQ_exit → Zeg, roundQ_norm → Zeh, roundQ_ret → Zei, set_new0 → Zej, set_new1 → Zek, set_new2 → Zel, set_new3 → Zem, sliceE_some → Zen, stepQ_none → Zeo, stepQ_some → Zep, storeE_ptr → Zeq, thenK_exit → Zer, thenK_norm → Zes, thenK_ret → Zet, unE_not → Zeu, wrE_agg4 → Zev, wrE_one → Zew
set_option maxHeartbeats 4000000
set_option maxRecDepth 8000
set_option linter.unusedSimpArgs false
set_option linter.unusedVariables false
set_option linter.unusedSectionVars false

/-- A call's end where a row of what it made is returned. -/
theorem slc_leave {st : St} {l : List Row} {sz ty q g : Nat} {es : List (List AV)} (hG : Good st) (hE : Each sz es) (hsz : 0 < sz) (hlen : es.length * sz ≤ 900000) (hpos : 0 < es.length) (hq : st.length ≤ q) (hr : (st ++ l)[q]? = some (.cells es.flatten g 0 false ty)) :
    leave st.length true (.slc q 0 es.length es.length g sz false) (st ++ l) = (.sl sz es false, st) := by
  unfold leave
  have ht : (st ++ l).take st.length = st := by simp
  have hlf : es.flatten.length = es.length * sz := hE.len
  rw [ht, if_pos (by rw [List.all_eq_true]; intro r hr; simpa using hG r hr)]
  rw [if_neg (by simp [AV.hi]; omega)]
  simp only [if_true]
  have hrd : rdRow (st ++ l) q 0 g (es.length * sz) = some es.flatten := by
    simp only [rdRow, hr, if_true]
    exact cut_all _ _ hlf
  have hs : shutV (st ++ l) st.length 1000000 false (.slc q 0 es.length es.length g sz false) = some (.sl sz es false) := by
    show shutV (st ++ l) st.length (999999 + 1) false (.slc q 0 es.length es.length g sz false) = _
    simp only [shutV]
    rw [if_neg (by omega), if_neg (by omega), hrd]
    simp only
    rw [flats_shut _ _ _ _ hE.flat (by rw [hlf]; omega)]
    simp only [hE.chunk]
  rw [hs]
  simp [AV.hi]

section
variable {C : Ctx} {call : CallF} {env : Env} {st : St} {l : List KOp} {h : List St} {R : Env → St → List St → Prop}
theorem histQ_bsl (d : Option Nat) (ty sz n : Nat) (zero : List AV) (ps : List (Nat × Nat × X)) (z : Nat) (es : List (List AV)) (ex : Bool) (s : St) :
    histQ C d (.bslice ty sz n zero ps) l env st h R (some (.sl z es ex, s)) ↔ WH C l (env.put d (.sl z es ex)) st h R := by
  simp [histQ, KO.eff, quietOk]
end

section
variable {C : Ctx} (H : Codes C) (he : C.fns 113 = some (.ext xIndexByte)) (h61 : C.fns 61 = some (.ext xNoEscape)) (h35 : C.fns 35 = some (.ext xValid))
include H

theorem contains_nil (st : St) (f : AV) : callW C 67 [.nils, f] st = some (.bool false, st) := by
  have h82 : callW C 82 [.nils, f] st = some (.int .i64 (-1), st) := by
    rw [← CW_eq, CW_is H.h82 _ (by simp)]
    simp only [List.length_cons, List.length_nil, Nat.zero_add, Nat.reduceAdd, Nat.reduceSub, List.reduceReplicate, List.cons_append, List.nil_append]
    unfold k82b
    simp only [Zde, Zdj, Zdk, Zdl, Zdi, Zdh, Zbp, Zb1, Zbj, Zbu, Zbl, Zbz, Zbw, Zb4, Zb3, Zb5, Zdt, Zeb, Zbe, Zbd, Zam, Zal, Zcd, Zeq, Zew, Zev, Zdu, Zd2, Za9, Zce, Zcf, Zea, Zdv, Zcg, Zch, Zci, Zcj, Zck, Zem, Zbk, Zbh, Zec, Zej, Zek, Zel, Zc5, Zdb, Zc3, Zc8, Zc7, Zc6, Zc9, Zda, Zc4, Zct, Zcx, Zcs, Zcv, Zcu, Zcw, Option.bind_some, Option.bind_none, List.set_cons_zero, List.set_cons_succ, List.set_set, List.length_set, List.length_append, List.length_cons, List.length_nil, List.append_assoc, List.singleton_append, Nat.zero_add, Nat.add_zero, Nat.reduceLT, Nat.reduceAdd, Zaj, Zah, Zaf, Zai, Zad, Zae, Zag, Zes, Zet, Zer, Za2, Za3, Za1, Zeh, Zei, Zeg, Zab, Zac, Zaa, Zep, Zeo, Zcq, Zcn, Zcp, Zco, Zcr, Za7, Za6, Zee, Zef, Zed, Zbf,
    Zbv, Zby, Zbi, Zb2, Zbn, Zbo, Zbs, Zbr, Zbt, Zbq, Zbm, Zb0, Zbx, Zbg, ev_t, ev_c, ev_f, Zcb, Zca, Zb8, Zb9, Zb6, Zb7, Zd7, Zd9, Zd8, Zcm, Zcl, Zd1, Zdz, Zd0,
    Zd6, Zd5, Zd4, Zd3, Zan, Zeu, Zbb, Zbc, Zba, Zcc, Zdr, Zdo, Zdq, Zdp, Zdc, Zdd, Zds, Zc2, Za4, Za8, Zen, Zdy, Zdw, Zdx,
    Zao, Za0, Zaw, Zar, Zax, Zav, Zau, Zat, Zas, Zay, Zaz, Zap, Zaq, Zak, Zdf, Zdg, Zdm, Zdn, Zc0, Zcy, Zcz, Zc1, Option.map_some, Option.map_none, List.cons_append, List.nil_append, List.append_nil, decide_true, decide_false, Bool.not_true, Bool.not_false, Bool.false_eq_true, if_true, if_false, ↓reduceIte, reduceCtorEq, Nat.reduceAdd, Nat.reduceEqDiff, Nat.reduceBEq, Za5, true_and, and_true, eq_self, List.getElem?_cons_zero, List.getElem?_cons_succ]
    rw [W_loop' (show k82l0 = .loop k82l0b from rfl)]
    unfold k82l0b
    simp only [Zde, Zdj, Zdk, Zdl, Zdi, Zdh, Zbp, Zb1, Zbj, Zbu, Zbl, Zbz, Zbw, Zb4, Zb3, Zb5, Zdt, Zeb, Zbe, Zbd, Zam, Zal, Zcd, Zeq, Zew, Zev, Zdu, Zd2, Za9, Zce, Zcf, Zea, Zdv, Zcg, Zch, Zci, Zcj, Zck, Zem, Zbk, Zbh, Zec, Zej, Zek, Zel, Zc5, Zdb, Zc3, Zc8, Zc7, Zc6, Zc9, Zda, Zc4, Zct, Zcx, Zcs, Zcv, Zcu, Zcw, Option.bind_some, Option.bind_none, List.set_cons_zero, List.set_cons_succ, List.set_set, List.length_set, List.length_append, List.length_cons, List.length_nil, List.append_assoc, List.singleton_append, Nat.zero_add, Nat.add_zero, Nat.reduceLT, Nat.reduceAdd, Zaj, Zah, Zaf, Zai, Zad, Zae, Zag, Zes, Zet, Zer, Za2, Za3, Za1, Zeh, Zei, Zeg, Zab, Zac, Zaa, Zep, Zeo, Zcq, Zcn, Zcp, Zco, Zcr, Za7, Za6, Zee, Zef, Zed, Zbf,
    Zbv, Zby, Zbi, Zb2, Zbn, Zbo, Zbs, Zbr, Zbt, Zbq, Zbm, Zb0, Zbx, Zbg, ev_t, ev_c, ev_f, Zcb, Zca, Zb8, Zb9, Zb6, Zb7, Zd7, Zd9, Zd8, Zcm, Zcl, Zd1, Zdz, Zd0,
    Zd6, Zd5, Zd4, Zd3, Zan, Zeu, Zbb, Zbc, Zba, Zcc, Zdr, Zdo, Zdq, Zdp, Zdc, Zdd, Zds, Zc2, Za4, Za8, Zen, Zdy, Zdw, Zdx,
    Zao, Za0, Zaw, Zar, Zax, Zav, Zau, Zat, Zas, Zay, Zaz, Zap, Zaq, Zak, Zdf, Zdg, Zdm, Zdn, Zc0, Zcy, Zcz, Zc1, Option.map_some, Option.map_none, List.cons_append, List.nil_append, List.append_nil, decide_true, decide_false, Bool.not_true, Bool.not_false, Bool.false_eq_true, if_true, if_false, ↓reduceIte, reduceCtorEq, Nat.reduceAdd, Nat.reduceEqDiff, Nat.reduceBEq, Za5, true_and, and_true, eq_self, List.getElem?_cons_zero, List.getElem?_cons_succ, Int.lt_irrefl]
  rw [← CW_eq, CW_is H.h67 _ (by simp)]
  simp only [List.length_cons, List.length_nil, Nat.zero_add, Nat.reduceAdd, Nat.reduceSub, List.reduceReplicate, List.cons_append, List.nil_append]
  unfold k67b
  have h0 : ((0 : Int) ≤ -1) = False := by simp
  simp only [Zde, Zdj, Zdk, Zdl, Zdi, Zdh, Zbp, Zb1, Zbj, Zbu, Zbl, Zbz, Zbw, Zb4, Zb3, Zb5, Zdt, Zeb, Zbe, Zbd, Zam, Zal, Zcd, Zeq, Zew, Zev, Zdu, Zd2, Za9, Zce, Zcf, Zea, Zdv, Zcg, Zch, Zci, Zcj, Zck, Zem, Zbk, Zbh, Zec, Zej, Zek, Zel, Zc5, Zdb, Zc3, Zc8, Zc7, Zc6, Zc9, Zda, Zc4, Zct, Zcx, Zcs, Zcv, Zcu, Zcw, Option.bind_some, Option.bind_none, List.set_cons_zero, List.set_cons_succ, List.set_set, List.length_set, List.length_append, List.length_cons, List.length_nil, List.append_assoc, List.singleton_append, Nat.zero_add, Nat.add_zero, Nat.reduceLT, Nat.reduceAdd, Zaj, Zah, Zaf, Zai, Zad, Zae, Zag, Zes, Zet, Zer, Za2, Za3, Za1, Zeh, Zei, Zeg, Zab, Zac, Zaa, Zep, Zeo, Zcq, Zcn, Zcp, Zco, Zcr, Za7, Za6, Zee, Zef, Zed, Zbf,
    Zbv, Zby, Zbi, Zb2, Zbn, Zbo, Zbs, Zbr, Zbt, Zbq, Zbm, Zb0, Zbx, Zbg, ev_t, ev_c, ev_f, Zcb, Zca, Zb8, Zb9, Zb6, Zb7, Zd7, Zd9, Zd8, Zcm, Zcl, Zd1, Zdz, Zd0,
    Zd6, Zd5, Zd4, Zd3, Zan, Zeu, Zbb, Zbc, Zba, Zcc, Zdr, Zdo, Zdq, Zdp, Zdc, Zdd, Zds, Zc2, Za4, Za8, Zen, Zdy, Zdw, Zdx,
    Zao, Za0, Zaw, Zar, Zax, Zav, Zau, Zat, Zas, Zay, Zaz, Zap, Zaq, Zak, Zdf, Zdg, Zdm, Zdn, Zc0, Zcy, Zcz, Zc1, Option.map_some, Option.map_none, List.cons_append, List.nil_append, List.append_nil, decide_true, decide_false, Bool.not_true, Bool.not_false, Bool.false_eq_true, if_true, if_false, ↓reduceIte, reduceCtorEq, Nat.reduceAdd, Nat.reduceEqDiff, Nat.reduceBEq, Za5, true_and, and_true, eq_self, List.getElem?_cons_zero, List.getElem?_cons_succ, h82, h0]

/-- One attribute stands there. -/
theorem attr1_W (he : C.fns 113 = some (.ext xIndexByte)) (h61 : C.fns 61 = some (.ext xNoEscape)) (h35 : C.fns 35 = some (.ext xValid)) (st : St) (r : Nat) (x : Rd) (hr : st[r]? = some x.row) (hx : x.Ok) (hG : Good st)
    (v tl : List UInt8) (hv : Whole v) (hl : v.length ≤ 60) (hrest : x.rest = 32 :: 120 :: 61 :: 34 :: (esc v ++ 34 :: 47 :: tl)) :
    callW C 45 [.ptr r 0 0] st = some (.sl 2 [[.str [120], .str v]] false, st.set r (x.go (3 + ((esc v).length + 2))).row) := by
  have hlt := (List.getElem?_eq_some_iff.1 hr).1
  have gs : ∀ (y : Rd) (l : St), (st.set r y.row ++ l)[r]? = some y.row := fun y l => by
    rw [get_old (by simpa using hlt)]; exact List.getElem?_set_self hlt
  have gs0 : ∀ (y : Rd), (st.set r y.row)[r]? = some y.row := fun y => List.getElem?_set_self hlt
  have gc : ∀ (y : Rd) (l : St), (st.set r y.row ++ l)[r]? = some (.cells [.str y.s, .int .i64 y.a, .int .i64 y.n, .int .i64 y.e, .int .i64 y.o] 0 0 false 56) := gs
  have gc0 : ∀ (y : Rd), (st.set r y.row)[r]? = some (.cells [.str y.s, .int .i64 y.a, .int .i64 y.n, .int .i64 y.e, .int .i64 y.o] 0 0 false 56) := gs0
  have ss : ∀ (y z : Row) (l : St), (st.set r y ++ l).set r z = st.set r z ++ l := fun y z l => by
    rw [set_old (by simpa using hlt), List.set_set]
  have len : ∀ (y : Row), (st.set r y).length = st.length := fun y => by simp
  have new0 : ∀ (y a : Row) (l : List Row), (st.set r y ++ a :: l)[st.length]? = some a := fun y a l => by rw [← len y]; exact Zcg
  have new1 : ∀ (y a b : Row) (l : List Row), (st.set r y ++ a :: b :: l)[st.length + 1]? = some b := fun y a b l => by rw [← len y]; exact Zch
  have sn0 : ∀ (y a z : Row) (l : List Row), (st.set r y ++ a :: l).set st.length z = st.set r y ++ z :: l := fun y a z l => by rw [← len y]; exact Zej
  -- the readers on the way
  obtain ⟨x1, e1⟩ : ∃ y, y = x.go 1 := ⟨_, rfl⟩
  obtain ⟨x2, e2⟩ : ∃ y, y = x1.go 1 := ⟨_, rfl⟩
  obtain ⟨x3, e3⟩ : ∃ y, y = x2.go 1 := ⟨_, rfl⟩
  obtain ⟨x4, e4⟩ : ∃ y, y = x3.go ((esc v).length + 2) := ⟨_, rfl⟩
  have r1 : x1.rest = 120 :: 61 :: 34 :: (esc v ++ 34 :: 47 :: tl) := by rw [e1, rest_go, hrest]; rfl
  have r2 : x2.rest = 61 :: 34 :: (esc v ++ 34 :: 47 :: tl) := by rw [e2, rest_go, r1]; rfl
  have r3 : x3.rest = 34 :: (esc v ++ 34 :: 47 :: tl) := by rw [e3, rest_go, r2]; rfl
  have r4 : x4.rest = 47 :: tl := by
    rw [e4, rest_go, r3]
    have : (34 :: (esc v ++ 34 :: 47 :: tl)).drop ((esc v).length + 2) = ((esc v ++ 34 :: 47 :: tl).drop (esc v).length).drop 1 := by
      rw [List.drop_drop]; rfl
    rw [this]; simp
  have o1 : x1.Ok := by rw [e1]; exact ok_go hx (by rw [hrest]; simp)
  have o2 : x2.Ok := by rw [e2]; exact ok_go o1 (by rw [r1]; simp)
  have o3 : x3.Ok := by rw [e3]; exact ok_go o2 (by rw [r2]; simp)
  have o4 : x4.Ok := by rw [e4]; exact ok_go o3 (by rw [r3]; simp)
  have g0 : x.gap = 1 := by unfold Rd.gap; rw [hrest]; simp [isBlank]
  have g4 : x4.gap = 0 := by unfold Rd.gap; rw [r4]; simp [isBlank]
  have w1 : x1.word = [120] := by
    unfold Rd.word; rw [r1]
    have a1 : signB 120 = true := by decide
    have a2 : signB 61 = false := by decide
    simp [List.takeWhile_cons, a1, a2]
  have n1 : x1.name = x2 := by
    unfold Rd.name; rw [w1, e2]
    have : isQual [120] = true := by decide
    rw [if_pos this]; rfl
  have m2 : x2.must [61] = x3 := by
    unfold Rd.must; rw [r2, e3]
    rw [if_pos (by simp [pre])]; rfl
  have end4 : x.go (3 + ((esc v).length + 2)) = x4 := by
    rw [e4, e3, e2, e1]; simp only [Rd.go]; congr 1; omega
  -- the calls
  have c1 := blanks_W H st r x hr hx hG
  rw [g0, ← e1] at c1
  have c2 := rest_W H (st.set r x1.row) r x1 (gs0 _) o1
  rw [r1] at c2
  have c3 := qual_W H (st.set r x1.row) r x1 (gs0 _) he o1 (good_row hG r _)
  rw [w1, n1, List.set_set] at c3
  obtain ⟨S, hS⟩ : ∃ S : Row, S = .cells [.str [120]] 0 0 false 9 := ⟨_, rfl⟩
  have hGS : ∀ y : Rd, Good (st.set r y.row ++ [S]) := fun y => (good_row hG r y).push (by intro q hq; simp at hq; subst hq; rw [hS]; simp [Row.top])
  have c4 := fun f => contains_nil H (st.set r x2.row ++ [S]) f
  have c5 := must_W H (st.set r x2.row ++ [S]) r x2 (gs _ _) o2 [61] (by simp)
  rw [m2, ss] at c5
  have c6 := value_W H he h61 h35 (st.set r x3.row ++ [S]) r x3 (gs _ _) o3 (hGS x3) v (47 :: tl) hv hl r3
  rw [← e4, ss] at c6
  have hE : Each 2 [[AV.str [120], AV.str v]] := by
    intro e he; simp at he; subst he; simp [flatV, AV.hi]
  have c7 : ∀ st : St, aAppend st 41 2 32 .nils [.str [120], .str v] 1 = some (.slc st.length 0 1 1 0 2 false, st ++ [.cells [.str [120], .str v] 0 0 false 41]) := fun st => by
    have := acc_append (st := st) (sz := 2) (ty := 41) (bytes := 32) (es := []) (by intro e h; cases h) (by simp) (by omega) (e := [.str [120], .str v]) rfl (by simp [flatV, AV.hi])
    simpa [accV, accR] using this
  obtain ⟨A, hA⟩ : ∃ A : Row, A = .cells [.str [120], .str v] 0 0 false 41 := ⟨_, rfl⟩
  have hGA : Good (st.set r x4.row ++ [S, A]) := (good_row hG r x4).push (by intro q hq; simp at hq; rcases hq with rfl | rfl <;> simp [hS, hA, Row.top])
  have c8 := blanks_W H (st.set r x4.row ++ [S, A]) r x4 (gs _ _) o4 hGA
  rw [g4, go_zero, ss] at c8
  have hlv := slc_leave (st := st.set r x4.row) (l := [S, A]) (sz := 2) (ty := 41) (q := st.length + 1) (g := 0) (es := [[.str [120], .str v]]) (good_row hG r x4) hE (by omega) (by simp) (by simp) (by simp) (by rw [new1, hA]; rfl)
  rw [len] at hlv
  have b1 : (120 :: 61 :: 34 :: (esc v ++ 34 :: 47 :: tl) = ([] : List UInt8)) = False := by simp
  have b2 : ((((120 : UInt8).toNat : Nat) : Int) = 47) = False := by decide
  have b3 : ((((120 : UInt8).toNat : Nat) : Int) = 62) = False := by decide
  have b4 : ¬ (8 : Int) ≤ 0 := by omega
  have bs : ∀ st : St, bslE 41 2 1 [.str [], .str []] (some [(0, 2, .agg [.str [120], .str v])]) st = some (.sl 2 [[.str [120], .str v]] true, st) := fun st => by
    rw [bslE_pure 41 2 1 _ _ st [.str [120], .str v] (by simp [repCells, fillA, AV.cells, AV.isAny, splice, AV.isCell]) (by simp [AV.his, AV.hi])]
    rfl
  rw [end4]
  rw [← CW_eq, CW_is H.h45 _ (by simp)]
  simp only [List.length_cons, List.length_nil, Nat.zero_add, Nat.reduceAdd, Nat.reduceSub, List.reduceReplicate, List.cons_append, List.nil_append]
  unfold k45b
  simp only [Zde, Zdj, Zdk, Zdl, Zdi, Zdh, Zbp, Zb1, Zbj, Zbu, Zbl, Zbz, Zbw, Zb4, Zb3, Zb5, Zdt, Zeb, Zbe, Zbd, Zam, Zal, Zcd, Zeq, Zew, Zev, Zdu, Zd2, Za9, Zce, Zcf, Zea, Zdv, Zcg, Zch, Zci, Zcj, Zck, Zem, Zbk, Zbh, Zec, Zej, Zek, Zel, Zc5, Zdb, Zc3, Zc8, Zc7, Zc6, Zc9, Zda, Zc4, Zct, Zcx, Zcs, Zcv, Zcu, Zcw, Option.bind_some, Option.bind_none, List.set_cons_zero, List.set_cons_succ, List.set_set, List.length_set, List.length_append, List.length_cons, List.length_nil, List.append_assoc, List.singleton_append, Nat.zero_add, Nat.add_zero, Nat.reduceLT, Nat.reduceAdd, Zaj, Zah, Zaf, Zai, Zad, Zae, Zag, Zes, Zet, Zer, Za2, Za3, Za1, Zeh, Zei, Zeg, Zab, Zac, Zaa, Zep, Zeo, Zcq, Zcn, Zcp, Zco, Zcr, Za7, Za6, Zee, Zef, Zed, Zbf,
    Zbv, Zby, Zbi, Zb2, Zbn, Zbo, Zbs, Zbr, Zbt, Zbq, Zbm, Zb0, Zbx, Zbg, ev_t, ev_c, ev_f, Zcb, Zca, Zb8, Zb9, Zb6, Zb7, Zd7, Zd9, Zd8, Zcm, Zcl, Zd1, Zdz, Zd0,
    Zd6, Zd5, Zd4, Zd3, Zan, Zeu, Zbb, Zbc, Zba, Zcc, Zdr, Zdo, Zdq, Zdp, Zdc, Zdd, Zds, Zc2, Za4, Za8, Zen, Zdy, Zdw, Zdx,
    Zao, Za0, Zaw, Zar, Zax, Zav, Zau, Zat, Zas, Zay, Zaz, Zap, Zaq, Zak, Zdf, Zdg, Zdm, Zdn, Zc0, Zcy, Zcz, Zc1, Option.map_some, Option.map_none, List.cons_append, List.nil_append, List.append_nil, decide_true, decide_false, Bool.not_true, Bool.not_false, Bool.false_eq_true, if_true, if_false, ↓reduceIte, reduceCtorEq, Nat.reduceAdd, Nat.reduceEqDiff, Nat.reduceBEq, Za5, true_and, and_true, eq_self, List.getElem?_cons_zero, List.getElem?_cons_succ]
  rw [W_loop' (show k45l0 = .loop k45l0b from rfl)]
  unfold k45l0b
  have rdS : ∀ st : St, rdE (some S) 0 0 1 false st = some (.str [120], st) := fun st => by rw [hS]; rfl
  simp only [Zde, Zdj, Zdk, Zdl, Zdi, Zdh, Zbp, Zb1, Zbj, Zbu, Zbl, Zbz, Zbw, Zb4, Zb3, Zb5, Zdt, Zeb, Zbe, Zbd, Zam, Zal, Zcd, Zeq, Zew, Zev, Zdu, Zd2, Za9, Zce, Zcf, Zea, Zdv, Zcg, Zch, Zci, Zcj, Zck, Zem, Zbk, Zbh, Zec, Zej, Zek, Zel, Zc5, Zdb, Zc3, Zc8, Zc7, Zc6, Zc9, Zda, Zc4, Zct, Zcx, Zcs, Zcv, Zcu, Zcw, Option.bind_some, Option.bind_none, List.set_cons_zero, List.set_cons_succ, List.set_set, List.length_set, List.length_append, List.length_cons, List.length_nil, List.append_assoc, List.singleton_append, Nat.zero_add, Nat.add_zero, Nat.reduceLT, Nat.reduceAdd, Zaj, Zah, Zaf, Zai, Zad, Zae, Zag, Zes, Zet, Zer, Za2, Za3, Za1, Zeh, Zei, Zeg, Zab, Zac, Zaa, Zep, Zeo, Zcq, Zcn, Zcp, Zco, Zcr, Za7, Za6, Zee, Zef, Zed, Zbf,
    Zbv, Zby, Zbi, Zb2, Zbn, Zbo, Zbs, Zbr, Zbt, Zbq, Zbm, Zb0, Zbx, Zbg, ev_t, ev_c, ev_f, Zcb, Zca, Zb8, Zb9, Zb6, Zb7, Zd7, Zd9, Zd8, Zcm, Zcl, Zd1, Zdz, Zd0,
    Zd6, Zd5, Zd4, Zd3, Zan, Zeu, Zbb, Zbc, Zba, Zcc, Zdr, Zdo, Zdq, Zdp, Zdc, Zdd, Zds, Zc2, Za4, Za8, Zen, Zdy, Zdw, Zdx,
    Zao, Za0, Zaw, Zar, Zax, Zav, Zau, Zat, Zas, Zay, Zaz, Zap, Zaq, Zak, Zdf, Zdg, Zdm, Zdn, Zc0, Zcy, Zcz, Zc1, Option.map_some, Option.map_none, List.cons_append, List.nil_append, List.append_nil, decide_true, decide_false, Bool.not_true, Bool.not_false, Bool.false_eq_true, if_true, if_false, ↓reduceIte, reduceCtorEq, Nat.reduceAdd, Nat.reduceEqDiff, Nat.reduceBEq, Za5, true_and, and_true, eq_self, List.getElem?_cons_zero, List.getElem?_cons_succ, c1, Nat.lt_irrefl, Nat.lt_add_one, Nat.one_pos, Nat.zero_lt_one, c2, b1, b2, b3, b4, Zdd, gc0, c3, len, new0, sn0, ← hS, c4, c5]
  have fl : [[AV.str [120], AV.str v]].flatten = [.str [120], .str v] := rfl
  simp only [W_draw, WH_op, WH_nil, histQ_eff, histQ_pure, Zde, Zdj, Zdk, Zdl, Zdi, Zdh, Zbp, Zb1, Zbj, Zbu, Zbl, Zbz, Zbw, Zb4, Zb3, Zb5, Zdt, Zeb, Zbe, Zbd, Zam, Zal, Zcd, Zeq, Zew, Zev, Zdu, Zd2, Za9, Zce, Zcf, Zea, Zdv, Zcg, Zch, Zci, Zcj, Zck, Zem, Zbk, Zbh, Zec, Zej, Zek, Zel, Zc5, Zdb, Zc3, Zc8, Zc7, Zc6, Zc9, Zda, Zc4, Zct, Zcx, Zcs, Zcv, Zcu, Zcw, Option.bind_some, Option.bind_none, List.set_cons_zero, List.set_cons_succ, List.set_set, List.length_set, List.length_append, List.length_cons, List.length_nil, List.append_assoc, List.singleton_append, Nat.zero_add, Nat.add_zero, Nat.reduceLT, Nat.reduceAdd, Zaj, Zah, Zaf, Zai, Zad, Zae, Zag, Zes, Zet, Zer, Za2, Za3, Za1, Zeh, Zei, Zeg, Zab, Zac, Zaa, Zep, Zeo, Zcq, Zcn, Zcp, Zco, Zcr, Za7, Za6, Zee, Zef, Zed, Zbf,
    Zbv, Zby, Zbi, Zb2, Zbn, Zbo, Zbs, Zbr, Zbt, Zbq, Zbm, Zb0, Zbx, Zbg, ev_t, ev_c, ev_f, Zcb, Zca, Zb8, Zb9, Zb6, Zb7, Zd7, Zd9, Zd8, Zcm, Zcl, Zd1, Zdz, Zd0,
    Zd6, Zd5, Zd4, Zd3, Zan, Zeu, Zbb, Zbc, Zba, Zcc, Zdr, Zdo, Zdq, Zdp, Zdc, Zdd, Zds, Zc2, Za4, Za8, Zen, Zdy, Zdw, Zdx,
    Zao, Za0, Zaw, Zar, Zax, Zav, Zau, Zat, Zas, Zay, Zaz, Zap, Zaq, Zak, Zdf, Zdg, Zdm, Zdn, Zc0, Zcy, Zcz, Zc1, Option.map_some, Option.map_none, List.cons_append, List.nil_append, List.append_nil, decide_true, decide_false, Bool.not_true, Bool.not_false, Bool.false_eq_true, if_true, if_false, ↓reduceIte, reduceCtorEq, Nat.reduceAdd, Nat.reduceEqDiff, Nat.reduceBEq, Za5, true_and, and_true, eq_self, List.getElem?_cons_zero, List.getElem?_cons_succ, eff_mv, lays_mv, eff_pick, lays_pick, eff_build, lays_build, eff_load, lays_load, eff_nilchk, lays_nilchk, eff_faddr, lays_faddr, eff_field, lays_field, eff_bin, lays_bin, eff_un, lays_un, eff_conv, lays_conv, eff_mkfn, lays_mkfn, eff_mkif, lays_mkif, eff_slice, lays_slice, eff_iaddr, lays_iaddr, eff_ixs, lays_ixs, eff_extract, lays_extract, eff_len, lays_len, eff_alloc, eff_box, eff_store, eff_call, eff_append, new0, rdS, c6, histQ_bsl, bs, appE_sl, fl, c7, len]
  refine ⟨?_, ?_⟩
  · simp only [List.all_cons, List.all_nil, Bool.and_true, again_nil, Bool.true_and, Bool.and_eq_true]
    exact again_two _ _ _ _ _ _ _ _ (again_one _ _ _ _ _ _ _ rfl (by simp only [Env.mix, Zde, Zdj, Zdk, Zdl, Zdi, Zdh, Zbp, Zb1, Zbj, Zbu, Zbl, Zbz, Zbw, Zb4, Zb3, Zb5, Zdt, Zeb, Zbe, Zbd, Zam, Zal, Zcd, Zeq, Zew, Zev, Zdu, Zd2, Za9, Zce, Zcf, Zea, Zdv, Zcg, Zch, Zci, Zcj, Zck, Zem, Zbk, Zbh, Zec, Zej, Zek, Zel, Zc5, Zdb, Zc3, Zc8, Zc7, Zc6, Zc9, Zda, Zc4, Zct, Zcx, Zcs, Zcv, Zcu, Zcw, Option.bind_some, Option.bind_none, List.set_cons_zero, List.set_cons_succ, List.set_set, List.length_set, List.length_append, List.length_cons, List.length_nil, List.append_assoc, List.singleton_append, Nat.zero_add, Nat.add_zero, Nat.reduceLT, Nat.reduceAdd, Zaj, Zah, Zaf, Zai, Zad, Zae, Zag, Zes, Zet, Zer, Za2, Za3, Za1, Zeh, Zei, Zeg, Zab, Zac, Zaa, Zep, Zeo, Zcq, Zcn, Zcp, Zco, Zcr, Za7, Za6, Zee, Zef, Zed, Zbf,
    Zbv, Zby, Zbi, Zb2, Zbn, Zbo, Zbs, Zbr, Zbt, Zbq, Zbm, Zb0, Zbx, Zbg, ev_t, ev_c, ev_f, Zcb, Zca, Zb8, Zb9, Zb6, Zb7, Zd7, Zd9, Zd8, Zcm, Zcl, Zd1, Zdz, Zd0,
    Zd6, Zd5, Zd4, Zd3, Zan, Zeu, Zbb, Zbc, Zba, Zcc, Zdr, Zdo, Zdq, Zdp, Zdc, Zdd, Zds, Zc2, Za4, Za8, Zen, Zdy, Zdw, Zdx,
    Zao, Za0, Zaw, Zar, Zax, Zav, Zau, Zat, Zas, Zay, Zaz, Zap, Zaq, Zak, Zdf, Zdg, Zdm, Zdn, Zc0, Zcy, Zcz, Zc1, Option.map_some, Option.map_none, List.cons_append, List.nil_append, List.append_nil, decide_true, decide_false, Bool.not_true, Bool.not_false, Bool.false_eq_true, if_true, if_false, ↓reduceIte, reduceCtorEq, Nat.reduceAdd, Nat.reduceEqDiff, Nat.reduceBEq, Za5, true_and, and_true, eq_self, List.getElem?_cons_zero, List.getElem?_cons_succ, new0, rdS] <;> rfl) (lays_load _ _ _) rfl) (again_one _ _ _ _ _ _ _ rfl (by simp only [Env.mix, Zde, Zdj, Zdk, Zdl, Zdi, Zdh, Zbp, Zb1, Zbj, Zbu, Zbl, Zbz, Zbw, Zb4, Zb3, Zb5, Zdt, Zeb, Zbe, Zbd, Zam, Zal, Zcd, Zeq, Zew, Zev, Zdu, Zd2, Za9, Zce, Zcf, Zea, Zdv, Zcg, Zch, Zci, Zcj, Zck, Zem, Zbk, Zbh, Zec, Zej, Zek, Zel, Zc5, Zdb, Zc3, Zc8, Zc7, Zc6, Zc9, Zda, Zc4, Zct, Zcx, Zcs, Zcv, Zcu, Zcw, Option.bind_some, Option.bind_none, List.set_cons_zero, List.set_cons_succ, List.set_set, List.length_set, List.length_append, List.length_cons, List.length_nil, List.append_assoc, List.singleton_append, Nat.zero_add, Nat.add_zero, Nat.reduceLT, Nat.reduceAdd, Zaj, Zah, Zaf, Zai, Zad, Zae, Zag, Zes, Zet, Zer, Za2, Za3, Za1, Zeh, Zei, Zeg, Zab, Zac, Zaa, Zep, Zeo, Zcq, Zcn, Zcp, Zco, Zcr, Za7, Za6, Zee, Zef, Zed, Zbf,
    Zbv, Zby, Zbi, Zb2, Zbn, Zbo, Zbs, Zbr, Zbt, Zbq, Zbm, Zb0, Zbx, Zbg, ev_t, ev_c, ev_f, Zcb, Zca, Zb8, Zb9, Zb6, Zb7, Zd7, Zd9, Zd8, Zcm, Zcl, Zd1, Zdz, Zd0,
    Zd6, Zd5, Zd4, Zd3, Zan, Zeu, Zbb, Zbc, Zba, Zcc, Zdr, Zdo, Zdq, Zdp, Zdc, Zdd, Zds, Zc2, Za4, Za8, Zen, Zdy, Zdw, Zdx,
    Zao, Za0, Zaw, Zar, Zax, Zav, Zau, Zat, Zas, Zay, Zaz, Zap, Zaq, Zak, Zdf, Zdg, Zdm, Zdn, Zc0, Zcy, Zcz, Zc1, Option.map_some, Option.map_none, List.cons_append, List.nil_append, List.append_nil, decide_true, decide_false, Bool.not_true, Bool.not_false, Bool.false_eq_true, if_true, if_false, ↓reduceIte, reduceCtorEq, Nat.reduceAdd, Nat.reduceEqDiff, Nat.reduceBEq, Za5, true_and, and_true, eq_self, List.getElem?_cons_zero, List.getElem?_cons_succ, new0, rdS] <;> rfl) (lays_load _ _ _) rfl)
  · simp only [Zde, Zdj, Zdk, Zdl, Zdi, Zdh, Zbp, Zb1, Zbj, Zbu, Zbl, Zbz, Zbw, Zb4, Zb3, Zb5, Zdt, Zeb, Zbe, Zbd, Zam, Zal, Zcd, Zeq, Zew, Zev, Zdu, Zd2, Za9, Zce, Zcf, Zea, Zdv, Zcg, Zch, Zci, Zcj, Zck, Zem, Zbk, Zbh, Zec, Zej, Zek, Zel, Zc5, Zdb, Zc3, Zc8, Zc7, Zc6, Zc9, Zda, Zc4, Zct, Zcx, Zcs, Zcv, Zcu, Zcw, Option.bind_some, Option.bind_none, List.set_cons_zero, List.set_cons_succ, List.set_set, List.length_set, List.length_append, List.length_cons, List.length_nil, List.append_assoc, List.singleton_append, Nat.zero_add, Nat.add_zero, Nat.reduceLT, Nat.reduceAdd, Zaj, Zah, Zaf, Zai, Zad, Zae, Zag, Zes, Zet, Zer, Za2, Za3, Za1, Zeh, Zei, Zeg, Zab, Zac, Zaa, Zep, Zeo, Zcq, Zcn, Zcp, Zco, Zcr, Za7, Za6, Zee, Zef, Zed, Zbf,
    Zbv, Zby, Zbi, Zb2, Zbn, Zbo, Zbs, Zbr, Zbt, Zbq, Zbm, Zb0, Zbx, Zbg, ev_t, ev_c, ev_f, Zcb, Zca, Zb8, Zb9, Zb6, Zb7, Zd7, Zd9, Zd8, Zcm, Zcl, Zd1, Zdz, Zd0,
    Zd6, Zd5, Zd4, Zd3, Zan, Zeu, Zbb, Zbc, Zba, Zcc, Zdr, Zdo, Zdq, Zdp, Zdc, Zdd, Zds, Zc2, Za4, Za8, Zen, Zdy, Zdw, Zdx,
    Zao, Za0, Zaw, Zar, Zax, Zav, Zau, Zat, Zas, Zay, Zaz, Zap, Zaq, Zak, Zdf, Zdg, Zdm, Zdn, Zc0, Zcy, Zcz, Zc1, Option.map_some, Option.map_none, List.cons_append, List.nil_append, List.append_nil, decide_true, decide_false, Bool.not_true, Bool.not_false, Bool.false_eq_true, if_true, if_false, ↓reduceIte, reduceCtorEq, Nat.reduceAdd, Nat.reduceEqDiff, Nat.reduceBEq, Za5, true_and, and_true, eq_self, List.getElem?_cons_zero, List.getElem?_cons_succ]
    rw [W_loop' (show k45l0 = .loop k45l0b from rfl)]
    unfold k45l0b
    simp only [Zde, Zdj, Zdk, Zdl, Zdi, Zdh, Zbp, Zb1, Zbj, Zbu, Zbl, Zbz, Zbw, Zb4, Zb3, Zb5, Zdt, Zeb, Zbe, Zbd, Zam, Zal, Zcd, Zeq, Zew, Zev, Zdu, Zd2, Za9, Zce, Zcf, Zea, Zdv, Zcg, Zch, Zci, Zcj, Zck, Zem, Zbk, Zbh, Zec, Zej, Zek, Zel, Zc5, Zdb, Zc3, Zc8, Zc7, Zc6, Zc9, Zda, Zc4, Zct, Zcx, Zcs, Zcv, Zcu, Zcw, Option.bind_some, Option.bind_none, List.set_cons_zero, List.set_cons_succ, List.set_set, List.length_set, List.length_append, List.length_cons, List.length_nil, List.append_assoc, List.singleton_append, Nat.zero_add, Nat.add_zero, Nat.reduceLT, Nat.reduceAdd, Zaj, Zah, Zaf, Zai, Zad, Zae, Zag, Zes, Zet, Zer, Za2, Za3, Za1, Zeh, Zei, Zeg, Zab, Zac, Zaa, Zep, Zeo, Zcq, Zcn, Zcp, Zco, Zcr, Za7, Za6, Zee, Zef, Zed, Zbf,
    Zbv, Zby, Zbi, Zb2, Zbn, Zbo, Zbs, Zbr, Zbt, Zbq, Zbm, Zb0, Zbx, Zbg, ev_t, ev_c, ev_f, Zcb, Zca, Zb8, Zb9, Zb6, Zb7, Zd7, Zd9, Zd8, Zcm, Zcl, Zd1, Zdz, Zd0,
    Zd6, Zd5, Zd4, Zd3, Zan, Zeu, Zbb, Zbc, Zba, Zcc, Zdr, Zdo, Zdq, Zdp, Zdc, Zdd, Zds, Zc2, Za4, Za8, Zen, Zdy, Zdw, Zdx,
    Zao, Za0, Zaw, Zar, Zax, Zav, Zau, Zat, Zas, Zay, Zaz, Zap, Zaq, Zak, Zdf, Zdg, Zdm, Zdn, Zc0, Zcy, Zcz, Zc1, Option.map_some, Option.map_none, List.cons_append, List.nil_append, List.append_nil, decide_true, decide_false, Bool.not_true, Bool.not_false, Bool.false_eq_true, if_true, if_false, ↓reduceIte, reduceCtorEq, Nat.reduceAdd, Nat.reduceEqDiff, Nat.reduceBEq, Za5, true_and, and_true, eq_self, List.getElem?_cons_zero, List.getElem?_cons_succ, ← hA, c8, Nat.lt_irrefl]
    simp only [List.length_cons, List.length_nil, Nat.zero_add] at hlv
    rw [hlv]
    exact ⟨rfl, rfl⟩
end
end Go.Eng

