/-
  Texts of a proof. Conditions: none.
-/
import Derived.Test.YtolhindhmljgdaaGreatDoorVPlainF
import Derived.Test.YtolhindhmljgdaaGreatDoorVPlainI
set_option linter.unusedVariables false
set_option linter.unusedSimpArgs false
set_option linter.unnecessarySimpa false
set_option linter.unusedSectionVars false
namespace Go.Eng
open Go
open Go.Eng renaming WO_guard → Zaa, W_block → Zab, aIndexAddr_sl → Zac, agg_all → Zad, agg_one → Zae, binE_some → Zaf, bin_add → Zag, bin_beq → Zah, bin_bne → Zai, bin_eql → Zaj, bin_geq → Zak, bin_gtr → Zal, bin_leq → Zam, bin_lss → Zan, bin_mul → Zao, bin_neq → Zap, bin_seq → Zaq, bin_sne → Zar, bin_sub → Zas, blockQ_exit → Zat, blockQ_norm → Zau, blockQ_ret → Zav, callE_f → Zaw, condQ_false → Zax, condQ_true → Zay, consO_some → Zaz, consP_some → Za0, convE_bytes → Za1, convE_int → Za2, convE_same → Za3, cut_four → Za4, cut_one → Za5, endQ_some → Za6, evOp_alloc → Za7, evOp_append → Za8, evOp_bin → Za9, evOp_box → Zba, evOp_bslice → Zbb, evOp_build → Zbc, evOp_callE → Zbd, evOp_conv → Zbe, evOp_ext → Zbf, evOp_faddr → Zbg, evOp_iaddr → Zbh, evOp_ixs → Zbi, evOp_len → Zbj, evOp_load → Zbk, evOp_mkfn → Zbl, evOp_mv → Zbm, evOp_next → Zbn, evOp_nilchk → Zbo, evOp_pick → Zbp, evOp_range → Zbq, evOp_slice → Zbr, evOp_store → Zbs, evOp_un → Zbt, evParts_cons → Zbu, evParts_nil → Zbv, evRes_cell → Zbw, evRes_nil → Zbx, evRes_tmp → Zby, evo_none → Zbz, evo_some → Zb0, evs_cons → Zb1, evs_nil → Zb2, extE_tup → Zb3, faddrE_ptr → Zb4, fillA_nil → Zb5, fillA_one → Zb6, get_new0 → Zb7, get_new1 → Zb8, get_new2 → Zb9, get_new3 → Zca, get_new4 → Zcb, get_succ → Zcc, get_zero → Zcd, guardQ_ff → Zce, guardQ_ft → Zcf, guardQ_tf → Zcg, guardQ_tt → Zch, guardQ_undef → Zci, hi_bool → Zcj, hi_nilp → Zck, hi_nils → Zcl, his_bool → Zcm, his_int → Zcn, his_nil → Zco, his_str → Zcp, iaddrE_some → Zcq, isCell_bool → Zcr, isCell_fn → Zcs, isCell_int → Zct, isCell_nilp → Zcu, isCell_nils → Zcv, isCell_ptr → Zcw, isCell_sl → Zcx, isCell_slc → Zcy, isCell_str → Zcz, ixsE_str → Zc0, ixsE_zero → Zc1, leave_bool → Zc2, leave_int → Zc3, leave_nil → Zc4, leave_set0 → Zc5, leave_setb → Zc6, leave_setn → Zc7, leave_sets → Zc8, leave_str → Zc9, leave_tup → Zda, lenE_nils → Zdb, lenE_sl → Zdc, lenE_slc → Zdd, lenE_str → Zde, loadE_one → Zdf, loadE_ptr → Zdg, mkfnE_some → Zdh, nextE_ptr → Zdi, nilE_cptr → Zdj, nilE_fn → Zdk, nilE_ptr → Zdl, oneOf_more → Zdm, oneOf_nil → Zdn, oneOf_one → Zdo, partsE_some → Zdp, pickE_false → Zdq, pickE_true → Zdr, prE_none → Zds, prE_some → Zdt, put_none → Zdu, put_succ → Zdv, put_zero → Zdw, rangeE_str → Zdx, rdE_cells → Zdy, rep_one → Zdz, retQ_exit → Zd0, retQ_norm → Zd1, retQ_ret → Zd2, roundQ_exit → Zd3, roundQ_norm → Zd4, roundQ_ret → Zd5, set_new0 → Zd6, set_new1 → Zd7, set_new2 → Zd8, set_new3 → Zd9, sliceE_some → Zea, stepQ_none → Zeb, stepQ_some → Zec, storeE_ptr → Zed, thenK_exit → Zee, thenK_norm → Zef, thenK_ret → Zeg, unE_not → Zeh, wrE_agg4 → Zei, wrE_one → Zej
set_option maxHeartbeats 4000000
set_option maxRecDepth 4000
set_option linter.unusedSimpArgs false
set_option linter.unusedVariables false
set_option linter.unusedSectionVars false

def elemCells (w : List UInt8) (a k : AV) (p : Nat) : List AV := [.str w, a, k, .int .i64 p]

mutual
/-- An element, read; what attributes and remarks come to is asked of AO and RO. -/
def elemF (AO : Rd → Option (AV × Rd)) (RO : Rd → Option Rd) : Nat → Nat → Rd → Option (List AV × Rd)
  | 0, _, _ => none
  | k + 1, d, x =>
    if 1000000 < x.n then none
    else if pre [60] x.rest = false then some (elemCells [] .nils .nils x.a, x.fail x.a 2)
    else if 12 ≤ d ∨ 400 < x.more.n then some (elemCells [] .nils .nils x.a, x.more.fail x.a 4)
    else match AO (x.more.go 1).name with
      | none => none
      | some (av, x4) =>
        if pre [47, 62] x4.rest = true then some (elemCells (x.more.go 1).word av .nils x.a, x4.go 2)
        else match kidsF AO RO k (x.more.go 1).word (d + 1) (x4.must [62]) [] with
          | none => none
          | some (kv, x6) => some (elemCells (x.more.go 1).word av kv x.a, x6)
/-- What stands in an element, and its end. -/
def kidsF (AO : Rd → Option (AV × Rd)) (RO : Rd → Option Rd) : Nat → List UInt8 → Nat → Rd → List (List AV) → Option (AV × Rd)
  | 0, _, _, _, _ => none
  | k + 1, w, d, x, acc =>
    if x.e ≠ 0 then some (accF 4 acc, x)
    else match RO x with
      | none => none
      | some x1 =>
        if pre [60, 47] x1.rest = true then
          some (accF 4 acc, ((if (x1.go 2).word = w then (x1.go 2).name else (x1.go 2).name.fail x1.a 2).go (if (x1.go 2).word = w then (x1.go 2).name else (x1.go 2).name.fail x1.a 2).gap).must [62])
        else if 100000 ≤ acc.length then none
        else match elemF AO RO k d x1 with
          | none => none
          | some (e, x2) => kidsF AO RO k w d x2 (acc ++ [e])
end

def AOok (C : Ctx) (AO : Rd → Option (AV × Rd)) : Prop := ∀ x av y, AO x = some (av, y) → x.Ok → y.Ok ∧ flatV av = true ∧ ∀ (st : St) (r : Nat), st[r]? = some x.row → Good st → callW C 45 [.ptr r 0 0] st = some (av, st.set r y.row)
def ROok (C : Ctx) (RO : Rd → Option Rd) : Prop := ∀ x y, RO x = some y → x.Ok → y.Ok ∧ ∀ (st : St) (r : Nat), st[r]? = some x.row → Good st → callW C 27 [.ptr r 0 0] st = some (.tup [], st.set r y.row)

def ElemOk (C : Ctx) (AO : Rd → Option (AV × Rd)) (RO : Rd → Option Rd) (k : Nat) : Prop := ∀ (d : Nat) (x : Rd) (e : List AV) (y : Rd), elemF AO RO k d x = some (e, y) → x.Ok → d ≤ 100 →
  y.Ok ∧ e.length = 4 ∧ (∀ c ∈ e, flatV c = true) ∧ ∀ (st : St) (r : Nat), st[r]? = some x.row → Good st → callW C 26 [.ptr r 0 0, .int .i64 d] st = some (.agg e, st.set r y.row)
def KidsOk (C : Ctx) (AO : Rd → Option (AV × Rd)) (RO : Rd → Option Rd) (k : Nat) : Prop := ∀ (w : List UInt8) (d : Nat) (x : Rd) (kv : AV) (y : Rd), kidsF AO RO k w d x [] = some (kv, y) → x.Ok → d ≤ 100 →
  y.Ok ∧ flatV kv = true ∧ ∀ (st : St) (r : Nat), st[r]? = some x.row → Good st → callW C 48 [.ptr r 0 0, .str w, .int .i64 d] st = some (kv, st.set r y.row)

theorem fail_ok {x : Rd} (h : x.Ok) (p k : Nat) : (x.fail p k).Ok := by
  unfold Rd.fail
  split
  · exact ⟨h.a, h.s⟩
  · exact h
theorem must_ok {x : Rd} (h : x.Ok) (p : List UInt8) : (x.must p).Ok := by
  unfold Rd.must
  split
  · rename_i hp; exact ok_go h (pre_len hp)
  · exact fail_ok h _ _
theorem fail_rest_le (x : Rd) (p k : Nat) : (x.fail p k).a = x.a ∧ (x.fail p k).s = x.s := by
  unfold Rd.fail; split <;> exact ⟨rfl, rfl⟩
theorem name_ok {x : Rd} (h : x.Ok) : x.name.Ok := by
  have h1 : x.word.length ≤ x.rest.length := take_le _
  have h2 := rest_le2 x h
  unfold Rd.name
  split
  · exact ok_go h h1
  · obtain ⟨ha, hs⟩ := fail_rest_le x x.a 2
    refine ⟨?_, by show (x.fail x.a 2).s.length ≤ 8000; rw [hs]; exact h.s⟩
    show (x.fail x.a 2).a + x.word.length ≤ (x.fail x.a 2).s.length
    rw [ha, hs]; omega

section
variable {C : Ctx} (H : Codes C) (he : C.fns 113 = some (.ext xIndexByte)) {AO : Rd → Option (AV × Rd)} {RO : Rd → Option Rd} (hA : AOok C AO) (hR : ROok C RO)
include H he hA hR

theorem elem_step (k : Nat) (hK : KidsOk C AO RO k) : ElemOk C AO RO (k + 1) := by
  intro d x e y hf hx hd
  simp only [elemF] at hf
  by_cases p0 : 1000000 < x.n
  · rw [if_pos p0] at hf; cases hf
  rw [if_neg p0] at hf
  by_cases p1 : pre [60] x.rest = false
  · rw [if_pos p1] at hf
    simp only [Option.some.injEq, Prod.mk.injEq] at hf
    obtain ⟨rfl, rfl⟩ := hf
    refine ⟨fail_ok hx _ _, rfl, by simp [elemCells, flatV, AV.hi], fun st r hr hG => ?_⟩
    have hlt := (List.getElem?_eq_some_iff.1 hr).1
    have g0 : ∀ l : St, (st ++ l)[r]? = some x.row := fun l => by rw [get_old hlt, hr]
    have g1 : ∀ l : St, (st ++ l)[r]? = some (.cells [.str x.s, .int .i64 x.a, .int .i64 x.n, .int .i64 x.e, .int .i64 x.o] 0 0 false 56) := g0
    have gs : ∀ (y : Rd) (l : St), (st.set r y.row ++ l)[r]? = some y.row := fun y l => by
      rw [get_old (by simpa using hlt)]; exact List.getElem?_set_self hlt
    have gc : ∀ (y : Rd) (l : St), (st.set r y.row ++ l)[r]? = some (.cells [.str y.s, .int .i64 y.a, .int .i64 y.n, .int .i64 y.e, .int .i64 y.o] 0 0 false 56) := gs
    have so : ∀ (y : Row) (l : St), (st ++ l).set r y = st.set r y ++ l := fun y l => set_old hlt
    have ss : ∀ (y z : Row) (l : St), (st.set r y ++ l).set r z = st.set r z ++ l := fun y z l => by
      rw [set_old (by simpa using hlt), List.set_set]
    have goodl : ∀ (y : Rd) (a b : List AV), Good (st.set r y.row ++ [.cells a 0 0 false 25, .cells b 0 0 false 25]) := fun y a b => (good_row hG r y).push (by intro q hq; simp at hq; rcases hq with rfl | rfl <;> simp [Row.top])
    have len : ∀ (y : Row), (st.set r y).length = st.length := fun y => by simp
    have new0 : ∀ (y : Row) (a b : Row), (st.set r y ++ [a, b])[st.length]? = some a := fun y a b => by rw [← len y]; exact Zb7
    have new1 : ∀ (y : Row) (a b : Row), (st.set r y ++ [a, b])[st.length + 1]? = some b := fun y a b => by rw [← len y]; exact Zb8
    have sn0 : ∀ (y : Row) (a b z : Row), (st.set r y ++ [a, b]).set st.length z = st.set r y ++ [z, b] := fun y a b z => by rw [← len y]; exact Zd6
    have sn1 : ∀ (y : Row) (a b z : Row), (st.set r y ++ [a, b]).set (st.length + 1) z = st.set r y ++ [a, z] := fun y a b z => by rw [← len y]; exact Zd7
    have c1 := rest_W H (st ++ [.cells [.str [], .nils, .nils, .int .i64 0] 0 0 false 25, .cells [.str [], .nils, .nils, .int .i64 x.a] 0 0 false 25]) r x (g0 _) hx
    have c2 : callW C 29 [.ptr r 0 0, .int .i64 x.a, .int .i64 2] (st ++ [.cells [.str [], .nils, .nils, .int .i64 0] 0 0 false 25, .cells [.str [], .nils, .nils, .int .i64 x.a] 0 0 false 25]) = some (.tup [], st.set r (x.fail x.a 2).row ++ [.cells [.str [], .nils, .nils, .int .i64 0] 0 0 false 25, .cells [.str [], .nils, .nils, .int .i64 x.a] 0 0 false 25]) := by
      have := fails_W H (st ++ [.cells [.str [], .nils, .nils, .int .i64 0] 0 0 false 25, .cells [.str [], .nils, .nils, .int .i64 x.a] 0 0 false 25]) r x (g0 _) x.a 2
      rw [so] at this; exact this
    rw [← CW_eq, CW_is H.h26 _ (by simp)]
    simp only [List.length_cons, List.length_nil, Nat.zero_add, Nat.reduceAdd, Nat.reduceSub, List.reduceReplicate, List.cons_append, List.nil_append]
    unfold k26b
    simp only [leave0, Zc6, Zc7, Zc8, Zc5, Zc4, Zbg, Zbs, Zba, Zbl, Zbc, Zbq, Zbn, Zbv, Zbu, Zbw, Zdg, Zdy, Za5, Za4, Zae, Zad, Zb4, Zed, Zej, Zei, Zdh, Zdp, Za0, Zb5, Zb6, Zdx, Zdi, Zb7, Zb8, Zb9, Zca, Zcb, Zd9, Zbb, Za8, Zdz, Zd6, Zd7, Zd8, Zct, Zcz, Zcr, Zcw, Zcv, Zcu, Zcx, Zcy, Zcs, hi_int, hi_str, Zcj, Zcl, Zck, hi_sl, Option.bind_some, Option.bind_none, List.set_cons_zero, List.set_cons_succ, List.set_set, List.length_set, List.length_append, List.length_cons, List.length_nil, List.append_assoc, List.singleton_append, Nat.zero_add, Nat.add_zero, Nat.reduceLT, Nat.reduceAdd, W_skip, W_ret, W_exit, W_seq, Zab, W_cond, W_reg, Zef, Zeg, Zee, Zau, Zav, Zat, Zd4, Zd5, Zd3, WO_nil, WO_op, Zaa, Zec, Zeb, Zch, Zce, Zcg, Zcf, Zci, Zay, Zax, Zd1, Zd2, Zd0, Za6,
    Zbm, Zbp, Za9, Zbt, Zbe, Zbf, Zbj, Zbi, Zbk, Zbh, Zbd, Zbr, Zbo, Za7, ev_t, ev_c, ev_f, Zb2, Zb1, Zbz, Zb0, Zbx, Zby, Zdu, Zdw, Zdv, Zcd, Zcc, Zdo, Zdm, Zdn,
    Zdt, Zds, Zdr, Zdq, Zaf, Zeh, Za2, Za3, Za1, Zb3, Zde, Zdb, Zdd, Zdc, Zc0, Zc1, Zdf, Zcq, Zaw, Zaz, Zea, Zdl, Zdj, Zdk,
    Zag, Zas, Zao, Zaj, Zap, Zan, Zam, Zal, Zak, Zaq, Zar, Zah, Zai, Zac, Zc2, Zc3, Zc9, Zda, Zco, Zcm, Zcn, Zcp, Option.map_some, Option.map_none, List.cons_append, List.nil_append, List.append_nil, decide_true, decide_false, Bool.not_true, Bool.not_false, Bool.false_eq_true, if_true, if_false, ↓reduceIte, reduceCtorEq, Nat.reduceAdd, Nat.reduceEqDiff, Nat.reduceBEq, cast0, true_and, and_true, eq_self, List.getElem?_cons_zero, List.getElem?_cons_succ, g1, c1, hasPrefix_W H, p1, c2, new0, new1, sn0]
    rw [leave_drop (by simp) (good_row hG r _) (by simp [AV.hi, AV.his])]
    exact ⟨rfl, rfl⟩
  rw [if_neg p1] at hf
  have p1 : pre [60] x.rest = true := by simpa using p1
  have hx1 : x.more.Ok := ⟨hx.a, hx.s⟩
  by_cases p2 : 12 ≤ d ∨ 400 < x.more.n
  · rw [if_pos p2] at hf
    simp only [Option.some.injEq, Prod.mk.injEq] at hf
    obtain ⟨rfl, rfl⟩ := hf
    refine ⟨fail_ok hx1 _ _, rfl, by simp [elemCells, flatV, AV.hi], fun st r hr hG => ?_⟩
    have hlt := (List.getElem?_eq_some_iff.1 hr).1
    have g0 : ∀ l : St, (st ++ l)[r]? = some x.row := fun l => by rw [get_old hlt, hr]
    have g1 : ∀ l : St, (st ++ l)[r]? = some (.cells [.str x.s, .int .i64 x.a, .int .i64 x.n, .int .i64 x.e, .int .i64 x.o] 0 0 false 56) := g0
    have gs : ∀ (y : Rd) (l : St), (st.set r y.row ++ l)[r]? = some y.row := fun y l => by
      rw [get_old (by simpa using hlt)]; exact List.getElem?_set_self hlt
    have gc : ∀ (y : Rd) (l : St), (st.set r y.row ++ l)[r]? = some (.cells [.str y.s, .int .i64 y.a, .int .i64 y.n, .int .i64 y.e, .int .i64 y.o] 0 0 false 56) := gs
    have so : ∀ (y : Row) (l : St), (st ++ l).set r y = st.set r y ++ l := fun y l => set_old hlt
    have ss : ∀ (y z : Row) (l : St), (st.set r y ++ l).set r z = st.set r z ++ l := fun y z l => by
      rw [set_old (by simpa using hlt), List.set_set]
    have goodl : ∀ (y : Rd) (a b : List AV), Good (st.set r y.row ++ [.cells a 0 0 false 25, .cells b 0 0 false 25]) := fun y a b => (good_row hG r y).push (by intro q hq; simp at hq; rcases hq with rfl | rfl <;> simp [Row.top])
    have len : ∀ (y : Row), (st.set r y).length = st.length := fun y => by simp
    have new0 : ∀ (y : Row) (a b : Row), (st.set r y ++ [a, b])[st.length]? = some a := fun y a b => by rw [← len y]; exact Zb7
    have new1 : ∀ (y : Row) (a b : Row), (st.set r y ++ [a, b])[st.length + 1]? = some b := fun y a b => by rw [← len y]; exact Zb8
    have sn0 : ∀ (y : Row) (a b z : Row), (st.set r y ++ [a, b]).set st.length z = st.set r y ++ [z, b] := fun y a b z => by rw [← len y]; exact Zd6
    have sn1 : ∀ (y : Row) (a b z : Row), (st.set r y ++ [a, b]).set (st.length + 1) z = st.set r y ++ [a, z] := fun y a b z => by rw [← len y]; exact Zd7
    obtain ⟨x1, e1⟩ : ∃ y, y = x.more := ⟨_, rfl⟩
    have c1 := rest_W H (st ++ [.cells [.str [], .nils, .nils, .int .i64 0] 0 0 false 25, .cells [.str [], .nils, .nils, .int .i64 x.a] 0 0 false 25]) r x (g0 _) hx
    have f1 : st.set r (.cells [.str x.s, .int .i64 x.a, .int .i64 x1.n, .int .i64 x.e, .int .i64 x.o] 0 0 false 56) = st.set r x1.row := by rw [e1]; rfl
    have hn1 : IntKind.wrap .i64 ((x.n : Int) + 1) = (x1.n : Int) := by
      rw [wrap_i64 (by omega) (by omega), e1]; simp [Rd.more]
    have c2 : ∀ b, callW C 29 [.ptr r 0 0, .int .i64 x1.a, .int .i64 4] (st.set r x1.row ++ [.cells [.str [], .nils, .nils, .int .i64 0] 0 0 false 25, .cells [.str [], .nils, .nils, .int .i64 b] 0 0 false 25]) = some (.tup [], st.set r (x1.fail x1.a 4).row ++ [.cells [.str [], .nils, .nils, .int .i64 0] 0 0 false 25, .cells [.str [], .nils, .nils, .int .i64 b] 0 0 false 25]) := fun b => by
      have := fails_W H (st.set r x1.row ++ [.cells [.str [], .nils, .nils, .int .i64 0] 0 0 false 25, .cells [.str [], .nils, .nils, .int .i64 b] 0 0 false 25]) r x1 (gs _ _) x1.a 4
      rw [ss] at this; exact this
    rw [← e1] at p2
    have ha : x1.a = x.a := by rw [e1]; rfl
    rw [← e1]
    rw [← CW_eq, CW_is H.h26 _ (by simp)]
    simp only [List.length_cons, List.length_nil, Nat.zero_add, Nat.reduceAdd, Nat.reduceSub, List.reduceReplicate, List.cons_append, List.nil_append]
    unfold k26b
    rcases p2 with p2 | p2
    · have hd1 : (12 : Int) ≤ d := by omega
      simp only [leave0, Zc6, Zc7, Zc8, Zc5, Zc4, Zbg, Zbs, Zba, Zbl, Zbc, Zbq, Zbn, Zbv, Zbu, Zbw, Zdg, Zdy, Za5, Za4, Zae, Zad, Zb4, Zed, Zej, Zei, Zdh, Zdp, Za0, Zb5, Zb6, Zdx, Zdi, Zb7, Zb8, Zb9, Zca, Zcb, Zd9, Zbb, Za8, Zdz, Zd6, Zd7, Zd8, Zct, Zcz, Zcr, Zcw, Zcv, Zcu, Zcx, Zcy, Zcs, hi_int, hi_str, Zcj, Zcl, Zck, hi_sl, Option.bind_some, Option.bind_none, List.set_cons_zero, List.set_cons_succ, List.set_set, List.length_set, List.length_append, List.length_cons, List.length_nil, List.append_assoc, List.singleton_append, Nat.zero_add, Nat.add_zero, Nat.reduceLT, Nat.reduceAdd, W_skip, W_ret, W_exit, W_seq, Zab, W_cond, W_reg, Zef, Zeg, Zee, Zau, Zav, Zat, Zd4, Zd5, Zd3, WO_nil, WO_op, Zaa, Zec, Zeb, Zch, Zce, Zcg, Zcf, Zci, Zay, Zax, Zd1, Zd2, Zd0, Za6,
    Zbm, Zbp, Za9, Zbt, Zbe, Zbf, Zbj, Zbi, Zbk, Zbh, Zbd, Zbr, Zbo, Za7, ev_t, ev_c, ev_f, Zb2, Zb1, Zbz, Zb0, Zbx, Zby, Zdu, Zdw, Zdv, Zcd, Zcc, Zdo, Zdm, Zdn,
    Zdt, Zds, Zdr, Zdq, Zaf, Zeh, Za2, Za3, Za1, Zb3, Zde, Zdb, Zdd, Zdc, Zc0, Zc1, Zdf, Zcq, Zaw, Zaz, Zea, Zdl, Zdj, Zdk,
    Zag, Zas, Zao, Zaj, Zap, Zan, Zam, Zal, Zak, Zaq, Zar, Zah, Zai, Zac, Zc2, Zc3, Zc9, Zda, Zco, Zcm, Zcn, Zcp, Option.map_some, Option.map_none, List.cons_append, List.nil_append, List.append_nil, decide_true, decide_false, Bool.not_true, Bool.not_false, Bool.false_eq_true, if_true, if_false, ↓reduceIte, reduceCtorEq, Nat.reduceAdd, Nat.reduceEqDiff, Nat.reduceBEq, cast0, true_and, and_true, eq_self, List.getElem?_cons_zero, List.getElem?_cons_succ, g1, c1, hasPrefix_W H, p1, hn1, so, f1, gc, hd1, c2, new0, new1, sn0]
      rw [leave_drop (by simp) (good_row hG r _) (by simp [AV.hi, AV.his]), ha]
      exact ⟨rfl, rfl⟩
    · have hn2 : (400 : Int) < x1.n := by omega
      by_cases hd1 : (12 : Int) ≤ d <;> simp only [leave0, Zc6, Zc7, Zc8, Zc5, Zc4, Zbg, Zbs, Zba, Zbl, Zbc, Zbq, Zbn, Zbv, Zbu, Zbw, Zdg, Zdy, Za5, Za4, Zae, Zad, Zb4, Zed, Zej, Zei, Zdh, Zdp, Za0, Zb5, Zb6, Zdx, Zdi, Zb7, Zb8, Zb9, Zca, Zcb, Zd9, Zbb, Za8, Zdz, Zd6, Zd7, Zd8, Zct, Zcz, Zcr, Zcw, Zcv, Zcu, Zcx, Zcy, Zcs, hi_int, hi_str, Zcj, Zcl, Zck, hi_sl, Option.bind_some, Option.bind_none, List.set_cons_zero, List.set_cons_succ, List.set_set, List.length_set, List.length_append, List.length_cons, List.length_nil, List.append_assoc, List.singleton_append, Nat.zero_add, Nat.add_zero, Nat.reduceLT, Nat.reduceAdd, W_skip, W_ret, W_exit, W_seq, Zab, W_cond, W_reg, Zef, Zeg, Zee, Zau, Zav, Zat, Zd4, Zd5, Zd3, WO_nil, WO_op, Zaa, Zec, Zeb, Zch, Zce, Zcg, Zcf, Zci, Zay, Zax, Zd1, Zd2, Zd0, Za6,
    Zbm, Zbp, Za9, Zbt, Zbe, Zbf, Zbj, Zbi, Zbk, Zbh, Zbd, Zbr, Zbo, Za7, ev_t, ev_c, ev_f, Zb2, Zb1, Zbz, Zb0, Zbx, Zby, Zdu, Zdw, Zdv, Zcd, Zcc, Zdo, Zdm, Zdn,
    Zdt, Zds, Zdr, Zdq, Zaf, Zeh, Za2, Za3, Za1, Zb3, Zde, Zdb, Zdd, Zdc, Zc0, Zc1, Zdf, Zcq, Zaw, Zaz, Zea, Zdl, Zdj, Zdk,
    Zag, Zas, Zao, Zaj, Zap, Zan, Zam, Zal, Zak, Zaq, Zar, Zah, Zai, Zac, Zc2, Zc3, Zc9, Zda, Zco, Zcm, Zcn, Zcp, Option.map_some, Option.map_none, List.cons_append, List.nil_append, List.append_nil, decide_true, decide_false, Bool.not_true, Bool.not_false, Bool.false_eq_true, if_true, if_false, ↓reduceIte, reduceCtorEq, Nat.reduceAdd, Nat.reduceEqDiff, Nat.reduceBEq, cast0, true_and, and_true, eq_self, List.getElem?_cons_zero, List.getElem?_cons_succ, g1, c1, hasPrefix_W H, p1, hn1, so, f1, gc, hd1, hn2, c2, new0, new1, sn0] <;> rw [leave_drop (by simp) (good_row hG r _) (by simp [AV.hi, AV.his]), ha] <;> exact ⟨rfl, rfl⟩
  rw [if_neg p2] at hf
  have hd1 : ¬ (12 : Int) ≤ d := by omega
  obtain ⟨x1, e1⟩ : ∃ y, y = x.more := ⟨_, rfl⟩
  obtain ⟨x2, e2⟩ : ∃ y, y = x1.go 1 := ⟨_, rfl⟩
  rw [← e1, ← e2] at hf
  rw [← e1] at p2
  have r1 : x1.rest = x.rest := by rw [e1]; rfl
  have o1 : x1.Ok := by rw [e1]; exact hx1
  have o2 : x2.Ok := by rw [e2]; exact ok_go o1 (by rw [r1]; exact pre_len (p := [60]) p1)
  have o3 := name_ok o2
  cases hao : AO x2.name with
  | none => rw [hao] at hf; cases hf
  | some q =>
    obtain ⟨av, x4⟩ := q
    rw [hao] at hf
    simp only at hf
    obtain ⟨o4, fav, cav⟩ := hA _ _ _ hao o3
    have hav1 := flat_cell fav
    have hav2 := flat_hi fav
    have hn1 : IntKind.wrap .i64 ((x.n : Int) + 1) = (x1.n : Int) := by
      rw [wrap_i64 (by omega) (by omega), e1]; simp [Rd.more]
    have ha1 : IntKind.wrap .i64 ((x1.a : Int) + 1) = (x2.a : Int) := by
      have := hx.a; have := hx.s
      rw [e2, e1]; show IntKind.wrap .i64 ((x.a : Int) + 1) = ((x.a + 1 : Nat) : Int)
      rw [wrap_i64 (by omega) (by omega)]; omega
    have hn2 : ¬ (400 : Int) < x1.n := by omega
    have hdw : IntKind.wrap .i64 ((d : Int) + 1) = ((d + 1 : Nat) : Int) := by rw [wrap_i64 (by omega) (by omega)]; omega
    by_cases p3 : pre [47, 62] x4.rest = true
    · rw [if_pos p3] at hf
      simp only [Option.some.injEq, Prod.mk.injEq] at hf
      obtain ⟨rfl, rfl⟩ := hf
      refine ⟨ok_go o4 (pre_len (p := [47, 62]) p3), rfl, ?_, fun st r hr hG => ?_⟩
      · intro c hc
        simp only [elemCells, List.mem_cons, List.mem_nil_iff, or_false] at hc
        rcases hc with rfl | rfl | rfl | rfl
        · simp [flatV, AV.hi]
        · exact fav
        · simp [flatV, AV.hi]
        · simp [flatV, AV.hi]
      have hlt := (List.getElem?_eq_some_iff.1 hr).1
      have g0 : ∀ l : St, (st ++ l)[r]? = some x.row := fun l => by rw [get_old hlt, hr]
      have g1 : ∀ l : St, (st ++ l)[r]? = some (.cells [.str x.s, .int .i64 x.a, .int .i64 x.n, .int .i64 x.e, .int .i64 x.o] 0 0 false 56) := g0
      have gs : ∀ (y : Rd) (l : St), (st.set r y.row ++ l)[r]? = some y.row := fun y l => by
        rw [get_old (by simpa using hlt)]; exact List.getElem?_set_self hlt
      have gc : ∀ (y : Rd) (l : St), (st.set r y.row ++ l)[r]? = some (.cells [.str y.s, .int .i64 y.a, .int .i64 y.n, .int .i64 y.e, .int .i64 y.o] 0 0 false 56) := gs
      have so : ∀ (y : Row) (l : St), (st ++ l).set r y = st.set r y ++ l := fun y l => set_old hlt
      have ss : ∀ (y z : Row) (l : St), (st.set r y ++ l).set r z = st.set r z ++ l := fun y z l => by
        rw [set_old (by simpa using hlt), List.set_set]
      have goodl : ∀ (y : Rd) (a b : List AV), Good (st.set r y.row ++ [.cells a 0 0 false 25, .cells b 0 0 false 25]) := fun y a b => (good_row hG r y).push (by intro q hq; simp at hq; rcases hq with rfl | rfl <;> simp [Row.top])
      have len : ∀ (y : Row), (st.set r y).length = st.length := fun y => by simp
      have new0 : ∀ (y : Row) (a b : Row), (st.set r y ++ [a, b])[st.length]? = some a := fun y a b => by rw [← len y]; exact Zb7
      have new1 : ∀ (y : Row) (a b : Row), (st.set r y ++ [a, b])[st.length + 1]? = some b := fun y a b => by rw [← len y]; exact Zb8
      have sn0 : ∀ (y : Row) (a b z : Row), (st.set r y ++ [a, b]).set st.length z = st.set r y ++ [z, b] := fun y a b z => by rw [← len y]; exact Zd6
      have sn1 : ∀ (y : Row) (a b z : Row), (st.set r y ++ [a, b]).set (st.length + 1) z = st.set r y ++ [a, z] := fun y a b z => by rw [← len y]; exact Zd7
      have c1 := rest_W H (st ++ [.cells [.str [], .nils, .nils, .int .i64 0] 0 0 false 25, .cells [.str [], .nils, .nils, .int .i64 x.a] 0 0 false 25]) r x (g0 _) hx
      have f1 : st.set r (.cells [.str x.s, .int .i64 x.a, .int .i64 x1.n, .int .i64 x.e, .int .i64 x.o] 0 0 false 56) = st.set r x1.row := by rw [e1]; rfl
      have f2 : st.set r (.cells [.str x1.s, .int .i64 x2.a, .int .i64 x1.n, .int .i64 x1.e, .int .i64 x1.o] 0 0 false 56) = st.set r x2.row := by rw [e2]; rfl
      have c2 := qual_W H (st.set r x2.row ++ [.cells [.str [], .nils, .nils, .int .i64 0] 0 0 false 25, .cells [.str [], .nils, .nils, .int .i64 x.a] 0 0 false 25]) r x2 (gs _ _) he o2 (goodl _ _ _)
      rw [ss] at c2
      have c3 := cav (st.set r x2.name.row ++ [.cells [.str [], .nils, .nils, .int .i64 0] 0 0 false 25, .cells [.str x2.word, .nils, .nils, .int .i64 x.a] 0 0 false 25]) r (gs _ _) (goodl _ _ _)
      rw [ss] at c3
      have c4 := is_W H (st.set r x4.row ++ [.cells [.str [], .nils, .nils, .int .i64 0] 0 0 false 25, .cells [.str x2.word, av, .nils, .int .i64 x.a] 0 0 false 25]) r x4 (gs _ _) o4 [47, 62] (by simp)
      rw [p3] at c4
      simp only [if_true, ss, List.length_cons, List.length_nil, Nat.zero_add, Nat.reduceAdd] at c4
      rw [← CW_eq, CW_is H.h26 _ (by simp)]
      simp only [List.length_cons, List.length_nil, Nat.zero_add, Nat.reduceAdd, Nat.reduceSub, List.reduceReplicate, List.cons_append, List.nil_append]
      unfold k26b
      simp only [leave0, Zc6, Zc7, Zc8, Zc5, Zc4, Zbg, Zbs, Zba, Zbl, Zbc, Zbq, Zbn, Zbv, Zbu, Zbw, Zdg, Zdy, Za5, Za4, Zae, Zad, Zb4, Zed, Zej, Zei, Zdh, Zdp, Za0, Zb5, Zb6, Zdx, Zdi, Zb7, Zb8, Zb9, Zca, Zcb, Zd9, Zbb, Za8, Zdz, Zd6, Zd7, Zd8, Zct, Zcz, Zcr, Zcw, Zcv, Zcu, Zcx, Zcy, Zcs, hi_int, hi_str, Zcj, Zcl, Zck, hi_sl, Option.bind_some, Option.bind_none, List.set_cons_zero, List.set_cons_succ, List.set_set, List.length_set, List.length_append, List.length_cons, List.length_nil, List.append_assoc, List.singleton_append, Nat.zero_add, Nat.add_zero, Nat.reduceLT, Nat.reduceAdd, W_skip, W_ret, W_exit, W_seq, Zab, W_cond, W_reg, Zef, Zeg, Zee, Zau, Zav, Zat, Zd4, Zd5, Zd3, WO_nil, WO_op, Zaa, Zec, Zeb, Zch, Zce, Zcg, Zcf, Zci, Zay, Zax, Zd1, Zd2, Zd0, Za6,
    Zbm, Zbp, Za9, Zbt, Zbe, Zbf, Zbj, Zbi, Zbk, Zbh, Zbd, Zbr, Zbo, Za7, ev_t, ev_c, ev_f, Zb2, Zb1, Zbz, Zb0, Zbx, Zby, Zdu, Zdw, Zdv, Zcd, Zcc, Zdo, Zdm, Zdn,
    Zdt, Zds, Zdr, Zdq, Zaf, Zeh, Za2, Za3, Za1, Zb3, Zde, Zdb, Zdd, Zdc, Zc0, Zc1, Zdf, Zcq, Zaw, Zaz, Zea, Zdl, Zdj, Zdk,
    Zag, Zas, Zao, Zaj, Zap, Zan, Zam, Zal, Zak, Zaq, Zar, Zah, Zai, Zac, Zc2, Zc3, Zc9, Zda, Zco, Zcm, Zcn, Zcp, Option.map_some, Option.map_none, List.cons_append, List.nil_append, List.append_nil, decide_true, decide_false, Bool.not_true, Bool.not_false, Bool.false_eq_true, if_true, if_false, ↓reduceIte, reduceCtorEq, Nat.reduceAdd, Nat.reduceEqDiff, Nat.reduceBEq, cast0, true_and, and_true, eq_self, List.getElem?_cons_zero, List.getElem?_cons_succ, g1, c1, hasPrefix_W H, p1, hn1, so, f1, gc, hd1, hn2, ha1, ss, f2, c2, new0, new1, sn0, sn1, c3, c4, hav1, hav2]
      rw [leave_drop (by simp) (good_row hG r _) (by simp [AV.hi, AV.his, hav2])]
      exact ⟨rfl, rfl⟩
    · rw [if_neg p3] at hf
      have p3 : pre [47, 62] x4.rest = false := by simpa using p3
      have o5 := must_ok o4 [62]
      cases hkf : kidsF AO RO k x2.word (d + 1) (x4.must [62]) [] with
      | none => rw [hkf] at hf; cases hf
      | some q =>
        obtain ⟨kv, x6⟩ := q
        rw [hkf] at hf
        simp only [Option.some.injEq, Prod.mk.injEq] at hf
        obtain ⟨rfl, rfl⟩ := hf
        obtain ⟨o6, fkv, ckv⟩ := hK _ _ _ _ _ hkf o5 (by omega)
        have hkv1 := flat_cell fkv
        have hkv2 := flat_hi fkv
        refine ⟨o6, rfl, ?_, fun st r hr hG => ?_⟩
        · intro c hc
          simp only [elemCells, List.mem_cons, List.mem_nil_iff, or_false] at hc
          rcases hc with rfl | rfl | rfl | rfl
          · simp [flatV, AV.hi]
          · exact fav
          · exact fkv
          · simp [flatV, AV.hi]
        have hlt := (List.getElem?_eq_some_iff.1 hr).1
        have g0 : ∀ l : St, (st ++ l)[r]? = some x.row := fun l => by rw [get_old hlt, hr]
        have g1 : ∀ l : St, (st ++ l)[r]? = some (.cells [.str x.s, .int .i64 x.a, .int .i64 x.n, .int .i64 x.e, .int .i64 x.o] 0 0 false 56) := g0
        have gs : ∀ (y : Rd) (l : St), (st.set r y.row ++ l)[r]? = some y.row := fun y l => by
          rw [get_old (by simpa using hlt)]; exact List.getElem?_set_self hlt
        have gc : ∀ (y : Rd) (l : St), (st.set r y.row ++ l)[r]? = some (.cells [.str y.s, .int .i64 y.a, .int .i64 y.n, .int .i64 y.e, .int .i64 y.o] 0 0 false 56) := gs
        have so : ∀ (y : Row) (l : St), (st ++ l).set r y = st.set r y ++ l := fun y l => set_old hlt
        have ss : ∀ (y z : Row) (l : St), (st.set r y ++ l).set r z = st.set r z ++ l := fun y z l => by
          rw [set_old (by simpa using hlt), List.set_set]
        have goodl : ∀ (y : Rd) (a b : List AV), Good (st.set r y.row ++ [.cells a 0 0 false 25, .cells b 0 0 false 25]) := fun y a b => (good_row hG r y).push (by intro q hq; simp at hq; rcases hq with rfl | rfl <;> simp [Row.top])
        have len : ∀ (y : Row), (st.set r y).length = st.length := fun y => by simp
        have new0 : ∀ (y : Row) (a b : Row), (st.set r y ++ [a, b])[st.length]? = some a := fun y a b => by rw [← len y]; exact Zb7
        have new1 : ∀ (y : Row) (a b : Row), (st.set r y ++ [a, b])[st.length + 1]? = some b := fun y a b => by rw [← len y]; exact Zb8
        have sn0 : ∀ (y : Row) (a b z : Row), (st.set r y ++ [a, b]).set st.length z = st.set r y ++ [z, b] := fun y a b z => by rw [← len y]; exact Zd6
        have sn1 : ∀ (y : Row) (a b z : Row), (st.set r y ++ [a, b]).set (st.length + 1) z = st.set r y ++ [a, z] := fun y a b z => by rw [← len y]; exact Zd7
        have c1 := rest_W H (st ++ [.cells [.str [], .nils, .nils, .int .i64 0] 0 0 false 25, .cells [.str [], .nils, .nils, .int .i64 x.a] 0 0 false 25]) r x (g0 _) hx
        have f1 : st.set r (.cells [.str x.s, .int .i64 x.a, .int .i64 x1.n, .int .i64 x.e, .int .i64 x.o] 0 0 false 56) = st.set r x1.row := by rw [e1]; rfl
        have f2 : st.set r (.cells [.str x1.s, .int .i64 x2.a, .int .i64 x1.n, .int .i64 x1.e, .int .i64 x1.o] 0 0 false 56) = st.set r x2.row := by rw [e2]; rfl
        have c2 := qual_W H (st.set r x2.row ++ [.cells [.str [], .nils, .nils, .int .i64 0] 0 0 false 25, .cells [.str [], .nils, .nils, .int .i64 x.a] 0 0 false 25]) r x2 (gs _ _) he o2 (goodl _ _ _)
        rw [ss] at c2
        have c3 := cav (st.set r x2.name.row ++ [.cells [.str [], .nils, .nils, .int .i64 0] 0 0 false 25, .cells [.str x2.word, .nils, .nils, .int .i64 x.a] 0 0 false 25]) r (gs _ _) (goodl _ _ _)
        rw [ss] at c3
        have c4 := is_W H (st.set r x4.row ++ [.cells [.str [], .nils, .nils, .int .i64 0] 0 0 false 25, .cells [.str x2.word, av, .nils, .int .i64 x.a] 0 0 false 25]) r x4 (gs _ _) o4 [47, 62] (by simp)
        rw [p3] at c4
        simp only [Bool.false_eq_true, if_false, ss] at c4
        have c5 := must_W H (st.set r x4.row ++ [.cells [.str [], .nils, .nils, .int .i64 0] 0 0 false 25, .cells [.str x2.word, av, .nils, .int .i64 x.a] 0 0 false 25]) r x4 (gs _ _) o4 [62] (by simp)
        rw [ss] at c5
        have c6 := ckv (st.set r (x4.must [62]).row ++ [.cells [.str [], .nils, .nils, .int .i64 0] 0 0 false 25, .cells [.str x2.word, av, .nils, .int .i64 x.a] 0 0 false 25]) r (gs _ _) (goodl _ _ _)
        rw [ss] at c6
        rw [← CW_eq, CW_is H.h26 _ (by simp)]
        simp only [List.length_cons, List.length_nil, Nat.zero_add, Nat.reduceAdd, Nat.reduceSub, List.reduceReplicate, List.cons_append, List.nil_append]
        unfold k26b
        simp only [leave0, Zc6, Zc7, Zc8, Zc5, Zc4, Zbg, Zbs, Zba, Zbl, Zbc, Zbq, Zbn, Zbv, Zbu, Zbw, Zdg, Zdy, Za5, Za4, Zae, Zad, Zb4, Zed, Zej, Zei, Zdh, Zdp, Za0, Zb5, Zb6, Zdx, Zdi, Zb7, Zb8, Zb9, Zca, Zcb, Zd9, Zbb, Za8, Zdz, Zd6, Zd7, Zd8, Zct, Zcz, Zcr, Zcw, Zcv, Zcu, Zcx, Zcy, Zcs, hi_int, hi_str, Zcj, Zcl, Zck, hi_sl, Option.bind_some, Option.bind_none, List.set_cons_zero, List.set_cons_succ, List.set_set, List.length_set, List.length_append, List.length_cons, List.length_nil, List.append_assoc, List.singleton_append, Nat.zero_add, Nat.add_zero, Nat.reduceLT, Nat.reduceAdd, W_skip, W_ret, W_exit, W_seq, Zab, W_cond, W_reg, Zef, Zeg, Zee, Zau, Zav, Zat, Zd4, Zd5, Zd3, WO_nil, WO_op, Zaa, Zec, Zeb, Zch, Zce, Zcg, Zcf, Zci, Zay, Zax, Zd1, Zd2, Zd0, Za6,
    Zbm, Zbp, Za9, Zbt, Zbe, Zbf, Zbj, Zbi, Zbk, Zbh, Zbd, Zbr, Zbo, Za7, ev_t, ev_c, ev_f, Zb2, Zb1, Zbz, Zb0, Zbx, Zby, Zdu, Zdw, Zdv, Zcd, Zcc, Zdo, Zdm, Zdn,
    Zdt, Zds, Zdr, Zdq, Zaf, Zeh, Za2, Za3, Za1, Zb3, Zde, Zdb, Zdd, Zdc, Zc0, Zc1, Zdf, Zcq, Zaw, Zaz, Zea, Zdl, Zdj, Zdk,
    Zag, Zas, Zao, Zaj, Zap, Zan, Zam, Zal, Zak, Zaq, Zar, Zah, Zai, Zac, Zc2, Zc3, Zc9, Zda, Zco, Zcm, Zcn, Zcp, Option.map_some, Option.map_none, List.cons_append, List.nil_append, List.append_nil, decide_true, decide_false, Bool.not_true, Bool.not_false, Bool.false_eq_true, if_true, if_false, ↓reduceIte, reduceCtorEq, Nat.reduceAdd, Nat.reduceEqDiff, Nat.reduceBEq, cast0, true_and, and_true, eq_self, List.getElem?_cons_zero, List.getElem?_cons_succ, g1, c1, hasPrefix_W H, p1, hn1, so, f1, gc, hd1, hn2, ha1, ss, f2, c2, new0, new1, sn0, sn1, c3, c4, hav1, hav2, c5, hdw, c6, hkv1, hkv2]
        rw [leave_drop (by simp) (good_row hG r _) (by simp [AV.hi, AV.his, hav2, hkv2])]
        exact ⟨rfl, rfl⟩
end
end Go.Eng

