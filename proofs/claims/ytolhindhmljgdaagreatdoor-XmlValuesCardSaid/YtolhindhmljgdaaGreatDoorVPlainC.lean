/-
  Texts of a proof. Conditions: none.
-/
import Derived.Test.YtolhindhmljgdaaGreatDoorVPlainB
import Derived.Laws.RangeString
import Derived.Laws.RangeAny
set_option linter.unusedVariables false
set_option linter.unusedSimpArgs false
set_option linter.unnecessarySimpa false
set_option linter.unusedSectionVars false
namespace Go.Eng
open Go
open Go.Eng renaming WO_guard → Zaa, WO_nil → Zab, WO_op → Zac, W_block → Zad, W_cond → Zae, W_exit → Zaf, W_reg → Zag, W_ret → Zah, W_seq → Zai, W_skip → Zaj, aIndexAddr_sl → Zak, agg_all → Zal, agg_one → Zam, binE_some → Zan, bin_add → Zao, bin_beq → Zap, bin_bne → Zaq, bin_eql → Zar, bin_geq → Zas, bin_gtr → Zat, bin_leq → Zau, bin_lss → Zav, bin_mul → Zaw, bin_neq → Zax, bin_seq → Zay, bin_sne → Zaz, bin_sub → Za0, blockQ_exit → Za1, blockQ_norm → Za2, blockQ_ret → Za3, callE_f → Za4, cast0 → Za5, condQ_false → Za6, condQ_true → Za7, consO_some → Za8, consP_some → Za9, convE_bytes → Zba, convE_int → Zbb, convE_same → Zbc, cut_four → Zbd, cut_one → Zbe, endQ_some → Zbf, evOp_alloc → Zbg, evOp_append → Zbh, evOp_bin → Zbi, evOp_box → Zbj, evOp_bslice → Zbk, evOp_build → Zbl, evOp_callE → Zbm, evOp_conv → Zbn, evOp_ext → Zbo, evOp_faddr → Zbp, evOp_iaddr → Zbq, evOp_ixs → Zbr, evOp_len → Zbs, evOp_load → Zbt, evOp_mkfn → Zbu, evOp_mv → Zbv, evOp_next → Zbw, evOp_nilchk → Zbx, evOp_pick → Zby, evOp_range → Zbz, evOp_slice → Zb0, evOp_store → Zb1, evOp_un → Zb2, evParts_cons → Zb3, evParts_nil → Zb4, evRes_cell → Zb5, evRes_nil → Zb6, evRes_tmp → Zb7, evo_none → Zb8, evo_some → Zb9, evs_cons → Zca, evs_nil → Zcb, extE_tup → Zcc, faddrE_ptr → Zcd, fillA_nil → Zce, fillA_one → Zcf, get_new0 → Zcg, get_new1 → Zch, get_new2 → Zci, get_new3 → Zcj, get_new4 → Zck, get_succ → Zcl, get_zero → Zcm, guardQ_ff → Zcn, guardQ_ft → Zco, guardQ_tf → Zcp, guardQ_tt → Zcq, guardQ_undef → Zcr, hi_bool → Zcs, hi_nilp → Zct, hi_nils → Zcu, his_bool → Zcv, his_int → Zcw, his_nil → Zcx, his_str → Zcy, iaddrE_some → Zcz, isCell_bool → Zc0, isCell_fn → Zc1, isCell_int → Zc2, isCell_nilp → Zc3, isCell_nils → Zc4, isCell_ptr → Zc5, isCell_sl → Zc6, isCell_slc → Zc7, isCell_str → Zc8, ixsE_str → Zc9, ixsE_zero → Zda, leave_bool → Zdb, leave_int → Zdc, leave_nil → Zdd, leave_set0 → Zde, leave_setb → Zdf, leave_setn → Zdg, leave_sets → Zdh, leave_str → Zdi, leave_tup → Zdj, lenE_nils → Zdk, lenE_sl → Zdl, lenE_slc → Zdm, lenE_str → Zdn, loadE_one → Zdo, loadE_ptr → Zdp, mkfnE_some → Zdq, nextE_ptr → Zdr, nilE_cptr → Zds, nilE_fn → Zdt, nilE_ptr → Zdu, oneOf_more → Zdv, oneOf_nil → Zdw, oneOf_one → Zdx, partsE_some → Zdy, pickE_false → Zdz, pickE_true → Zd0, prE_none → Zd1, prE_some → Zd2, put_none → Zd3, put_succ → Zd4, put_zero → Zd5, rangeE_str → Zd6, rdE_cells → Zd7, rep_one → Zd8, retQ_exit → Zd9, retQ_norm → Zea, retQ_ret → Zeb, roundQ_exit → Zec, roundQ_norm → Zed, roundQ_ret → Zee, set_new0 → Zef, set_new1 → Zeg, set_new2 → Zeh, set_new3 → Zei, sliceE_some → Zej, stepQ_none → Zek, stepQ_some → Zel, storeE_ptr → Zem, thenK_exit → Zen, thenK_norm → Zeo, thenK_ret → Zep, unE_not → Zeq, wrE_agg4 → Zer, wrE_one → Zes
set_option maxHeartbeats 1000000
set_option maxRecDepth 4000
set_option linter.unusedSimpArgs false
set_option linter.unusedVariables false
set_option linter.unusedSectionVars false

/-- A sign of a name, or what stands between its parts. -/
def signN (n : Nat) : Bool := decide (n < 128) && (decide (n = 58) || isByte n)
def signB (c : UInt8) : Bool := signN c.toNat
def noSign (s : List UInt8) : List UInt8 := s.dropWhile signB

theorem dec_ascii {s : List UInt8} {i : Nat} {c : UInt8} (h : s[i]? = some c) (hc : c.toNat < 128) : Utf8.decode ⟨s.toArray⟩ i = (c.toNat, 1) := by
  obtain ⟨hlt, hv⟩ := List.getElem?_eq_some_iff.1 h
  have hg : ((⟨s.toArray⟩ : ByteArray)[i]'hlt) = c := hv
  rw [decode_ascii ⟨s.toArray⟩ i hlt (by rw [hg]; exact hc), hg]
theorem dec_high {s : List UInt8} {i : Nat} {c : UInt8} (h : s[i]? = some c) (hc : 128 ≤ c.toNat) : 128 ≤ (Utf8.decode ⟨s.toArray⟩ i).1 := by
  obtain ⟨hlt, hv⟩ := List.getElem?_eq_some_iff.1 h
  have hg : ((⟨s.toArray⟩ : ByteArray)[i]'hlt) = c := hv
  exact (decode_high ⟨s.toArray⟩ i hlt (by rw [hg]; exact hc)).1
theorem enc_ascii (n : Nat) (h : n < 128) : (Utf8.encode (n : Nat)).data.toList = [UInt8.ofNat n] := by
  have hv : Utf8.valid (n : Int) = true := by unfold Utf8.valid; simp; omega
  unfold Utf8.encode
  simp only [hv, if_true]
  have : (n : Int).toNat = n := by simp
  rw [this]
  simp [h]

theorem all_drop {p : UInt8 → Bool} : ∀ (s : List UInt8), s.all p = true → s.dropWhile p = []
  | [], _ => rfl
  | c :: l, h => by
    simp only [List.all_cons, Bool.and_eq_true] at h
    simp only [List.dropWhile_cons, h.1, if_true]
    exact all_drop l h.2
theorem drop_take {p : UInt8 → Bool} : ∀ (s : List UInt8), s.drop (s.takeWhile p).length = s.dropWhile p
  | [] => rfl
  | c :: l => by
    cases h : p c
    · simp [List.takeWhile_cons, List.dropWhile_cons, h]
    · simp only [List.takeWhile_cons, List.dropWhile_cons, h, if_true, List.length_cons, List.drop_succ_cons]
      exact drop_take l
theorem take_le {p : UInt8 → Bool} (s : List UInt8) : (s.takeWhile p).length ≤ s.length := (List.takeWhile_sublist p).length_le

section
variable {C : Ctx} (H : Codes C)
include H

theorem isSign_W (st : St) (n : Nat) : callW C 65 [.int .i32 n] st = some (.bool (signN n), st) := by
  rw [← CW_eq, CW_is H.h65 _ (by simp)]
  simp only [List.length_cons, List.length_nil, Nat.zero_add, Nat.reduceAdd, Nat.reduceSub, List.reduceReplicate, List.cons_append, List.nil_append]
  unfold k65b signN
  have hi : (↑n : Int) < 128 ↔ n < 128 := by omega
  have h5 : (↑n : Int) = 58 ↔ n = 58 := by omega
  by_cases h : n < 128
  · have he : (Utf8.encode (n : Nat)).data.toList = [UInt8.ofNat n] := enc_ascii n h
    have hn : (UInt8.ofNat n).toNat = n := by simp; omega
    have hw := nameIs_W H st [97, UInt8.ofNat n] (by simp)
    have hv : isName [97, UInt8.ofNat n] = isByte n := by
      simp only [isName, List.all_cons, List.all_nil, hn]
      simp [isFirst, isByte]
    rw [hv] at hw
    by_cases h2 : n = 58
    · subst h2
      have e1 : (((58 : Nat) : Int) < 128) = True := by decide
      have e2 : (((58 : Nat) : Int) = 58) = True := by decide
      simp only [Zaj, Zah, Zaf, Zai, Zad, Zae, Zag, Zeo, Zep, Zen, Za2, Za3, Za1, Zed, Zee, Zec, Zab, Zac, Zaa, Zel, Zek, Zcq, Zcn, Zcp, Zco, Zcr, Za7, Za6, Zea, Zeb, Zd9, Zbf,
    Zbv, Zby, Zbi, Zb2, Zbn, Zbo, Zbs, Zbr, Zbt, Zbq, Zbm, Zb0, Zbx, Zbg, ev_t, ev_c, ev_f, Zcb, Zca, Zb8, Zb9, Zb6, Zb7, Zd3, Zd5, Zd4, Zcm, Zcl, Zdx, Zdv, Zdw,
    Zd2, Zd1, Zd0, Zdz, Zan, Zeq, Zbb, Zbc, Zba, Zcc, Zdn, Zdk, Zdm, Zdl, Zc9, Zda, Zdo, Zcz, Za4, Za8, Zej, Zdu, Zds, Zdt,
    Zao, Za0, Zaw, Zar, Zax, Zav, Zau, Zat, Zas, Zay, Zaz, Zap, Zaq, Zak, Zdb, Zdc, Zdi, Zdj, Zcx, Zcv, Zcw, Zcy, Option.map_some, Option.map_none, List.cons_append, List.nil_append, List.append_nil, decide_true, decide_false, Bool.not_true, Bool.not_false, Bool.false_eq_true, if_true, if_false, ↓reduceIte, reduceCtorEq, Nat.reduceAdd, Nat.reduceEqDiff, Nat.reduceBEq, Za5, true_and, and_true, eq_self, List.getElem?_cons_zero, List.getElem?_cons_succ, e1, e2, h, Bool.true_or, Bool.and_true]
    · simp only [Zaj, Zah, Zaf, Zai, Zad, Zae, Zag, Zeo, Zep, Zen, Za2, Za3, Za1, Zed, Zee, Zec, Zab, Zac, Zaa, Zel, Zek, Zcq, Zcn, Zcp, Zco, Zcr, Za7, Za6, Zea, Zeb, Zd9, Zbf,
    Zbv, Zby, Zbi, Zb2, Zbn, Zbo, Zbs, Zbr, Zbt, Zbq, Zbm, Zb0, Zbx, Zbg, ev_t, ev_c, ev_f, Zcb, Zca, Zb8, Zb9, Zb6, Zb7, Zd3, Zd5, Zd4, Zcm, Zcl, Zdx, Zdv, Zdw,
    Zd2, Zd1, Zd0, Zdz, Zan, Zeq, Zbb, Zbc, Zba, Zcc, Zdn, Zdk, Zdm, Zdl, Zc9, Zda, Zdo, Zcz, Za4, Za8, Zej, Zdu, Zds, Zdt,
    Zao, Za0, Zaw, Zar, Zax, Zav, Zau, Zat, Zas, Zay, Zaz, Zap, Zaq, Zak, Zdb, Zdc, Zdi, Zdj, Zcx, Zcv, Zcw, Zcy, Option.map_some, Option.map_none, List.cons_append, List.nil_append, List.append_nil, decide_true, decide_false, Bool.not_true, Bool.not_false, Bool.false_eq_true, if_true, if_false, ↓reduceIte, reduceCtorEq, Nat.reduceAdd, Nat.reduceEqDiff, Nat.reduceBEq, Za5, true_and, and_true, eq_self, List.getElem?_cons_zero, List.getElem?_cons_succ, hi, h, h5, h2, Bool.false_or, Bool.true_and, convE_rune, he, bin_sadd, List.length_cons, List.length_nil, Nat.zero_add, Nat.reduceAdd, Nat.reduceLeDiff, hw]
  · simp only [Zaj, Zah, Zaf, Zai, Zad, Zae, Zag, Zeo, Zep, Zen, Za2, Za3, Za1, Zed, Zee, Zec, Zab, Zac, Zaa, Zel, Zek, Zcq, Zcn, Zcp, Zco, Zcr, Za7, Za6, Zea, Zeb, Zd9, Zbf,
    Zbv, Zby, Zbi, Zb2, Zbn, Zbo, Zbs, Zbr, Zbt, Zbq, Zbm, Zb0, Zbx, Zbg, ev_t, ev_c, ev_f, Zcb, Zca, Zb8, Zb9, Zb6, Zb7, Zd3, Zd5, Zd4, Zcm, Zcl, Zdx, Zdv, Zdw,
    Zd2, Zd1, Zd0, Zdz, Zan, Zeq, Zbb, Zbc, Zba, Zcc, Zdn, Zdk, Zdm, Zdl, Zc9, Zda, Zdo, Zcz, Za4, Za8, Zej, Zdu, Zds, Zdt,
    Zao, Za0, Zaw, Zar, Zax, Zav, Zau, Zat, Zas, Zay, Zaz, Zap, Zaq, Zak, Zdb, Zdc, Zdi, Zdj, Zcx, Zcv, Zcw, Zcy, Option.map_some, Option.map_none, List.cons_append, List.nil_append, List.append_nil, decide_true, decide_false, Bool.not_true, Bool.not_false, Bool.false_eq_true, if_true, if_false, ↓reduceIte, reduceCtorEq, Nat.reduceAdd, Nat.reduceEqDiff, Nat.reduceBEq, Za5, true_and, and_true, eq_self, List.getElem?_cons_zero, List.getElem?_cons_succ, hi, h, Bool.false_and]

theorem indexSign_loop (st : St) (s : List UInt8) (hs : s.length ≤ 9223372036854775807) (Q : Ex → Env → St → Prop) : ∀ (d i : Nat) (env : Env), i + d = s.length → env.length = 21 → env.get 0 = .str s → env.get 1 = .fn (.func 65) [] [] → env.get 2 = .bool false → env.get 10 = .ptr st.length 0 0 →
    (((s.drop i).all signB) = true → ∀ e : Env, e.length = 21 → Q (.exit 0) e (st ++ [.siter s s.length])) →
    (((s.drop i).all signB) = false → ∀ (e : Env) (p : Nat), e.length = 21 → e.get 6 = .int .i64 ((i + ((s.drop i).takeWhile signB).length : Nat) : Int) → Q .ret e (st ++ [.siter s p])) → W C k80l0 env (st ++ [.siter s i]) Q
  | d, i, env, hd, hl, h0, h1, h2, h10, hq1, hq2 => by
    rw [W_loop' (show k80l0 = .loop k80l0b from rfl)]
    unfold k80l0b
    by_cases hlt : i < s.length
    · obtain ⟨c, hc⟩ : ∃ c, s[i]? = some c := ⟨s[i], by simp [hlt]⟩
      have hdr : s.drop i = c :: s.drop (i + 1) := by
        obtain ⟨_, hv⟩ := List.getElem?_eq_some_iff.1 hc
        rw [← hv]; exact List.drop_eq_getElem_cons hlt
      obtain ⟨d, rfl⟩ : ∃ k, d = k + 1 := ⟨d - 1, by omega⟩
      cases hsg : signN (Utf8.decode ⟨s.toArray⟩ i).1
      · have hb : signB c = false := by
          by_cases h128 : c.toNat < 128
          · rw [dec_ascii hc h128] at hsg; exact hsg
          · have := dec_high hc (by omega)
            unfold signB signN
            simp [h128]
        simp only [leave0, Zdf, Zdg, Zdh, Zde, Zdd, Zbp, Zb1, Zbj, Zbu, Zbl, Zbz, Zbw, Zb4, Zb3, Zb5, Zdp, Zd7, Zbe, Zbd, Zam, Zal, Zcd, Zem, Zes, Zer, Zdq, Zdy, Za9, Zce, Zcf, Zd6, Zdr, Zcg, Zch, Zci, Zcj, Zck, Zei, Zbk, Zbh, Zd8, Zef, Zeg, Zeh, Zc2, Zc8, Zc0, Zc5, Zc4, Zc3, Zc6, Zc7, Zc1, hi_int, hi_str, Zcs, Zcu, Zct, hi_sl, Option.bind_some, Option.bind_none, List.set_cons_zero, List.set_cons_succ, List.set_set, List.length_set, List.length_append, List.length_cons, List.length_nil, List.append_assoc, List.singleton_append, Nat.zero_add, Nat.add_zero, Nat.reduceLT, Nat.reduceAdd, Zaj, Zah, Zaf, Zai, Zad, Zae, Zag, Zeo, Zep, Zen, Za2, Za3, Za1, Zed, Zee, Zec, Zab, Zac, Zaa, Zel, Zek, Zcq, Zcn, Zcp, Zco, Zcr, Za7, Za6, Zea, Zeb, Zd9, Zbf,
    Zbv, Zby, Zbi, Zb2, Zbn, Zbo, Zbs, Zbr, Zbt, Zbq, Zbm, Zb0, Zbx, Zbg, ev_t, ev_c, ev_f, Zcb, Zca, Zb8, Zb9, Zb6, Zb7, Zd3, Zd5, Zd4, Zcm, Zcl, Zdx, Zdv, Zdw,
    Zd2, Zd1, Zd0, Zdz, Zan, Zeq, Zbb, Zbc, Zba, Zcc, Zdn, Zdk, Zdm, Zdl, Zc9, Zda, Zdo, Zcz, Za4, Za8, Zej, Zdu, Zds, Zdt,
    Zao, Za0, Zaw, Zar, Zax, Zav, Zau, Zat, Zas, Zay, Zaz, Zap, Zaq, Zak, Zdb, Zdc, Zdi, Zdj, Zcx, Zcv, Zcw, Zcy, Option.map_some, Option.map_none, List.cons_append, List.nil_append, List.append_nil, decide_true, decide_false, Bool.not_true, Bool.not_false, Bool.false_eq_true, if_true, if_false, ↓reduceIte, reduceCtorEq, Nat.reduceAdd, Nat.reduceEqDiff, Nat.reduceBEq, Za5, true_and, and_true, eq_self, List.getElem?_cons_zero, List.getElem?_cons_succ, get_put_eq, get_put_ne, Env.put_length, Nat.reduceLT, Zaj, Zah, Zaf, Zai, Zad, Zae, Zag, Zeo, Zep, Zen, Za2, Za3, Za1, Zed, Zee, Zec, Zab, Zac, Zaa, Zel, Zek, Zcq, Zcn, Zcp, Zco, Zcr, Za7, Za6, Zea, Zeb, Zd9, Zbf,
    Zbv, Zby, Zbi, Zb2, Zbn, Zbo, Zbs, Zbr, Zbt, Zbq, Zbm, Zb0, Zbx, Zbg, ev_t, ev_c, ev_f, Zcb, Zca, Zb8, Zb9, Zb6, Zb7, Zd3, Zd5, Zd4, Zcm, Zcl, Zdx, Zdv, Zdw,
    Zd2, Zd1, Zd0, Zdz, Zan, Zeq, Zbb, Zbc, Zba, Zcc, Zdn, Zdk, Zdm, Zdl, Zc9, Zda, Zdo, Zcz, Za4, Za8, Zej, Zdu, Zds, Zdt,
    Zao, Za0, Zaw, Zar, Zax, Zav, Zau, Zat, Zas, Zay, Zaz, Zap, Zaq, Zak, Zdb, Zdc, Zdi, Zdj, Zcx, Zcv, Zcw, Zcy, Option.map_some, Option.map_none, List.cons_append, List.nil_append, List.append_nil, decide_true, decide_false, Bool.not_true, Bool.not_false, Bool.false_eq_true, if_true, if_false, ↓reduceIte, reduceCtorEq, Nat.reduceAdd, Nat.reduceEqDiff, Nat.reduceBEq, Za5, true_and, and_true, eq_self, List.getElem?_cons_zero, List.getElem?_cons_succ, h0, h1, h2, h10, hl, nxE_more _ _ _ _ hlt, callE_cl, isSign_W H, hsg]
        refine hq2 (by rw [hdr]; simp [hb]) _ _ ?_ ?_
        · simp only [get_put_eq, get_put_ne, Env.put_length, Nat.reduceLT, Zaj, Zah, Zaf, Zai, Zad, Zae, Zag, Zeo, Zep, Zen, Za2, Za3, Za1, Zed, Zee, Zec, Zab, Zac, Zaa, Zel, Zek, Zcq, Zcn, Zcp, Zco, Zcr, Za7, Za6, Zea, Zeb, Zd9, Zbf,
    Zbv, Zby, Zbi, Zb2, Zbn, Zbo, Zbs, Zbr, Zbt, Zbq, Zbm, Zb0, Zbx, Zbg, ev_t, ev_c, ev_f, Zcb, Zca, Zb8, Zb9, Zb6, Zb7, Zd3, Zd5, Zd4, Zcm, Zcl, Zdx, Zdv, Zdw,
    Zd2, Zd1, Zd0, Zdz, Zan, Zeq, Zbb, Zbc, Zba, Zcc, Zdn, Zdk, Zdm, Zdl, Zc9, Zda, Zdo, Zcz, Za4, Za8, Zej, Zdu, Zds, Zdt,
    Zao, Za0, Zaw, Zar, Zax, Zav, Zau, Zat, Zas, Zay, Zaz, Zap, Zaq, Zak, Zdb, Zdc, Zdi, Zdj, Zcx, Zcv, Zcw, Zcy, Option.map_some, Option.map_none, List.cons_append, List.nil_append, List.append_nil, decide_true, decide_false, Bool.not_true, Bool.not_false, Bool.false_eq_true, if_true, if_false, ↓reduceIte, reduceCtorEq, Nat.reduceAdd, Nat.reduceEqDiff, Nat.reduceBEq, Za5, true_and, and_true, eq_self, List.getElem?_cons_zero, List.getElem?_cons_succ, hl]
        · rw [hdr]
          simp only [get_put_eq, get_put_ne, Env.put_length, Nat.reduceLT, Zaj, Zah, Zaf, Zai, Zad, Zae, Zag, Zeo, Zep, Zen, Za2, Za3, Za1, Zed, Zee, Zec, Zab, Zac, Zaa, Zel, Zek, Zcq, Zcn, Zcp, Zco, Zcr, Za7, Za6, Zea, Zeb, Zd9, Zbf,
    Zbv, Zby, Zbi, Zb2, Zbn, Zbo, Zbs, Zbr, Zbt, Zbq, Zbm, Zb0, Zbx, Zbg, ev_t, ev_c, ev_f, Zcb, Zca, Zb8, Zb9, Zb6, Zb7, Zd3, Zd5, Zd4, Zcm, Zcl, Zdx, Zdv, Zdw,
    Zd2, Zd1, Zd0, Zdz, Zan, Zeq, Zbb, Zbc, Zba, Zcc, Zdn, Zdk, Zdm, Zdl, Zc9, Zda, Zdo, Zcz, Za4, Za8, Zej, Zdu, Zds, Zdt,
    Zao, Za0, Zaw, Zar, Zax, Zav, Zau, Zat, Zas, Zay, Zaz, Zap, Zaq, Zak, Zdb, Zdc, Zdi, Zdj, Zcx, Zcv, Zcw, Zcy, Option.map_some, Option.map_none, List.cons_append, List.nil_append, List.append_nil, decide_true, decide_false, Bool.not_true, Bool.not_false, Bool.false_eq_true, if_true, if_false, ↓reduceIte, reduceCtorEq, Nat.reduceAdd, Nat.reduceEqDiff, Nat.reduceBEq, Za5, true_and, and_true, eq_self, List.getElem?_cons_zero, List.getElem?_cons_succ, hl, List.takeWhile_cons, hb, List.length_nil, Nat.add_zero]
      · have h128 : c.toNat < 128 := by
          by_cases h128 : c.toNat < 128
          · exact h128
          · have := dec_high hc (by omega)
            unfold signN at hsg
            simp at hsg
            omega
        have hdec := dec_ascii hc h128
        have hb : signB c = true := by rw [hdec] at hsg; exact hsg
        rw [hdec] at hsg
        simp only [leave0, Zdf, Zdg, Zdh, Zde, Zdd, Zbp, Zb1, Zbj, Zbu, Zbl, Zbz, Zbw, Zb4, Zb3, Zb5, Zdp, Zd7, Zbe, Zbd, Zam, Zal, Zcd, Zem, Zes, Zer, Zdq, Zdy, Za9, Zce, Zcf, Zd6, Zdr, Zcg, Zch, Zci, Zcj, Zck, Zei, Zbk, Zbh, Zd8, Zef, Zeg, Zeh, Zc2, Zc8, Zc0, Zc5, Zc4, Zc3, Zc6, Zc7, Zc1, hi_int, hi_str, Zcs, Zcu, Zct, hi_sl, Option.bind_some, Option.bind_none, List.set_cons_zero, List.set_cons_succ, List.set_set, List.length_set, List.length_append, List.length_cons, List.length_nil, List.append_assoc, List.singleton_append, Nat.zero_add, Nat.add_zero, Nat.reduceLT, Nat.reduceAdd, Zaj, Zah, Zaf, Zai, Zad, Zae, Zag, Zeo, Zep, Zen, Za2, Za3, Za1, Zed, Zee, Zec, Zab, Zac, Zaa, Zel, Zek, Zcq, Zcn, Zcp, Zco, Zcr, Za7, Za6, Zea, Zeb, Zd9, Zbf,
    Zbv, Zby, Zbi, Zb2, Zbn, Zbo, Zbs, Zbr, Zbt, Zbq, Zbm, Zb0, Zbx, Zbg, ev_t, ev_c, ev_f, Zcb, Zca, Zb8, Zb9, Zb6, Zb7, Zd3, Zd5, Zd4, Zcm, Zcl, Zdx, Zdv, Zdw,
    Zd2, Zd1, Zd0, Zdz, Zan, Zeq, Zbb, Zbc, Zba, Zcc, Zdn, Zdk, Zdm, Zdl, Zc9, Zda, Zdo, Zcz, Za4, Za8, Zej, Zdu, Zds, Zdt,
    Zao, Za0, Zaw, Zar, Zax, Zav, Zau, Zat, Zas, Zay, Zaz, Zap, Zaq, Zak, Zdb, Zdc, Zdi, Zdj, Zcx, Zcv, Zcw, Zcy, Option.map_some, Option.map_none, List.cons_append, List.nil_append, List.append_nil, decide_true, decide_false, Bool.not_true, Bool.not_false, Bool.false_eq_true, if_true, if_false, ↓reduceIte, reduceCtorEq, Nat.reduceAdd, Nat.reduceEqDiff, Nat.reduceBEq, Za5, true_and, and_true, eq_self, List.getElem?_cons_zero, List.getElem?_cons_succ, get_put_eq, get_put_ne, Env.put_length, Nat.reduceLT, Zaj, Zah, Zaf, Zai, Zad, Zae, Zag, Zeo, Zep, Zen, Za2, Za3, Za1, Zed, Zee, Zec, Zab, Zac, Zaa, Zel, Zek, Zcq, Zcn, Zcp, Zco, Zcr, Za7, Za6, Zea, Zeb, Zd9, Zbf,
    Zbv, Zby, Zbi, Zb2, Zbn, Zbo, Zbs, Zbr, Zbt, Zbq, Zbm, Zb0, Zbx, Zbg, ev_t, ev_c, ev_f, Zcb, Zca, Zb8, Zb9, Zb6, Zb7, Zd3, Zd5, Zd4, Zcm, Zcl, Zdx, Zdv, Zdw,
    Zd2, Zd1, Zd0, Zdz, Zan, Zeq, Zbb, Zbc, Zba, Zcc, Zdn, Zdk, Zdm, Zdl, Zc9, Zda, Zdo, Zcz, Za4, Za8, Zej, Zdu, Zds, Zdt,
    Zao, Za0, Zaw, Zar, Zax, Zav, Zau, Zat, Zas, Zay, Zaz, Zap, Zaq, Zak, Zdb, Zdc, Zdi, Zdj, Zcx, Zcv, Zcw, Zcy, Option.map_some, Option.map_none, List.cons_append, List.nil_append, List.append_nil, decide_true, decide_false, Bool.not_true, Bool.not_false, Bool.false_eq_true, if_true, if_false, ↓reduceIte, reduceCtorEq, Nat.reduceAdd, Nat.reduceEqDiff, Nat.reduceBEq, Za5, true_and, and_true, eq_self, List.getElem?_cons_zero, List.getElem?_cons_succ, h0, h1, h2, h10, hl, nxE_more _ _ _ _ hlt, callE_cl, isSign_W H, hdec, hsg]
        refine indexSign_loop st s hs Q d (i + 1) _ (by omega) ?_ ?_ ?_ ?_ ?_ ?_ ?_
        · simp only [get_put_eq, get_put_ne, Env.put_length, Nat.reduceLT, Zaj, Zah, Zaf, Zai, Zad, Zae, Zag, Zeo, Zep, Zen, Za2, Za3, Za1, Zed, Zee, Zec, Zab, Zac, Zaa, Zel, Zek, Zcq, Zcn, Zcp, Zco, Zcr, Za7, Za6, Zea, Zeb, Zd9, Zbf,
    Zbv, Zby, Zbi, Zb2, Zbn, Zbo, Zbs, Zbr, Zbt, Zbq, Zbm, Zb0, Zbx, Zbg, ev_t, ev_c, ev_f, Zcb, Zca, Zb8, Zb9, Zb6, Zb7, Zd3, Zd5, Zd4, Zcm, Zcl, Zdx, Zdv, Zdw,
    Zd2, Zd1, Zd0, Zdz, Zan, Zeq, Zbb, Zbc, Zba, Zcc, Zdn, Zdk, Zdm, Zdl, Zc9, Zda, Zdo, Zcz, Za4, Za8, Zej, Zdu, Zds, Zdt,
    Zao, Za0, Zaw, Zar, Zax, Zav, Zau, Zat, Zas, Zay, Zaz, Zap, Zaq, Zak, Zdb, Zdc, Zdi, Zdj, Zcx, Zcv, Zcw, Zcy, Option.map_some, Option.map_none, List.cons_append, List.nil_append, List.append_nil, decide_true, decide_false, Bool.not_true, Bool.not_false, Bool.false_eq_true, if_true, if_false, ↓reduceIte, reduceCtorEq, Nat.reduceAdd, Nat.reduceEqDiff, Nat.reduceBEq, Za5, true_and, and_true, eq_self, List.getElem?_cons_zero, List.getElem?_cons_succ, hl]
        · simp only [get_put_eq, get_put_ne, Env.put_length, Nat.reduceLT, Zaj, Zah, Zaf, Zai, Zad, Zae, Zag, Zeo, Zep, Zen, Za2, Za3, Za1, Zed, Zee, Zec, Zab, Zac, Zaa, Zel, Zek, Zcq, Zcn, Zcp, Zco, Zcr, Za7, Za6, Zea, Zeb, Zd9, Zbf,
    Zbv, Zby, Zbi, Zb2, Zbn, Zbo, Zbs, Zbr, Zbt, Zbq, Zbm, Zb0, Zbx, Zbg, ev_t, ev_c, ev_f, Zcb, Zca, Zb8, Zb9, Zb6, Zb7, Zd3, Zd5, Zd4, Zcm, Zcl, Zdx, Zdv, Zdw,
    Zd2, Zd1, Zd0, Zdz, Zan, Zeq, Zbb, Zbc, Zba, Zcc, Zdn, Zdk, Zdm, Zdl, Zc9, Zda, Zdo, Zcz, Za4, Za8, Zej, Zdu, Zds, Zdt,
    Zao, Za0, Zaw, Zar, Zax, Zav, Zau, Zat, Zas, Zay, Zaz, Zap, Zaq, Zak, Zdb, Zdc, Zdi, Zdj, Zcx, Zcv, Zcw, Zcy, Option.map_some, Option.map_none, List.cons_append, List.nil_append, List.append_nil, decide_true, decide_false, Bool.not_true, Bool.not_false, Bool.false_eq_true, if_true, if_false, ↓reduceIte, reduceCtorEq, Nat.reduceAdd, Nat.reduceEqDiff, Nat.reduceBEq, Za5, true_and, and_true, eq_self, List.getElem?_cons_zero, List.getElem?_cons_succ, hl, h0]
        · simp only [get_put_eq, get_put_ne, Env.put_length, Nat.reduceLT, Zaj, Zah, Zaf, Zai, Zad, Zae, Zag, Zeo, Zep, Zen, Za2, Za3, Za1, Zed, Zee, Zec, Zab, Zac, Zaa, Zel, Zek, Zcq, Zcn, Zcp, Zco, Zcr, Za7, Za6, Zea, Zeb, Zd9, Zbf,
    Zbv, Zby, Zbi, Zb2, Zbn, Zbo, Zbs, Zbr, Zbt, Zbq, Zbm, Zb0, Zbx, Zbg, ev_t, ev_c, ev_f, Zcb, Zca, Zb8, Zb9, Zb6, Zb7, Zd3, Zd5, Zd4, Zcm, Zcl, Zdx, Zdv, Zdw,
    Zd2, Zd1, Zd0, Zdz, Zan, Zeq, Zbb, Zbc, Zba, Zcc, Zdn, Zdk, Zdm, Zdl, Zc9, Zda, Zdo, Zcz, Za4, Za8, Zej, Zdu, Zds, Zdt,
    Zao, Za0, Zaw, Zar, Zax, Zav, Zau, Zat, Zas, Zay, Zaz, Zap, Zaq, Zak, Zdb, Zdc, Zdi, Zdj, Zcx, Zcv, Zcw, Zcy, Option.map_some, Option.map_none, List.cons_append, List.nil_append, List.append_nil, decide_true, decide_false, Bool.not_true, Bool.not_false, Bool.false_eq_true, if_true, if_false, ↓reduceIte, reduceCtorEq, Nat.reduceAdd, Nat.reduceEqDiff, Nat.reduceBEq, Za5, true_and, and_true, eq_self, List.getElem?_cons_zero, List.getElem?_cons_succ, hl, h1]
        · simp only [get_put_eq, get_put_ne, Env.put_length, Nat.reduceLT, Zaj, Zah, Zaf, Zai, Zad, Zae, Zag, Zeo, Zep, Zen, Za2, Za3, Za1, Zed, Zee, Zec, Zab, Zac, Zaa, Zel, Zek, Zcq, Zcn, Zcp, Zco, Zcr, Za7, Za6, Zea, Zeb, Zd9, Zbf,
    Zbv, Zby, Zbi, Zb2, Zbn, Zbo, Zbs, Zbr, Zbt, Zbq, Zbm, Zb0, Zbx, Zbg, ev_t, ev_c, ev_f, Zcb, Zca, Zb8, Zb9, Zb6, Zb7, Zd3, Zd5, Zd4, Zcm, Zcl, Zdx, Zdv, Zdw,
    Zd2, Zd1, Zd0, Zdz, Zan, Zeq, Zbb, Zbc, Zba, Zcc, Zdn, Zdk, Zdm, Zdl, Zc9, Zda, Zdo, Zcz, Za4, Za8, Zej, Zdu, Zds, Zdt,
    Zao, Za0, Zaw, Zar, Zax, Zav, Zau, Zat, Zas, Zay, Zaz, Zap, Zaq, Zak, Zdb, Zdc, Zdi, Zdj, Zcx, Zcv, Zcw, Zcy, Option.map_some, Option.map_none, List.cons_append, List.nil_append, List.append_nil, decide_true, decide_false, Bool.not_true, Bool.not_false, Bool.false_eq_true, if_true, if_false, ↓reduceIte, reduceCtorEq, Nat.reduceAdd, Nat.reduceEqDiff, Nat.reduceBEq, Za5, true_and, and_true, eq_self, List.getElem?_cons_zero, List.getElem?_cons_succ, hl, h2]
        · simp only [get_put_eq, get_put_ne, Env.put_length, Nat.reduceLT, Zaj, Zah, Zaf, Zai, Zad, Zae, Zag, Zeo, Zep, Zen, Za2, Za3, Za1, Zed, Zee, Zec, Zab, Zac, Zaa, Zel, Zek, Zcq, Zcn, Zcp, Zco, Zcr, Za7, Za6, Zea, Zeb, Zd9, Zbf,
    Zbv, Zby, Zbi, Zb2, Zbn, Zbo, Zbs, Zbr, Zbt, Zbq, Zbm, Zb0, Zbx, Zbg, ev_t, ev_c, ev_f, Zcb, Zca, Zb8, Zb9, Zb6, Zb7, Zd3, Zd5, Zd4, Zcm, Zcl, Zdx, Zdv, Zdw,
    Zd2, Zd1, Zd0, Zdz, Zan, Zeq, Zbb, Zbc, Zba, Zcc, Zdn, Zdk, Zdm, Zdl, Zc9, Zda, Zdo, Zcz, Za4, Za8, Zej, Zdu, Zds, Zdt,
    Zao, Za0, Zaw, Zar, Zax, Zav, Zau, Zat, Zas, Zay, Zaz, Zap, Zaq, Zak, Zdb, Zdc, Zdi, Zdj, Zcx, Zcv, Zcw, Zcy, Option.map_some, Option.map_none, List.cons_append, List.nil_append, List.append_nil, decide_true, decide_false, Bool.not_true, Bool.not_false, Bool.false_eq_true, if_true, if_false, ↓reduceIte, reduceCtorEq, Nat.reduceAdd, Nat.reduceEqDiff, Nat.reduceBEq, Za5, true_and, and_true, eq_self, List.getElem?_cons_zero, List.getElem?_cons_succ, hl, h10]
        · intro hall
          exact hq1 (by rw [hdr]; simp only [List.all_cons, hb, hall, Bool.and_self])
        · intro hall e p he h6
          refine hq2 (by rw [hdr]; simp only [List.all_cons, hb, hall, Bool.and_false]) e p he ?_
          rw [h6, hdr]
          simp only [List.takeWhile_cons, hb, if_true, List.length_cons]
          congr 2
          omega
    · have hi : i = s.length := by omega
      subst hi
      simp only [leave0, Zdf, Zdg, Zdh, Zde, Zdd, Zbp, Zb1, Zbj, Zbu, Zbl, Zbz, Zbw, Zb4, Zb3, Zb5, Zdp, Zd7, Zbe, Zbd, Zam, Zal, Zcd, Zem, Zes, Zer, Zdq, Zdy, Za9, Zce, Zcf, Zd6, Zdr, Zcg, Zch, Zci, Zcj, Zck, Zei, Zbk, Zbh, Zd8, Zef, Zeg, Zeh, Zc2, Zc8, Zc0, Zc5, Zc4, Zc3, Zc6, Zc7, Zc1, hi_int, hi_str, Zcs, Zcu, Zct, hi_sl, Option.bind_some, Option.bind_none, List.set_cons_zero, List.set_cons_succ, List.set_set, List.length_set, List.length_append, List.length_cons, List.length_nil, List.append_assoc, List.singleton_append, Nat.zero_add, Nat.add_zero, Nat.reduceLT, Nat.reduceAdd, Zaj, Zah, Zaf, Zai, Zad, Zae, Zag, Zeo, Zep, Zen, Za2, Za3, Za1, Zed, Zee, Zec, Zab, Zac, Zaa, Zel, Zek, Zcq, Zcn, Zcp, Zco, Zcr, Za7, Za6, Zea, Zeb, Zd9, Zbf,
    Zbv, Zby, Zbi, Zb2, Zbn, Zbo, Zbs, Zbr, Zbt, Zbq, Zbm, Zb0, Zbx, Zbg, ev_t, ev_c, ev_f, Zcb, Zca, Zb8, Zb9, Zb6, Zb7, Zd3, Zd5, Zd4, Zcm, Zcl, Zdx, Zdv, Zdw,
    Zd2, Zd1, Zd0, Zdz, Zan, Zeq, Zbb, Zbc, Zba, Zcc, Zdn, Zdk, Zdm, Zdl, Zc9, Zda, Zdo, Zcz, Za4, Za8, Zej, Zdu, Zds, Zdt,
    Zao, Za0, Zaw, Zar, Zax, Zav, Zau, Zat, Zas, Zay, Zaz, Zap, Zaq, Zak, Zdb, Zdc, Zdi, Zdj, Zcx, Zcv, Zcw, Zcy, Option.map_some, Option.map_none, List.cons_append, List.nil_append, List.append_nil, decide_true, decide_false, Bool.not_true, Bool.not_false, Bool.false_eq_true, if_true, if_false, ↓reduceIte, reduceCtorEq, Nat.reduceAdd, Nat.reduceEqDiff, Nat.reduceBEq, Za5, true_and, and_true, eq_self, List.getElem?_cons_zero, List.getElem?_cons_succ, get_put_eq, get_put_ne, Env.put_length, Nat.reduceLT, Zaj, Zah, Zaf, Zai, Zad, Zae, Zag, Zeo, Zep, Zen, Za2, Za3, Za1, Zed, Zee, Zec, Zab, Zac, Zaa, Zel, Zek, Zcq, Zcn, Zcp, Zco, Zcr, Za7, Za6, Zea, Zeb, Zd9, Zbf,
    Zbv, Zby, Zbi, Zb2, Zbn, Zbo, Zbs, Zbr, Zbt, Zbq, Zbm, Zb0, Zbx, Zbg, ev_t, ev_c, ev_f, Zcb, Zca, Zb8, Zb9, Zb6, Zb7, Zd3, Zd5, Zd4, Zcm, Zcl, Zdx, Zdv, Zdw,
    Zd2, Zd1, Zd0, Zdz, Zan, Zeq, Zbb, Zbc, Zba, Zcc, Zdn, Zdk, Zdm, Zdl, Zc9, Zda, Zdo, Zcz, Za4, Za8, Zej, Zdu, Zds, Zdt,
    Zao, Za0, Zaw, Zar, Zax, Zav, Zau, Zat, Zas, Zay, Zaz, Zap, Zaq, Zak, Zdb, Zdc, Zdi, Zdj, Zcx, Zcv, Zcw, Zcy, Option.map_some, Option.map_none, List.cons_append, List.nil_append, List.append_nil, decide_true, decide_false, Bool.not_true, Bool.not_false, Bool.false_eq_true, if_true, if_false, ↓reduceIte, reduceCtorEq, Nat.reduceAdd, Nat.reduceEqDiff, Nat.reduceBEq, Za5, true_and, and_true, eq_self, List.getElem?_cons_zero, List.getElem?_cons_succ, h0, h1, h2, h10, hl, nxE_end _ _ _ _ hlt]
      refine hq1 (by simp) _ ?_
      simp only [get_put_eq, get_put_ne, Env.put_length, Nat.reduceLT, Zaj, Zah, Zaf, Zai, Zad, Zae, Zag, Zeo, Zep, Zen, Za2, Za3, Za1, Zed, Zee, Zec, Zab, Zac, Zaa, Zel, Zek, Zcq, Zcn, Zcp, Zco, Zcr, Za7, Za6, Zea, Zeb, Zd9, Zbf,
    Zbv, Zby, Zbi, Zb2, Zbn, Zbo, Zbs, Zbr, Zbt, Zbq, Zbm, Zb0, Zbx, Zbg, ev_t, ev_c, ev_f, Zcb, Zca, Zb8, Zb9, Zb6, Zb7, Zd3, Zd5, Zd4, Zcm, Zcl, Zdx, Zdv, Zdw,
    Zd2, Zd1, Zd0, Zdz, Zan, Zeq, Zbb, Zbc, Zba, Zcc, Zdn, Zdk, Zdm, Zdl, Zc9, Zda, Zdo, Zcz, Za4, Za8, Zej, Zdu, Zds, Zdt,
    Zao, Za0, Zaw, Zar, Zax, Zav, Zau, Zat, Zas, Zay, Zaz, Zap, Zaq, Zak, Zdb, Zdc, Zdi, Zdj, Zcx, Zcv, Zcw, Zcy, Option.map_some, Option.map_none, List.cons_append, List.nil_append, List.append_nil, decide_true, decide_false, Bool.not_true, Bool.not_false, Bool.false_eq_true, if_true, if_false, ↓reduceIte, reduceCtorEq, Nat.reduceAdd, Nat.reduceEqDiff, Nat.reduceBEq, Za5, true_and, and_true, eq_self, List.getElem?_cons_zero, List.getElem?_cons_succ, hl]

/-- Where the signs end; -1: nowhere. -/
def idxSign (s : List UInt8) : Int := if s.all signB then -1 else ((s.takeWhile signB).length : Nat)

theorem indexSign_W (st : St) (hG : Good st) (s : List UInt8) (hs : s.length ≤ 9223372036854775807) : callW C 80 [.str s, .fn (.func 65) [] [], .bool false] st = some (.int .i64 (idxSign s), st) := by
  rw [← CW_eq, CW_is H.h80 _ (by simp)]
  simp only [List.length_cons, List.length_nil, Nat.zero_add, Nat.reduceAdd, Nat.reduceSub, List.reduceReplicate, List.cons_append, List.nil_append]
  unfold k80b idxSign
  simp only [leave0, Zdf, Zdg, Zdh, Zde, Zdd, Zbp, Zb1, Zbj, Zbu, Zbl, Zbz, Zbw, Zb4, Zb3, Zb5, Zdp, Zd7, Zbe, Zbd, Zam, Zal, Zcd, Zem, Zes, Zer, Zdq, Zdy, Za9, Zce, Zcf, Zd6, Zdr, Zcg, Zch, Zci, Zcj, Zck, Zei, Zbk, Zbh, Zd8, Zef, Zeg, Zeh, Zc2, Zc8, Zc0, Zc5, Zc4, Zc3, Zc6, Zc7, Zc1, hi_int, hi_str, Zcs, Zcu, Zct, hi_sl, Option.bind_some, Option.bind_none, List.set_cons_zero, List.set_cons_succ, List.set_set, List.length_set, List.length_append, List.length_cons, List.length_nil, List.append_assoc, List.singleton_append, Nat.zero_add, Nat.add_zero, Nat.reduceLT, Nat.reduceAdd, Zaj, Zah, Zaf, Zai, Zad, Zae, Zag, Zeo, Zep, Zen, Za2, Za3, Za1, Zed, Zee, Zec, Zab, Zac, Zaa, Zel, Zek, Zcq, Zcn, Zcp, Zco, Zcr, Za7, Za6, Zea, Zeb, Zd9, Zbf,
    Zbv, Zby, Zbi, Zb2, Zbn, Zbo, Zbs, Zbr, Zbt, Zbq, Zbm, Zb0, Zbx, Zbg, ev_t, ev_c, ev_f, Zcb, Zca, Zb8, Zb9, Zb6, Zb7, Zd3, Zd5, Zd4, Zcm, Zcl, Zdx, Zdv, Zdw,
    Zd2, Zd1, Zd0, Zdz, Zan, Zeq, Zbb, Zbc, Zba, Zcc, Zdn, Zdk, Zdm, Zdl, Zc9, Zda, Zdo, Zcz, Za4, Za8, Zej, Zdu, Zds, Zdt,
    Zao, Za0, Zaw, Zar, Zax, Zav, Zau, Zat, Zas, Zay, Zaz, Zap, Zaq, Zak, Zdb, Zdc, Zdi, Zdj, Zcx, Zcv, Zcw, Zcy, Option.map_some, Option.map_none, List.cons_append, List.nil_append, List.append_nil, decide_true, decide_false, Bool.not_true, Bool.not_false, Bool.false_eq_true, if_true, if_false, ↓reduceIte, reduceCtorEq, Nat.reduceAdd, Nat.reduceEqDiff, Nat.reduceBEq, Za5, true_and, and_true, eq_self, List.getElem?_cons_zero, List.getElem?_cons_succ]
  refine indexSign_loop H st s hs _ s.length 0 _ (by omega) rfl rfl rfl rfl rfl ?_ ?_
  · intro hall e he
    rw [List.drop_zero] at hall
    simp only [leave0, Zdf, Zdg, Zdh, Zde, Zdd, Zbp, Zb1, Zbj, Zbu, Zbl, Zbz, Zbw, Zb4, Zb3, Zb5, Zdp, Zd7, Zbe, Zbd, Zam, Zal, Zcd, Zem, Zes, Zer, Zdq, Zdy, Za9, Zce, Zcf, Zd6, Zdr, Zcg, Zch, Zci, Zcj, Zck, Zei, Zbk, Zbh, Zd8, Zef, Zeg, Zeh, Zc2, Zc8, Zc0, Zc5, Zc4, Zc3, Zc6, Zc7, Zc1, hi_int, hi_str, Zcs, Zcu, Zct, hi_sl, Option.bind_some, Option.bind_none, List.set_cons_zero, List.set_cons_succ, List.set_set, List.length_set, List.length_append, List.length_cons, List.length_nil, List.append_assoc, List.singleton_append, Nat.zero_add, Nat.add_zero, Nat.reduceLT, Nat.reduceAdd, Zaj, Zah, Zaf, Zai, Zad, Zae, Zag, Zeo, Zep, Zen, Za2, Za3, Za1, Zed, Zee, Zec, Zab, Zac, Zaa, Zel, Zek, Zcq, Zcn, Zcp, Zco, Zcr, Za7, Za6, Zea, Zeb, Zd9, Zbf,
    Zbv, Zby, Zbi, Zb2, Zbn, Zbo, Zbs, Zbr, Zbt, Zbq, Zbm, Zb0, Zbx, Zbg, ev_t, ev_c, ev_f, Zcb, Zca, Zb8, Zb9, Zb6, Zb7, Zd3, Zd5, Zd4, Zcm, Zcl, Zdx, Zdv, Zdw,
    Zd2, Zd1, Zd0, Zdz, Zan, Zeq, Zbb, Zbc, Zba, Zcc, Zdn, Zdk, Zdm, Zdl, Zc9, Zda, Zdo, Zcz, Za4, Za8, Zej, Zdu, Zds, Zdt,
    Zao, Za0, Zaw, Zar, Zax, Zav, Zau, Zat, Zas, Zay, Zaz, Zap, Zaq, Zak, Zdb, Zdc, Zdi, Zdj, Zcx, Zcv, Zcw, Zcy, Option.map_some, Option.map_none, List.cons_append, List.nil_append, List.append_nil, decide_true, decide_false, Bool.not_true, Bool.not_false, Bool.false_eq_true, if_true, if_false, ↓reduceIte, reduceCtorEq, Nat.reduceAdd, Nat.reduceEqDiff, Nat.reduceBEq, Za5, true_and, and_true, eq_self, List.getElem?_cons_zero, List.getElem?_cons_succ, get_put_eq, get_put_ne, Env.put_length, Nat.reduceLT, Zaj, Zah, Zaf, Zai, Zad, Zae, Zag, Zeo, Zep, Zen, Za2, Za3, Za1, Zed, Zee, Zec, Zab, Zac, Zaa, Zel, Zek, Zcq, Zcn, Zcp, Zco, Zcr, Za7, Za6, Zea, Zeb, Zd9, Zbf,
    Zbv, Zby, Zbi, Zb2, Zbn, Zbo, Zbs, Zbr, Zbt, Zbq, Zbm, Zb0, Zbx, Zbg, ev_t, ev_c, ev_f, Zcb, Zca, Zb8, Zb9, Zb6, Zb7, Zd3, Zd5, Zd4, Zcm, Zcl, Zdx, Zdv, Zdw,
    Zd2, Zd1, Zd0, Zdz, Zan, Zeq, Zbb, Zbc, Zba, Zcc, Zdn, Zdk, Zdm, Zdl, Zc9, Zda, Zdo, Zcz, Za4, Za8, Zej, Zdu, Zds, Zdt,
    Zao, Za0, Zaw, Zar, Zax, Zav, Zau, Zat, Zas, Zay, Zaz, Zap, Zaq, Zak, Zdb, Zdc, Zdi, Zdj, Zcx, Zcv, Zcw, Zcy, Option.map_some, Option.map_none, List.cons_append, List.nil_append, List.append_nil, decide_true, decide_false, Bool.not_true, Bool.not_false, Bool.false_eq_true, if_true, if_false, ↓reduceIte, reduceCtorEq, Nat.reduceAdd, Nat.reduceEqDiff, Nat.reduceBEq, Za5, true_and, and_true, eq_self, List.getElem?_cons_zero, List.getElem?_cons_succ, he, hall]
    rw [leave_drop rfl hG (by simp [AV.hi])]
    exact ⟨rfl, rfl⟩
  · intro hall e p he h6
    rw [List.drop_zero] at hall h6
    simp only [leave0, Zdf, Zdg, Zdh, Zde, Zdd, Zbp, Zb1, Zbj, Zbu, Zbl, Zbz, Zbw, Zb4, Zb3, Zb5, Zdp, Zd7, Zbe, Zbd, Zam, Zal, Zcd, Zem, Zes, Zer, Zdq, Zdy, Za9, Zce, Zcf, Zd6, Zdr, Zcg, Zch, Zci, Zcj, Zck, Zei, Zbk, Zbh, Zd8, Zef, Zeg, Zeh, Zc2, Zc8, Zc0, Zc5, Zc4, Zc3, Zc6, Zc7, Zc1, hi_int, hi_str, Zcs, Zcu, Zct, hi_sl, Option.bind_some, Option.bind_none, List.set_cons_zero, List.set_cons_succ, List.set_set, List.length_set, List.length_append, List.length_cons, List.length_nil, List.append_assoc, List.singleton_append, Nat.zero_add, Nat.add_zero, Nat.reduceLT, Nat.reduceAdd, Zaj, Zah, Zaf, Zai, Zad, Zae, Zag, Zeo, Zep, Zen, Za2, Za3, Za1, Zed, Zee, Zec, Zab, Zac, Zaa, Zel, Zek, Zcq, Zcn, Zcp, Zco, Zcr, Za7, Za6, Zea, Zeb, Zd9, Zbf,
    Zbv, Zby, Zbi, Zb2, Zbn, Zbo, Zbs, Zbr, Zbt, Zbq, Zbm, Zb0, Zbx, Zbg, ev_t, ev_c, ev_f, Zcb, Zca, Zb8, Zb9, Zb6, Zb7, Zd3, Zd5, Zd4, Zcm, Zcl, Zdx, Zdv, Zdw,
    Zd2, Zd1, Zd0, Zdz, Zan, Zeq, Zbb, Zbc, Zba, Zcc, Zdn, Zdk, Zdm, Zdl, Zc9, Zda, Zdo, Zcz, Za4, Za8, Zej, Zdu, Zds, Zdt,
    Zao, Za0, Zaw, Zar, Zax, Zav, Zau, Zat, Zas, Zay, Zaz, Zap, Zaq, Zak, Zdb, Zdc, Zdi, Zdj, Zcx, Zcv, Zcw, Zcy, Option.map_some, Option.map_none, List.cons_append, List.nil_append, List.append_nil, decide_true, decide_false, Bool.not_true, Bool.not_false, Bool.false_eq_true, if_true, if_false, ↓reduceIte, reduceCtorEq, Nat.reduceAdd, Nat.reduceEqDiff, Nat.reduceBEq, Za5, true_and, and_true, eq_self, List.getElem?_cons_zero, List.getElem?_cons_succ, get_put_eq, get_put_ne, Env.put_length, Nat.reduceLT, Zaj, Zah, Zaf, Zai, Zad, Zae, Zag, Zeo, Zep, Zen, Za2, Za3, Za1, Zed, Zee, Zec, Zab, Zac, Zaa, Zel, Zek, Zcq, Zcn, Zcp, Zco, Zcr, Za7, Za6, Zea, Zeb, Zd9, Zbf,
    Zbv, Zby, Zbi, Zb2, Zbn, Zbo, Zbs, Zbr, Zbt, Zbq, Zbm, Zb0, Zbx, Zbg, ev_t, ev_c, ev_f, Zcb, Zca, Zb8, Zb9, Zb6, Zb7, Zd3, Zd5, Zd4, Zcm, Zcl, Zdx, Zdv, Zdw,
    Zd2, Zd1, Zd0, Zdz, Zan, Zeq, Zbb, Zbc, Zba, Zcc, Zdn, Zdk, Zdm, Zdl, Zc9, Zda, Zdo, Zcz, Za4, Za8, Zej, Zdu, Zds, Zdt,
    Zao, Za0, Zaw, Zar, Zax, Zav, Zau, Zat, Zas, Zay, Zaz, Zap, Zaq, Zak, Zdb, Zdc, Zdi, Zdj, Zcx, Zcv, Zcw, Zcy, Option.map_some, Option.map_none, List.cons_append, List.nil_append, List.append_nil, decide_true, decide_false, Bool.not_true, Bool.not_false, Bool.false_eq_true, if_true, if_false, ↓reduceIte, reduceCtorEq, Nat.reduceAdd, Nat.reduceEqDiff, Nat.reduceBEq, Za5, true_and, and_true, eq_self, List.getElem?_cons_zero, List.getElem?_cons_succ, he, hall, h6]
    rw [leave_drop rfl hG (by simp [AV.hi])]
    simp

theorem trimSign_W (st : St) (hG : Good st) (s : List UInt8) (hs : s.length ≤ 9223372036854775807) : callW C 64 [.str s, .fn (.func 65) [] []] st = some (.str (noSign s), st) := by
  rw [← CW_eq, CW_is H.h64 _ (by simp)]
  simp only [List.length_cons, List.length_nil, Nat.zero_add, Nat.reduceAdd, Nat.reduceSub, List.reduceReplicate, List.cons_append, List.nil_append]
  unfold k64b
  have hx := indexSign_W H st hG s hs
  unfold idxSign at hx
  cases h : s.all signB <;> rw [h] at hx
  · have h1 : ¬ (((s.takeWhile signB).length : Nat) : Int) = -1 := by omega
    simp only [Bool.false_eq_true, if_false] at hx
    simp only [Zaj, Zah, Zaf, Zai, Zad, Zae, Zag, Zeo, Zep, Zen, Za2, Za3, Za1, Zed, Zee, Zec, Zab, Zac, Zaa, Zel, Zek, Zcq, Zcn, Zcp, Zco, Zcr, Za7, Za6, Zea, Zeb, Zd9, Zbf,
    Zbv, Zby, Zbi, Zb2, Zbn, Zbo, Zbs, Zbr, Zbt, Zbq, Zbm, Zb0, Zbx, Zbg, ev_t, ev_c, ev_f, Zcb, Zca, Zb8, Zb9, Zb6, Zb7, Zd3, Zd5, Zd4, Zcm, Zcl, Zdx, Zdv, Zdw,
    Zd2, Zd1, Zd0, Zdz, Zan, Zeq, Zbb, Zbc, Zba, Zcc, Zdn, Zdk, Zdm, Zdl, Zc9, Zda, Zdo, Zcz, Za4, Za8, Zej, Zdu, Zds, Zdt,
    Zao, Za0, Zaw, Zar, Zax, Zav, Zau, Zat, Zas, Zay, Zaz, Zap, Zaq, Zak, Zdb, Zdc, Zdi, Zdj, Zcx, Zcv, Zcw, Zcy, Option.map_some, Option.map_none, List.cons_append, List.nil_append, List.append_nil, decide_true, decide_false, Bool.not_true, Bool.not_false, Bool.false_eq_true, if_true, if_false, ↓reduceIte, reduceCtorEq, Nat.reduceAdd, Nat.reduceEqDiff, Nat.reduceBEq, Za5, true_and, and_true, eq_self, List.getElem?_cons_zero, List.getElem?_cons_succ, hx, h1, aSlice_lo _ _ _ _ (take_le s), drop_take, noSign]
  · simp only [if_true] at hx
    simp only [Zaj, Zah, Zaf, Zai, Zad, Zae, Zag, Zeo, Zep, Zen, Za2, Za3, Za1, Zed, Zee, Zec, Zab, Zac, Zaa, Zel, Zek, Zcq, Zcn, Zcp, Zco, Zcr, Za7, Za6, Zea, Zeb, Zd9, Zbf,
    Zbv, Zby, Zbi, Zb2, Zbn, Zbo, Zbs, Zbr, Zbt, Zbq, Zbm, Zb0, Zbx, Zbg, ev_t, ev_c, ev_f, Zcb, Zca, Zb8, Zb9, Zb6, Zb7, Zd3, Zd5, Zd4, Zcm, Zcl, Zdx, Zdv, Zdw,
    Zd2, Zd1, Zd0, Zdz, Zan, Zeq, Zbb, Zbc, Zba, Zcc, Zdn, Zdk, Zdm, Zdl, Zc9, Zda, Zdo, Zcz, Za4, Za8, Zej, Zdu, Zds, Zdt,
    Zao, Za0, Zaw, Zar, Zax, Zav, Zau, Zat, Zas, Zay, Zaz, Zap, Zaq, Zak, Zdb, Zdc, Zdi, Zdj, Zcx, Zcv, Zcw, Zcy, Option.map_some, Option.map_none, List.cons_append, List.nil_append, List.append_nil, decide_true, decide_false, Bool.not_true, Bool.not_false, Bool.false_eq_true, if_true, if_false, ↓reduceIte, reduceCtorEq, Nat.reduceAdd, Nat.reduceEqDiff, Nat.reduceBEq, Za5, true_and, and_true, eq_self, List.getElem?_cons_zero, List.getElem?_cons_succ, hx, noSign, all_drop s h]
end
end Go.Eng

