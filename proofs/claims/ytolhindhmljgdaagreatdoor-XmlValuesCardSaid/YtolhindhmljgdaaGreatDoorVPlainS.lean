/-
  Texts of a proof. Conditions: none.
-/
import Derived.Test.YtolhindhmljgdaaGreatDoorVPlainR
set_option linter.unusedVariables false
set_option linter.unusedSimpArgs false
set_option linter.unnecessarySimpa false
set_option linter.unusedSectionVars false
namespace Go.Eng
open Go
set_option maxHeartbeats 4000000
set_option maxRecDepth 8000
set_option linter.unusedSimpArgs false
set_option linter.unusedVariables false
set_option linter.unusedSectionVars false

theorem u8_all {p : UInt8 → Bool} (h : ∀ n : Fin 256, p (UInt8.ofNat n.val) = true) (b : UInt8) : p b = true := by
  have := h ⟨b.toNat, b.toNat_lt⟩
  simpa using this

/-- What is whole, step by step. -/
def Whole (l : List UInt8) : Prop := signs l = true
theorem Whole.nil : Whole [] := by rfl
theorem whole_step (l : List UInt8) (hne : l ≠ []) : Whole l ↔ ¬ ((Lib.decodeL l).1 = 65533 ∧ (Lib.decodeL l).2 = 1) ∧ isChar (Lib.decodeL l).1 = true ∧ Whole (l.drop (Lib.decodeL l).2) := by
  have hw := Lib.decodeL_width l
  have hp := List.length_pos_iff.2 hne
  unfold Whole signs
  rw [Lib.validD_step l hne]
  obtain ⟨k, hk⟩ : ∃ k, l.length = k + 1 := ⟨l.length - 1, by omega⟩
  have hr : runesN l.length l = (Lib.decodeL l).1 :: runesN (l.drop (Lib.decodeL l).2).length (l.drop (Lib.decodeL l).2) := by
    rw [hk, runesN, if_neg hne, runesN_more k _ _ (by simp; omega) (Nat.le_refl _)]
  rw [hr, List.all_cons]
  by_cases h : (Lib.decodeL l).1 = 65533 ∧ (Lib.decodeL l).2 = 1
  · simp [h]
  · simp only [h, if_false, Bool.and_eq_true, not_false_eq_true, true_and]
    constructor
    · rintro ⟨a, b, c⟩; exact ⟨b, a, c⟩
    · rintro ⟨b, a, c⟩; exact ⟨a, b, c⟩
theorem whole_ascii (b : UInt8) (t : List UInt8) (h : b.toNat < 128) : Whole (b :: t) ↔ isChar b.toNat = true ∧ Whole t := by
  rw [whole_step _ (by simp), Lib.decodeL_ascii b t h]
  simp only [List.drop_succ_cons, List.drop_zero]
  constructor
  · rintro ⟨_, a, c⟩; exact ⟨a, c⟩
  · rintro ⟨a, c⟩; exact ⟨(by rintro ⟨h1, _⟩; omega), a, c⟩
theorem whole_pre : ∀ (a t : List UInt8), (∀ b ∈ a, b.toNat < 128 ∧ isChar b.toNat = true) → Whole t → Whole (a ++ t)
  | [], _, _, h => h
  | b :: a, t, hall, h => by
    have hb := hall b (by simp)
    rw [List.cons_append, whole_ascii b _ hb.1]
    exact ⟨hb.2, whole_pre a t (fun c hc => hall c (by simp [hc])) h⟩

/-- A rune of more bytes than one: what it takes, and that it hangs on nothing else. -/
theorem dec_chunk (l : List UInt8) (hne : l ≠ []) (h128 : 128 ≤ (l.getD 0 0).toNat) (hok : ¬ ((Lib.decodeL l).1 = 65533 ∧ (Lib.decodeL l).2 = 1)) :
    ∃ c t, l = c ++ t ∧ (∀ b ∈ c, 128 ≤ b.toNat) ∧ c.length = (Lib.decodeL l).2 ∧ 0 < c.length ∧ ∀ y, Lib.decodeL (c ++ y) = Lib.decodeL l := by
  have hN := Lib.decodeL_N l
  match l, hne with
  | b0 :: l1, _ =>
    simp only [List.getD_cons_zero] at h128
    have e0 : ∀ y : List UInt8, (b0 :: y).getD 0 0 = b0 := fun _ => rfl
    have n128 : ¬ b0.toNat < 128 := by omega
    rw [hN] at hok
    rw [hN]
    unfold Lib.decodeN at hok
    simp only [e0, n128, if_false] at hok
    by_cases h1 : b0.toNat / 32 = 6 ∧ (1 < (b0 :: l1).length ∧ ((b0 :: l1).getD 1 0).toNat / 64 = 2)
    · rw [if_pos h1] at hok
      match l1, h1 with
      | b1 :: t, h1 =>
        have e1 : ∀ y : List UInt8, (b0 :: b1 :: y).getD 1 0 = b1 := fun _ => rfl
        simp only [e1] at h1 hok
        split at hok
        · rename_i hv
          refine ⟨[b0, b1], t, rfl, ?_, ?_, by simp, fun y => ?_⟩
          · intro b hb; simp at hb; rcases hb with rfl | rfl <;> omega
          · unfold Lib.decodeN
            simp only [e0, e1, n128, if_false]
            rw [if_pos h1, if_pos hv]; rfl
          · have hy := Lib.decodeL_N (b0 :: b1 :: y)
            show Lib.decodeL (b0 :: b1 :: y) = _
            rw [hy]
            unfold Lib.decodeN
            simp only [e0, e1, n128, if_false]
            rw [if_pos ⟨h1.1, by simp, h1.2.2⟩, if_pos h1]
        · exact absurd ⟨rfl, rfl⟩ hok
      | [], h1 => simp at h1
    · rw [if_neg h1] at hok
      by_cases h2 : b0.toNat / 16 = 14 ∧ (1 < (b0 :: l1).length ∧ ((b0 :: l1).getD 1 0).toNat / 64 = 2) ∧ (2 < (b0 :: l1).length ∧ ((b0 :: l1).getD 2 0).toNat / 64 = 2)
      · rw [if_pos h2] at hok
        rcases l1 with _ | ⟨b1, _ | ⟨b2, t⟩⟩
        · simp at h2
        · simp at h2
        ·
          have e1 : ∀ y : List UInt8, (b0 :: b1 :: b2 :: y).getD 1 0 = b1 := fun _ => rfl
          have e2 : ∀ y : List UInt8, (b0 :: b1 :: b2 :: y).getD 2 0 = b2 := fun _ => rfl
          simp only [e1, e2] at h2 hok h1
          have n1 : ∀ y : List UInt8, ¬ (b0.toNat / 32 = 6 ∧ (1 < (b0 :: b1 :: b2 :: y).length ∧ b1.toNat / 64 = 2)) := fun y h => by omega
          split at hok
          · rename_i hv
            refine ⟨[b0, b1, b2], t, rfl, ?_, ?_, by simp, fun y => ?_⟩
            · intro b hb; simp at hb; rcases hb with rfl | rfl | rfl <;> omega
            · unfold Lib.decodeN
              simp only [e0, e1, e2, n128, if_false]
              rw [if_neg (n1 _), if_pos h2, if_pos hv]; rfl
            · have hy := Lib.decodeL_N (b0 :: b1 :: b2 :: y)
              show Lib.decodeL (b0 :: b1 :: b2 :: y) = _
              rw [hy]
              unfold Lib.decodeN
              simp only [e0, e1, e2, n128, if_false]
              rw [if_neg (n1 _), if_pos ⟨h2.1, ⟨by simp, h2.2.1.2⟩, by simp, h2.2.2.2⟩, if_neg (n1 _), if_pos h2]
          · exact absurd ⟨rfl, rfl⟩ hok
      · rw [if_neg h2] at hok
        by_cases h3 : b0.toNat / 8 = 30 ∧ (1 < (b0 :: l1).length ∧ ((b0 :: l1).getD 1 0).toNat / 64 = 2) ∧ (2 < (b0 :: l1).length ∧ ((b0 :: l1).getD 2 0).toNat / 64 = 2) ∧ (3 < (b0 :: l1).length ∧ ((b0 :: l1).getD 3 0).toNat / 64 = 2)
        · rw [if_pos h3] at hok
          rcases l1 with _ | ⟨b1, _ | ⟨b2, _ | ⟨b3, t⟩⟩⟩
          · simp at h3
          · simp at h3
          · simp at h3
          ·
            have e1 : ∀ y : List UInt8, (b0 :: b1 :: b2 :: b3 :: y).getD 1 0 = b1 := fun _ => rfl
            have e2 : ∀ y : List UInt8, (b0 :: b1 :: b2 :: b3 :: y).getD 2 0 = b2 := fun _ => rfl
            have e3 : ∀ y : List UInt8, (b0 :: b1 :: b2 :: b3 :: y).getD 3 0 = b3 := fun _ => rfl
            simp only [e1, e2, e3] at h3 hok h1 h2
            have n1 : ∀ y : List UInt8, ¬ (b0.toNat / 32 = 6 ∧ (1 < (b0 :: b1 :: b2 :: b3 :: y).length ∧ b1.toNat / 64 = 2)) := fun y h => by omega
            have n2 : ∀ y : List UInt8, ¬ (b0.toNat / 16 = 14 ∧ (1 < (b0 :: b1 :: b2 :: b3 :: y).length ∧ b1.toNat / 64 = 2) ∧ (2 < (b0 :: b1 :: b2 :: b3 :: y).length ∧ b2.toNat / 64 = 2)) := fun y h => by omega
            split at hok
            · rename_i hv
              refine ⟨[b0, b1, b2, b3], t, rfl, ?_, ?_, by simp, fun y => ?_⟩
              · intro b hb; simp at hb; rcases hb with rfl | rfl | rfl | rfl <;> omega
              · unfold Lib.decodeN
                simp only [e0, e1, e2, e3, n128, if_false]
                rw [if_neg (n1 _), if_neg (n2 _), if_pos h3, if_pos hv]; rfl
              · have hy := Lib.decodeL_N (b0 :: b1 :: b2 :: b3 :: y)
                show Lib.decodeL (b0 :: b1 :: b2 :: b3 :: y) = _
                rw [hy]
                unfold Lib.decodeN
                simp only [e0, e1, e2, e3, n128, if_false]
                rw [if_neg (n1 _), if_neg (n2 _), if_pos ⟨h3.1, ⟨by simp, h3.2.1.2⟩, ⟨by simp, h3.2.2.1.2⟩, by simp, h3.2.2.2.2⟩, if_neg (n1 _), if_neg (n2 _), if_pos h3]
            · exact absurd ⟨rfl, rfl⟩ hok
        · rw [if_neg h3] at hok
          exact absurd ⟨rfl, rfl⟩ hok

theorem escB_eq (b : UInt8) : escB b = if special b then 38 :: (wordOf b ++ [59]) else [b] := by
  have := u8_all (p := fun b => escB b == if special b then 38 :: (wordOf b ++ [59]) else [b]) (by decide +kernel) b
  simpa using this
theorem escB_ascii (b : UInt8) (h : b.toNat < 128) (hc : isChar b.toNat = true) : ∀ c ∈ escB b, c.toNat < 128 ∧ isChar c.toNat = true := by
  have := u8_all (p := fun b => decide (b.toNat < 128) == false || isChar b.toNat == false || (escB b).all fun c => decide (c.toNat < 128) && isChar c.toNat) (by decide +kernel) b
  simp only [h, hc, decide_true, Bool.or_eq_true, beq_iff_eq, reduceCtorEq, or_false, false_or, List.all_eq_true, Bool.and_eq_true, decide_eq_true_eq] at this
  exact this
theorem escB_high (b : UInt8) (h : 128 ≤ b.toNat) : escB b = [b] := by
  have := u8_all (p := fun b => decide (128 ≤ b.toNat) == false || escB b == [b]) (by decide +kernel) b
  simpa [h] using this
theorem esc_high : ∀ (c : List UInt8), (∀ b ∈ c, 128 ≤ b.toNat) → esc c = c
  | [], _ => rfl
  | b :: c, h => by
    have ih := esc_high c (fun x hx => h x (by simp [hx]))
    have e : esc (b :: c) = escB b ++ esc c := rfl
    rw [e, ih, escB_high b (h b (by simp))]; rfl
theorem esc_app (a b : List UInt8) : esc (a ++ b) = esc a ++ esc b := by simp [esc, List.flatMap_append]

theorem whole_esc : ∀ (k : Nat) (v : List UInt8), v.length ≤ k → Whole v → Whole (esc v)
  | _, [], _, _ => Whole.nil
  | 0, b :: t, h, _ => by simp at h
  | k + 1, b :: t, hk, hv => by
    by_cases hb : b.toNat < 128
    · rw [whole_ascii b t hb] at hv
      exact whole_pre (escB b) (esc t) (escB_ascii b hb hv.1) (whole_esc k t (by simpa using hk) hv.2)
    · have hs := (whole_step (b :: t) (by simp)).1 hv
      obtain ⟨c, u, hcu, hhi, hlen, hpos, hy⟩ := dec_chunk (b :: t) (by simp) (by simpa using Nat.le_of_not_lt hb) hs.1
      have hdrop : (b :: t).drop (Lib.decodeL (b :: t)).2 = u := by rw [← hlen, hcu]; simp
      rw [hdrop] at hs
      have hu : u.length ≤ k := by
        have := congrArg List.length hcu
        simp at this hk; omega
      have ih := whole_esc k u hu hs.2.2
      rw [hcu, esc_app, esc_high c hhi]
      refine (whole_step _ (by cases c <;> simp at hpos ⊢)).2 ?_
      rw [hy]
      refine ⟨hs.1, hs.2.1, ?_⟩
      rw [← hlen]; simpa using ih

theorem esc_no (x : UInt8) (hx : x = 60 ∨ x = 34 ∨ x = 62) (v : List UInt8) : x ∉ esc v := by
  intro hm
  simp only [esc, List.mem_flatMap] at hm
  obtain ⟨b, _, hb⟩ := hm
  have := u8_all (p := fun b => !(escB b).contains 60 && !(escB b).contains 34 && !(escB b).contains 62) (by decide +kernel) b
  simp at this
  rcases hx with rfl | rfl | rfl
  · exact this.1.1 hb
  · exact this.1.2 hb
  · exact this.2 hb
theorem esc_len : ∀ v : List UInt8, (esc v).length ≤ 6 * v.length
  | [] => by simp [esc]
  | b :: t => by
    have ih := esc_len t
    have e : esc (b :: t) = escB b ++ esc t := rfl
    have hb := u8_all (p := fun b => decide ((escB b).length ≤ 6)) (by decide +kernel) b
    have hb2 := of_decide_eq_true hb
    rw [e, List.length_append, List.length_cons]; omega
theorem word_59 (c : UInt8) : (59 : UInt8) ∉ wordOf c := by
  have := u8_all (p := fun b => !(wordOf b).contains 59) (by decide +kernel) c
  simpa using this
theorem special_38 (b : UInt8) (h : special b = false) : b ≠ 38 := by
  rintro rfl; cases h
/-- Up to the first byte that is told. -/
theorem esc_split (v : List UInt8) : (esc v = v ∧ (38 : UInt8) ∉ v) ∨ ∃ p c q, v = p ++ c :: q ∧ special c = true ∧ (38 : UInt8) ∉ p ∧ esc v = p ++ 38 :: (wordOf c ++ 59 :: esc q) := by
  induction v with
  | nil => exact .inl ⟨rfl, by simp⟩
  | cons b t ih =>
    have e : esc (b :: t) = escB b ++ esc t := rfl
    cases hb : special b
    · have eb : escB b = [b] := by rw [escB_eq, hb]; rfl
      rw [e, eb]
      have h38 := special_38 b hb
      rcases ih with ⟨h1, h2⟩ | ⟨p, c, q, h1, h2, h3, h4⟩
      · exact .inl ⟨by rw [h1]; rfl, by simp [h2]; exact fun e => h38 e.symm⟩
      · refine .inr ⟨b :: p, c, q, by rw [h1]; rfl, h2, by simp [h3]; exact fun e => h38 e.symm, by rw [h4]; rfl⟩
    · have eb : escB b = 38 :: (wordOf b ++ [59]) := by rw [escB_eq, hb]; rfl
      exact .inr ⟨[], b, t, rfl, hb, by simp, by rw [e, eb]; simp⟩
end Go.Eng

