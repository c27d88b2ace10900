/-
  The engine, frame, part 1: an operation that goes with a row dead goes alike with the row alive.
  Conditions: none.
-/
import Derived.Test.YtolhindhmljgdaaGreatDoorEngC
set_option linter.unusedVariables false
set_option linter.unusedSimpArgs false
set_option linter.unnecessarySimpa false
set_option linter.unusedSectionVars false
set_option linter.unusedSimpArgs false
set_option linter.unusedVariables false
namespace Go.Eng
open Go

section
variable {C : Ctx} {st st' : St} {env : Env} {r : Nat} {X : Row}

theorem get_set (hd : st[r]? = some .dead) {s : Nat} {row : Row} (hs : st[s]? = some row) (hl : row.live = true) : r ≠ s ∧ (st.set r X)[s]? = some row := by
  have hne : r ≠ s := by
    rintro rfl
    rw [hd] at hs; cases hs
    simp [Row.live] at hl
  exact ⟨hne, by rw [List.getElem?_set_ne hne]; exact hs⟩

theorem dead_lt (hd : st[r]? = some .dead) : r < st.length := (List.getElem?_eq_some_iff.1 hd).1

theorem app_set (hd : st[r]? = some .dead) (l : St) : st.set r X ++ l = (st ++ l).set r X := by
  rw [List.set_append_left _ _ (dead_lt hd)]

theorem app_dead (hd : st[r]? = some .dead) (l : St) : (st ++ l)[r]? = some .dead := by
  rw [List.getElem?_append_left (dead_lt hd)]; exact hd

theorem rdRow_set (hd : st[r]? = some .dead) {s off gen n : Nat} {l : List AV} (h : rdRow st s off gen n = some l) : rdRow (st.set r X) s off gen n = some l := by
  unfold rdRow at h ⊢
  split at h
  · rename_i cs g hh fz ty hs
    rw [(get_set hd hs rfl).2]
    exact h
  · cases h

theorem rd_set (hd : st[r]? = some .dead) {a : AV} {n : Nat} {l : List AV} (h : rd st a n = some l) : rd (st.set r X) a n = some l := by
  cases a <;> simp only [rd] at h ⊢ <;> first | exact rdRow_set hd h | exact h

theorem wrRow_set (hd : st[r]? = some .dead) {s off gen : Nat} {l : List AV} (h : wrRow st s off gen l = some st') : wrRow (st.set r X) s off gen l = some (st'.set r X) ∧ st'[r]? = some .dead := by
  unfold wrRow at h ⊢
  split at h
  · rename_i cs g hh fz ty hs
    obtain ⟨hne, hs'⟩ := get_set (X := X) hd hs rfl
    rw [hs']
    split at h
    · rename_i hc
      cases h
      simp only
      rw [if_pos hc]
      refine ⟨by rw [List.set_comm _ _ hne], by rw [List.getElem?_set_ne (fun e => hne e.symm)]; exact hd⟩
    · cases h
  · cases h

theorem elems_set (hd : st[r]? = some .dead) {s : AV} {l : List AV} (h : elems st s = some l) : elems (st.set r X) s = some l := by
  cases s <;> simp only [elems] at h ⊢ <;> first | exact rdRow_set hd h | exact h

mutual
theorem aeq_set (hd : st[r]? = some .dead) : ∀ (q : EqS) (x y : AV) (b : Bool), aeq st q x y = some b → aeq (st.set r X) q x y = some b
  | .st fs, x, y, b, h => by
    cases x <;> cases y <;> simp only [aeq] at h ⊢ <;> first | (cases h; done) | exact aeqs_set hd fs _ _ b h
  | .p, x, y, b, h => by
    cases x <;> cases y <;> simp only [aeq] at h ⊢ <;> first | (cases h; done) | exact h | skip
    split at h
    · rename_i cs g hh fz ty hs
      rw [(get_set hd hs rfl).2]
      exact h
    · cases h
  | .b, x, y, b, h => by cases x <;> cases y <;> simp only [aeq] at h ⊢ <;> first | exact h | cases h
  | .i, x, y, b, h => by cases x <;> cases y <;> simp only [aeq] at h ⊢ <;> first | exact h | cases h
  | .s, x, y, b, h => by cases x <;> cases y <;> simp only [aeq] at h ⊢ <;> first | exact h | cases h
  | .sl, x, y, b, h => by cases x <;> cases y <;> simp only [aeq] at h ⊢ <;> first | exact h | cases h
  | .mp, x, y, b, h => by cases x <;> cases y <;> simp only [aeq] at h ⊢ <;> first | exact h | cases h
  | .fn, x, y, b, h => by cases x <;> cases y <;> simp only [aeq] at h ⊢ <;> first | exact h | cases h
  | .ifc, x, y, b, h => by cases x <;> cases y <;> simp only [aeq] at h ⊢ <;> first | exact h | cases h
  | .ic, x, y, b, h => by cases x <;> cases y <;> simp only [aeq] at h ⊢ <;> first | exact h | cases h
  | .no, x, y, b, h => by cases x <;> cases y <;> simp only [aeq] at h ⊢ <;> first | exact h | cases h
theorem aeqs_set (hd : st[r]? = some .dead) : ∀ (fs : List (Nat × EqS)) (xs ys : List AV) (b : Bool), aeqs st fs xs ys = some b → aeqs (st.set r X) fs xs ys = some b
  | [], _, _, b, h => by simp only [aeqs] at h ⊢; exact h
  | (o, q) :: fs, xs, ys, b, h => by
    simp only [aeqs] at h ⊢
    cases hx : xs[o]? with
    | none => simp [hx] at h
    | some x =>
      cases hy : ys[o]? with
      | none => simp [hx, hy] at h
      | some y =>
        simp only [hx, hy] at h ⊢
        cases he : aeq st q x y with
        | none => simp [he] at h
        | some t =>
          rw [he] at h
          rw [aeq_set hd q x y t he]
          cases t
          · exact h
          · exact aeqs_set hd fs xs ys b h
end

theorem aBin_set (hd : st[r]? = some .dead) {op : BinOp} {q : EqS} {x y z : AV} (h : aBin st op q x y = some z) : aBin (st.set r X) op q x y = some z := by
  unfold aBin at h ⊢
  split at h <;> first | exact h | skip
  · simp only [Option.map_eq_some_iff] at h ⊢
    obtain ⟨b, hb, rfl⟩ := h
    exact ⟨b, aeq_set hd _ _ _ _ hb, rfl⟩
  · simp only [Option.map_eq_some_iff] at h ⊢
    obtain ⟨b, hb, rfl⟩ := h
    exact ⟨b, aeq_set hd _ _ _ _ hb, rfl⟩

theorem findA_set (hd : st[r]? = some .dead) {q : EqS} {k : AV} : ∀ {es : List (AV × AV)} {x : Option AV}, findA st q k es = some x → findA (st.set r X) q k es = some x
  | [], x, h => h
  | (k', v) :: es, x, h => by
    simp only [findA] at h ⊢
    split at h
    · rename_i he; rw [aeq_set hd _ _ _ _ he]; exact h
    · rename_i he; rw [aeq_set hd _ _ _ _ he]; exact findA_set hd h
    · cases h

theorem setA_set (hd : st[r]? = some .dead) {q : EqS} {k v : AV} : ∀ {es es' : List (AV × AV)}, setA st q k v es = some es' → setA (st.set r X) q k v es = some es'
  | [], x, h => h
  | (k', v') :: es, x, h => by
    simp only [setA] at h ⊢
    split at h
    · rename_i he; rw [aeq_set hd _ _ _ _ he]; exact h
    · rename_i he
      rw [aeq_set hd _ _ _ _ he]
      simp only [Option.map_eq_some_iff] at h ⊢
      obtain ⟨y, hy, rfl⟩ := h
      exact ⟨y, setA_set hd hy, rfl⟩
    · cases h

theorem aConv_set (hd : st[r]? = some .dead) {k : ConvK} {x z : AV} (h : aConv st k x = some z) : aConv (st.set r X) k x = some z := by
  cases k <;> cases x <;> simp only [aConv] at h ⊢ <;> first | exact h | skip
  all_goals
    split at h
    · rename_i cs n h1 h2
      rw [elems_set hd h1, h2]
      exact h
    · cases h

theorem aSlice_set (hd : st[r]? = some .dead) {k : SliceK} {x : AV} {lo hi mx : Option AV} {z : AV} (h : aSlice st k x lo hi mx = some z) : aSlice (st.set r X) k x lo hi mx = some z := by
  unfold aSlice at h ⊢
  split at h <;> first | exact h | skip
  split at h
  · rename_i l hh h2 h3
    split at h
    · rename_i hc
      obtain ⟨a, b, c, d⟩ := hc
      rw [Option.isSome_iff_exists] at d
      obtain ⟨l, hl⟩ := d
      rw [if_pos ⟨a, b, c, by rw [rdRow_set hd hl]; rfl⟩]
      exact h
    · cases h
  · cases h

theorem aAppend_set (hd : st[r]? = some .dead) {ty sz bytes k : Nat} {s : AV} {new : List AV} {z : AV} (h : aAppend st ty sz bytes s new k = some (z, st')) : aAppend (st.set r X) ty sz bytes s new k = some (z, st'.set r X) ∧ st'[r]? = some .dead := by
  unfold aAppend at h ⊢
  by_cases hk : k = 0
  · rw [if_pos hk] at h ⊢
    have : (lenA s).map (fun _ => (s, st)) = some (z, st') ∧ ∀ b, s ≠ .str b := by
      cases s <;> first | (cases h; done) | exact ⟨h, by simp⟩
    obtain ⟨h1, h2⟩ := this
    simp only [Option.map_eq_some_iff] at h1
    obtain ⟨n, hn, h3⟩ := h1
    cases h3
    refine ⟨?_, hd⟩
    cases s <;> first | exact absurd rfl (h2 _) | (simp only [hn]; rfl) | (simp [lenA] at hn)
  · rw [if_neg hk] at h ⊢
    by_cases hc : new.length ≠ k * sz ∨ new.all AV.isCell = false
    · rw [if_pos hc] at h; cases h
    · rw [if_neg hc] at h ⊢
      split at h
      · split at h
        · rename_i hsm
          cases h
          simp only [if_pos hsm, List.length_set]
          exact ⟨by rw [app_set hd], app_dead hd _⟩
        · cases h
      · split at h
        · rename_i hsm
          cases h
          simp only [if_pos hsm, List.length_set]
          exact ⟨by rw [app_set hd], app_dead hd _⟩
        · cases h
      · rename_i s' off len cm gen sz' ex
        split at h
        · cases h
        · rename_i hsm
          simp only [if_neg hsm]
          split at h
          · rename_i cs g hh fz ty' hs
            obtain ⟨hne, hs'⟩ := get_set (X := X) hd hs rfl
            simp only [hs']
            split at h
            · cases h
            · rename_i hg
              simp only [if_neg hg]
              split at h
              · rename_i hroom
                simp only [if_pos hroom]
                simp only [Option.map_eq_some_iff] at h ⊢
                obtain ⟨s2, hw, h2⟩ := h
                cases h2
                obtain ⟨a, b⟩ := wrRow_set (X := X) hd hw
                exact ⟨⟨_, a, rfl⟩, b⟩
              · rename_i hroom
                simp only [if_neg hroom]
                split at h
                · rename_i hex
                  cases h
                  simp only [if_pos hex, List.length_set]
                  exact ⟨by rw [app_set hd], app_dead hd _⟩
                · rename_i hex
                  simp only [if_neg hex]
                  split at h
                  · rename_i htip
                    cases h
                    simp only [if_pos htip]
                    exact ⟨by rw [List.set_comm _ _ hne], by rw [List.getElem?_set_ne (fun e => hne e.symm)]; exact hd⟩
                  · cases h
          · cases h
      · cases h

end
end Go.Eng

set_option linter.unusedSimpArgs false
set_option linter.unusedVariables false
namespace Go.Eng
open Go

/-- An evaluator of calls goes alike where a dead row lives. -/
def CallFr (call : CallF) : Prop := ∀ (r : Nat) (X : Row), X.top = 0 → ∀ f xs st x st', st[r]? = some .dead → call f xs st = some (x, st') → call f xs (st.set r X) = some (x, st'.set r X) ∧ st'[r]? = some .dead

section
variable {C : Ctx} {st st' : St} {env : Env} {r : Nat} {X : Row} {call : CallF}

theorem map_set {y : Option AV} {v : AV} (h : (y.map fun v => (v, st)) = some (v, st')) (hd : st[r]? = some .dead) : (y.map fun v => (v, st.set r X)) = some (v, st'.set r X) ∧ st'[r]? = some .dead := by
  obtain ⟨h1, rfl⟩ := pure1_inv h
  subst h1
  exact ⟨rfl, hd⟩

theorem map_set2 {y y2 : Option AV} {v : AV} (h : (y.map fun v => (v, st)) = some (v, st')) (hd : st[r]? = some .dead) (hy : ∀ z, y = some z → y2 = some z) : (y2.map fun v => (v, st.set r X)) = some (v, st'.set r X) ∧ st'[r]? = some .dead := by
  obtain ⟨h1, rfl⟩ := pure1_inv h
  rw [hy v h1]
  exact ⟨rfl, hd⟩

set_option maxHeartbeats 2000000 in
theorem evOp_set (hc : CallFr call) (hX : X.top = 0) (hd : st[r]? = some .dead) {o : KO} {v : AV} (h : evOp C call o env st = some (v, st')) : evOp C call o env (st.set r X) = some (v, st'.set r X) ∧ st'[r]? = some .dead := by
  have hset : ∀ {s : Nat} {row : Row}, r ≠ s → (st.set r X).set s row = (st.set s row).set r X := fun hne => List.set_comm _ _ hne
  have hdead : ∀ {s : Nat} {row : Row}, r ≠ s → (st.set s row)[r]? = some .dead := fun hne => by rw [List.getElem?_set_ne (fun e => hne e.symm)]; exact hd
  cases o
  case bslice ty sz n z ps =>
    simp only [evOp] at h ⊢
    split at h
    · rename_i h1
      split at h
      · rename_i h2
        split at h
        · rename_i h3
          try simp only [h1, h2, if_pos h3]
          exact map_set h hd
        · rename_i h3
          split at h
          · rename_i h4
            cases h
            try simp only [h1, h2, if_neg h3, if_pos h4, List.length_set]
            exact ⟨by rw [app_set hd], app_dead hd _⟩
          · cases h
      · cases h
    · cases h
  case alloc ty z =>
    simp only [evOp, Option.some.injEq] at h ⊢
    cases h
    exact ⟨by rw [List.length_set, app_set hd], app_dead hd _⟩
  case box ty x =>
    simp only [evOp] at h ⊢
    split at h
    · rename_i u hu
      split at h
      · rename_i h2
        cases h
        try simp only [hu, if_pos h2, List.length_set]
        exact ⟨by rw [app_set hd], app_dead hd _⟩
      · cases h
    · cases h
  case load agg n x =>
    simp only [evOp] at h ⊢
    split at h
    · rename_i u hu
      split at h
      · rename_i l hl
        try simp only [hu, rd_set hd hl]
        exact map_set h hd
      · cases h
    · cases h
  case store n x y =>
    simp only [evOp] at h ⊢
    split at h
    · rename_i s off gen u h1 h2
      split at h
      · rename_i hl
        simp only [Option.map_eq_some_iff] at h
        obtain ⟨s2, hw, h3⟩ := h
        cases h3
        obtain ⟨a, b⟩ := wrRow_set (X := X) hd hw
        try simp only [h1, h2, if_pos hl, a, Option.map_some]
        first | exact ⟨rfl, b⟩ | exact ⟨trivial, b⟩
      · cases h
    · cases h
  case bin op q x y =>
    simp only [evOp] at h ⊢
    split at h
    · rename_i u w h1 h2
      try simp only [h1, h2]
      exact map_set2 h hd fun z hz => aBin_set hd hz
    · cases h
  case conv k x =>
    simp only [evOp] at h ⊢
    split at h
    · rename_i u h1
      try simp only [h1]
      exact map_set2 h hd fun z hz => aConv_set hd hz
    · cases h
  case mkmap =>
    simp only [evOp, Option.some.injEq] at h ⊢
    cases h
    exact ⟨by rw [List.length_set, app_set hd], app_dead hd _⟩
  case mkslice ty sz b z l c =>
    simp only [evOp] at h ⊢
    split at h
    · rename_i n m h1 h2
      split at h
      · rename_i h3
        cases h
        try simp only [h1, h2, if_pos h3, List.length_set]
        exact ⟨by rw [app_set hd], app_dead hd _⟩
      · cases h
    · cases h
  case slice k x a b c =>
    simp only [evOp] at h ⊢
    split at h
    · rename_i u1 u2 u3 u4 h1 h2 h3 h4
      try simp only [h1, h2, h3, h4]
      exact map_set2 h hd fun z hz => aSlice_set hd hz
    · cases h
  case lookup q z ok x k =>
    simp only [evOp] at h ⊢
    split at h
    · rename_i u h1 h2
      try simp only [h1, h2]
      split at h
      · rename_i b hb
        try simp only [aeq_set hd _ _ _ _ hb]
        exact map_set h hd
      · cases h
    · rename_i s u h1 h2
      try simp only [h1, h2]
      split at h
      · rename_i es hh b hs hb
        try simp only [(get_set (X := X) hd hs rfl).2, aeq_set hd _ _ _ _ hb]
        split at h
        · rename_i w hw
          try simp only [findA_set hd hw]
          exact map_set h hd
        · rename_i hw
          try simp only [findA_set hd hw]
          exact map_set h hd
        · cases h
      · cases h
    · cases h
  case mapset q m k w =>
    simp only [evOp] at h ⊢
    split at h
    · rename_i s u1 u2 h1 h2 h3
      try simp only [h1, h2, h3]
      split at h
      · rename_i es hh b hs hb
        obtain ⟨hne, hs'⟩ := get_set (X := X) hd hs rfl
        try simp only [hs', aeq_set hd _ _ _ _ hb]
        simp only [Option.map_eq_some_iff] at h ⊢
        obtain ⟨es', he, h4⟩ := h
        cases h4
        exact ⟨⟨es', setA_set hd he, by rw [hset hne]⟩, hdead hne⟩
      · cases h
    · cases h
  case range x =>
    simp only [evOp] at h ⊢
    split at h
    · rename_i s h1
      cases h
      try simp only [h1, List.length_set]
      exact ⟨by rw [app_set hd], app_dead hd _⟩
    · cases h
  case next x =>
    simp only [evOp] at h ⊢
    split at h
    · rename_i s h1
      try simp only [h1]
      split at h
      · rename_i b p hs
        obtain ⟨hne, hs'⟩ := get_set (X := X) hd hs rfl
        try simp only [hs']
        split at h
        · rename_i hlt
          cases h
          try simp only [if_pos hlt]
          exact ⟨by rw [hset hne], hdead hne⟩
        · rename_i hlt
          try simp only [if_neg hlt]
          exact map_set h hd
      · cases h
    · cases h
  case call f xs =>
    simp only [evOp] at h ⊢
    split at h
    · rename_i g a b c h1 h2
      try simp only [h1, h2]
      exact hc r X hX _ _ _ _ _ hd h
    · cases h
  case append ty sz b z zs s x =>
    simp only [evOp] at h ⊢
    split at h
    · rename_i u1 u2 h1 h2
      try simp only [h1, h2]
      split at h
      · rename_i hz
        try simp only [if_pos hz]
        split at h
        · rename_i k hk
          try simp only [hk]
          split at h
          · rename_i hsm
            try simp only [if_pos hsm]
            exact aAppend_set hd h
          · cases h
        · cases h
      · rename_i hz
        try simp only [if_neg hz]
        split at h
        · rename_i n k h3 h4
          try simp only [elems_set hd h3, h4]
          exact aAppend_set hd h
        · cases h
    · cases h
  case copy sz a b =>
    simp only [evOp] at h ⊢
    split at h
    · rename_i s off len cm gen sz' ex u h1 h2
      try simp only [h1, h2]
      split at h
      · rename_i n k h3 h4
        try simp only [elems_set hd h3, h4]
        split at h
        · rename_i hz
          try simp only [if_pos hz]
          simp only [Option.map_eq_some_iff] at h
          obtain ⟨s2, hw, h5⟩ := h
          cases h5
          obtain ⟨a, b⟩ := wrRow_set (X := X) hd hw
          try simp only [a, Option.map_some]
          first | exact ⟨rfl, b⟩ | exact ⟨trivial, b⟩
        · cases h
      · cases h
    · rename_i u h1 h2
      try simp only [h1, h2]
      split at h
      · rename_i n k h3 h4
        try simp only [elems_set hd h3, h4]
        exact map_set h hd
      · cases h
    · cases h
  case len k x =>
    simp only [evOp] at h ⊢
    split at h
    · rename_i s h1
      try simp only [h1]
      split at h
      · rename_i es hh hs
        try simp only [(get_set (X := X) hd hs rfl).2]
        exact map_set h hd
      · cases h
    all_goals first | (cases h; done) | skip
    all_goals
      rename_i h1
      try simp only [h1]
      exact map_set h hd
  case clear mp sz z x =>
    simp only [evOp] at h ⊢
    split at h
    · rename_i h1
      cases h
      try simp only [h1]
      first | exact ⟨rfl, hd⟩ | exact ⟨trivial, hd⟩
    · rename_i h1
      cases h
      try simp only [h1]
      first | exact ⟨rfl, hd⟩ | exact ⟨trivial, hd⟩
    · rename_i s off len cm gen sz' ex h1
      try simp only [h1]
      split at h
      · rename_i hz
        try simp only [if_pos hz]
        simp only [Option.map_eq_some_iff] at h
        obtain ⟨s2, hw, h5⟩ := h
        cases h5
        obtain ⟨a, b⟩ := wrRow_set (X := X) hd hw
        try simp only [a, Option.map_some]
        first | exact ⟨rfl, b⟩ | exact ⟨trivial, b⟩
      · cases h
    · rename_i s h1
      try simp only [h1]
      split at h
      · rename_i es hh hs
        obtain ⟨hne, hs'⟩ := get_set (X := X) hd hs rfl
        cases h
        try simp only [hs']
        exact ⟨by rw [hset hne], hdead hne⟩
      · cases h
    · cases h
  case uto x =>
    simp only [evOp] at h ⊢
    split at h
    · rename_i h1
      try simp only [h1]
      exact map_set h hd
    · rename_i s off gen h1
      try simp only [h1]
      split at h
      · rename_i cs g hh fz ty hs
        try simp only [(get_set (X := X) hd hs rfl).2]
        split at h
        · rename_i hc
          try simp only [if_pos hc]
          exact map_set h hd
        · cases h
      · cases h
    · cases h
  case ufrom ty n x =>
    simp only [evOp] at h ⊢
    split at h
    · rename_i h1
      try simp only [h1]
      exact map_set h hd
    · rename_i s h1
      try simp only [h1]
      split at h
      · rename_i cs hh fz ty' hs
        try simp only [(get_set (X := X) hd hs rfl).2]
        split at h
        · rename_i hc
          try simp only [if_pos hc]
          exact map_set h hd
        · cases h
      · cases h
    · cases h
  case ustr ty p n =>
    simp only [evOp] at h ⊢
    split at h
    · rename_i h1 h2
      try simp only [h1, h2]
      exact map_set h hd
    · rename_i s off gen m h1 h2
      try simp only [h1, h2]
      split at h
      · rename_i hm
        try simp only [if_pos hm]
        exact map_set h hd
      · rename_i hm
        try simp only [if_neg hm]
        split at h
        · cases h
        · rename_i hsm
          try simp only [if_neg hsm]
          split at h
          · rename_i cs g hh fz ty' hs
            obtain ⟨hne, hs'⟩ := get_set (X := X) hd hs rfl
            try simp only [hs']
            split at h
            · rename_i hg
              try simp only [if_pos hg]
              split at h
              · rename_i bs hbs
                cases h
                try simp only [hbs]
                exact ⟨by rw [hset hne], hdead hne⟩
              · cases h
            · cases h
          · cases h
    · cases h
  all_goals
    simp only [evOp] at h ⊢
    repeat' split at h
    all_goals first | (cases h; done) | (obtain ⟨h3, rfl⟩ := pure1_inv h; exact ⟨by simp_all, hd⟩)

end
end Go.Eng

set_option linter.unusedSimpArgs false
set_option linter.unusedVariables false
namespace Go.Eng
open Go

section
variable {C : Ctx} {st st' : St} {env : Env} {r : Nat} {X : Row} {call : CallF}

theorem evStep_set (hc : CallFr call) (hX : X.top = 0) (hd : st[r]? = some .dead) {o : KOp} {v : AV} (h : evStep C call o env st = some (v, st')) : evStep C call o env (st.set r X) = some (v, st'.set r X) ∧ st'[r]? = some .dead := by
  unfold evStep at h ⊢
  split at h
  · try simp only [*]
    exact evOp_set hc hX hd h
  · cases h
    exact ⟨by simp_all, hd⟩
  · cases h

theorem evOps_set (hc : CallFr call) (hX : X.top = 0) : ∀ (l : List KOp) (env : Env) (st : St) (env' : Env) (st' : St), st[r]? = some .dead → evOps C call l env st = some (env', st') → evOps C call l env (st.set r X) = some (env', st'.set r X) ∧ st'[r]? = some .dead
  | [], env, st, env', st', hd, h => by
    simp only [evOps, Option.some.injEq] at h ⊢
    cases h
    exact ⟨rfl, hd⟩
  | o :: l, env, st, env', st', hd, h => by
    simp only [evOps] at h ⊢
    split at h
    · rename_i v s1 h1
      obtain ⟨a, b⟩ := evStep_set (X := X) hc hX hd h1
      simp only [a]
      exact evOps_set hc hX l _ s1 env' st' b h
    · cases h

theorem evHist_set (hc : CallFr call) (hX : X.top = 0) : ∀ (l : List KOp) (env : Env) (st : St) (hist : List St) (env' : Env) (st' : St) (hist' : List St), st[r]? = some .dead → (∀ s ∈ hist, s[r]? = some Row.dead) → evHist C call l env st hist = some (env', st', hist') →
    evHist C call l env (st.set r X) (hist.map (·.set r X)) = some (env', st'.set r X, hist'.map (·.set r X)) ∧ st'[r]? = some .dead ∧ ∀ s ∈ hist', s[r]? = some Row.dead
  | [], env, st, hist, env', st', hist', hd, hh, h => by
    simp only [evHist, Option.some.injEq] at h ⊢
    cases h
    exact ⟨rfl, hd, hh⟩
  | o :: l, env, st, hist, env', st', hist', hd, hh, h => by
    simp only [evHist] at h ⊢
    split at h
    · rename_i v s1 h1
      obtain ⟨a, b⟩ := evStep_set (X := X) hc hX hd h1
      simp only [a]
      split at h
      · rename_i he
        rw [if_pos he]
        have := evHist_set hc hX l _ s1 (s1 :: hist) env' st' hist' b (fun s hs => by
          rcases List.mem_cons.1 hs with rfl | hs
          · exact b
          · exact hh s hs) h
        simpa using this
      · rename_i he
        rw [if_neg he]
        split at h
        · rename_i hq
          rw [if_pos hq]
          exact evHist_set hc hX l _ st hist env' st' hist' hd hh h
        · cases h
    · cases h

theorem noCall_fr : CallFr (fun _ _ _ => none) := by
  intro r X hX f xs st x st' hd h
  cases h

theorem evAgain_set (hX : X.top = 0) {env0 env : Env} {hist : List St} {o : KOp} (hh : ∀ s ∈ hist, s[r]? = some Row.dead) (h : evAgain C env0 env hist o = true) : evAgain C env0 env (hist.map (·.set r X)) o = true := by
  unfold evAgain at h ⊢
  rw [List.all_eq_true] at h ⊢
  intro k hk
  have := h k hk
  rw [← List.map_reverse, List.getElem?_map]
  cases hs : hist.reverse[k]? with
  | none => rw [hs] at this; simp at this
  | some s =>
    rw [hs] at this
    simp only [Option.map_some] at this ⊢
    have hd := hh s (by have := List.mem_of_getElem? hs; simpa using this)
    cases he : evStep C (fun _ _ _ => none) o (Env.mix env0 env o.olds) s with
    | none => rw [he] at this; simp at this
    | some p =>
      obtain ⟨v, s2⟩ := p
      rw [he] at this
      rw [(evStep_set (X := X) noCall_fr hX hd he).1]
      exact this

theorem evDraw_set (hc : CallFr call) (hX : X.top = 0) {ops : List KOp} {env' : Env} (hd : st[r]? = some .dead) (h : evDraw C call ops env st = some (env', st')) : evDraw C call ops env (st.set r X) = some (env', st'.set r X) ∧ st'[r]? = some .dead := by
  unfold evDraw at h ⊢
  split at h
  · rename_i e1 s1 hist h1
    obtain ⟨a, b, c⟩ := evHist_set (X := X) hc hX ops env st [st] _ _ _ hd (fun s hs => by simp at hs; subst hs; exact hd) h1
    simp only [List.map_cons, List.map_nil] at a
    simp only [a]
    split at h
    · rename_i hall
      cases h
      rw [if_pos]
      · exact ⟨rfl, b⟩
      · rw [List.all_eq_true] at hall ⊢
        exact fun o ho => evAgain_set hX c (hall o ho)
    · cases h
  · cases h

theorem evLoop_set {body : Env → St → Option (Ex × Env × St)} (hb : ∀ env st x env' st', st[r]? = some Row.dead → body env st = some (x, env', st') → body env (st.set r X) = some (x, env', st'.set r X) ∧ st'[r]? = some Row.dead) :
    ∀ (n : Nat) (env : Env) (st : St) (x : Ex) (env' : Env) (st' : St), st[r]? = some .dead → evLoop body n env st = some (x, env', st') → evLoop body n env (st.set r X) = some (x, env', st'.set r X) ∧ st'[r]? = some .dead
  | 0, env, st, x, env', st', hd, h => by simp [evLoop] at h
  | n + 1, env, st, x, env', st', hd, h => by
    simp only [evLoop] at h ⊢
    split at h
    · rename_i e1 s1 h1
      obtain ⟨a, b⟩ := hb _ _ _ _ _ hd h1
      simp only [a]
      exact evLoop_set hb n e1 s1 x env' st' b h
    · rename_i hnn
      obtain ⟨a, b⟩ := hb _ _ _ _ _ hd h
      rw [a]
      cases x with
      | norm => exact absurd h (hnn _ _)
      | _ => exact ⟨rfl, b⟩

theorem evK_set (hc : CallFr call) (hX : X.top = 0) (fuel : Nat) : ∀ (k : K) (env : Env) (st : St) (x : Ex) (env' : Env) (st' : St), st[r]? = some .dead → evK C call fuel k env st = some (x, env', st') → evK C call fuel k env (st.set r X) = some (x, env', st'.set r X) ∧ st'[r]? = some .dead
  | .skip, env, st, x, env', st', hd, h => by simp only [evK, Option.some.injEq] at h ⊢; cases h; exact ⟨rfl, hd⟩
  | .reg draw ops, env, st, x, env', st', hd, h => by
    simp only [evK, Option.map_eq_some_iff] at h ⊢
    obtain ⟨⟨e1, s1⟩, h1, h2⟩ := h
    cases h2
    cases draw with
    | true =>
      obtain ⟨a, b⟩ := evDraw_set (X := X) hc hX hd (by simpa using h1)
      exact ⟨⟨_, by simpa using a, rfl⟩, b⟩
    | false =>
      obtain ⟨a, b⟩ := evOps_set (X := X) hc hX ops env st _ _ hd (by simpa using h1)
      exact ⟨⟨_, by simpa using a, rfl⟩, b⟩
  | .seq p q, env, st, x, env', st', hd, h => by
    simp only [evK] at h ⊢
    split at h
    · rename_i e1 s1 h1
      obtain ⟨a, b⟩ := evK_set hc hX fuel p env st _ _ _ hd h1
      simp only [a]
      exact evK_set hc hX fuel q e1 s1 x env' st' b h
    · rename_i hnn
      obtain ⟨a, b⟩ := evK_set hc hX fuel p env st _ _ _ hd h
      rw [a]
      cases x with
      | norm => exact absurd h (hnn _ _)
      | _ => exact ⟨rfl, b⟩
  | .cond c p q, env, st, x, env', st', hd, h => by
    simp only [evK] at h ⊢
    split at h
    · rename_i t h1
      try simp only [h1]
      cases t with
      | true =>
        have := evK_set hc hX fuel p env st x env' st' hd (by simpa using h)
        simpa using this
      | false =>
        have := evK_set hc hX fuel q env st x env' st' hd (by simpa using h)
        simpa using this
    · cases h
  | .block id p, env, st, x, env', st', hd, h => by
    simp only [evK] at h ⊢
    split at h
    · rename_i id' e1 s1 h1
      obtain ⟨a, b⟩ := evK_set hc hX fuel p env st _ _ _ hd h1
      simp only [a]
      split at h
      · rename_i hid
        cases h
        simp only [if_pos hid]
        first | exact ⟨rfl, b⟩ | exact ⟨trivial, b⟩
      · rename_i hid
        cases h
        simp only [if_neg hid]
        first | exact ⟨rfl, b⟩ | exact ⟨trivial, b⟩
    · rename_i hnn
      obtain ⟨a, b⟩ := evK_set hc hX fuel p env st _ _ _ hd h
      rw [a]
      cases x with
      | exit id' => exact absurd h (hnn _ _ _)
      | _ => exact ⟨rfl, b⟩
  | .loop p, env, st, x, env', st', hd, h => by
    simp only [evK] at h ⊢
    exact evLoop_set (fun env st x env' st' hd h => evK_set hc hX fuel p env st x env' st' hd h) fuel env st x env' st' hd h
  | .exit id, env, st, x, env', st', hd, h => by simp only [evK, Option.some.injEq] at h ⊢; cases h; exact ⟨rfl, hd⟩
  | .ret, env, st, x, env', st', hd, h => by simp only [evK, Option.some.injEq] at h ⊢; cases h; exact ⟨rfl, hd⟩
  | .no, env, st, x, env', st', hd, h => by simp [evK] at h

theorem evRes_set (hd : st[r]? = some .dead) : ∀ (l : List KRes) (vs : List AV), evRes env st l = some vs → evRes env (st.set r X) l = some vs
  | [], vs, h => h
  | .tmp t :: l, vs, h => by
    simp only [evRes, Option.map_eq_some_iff] at h ⊢
    obtain ⟨a, ha, rfl⟩ := h
    exact ⟨a, evRes_set hd l a ha, rfl⟩
  | .cell t agg n :: l, vs, h => by
    simp only [evRes] at h ⊢
    split at h
    · rename_i cs hcs
      simp only [rd_set hd hcs]
      split at h
      · rename_i v vs' h1 h2
        try simp only [h1]
        simp only [evRes_set hd l vs' h2]
        exact h
      · cases h
    · cases h

theorem shut_set {n0 : Nat} (hn : r < n0) : ∀ k, (∀ inner v, shutV (st.set r X) n0 k inner v = shutV st n0 k inner v) ∧ ∀ inner l, shutVs (st.set r X) n0 k inner l = shutVs st n0 k inner l
  | 0 => ⟨fun _ _ => by simp [shutV], fun _ _ => by simp [shutVs]⟩
  | k + 1 => by
    obtain ⟨h1, h2⟩ := shut_set hn k
    refine ⟨fun inner v => ?_, fun inner l => ?_⟩
    · cases v <;> simp only [shutV, h1, h2]
      rename_i s off len cm gen sz ex
      by_cases hs : s < n0
      · simp only [if_pos hs]
      · simp only [if_neg hs]
        have : rdRow (st.set r X) s off gen (len * sz) = rdRow st s off gen (len * sz) := by
          unfold rdRow
          rw [List.getElem?_set_ne (by omega)]
        rw [this]
    · cases l <;> simp only [shutVs, h1, h2]

theorem leave_set (hX : X.top = 0) {n0 : Nat} (hn : r < n0) (hd : st[r]? = some .dead) (sh : Bool) (v : AV) : leave n0 sh v (st.set r X) = ((leave n0 sh v st).1, (leave n0 sh v st).2.set r X) ∧ (leave n0 sh v st).2[r]? = some .dead := by
  have htake : (st.set r X).take n0 = (st.take n0).set r X := by rw [List.take_set]
  have hdt : (st.take n0)[r]? = some .dead := by rw [List.getElem?_take_of_lt hn]; exact hd
  have hall : ((st.take n0).set r X).all (fun q => decide (q.top ≤ n0)) = (st.take n0).all (fun q => decide (q.top ≤ n0)) := by
    apply Bool.eq_iff_iff.2
    simp only [List.all_eq_true]
    constructor
    · intro h q hq
      obtain ⟨i, hi⟩ := List.mem_iff_getElem?.1 hq
      by_cases hir : r = i
      · subst hir
        rw [hdt] at hi; cases hi
        simp [Row.top]
      · exact h q (List.mem_iff_getElem?.2 ⟨i, by rw [List.getElem?_set_ne hir]; exact hi⟩)
    · intro h q hq
      rcases List.mem_or_eq_of_mem_set hq with hq | rfl
      · exact h q hq
      · simp [hX]
  unfold leave
  rw [htake, hall]
  by_cases h1 : (st.take n0).all (fun q => decide (q.top ≤ n0)) = true
  · rw [if_pos h1, if_pos h1]
    by_cases h2 : v.hi ≤ n0
    · rw [if_pos h2, if_pos h2]; exact ⟨rfl, hdt⟩
    · rw [if_neg h2, if_neg h2]
      cases sh with
      | false => exact ⟨rfl, hd⟩
      | true =>
        simp only [if_true, (shut_set (st := st) (X := X) hn 1000000).1]
        cases hs : shutV st n0 1000000 false v with
        | none => exact ⟨rfl, hd⟩
        | some v' =>
          simp only
          by_cases h3 : v'.hi ≤ n0
          · simp only [if_pos h3]; exact ⟨trivial, hdt⟩
          · simp only [if_neg h3]; exact ⟨trivial, hd⟩
  · rw [if_neg h1, if_neg h1]; exact ⟨rfl, hd⟩

/-- The frame: what goes with a row dead goes alike with it alive. -/
theorem evCall_fr (hg : ∀ f g, C.fns f = some (.ext g) → ∀ (r : Nat) (X : Row), X.top = 0 → ∀ xs st x st', st[r]? = some Row.dead → g xs st = some (x, st') → g xs (st.set r X) = some (x, st'.set r X) ∧ st'[r]? = some Row.dead) (fuel : Nat) : ∀ d, CallFr (evCall C fuel d)
  | 0 => by intro r X hX f xs st x st' hd h; simp [evCall] at h
  | d + 1 => by
    have ih := evCall_fr hg fuel d
    intro r X hX f xs st x st' hd h
    simp only [evCall] at h ⊢
    cases hf : C.fns f with
    | none => rw [hf] at h; simp at h
    | some b =>
      rw [hf] at h
      cases b with
      | ext g => exact hg f g hf r X hX xs st x st' hd h
      | code n res shut body =>
        simp only at h ⊢
        cases hk : evK C (evCall C fuel d) fuel body (xs ++ List.replicate (n - xs.length) undefA) st with
        | none => rw [hk] at h; simp at h
        | some p =>
          obtain ⟨ex, e1, s1⟩ := p
          obtain ⟨a, b⟩ := evK_set (X := X) ih hX fuel body _ st _ _ _ hd hk
          rw [hk] at h
          rw [a]
          cases ex with
          | exit id => simp at h
          | norm =>
            simp only at h ⊢
            cases hr : evRes e1 s1 res with
            | none => rw [hr] at h; simp at h
            | some vs =>
              rw [hr] at h
              simp only [evRes_set b res vs hr, List.length_set, Option.some.injEq] at h ⊢
              obtain ⟨g1, g2⟩ := leave_set (X := X) hX (dead_lt hd) b shut (oneOf vs)
              rw [g1]
              rw [h] at g2 ⊢
              exact ⟨rfl, g2⟩
          | ret =>
            simp only at h ⊢
            cases hr : evRes e1 s1 res with
            | none => rw [hr] at h; simp at h
            | some vs =>
              rw [hr] at h
              simp only [evRes_set b res vs hr, List.length_set, Option.some.injEq] at h ⊢
              obtain ⟨g1, g2⟩ := leave_set (X := X) hX (dead_lt hd) b shut (oneOf vs)
              rw [g1]
              rw [h] at g2 ⊢
              exact ⟨rfl, g2⟩

end
end Go.Eng

set_option linter.unusedSimpArgs false
set_option linter.unusedVariables false
namespace Go.Eng
open Go

/-! ### Loads and stores -/
def rdE (row : Option Row) (off g n : Nat) (agg : Bool) (st : St) : Option (AV × St) :=
  match row with
  | some (.cells cs g' _ _ _) => if g' = g then prE ((cut cs off n).bind (isAggOr agg)) st else none
  | _ => none
theorem loadE_ptr (agg : Bool) (n r off g : Nat) (st : St) : loadE agg n (some (.ptr r off g)) st = rdE (st[r]?) off g n agg st := by
  unfold loadE rdE
  simp only [rd, rdRow]
  cases st[r]? with
  | none => rfl
  | some row => cases row with
    | cells cs g' hh fz ty =>
      simp only
      by_cases h : g' = g
      · simp only [h, if_true]
        cases cut cs off n <;> rfl
      · simp only [h, if_false]
    | _ => rfl
theorem rdE_cells (cs : List AV) (off g n hh : Nat) (fz : Bool) (ty : Nat) (agg : Bool) (st : St) : rdE (some (.cells cs g hh fz ty)) off g n agg st = prE ((cut cs off n).bind (isAggOr agg)) st := by
  unfold rdE; simp
theorem cut_one (cs : List AV) (off : Nat) : cut cs off 1 = (cs[off]?).map fun v => [v] := by
  unfold cut
  cases h : cs[off]? with
  | none =>
    rw [List.getElem?_eq_none_iff] at h
    rw [List.drop_of_length_le h]; simp
  | some v =>
    obtain ⟨hlt, hv⟩ := List.getElem?_eq_some_iff.1 h
    rw [List.drop_eq_getElem_cons hlt]
    simp [hv]
theorem cut_all (cs : List AV) (n : Nat) (h : cs.length = n) : cut cs 0 n = some cs := by
  subst h; unfold cut; simp
theorem cut_four (a b c d : AV) : cut [a, b, c, d] 0 4 = some [a, b, c, d] := by simp [cut]
theorem agg_one (v : AV) : isAggOr false [v] = some v := rfl
theorem agg_all (cs : List AV) : isAggOr true cs = some (.agg cs) := rfl

def faddrE (off : Nat) (x : Option AV) (st : St) : Option (AV × St) :=
  match x with
  | some (.ptr r o g) => prE (some (.ptr r (o + off) g)) st
  | some (.cptr cs) => prE (some (.cptr (cs.drop off))) st
  | _ => none
theorem faddrE_ptr (off r o g : Nat) (st : St) : faddrE off (some (.ptr r o g)) st = some (.ptr r (o + off) g, st) := rfl
theorem faddrE_cptr (off : Nat) (cs : List AV) (st : St) : faddrE off (some (.cptr cs)) st = some (.cptr (cs.drop off), st) := rfl

def storeE (n : Nat) (a v : Option AV) (st : St) : Option (AV × St) :=
  match a, v with
  | some (.ptr r off gen), some v => if v.cells.length = n then (wrRow st r off gen v.cells).map fun st => (undefA, st) else none
  | _, _ => none
def wrE (row : Option Row) (r off g n : Nat) (v : AV) (st : St) : Option (AV × St) :=
  match row with
  | some (.cells cs g' h fz ty) =>
    if v.cells.length = n ∧ g' = g ∧ fz = false ∧ off + n ≤ cs.length ∧ v.cells.all AV.isCell = true then some (undefA, st.set r (.cells (splice cs off v.cells) g' (max h (AV.his v.cells)) fz ty)) else none
  | _ => none
theorem storeE_ptr (n r off g : Nat) (v : AV) (st : St) : storeE n (some (.ptr r off g)) (some v) st = wrE (st[r]?) r off g n v st := by
  unfold storeE wrE
  simp only [wrRow]
  by_cases hn : v.cells.length = n
  · subst hn
    cases st[r]? with
    | none => simp
    | some row => cases row with
      | cells cs g' hh fz ty => by_cases h : g' = g ∧ fz = false ∧ off + v.cells.length ≤ cs.length ∧ v.cells.all AV.isCell = true <;> simp [h]
      | _ => simp
  · simp only [hn, if_false, false_and]
    cases st[r]? with
    | none => rfl
    | some row => cases row <;> rfl
theorem splice_one (cs : List AV) (off : Nat) (v : AV) (h : off < cs.length) : splice cs off [v] = cs.set off v := by
  unfold splice
  simp [List.set_eq_take_append_cons_drop, h]
/-- one cell -/
theorem wrE_one (cs : List AV) (r off g hh ty : Nat) (v : AV) (st : St) (hv : v.isCell = true) (ho : off < cs.length) (hi : v.hi = 0) :
    wrE (some (.cells cs g hh false ty)) r off g 1 v st = some (undefA, st.set r (.cells (cs.set off v) g hh false ty)) := by
  have hc : v.cells = [v] := by cases v <;> simp_all [AV.cells, AV.isCell]
  have hh0 : max hh (AV.his [v]) = hh := by simp [AV.his, hi]
  unfold wrE
  simp only [hc, splice_one cs off v ho, hh0]
  simp [hv]; omega
/-- one cell that refers to rows -/
theorem wrE_ref (cs : List AV) (r off g hh ty : Nat) (v : AV) (st : St) (hv : v.isCell = true) (ho : off < cs.length) :
    wrE (some (.cells cs g hh false ty)) r off g 1 v st = some (undefA, st.set r (.cells (cs.set off v) g (max hh v.hi) false ty)) := by
  have hc : v.cells = [v] := by cases v <;> simp_all [AV.cells, AV.isCell]
  have hh0 : AV.his [v] = v.hi := by simp [AV.his]
  unfold wrE
  simp only [hc, splice_one cs off v ho, hh0]
  simp [hv]; omega
/-- a whole row -/
theorem wrE_all (cs vs : List AV) (r g hh ty n : Nat) (st : St) (hl : cs.length = n) (hn : vs.length = n) (hc : vs.all AV.isCell = true) :
    wrE (some (.cells cs g hh false ty)) r 0 g n (.agg vs) st = some (undefA, st.set r (.cells vs g (max hh (AV.his vs)) false ty)) := by
  unfold wrE
  have h : splice cs 0 vs = vs := by unfold splice; simp; omega
  simp only [AV.cells, h]
  simp [hn, hc]; omega

/-- four cells, all of them -/
theorem wrE_agg4 (c0 c1 c2 c3 a b c d : AV) (r g hh ty : Nat) (st : St) (ha : a.isCell = true) (hb : b.isCell = true) (hc : c.isCell = true) (hd : d.isCell = true) (ia : a.hi = 0) (ib : b.hi = 0) (ic : c.hi = 0) (id : d.hi = 0) :
    wrE (some (.cells [c0, c1, c2, c3] g hh false ty)) r 0 g 4 (.agg [a, b, c, d]) st = some (undefA, st.set r (.cells [a, b, c, d] g hh false ty)) := by
  have h := wrE_all [c0, c1, c2, c3] [a, b, c, d] r g hh ty 4 st rfl rfl (by simp [ha, hb, hc, hd])
  rw [h]
  simp [AV.his, ia, ib, ic, id]
theorem isCell_int (k : IntKind) (n : Int) : (AV.int k n).isCell = true := by simp [AV.isCell]
theorem isCell_str (s : List UInt8) : (AV.str s).isCell = true := by simp [AV.isCell]
theorem isCell_bool (b : Bool) : (AV.bool b).isCell = true := by simp [AV.isCell]
theorem isCell_ptr (r o g : Nat) : (AV.ptr r o g).isCell = true := by simp [AV.isCell]
theorem isCell_nils : AV.nils.isCell = true := by simp [AV.isCell]
theorem isCell_nilp : AV.nilp.isCell = true := by simp [AV.isCell]
theorem isCell_sl (sz : Nat) (es : List (List AV)) (ex : Bool) : (AV.sl sz es ex).isCell = true := by simp [AV.isCell]
theorem isCell_slc (r off len cm gen sz : Nat) (ex : Bool) : (AV.slc r off len cm gen sz ex).isCell = true := by simp [AV.isCell]
theorem isCell_fn (f : Fn) (a b : List AV) : (AV.fn f a b).isCell = true := by simp [AV.isCell]
theorem hi_int (k : IntKind) (n : Int) : (AV.int k n).hi = 0 := by simp [AV.hi]
theorem hi_str (s : List UInt8) : (AV.str s).hi = 0 := by simp [AV.hi]
theorem hi_bool (b : Bool) : (AV.bool b).hi = 0 := by simp [AV.hi]
theorem hi_nils : AV.nils.hi = 0 := by simp [AV.hi]
theorem hi_nilp : AV.nilp.hi = 0 := by simp [AV.hi]
theorem hi_nilf : AV.nilf.hi = 0 := by simp [AV.hi]
theorem hi_sl (sz : Nat) (es : List (List AV)) (ex : Bool) : (AV.sl sz es ex).hi = 0 := by simp [AV.hi]
theorem hi_ptr (r o g : Nat) : (AV.ptr r o g).hi = r + 1 := by simp [AV.hi]
theorem hi_slc (r off len cm gen sz : Nat) (ex : Bool) : (AV.slc r off len cm gen sz ex).hi = r + 1 := by simp [AV.hi]
theorem his_cons (a : AV) (l : List AV) : AV.his (a :: l) = max a.hi (AV.his l) := by simp [AV.his]
theorem hi_agg (l : List AV) : (AV.agg l).hi = AV.his l := by simp [AV.hi]
theorem hi_tup (l : List AV) : (AV.tup l).hi = AV.his l := by simp [AV.hi]

/-! ### New rows -/
def boxE (ty : Nat) (x : Option AV) (st : St) : Option (AV × St) :=
  match x with
  | some v => if v.cells.all AV.isCell then some (.ptr st.length 0 0, st ++ [.cells v.cells 0 (AV.his v.cells) false ty]) else none
  | none => none
theorem boxE_agg (ty : Nat) (vs : List AV) (st : St) (h : vs.all AV.isCell = true) : boxE ty (some (.agg vs)) st = some (.ptr st.length 0 0, st ++ [.cells vs 0 (AV.his vs) false ty]) := by
  unfold boxE; simp [AV.cells, h]
def mkfnE (f : Fn) (a b : Option (List AV)) (st : St) : Option (AV × St) :=
  match a, b with
  | some a, some b => prE (some (.fn f a b)) st
  | _, _ => none
theorem mkfnE_some (f : Fn) (a b : List AV) (st : St) : mkfnE f (some a) (some b) st = some (.fn f a b, st) := rfl

def partsE (zero : List AV) (ps : Option (List (Nat × Nat × AV))) (st : St) : Option (AV × St) :=
  match ps with
  | some ps => prE ((fillA zero ps).map .agg) st
  | none => none
theorem partsE_some (zero : List AV) (ps : List (Nat × Nat × AV)) (st : St) : partsE zero (some ps) st = prE ((fillA zero ps).map .agg) st := rfl
def consP (o n : Nat) (a : Option AV) (l : Option (List (Nat × Nat × AV))) : Option (List (Nat × Nat × AV)) :=
  match a, l with
  | some v, some vs => some ((o, n, v) :: vs)
  | _, _ => none
theorem consP_some (o n : Nat) (a : AV) (l : List (Nat × Nat × AV)) : consP o n (some a) (some l) = some ((o, n, a) :: l) := rfl
theorem fillA_nil (cs : List AV) : fillA cs [] = some cs := rfl
/-- one part of one cell -/
theorem fillA_one (cs : List AV) (o : Nat) (v : AV) (l : List (Nat × Nat × AV)) (hv : v.isCell = true) (ho : o < cs.length) : fillA cs ((o, 1, v) :: l) = fillA (cs.set o v) l := by
  have hc : v.cells = [v] := by cases v <;> simp_all [AV.cells, AV.isCell]
  have ha : v.isAny = false := by cases v <;> simp_all [AV.isAny, AV.isCell]
  simp only [fillA, hc, splice_one cs o v ho, ha]
  simp; omega

def bslE (ty sz n : Nat) (zero : List AV) (ps : Option (List (Nat × Nat × AV))) (st : St) : Option (AV × St) :=
  match ps with
  | some ps => match fillA (repCells zero n) ps with
    | some cs =>
      if AV.his cs = 0 then prE (some (.sl sz (chunk sz n cs) true)) st
      else if cs.all AV.isCell then some (.slc st.length 0 n n 0 sz true, st ++ [.cells cs 0 (AV.his cs) false ty]) else none
    | none => none
  | none => none
theorem bslE_ref (ty sz n : Nat) (zero : List AV) (ps : List (Nat × Nat × AV)) (st : St) (cs : List AV) (hf : fillA (repCells zero n) ps = some cs) (hh : AV.his cs ≠ 0) (hc : cs.all AV.isCell = true) :
    bslE ty sz n zero (some ps) st = some (.slc st.length 0 n n 0 sz true, st ++ [.cells cs 0 (AV.his cs) false ty]) := by
  unfold bslE; simp [hf, hh, hc]
theorem bslE_pure (ty sz n : Nat) (zero : List AV) (ps : List (Nat × Nat × AV)) (st : St) (cs : List AV) (hf : fillA (repCells zero n) ps = some cs) (hh : AV.his cs = 0) :
    bslE ty sz n zero (some ps) st = some (.sl sz (chunk sz n cs) true, st) := by
  unfold bslE; simp [hf, hh, prE]
theorem rep_one (z : AV) : repCells [z] 3 = [z, z, z] := rfl

def appE (ty sz bytes : Nat) (zero : List AV) (zeros : Bool) (s x : Option AV) (st : St) : Option (AV × St) :=
  match s, x with
  | some s, some x =>
    if zeros then match natOf x with
      | some k => if (k + 1) * (bytes + 1) ≤ small then aAppend st ty sz bytes s (repCells zero k) k else none
      | none => none
    else match elems st x, lenA x with
      | some new, some k => aAppend st ty sz bytes s new k
      | _, _ => none
  | _, _ => none
theorem appE_sl (ty sz bytes : Nat) (zero : List AV) (s : AV) (z : Nat) (es : List (List AV)) (ex : Bool) (st : St) : appE ty sz bytes zero false (some s) (some (.sl z es ex)) st = aAppend st ty sz bytes s es.flatten es.length := rfl
theorem appE_str (ty sz bytes : Nat) (zero : List AV) (s : AV) (b : List UInt8) (st : St) : appE ty sz bytes zero false (some s) (some (.str b)) st = aAppend st ty sz bytes s (b.map fun c => .int .u8 c.toNat) b.length := rfl

def rangeE (x : Option AV) (st : St) : Option (AV × St) :=
  match x with
  | some (.str s) => some (.ptr st.length 0 0, st ++ [.siter s 0])
  | _ => none
theorem rangeE_str (s : List UInt8) (st : St) : rangeE (some (.str s)) st = some (.ptr st.length 0 0, st ++ [.siter s 0]) := rfl
def nxE (row : Option Row) (r : Nat) (st : St) : Option (AV × St) :=
  match row with
  | some (.siter s pos) =>
    if pos < s.length then some (.tup [.bool true, .int .i64 pos, .int .i32 (Utf8.decode ⟨s.toArray⟩ pos).1], st.set r (.siter s (pos + (Utf8.decode ⟨s.toArray⟩ pos).2)))
    else some (.tup [.bool false], st)
  | _ => none
def nextE (x : Option AV) (st : St) : Option (AV × St) :=
  match x with
  | some (.ptr r 0 0) => nxE (st[r]?) r st
  | _ => none
theorem nextE_ptr (r : Nat) (st : St) : nextE (some (.ptr r 0 0)) st = nxE (st[r]?) r st := rfl
theorem nxE_more (s : List UInt8) (pos r : Nat) (st : St) (h : pos < s.length) : nxE (some (.siter s pos)) r st = some (.tup [.bool true, .int .i64 pos, .int .i32 (Utf8.decode ⟨s.toArray⟩ pos).1], st.set r (.siter s (pos + (Utf8.decode ⟨s.toArray⟩ pos).2))) := by
  simp [nxE, h]
theorem nxE_end (s : List UInt8) (pos r : Nat) (st : St) (h : ¬ pos < s.length) : nxE (some (.siter s pos)) r st = some (.tup [.bool false], st) := by
  simp [nxE, h]

section
variable {C : Ctx} {call : CallF} {env : Env} {st : St}
theorem evOp_faddr (off : Nat) (x : X) : evOp C call (.faddr off x) env st = faddrE off (x.ev C env) st := rfl
theorem evOp_store (n : Nat) (a v : X) : evOp C call (.store n a v) env st = storeE n (a.ev C env) (v.ev C env) st := rfl
theorem evOp_box (ty : Nat) (x : X) : evOp C call (.box ty x) env st = boxE ty (x.ev C env) st := rfl
theorem evOp_mkfn (f : Fn) (a b : List X) : evOp C call (.mkfn f a b) env st = mkfnE f (evs C env a) (evs C env b) st := rfl
theorem evOp_build (zero : List AV) (ps : List (Nat × Nat × X)) : evOp C call (.build zero ps) env st = partsE zero (evParts C env ps) st := rfl
theorem evOp_bslice (ty sz n : Nat) (zero : List AV) (ps : List (Nat × Nat × X)) : evOp C call (.bslice ty sz n zero ps) env st = bslE ty sz n zero (evParts C env ps) st := rfl
theorem evOp_append (ty sz bytes : Nat) (zero : List AV) (zeros : Bool) (s x : X) : evOp C call (.append ty sz bytes zero zeros s x) env st = appE ty sz bytes zero zeros (s.ev C env) (x.ev C env) st := rfl
theorem evParts_nil : evParts C env [] = some [] := rfl
theorem evParts_cons (o n : Nat) (x : X) (l : List (Nat × Nat × X)) : evParts C env ((o, n, x) :: l) = consP o n (x.ev C env) (evParts C env l) := rfl
theorem evOp_range (x : X) : evOp C call (.range x) env st = rangeE (x.ev C env) st := rfl
theorem evOp_next (x : X) : evOp C call (.next x) env st = nextE (x.ev C env) st := by
  unfold evOp nextE nxE
  simp only
  cases x.ev C env with
  | none => rfl
  | some v => cases v with
    | ptr r o g => cases o with
      | zero => cases g with
        | zero =>
          simp only
          cases st[r]? with
          | none => rfl
          | some row => cases row with
            | siter s pos => by_cases h : pos < s.length <;> simp [h]
            | _ => rfl
        | succ g => rfl
      | succ o => rfl
    | _ => rfl
theorem evRes_cell (t : Nat) (agg : Bool) (n : Nat) (l : List KRes) : evRes env st (.cell t agg n :: l) = consO ((loadE agg n (some (env.get t)) st).map (·.1)) (evRes env st l) := by
  simp only [evRes, loadE]
  cases h : rd st (env.get t) n with
  | none => simp [consO]
  | some cs =>
    simp only [prE]
    cases isAggOr agg cs <;> simp [consO]
    cases evRes env st l <;> rfl

/-! ### Which row stands where -/
theorem get_old {st l : St} {r : Nat} (h : r < st.length) : (st ++ l)[r]? = st[r]? := List.getElem?_append_left h
theorem get_new0 {st l : St} {a : Row} : (st ++ a :: l)[st.length]? = some a := by simp
theorem get_new1 {st l : St} {a b : Row} : (st ++ a :: b :: l)[st.length + 1]? = some b := by
  rw [List.getElem?_append_right (by omega)]; simp
theorem get_new2 {st l : St} {a b c : Row} : (st ++ a :: b :: c :: l)[st.length + 2]? = some c := by
  rw [List.getElem?_append_right (by omega)]; simp
theorem set_old {st l : St} {r : Nat} {x : Row} (h : r < st.length) : (st ++ l).set r x = st.set r x ++ l := by
  rw [List.set_append_left _ _ h]
theorem set_new0 {st l : St} {a x : Row} : (st ++ a :: l).set st.length x = st ++ x :: l := by
  rw [List.set_append_right _ _ (by omega)]; simp
theorem set_new1 {st l : St} {a b x : Row} : (st ++ a :: b :: l).set (st.length + 1) x = st ++ a :: x :: l := by
  rw [List.set_append_right _ _ (by omega)]; simp
theorem set_new2 {st l : St} {a b c x : Row} : (st ++ a :: b :: c :: l).set (st.length + 2) x = st ++ a :: b :: x :: l := by
  rw [List.set_append_right _ _ (by omega)]; simp

theorem get_new3 {st l : St} {a b c d : Row} : (st ++ a :: b :: c :: d :: l)[st.length + 3]? = some d := by
  rw [List.getElem?_append_right (by omega)]; simp
theorem get_new4 {st l : St} {a b c d e : Row} : (st ++ a :: b :: c :: d :: e :: l)[st.length + 4]? = some e := by
  rw [List.getElem?_append_right (by omega)]; simp
theorem set_new3 {st l : St} {a b c d x : Row} : (st ++ a :: b :: c :: d :: l).set (st.length + 3) x = st ++ a :: b :: c :: x :: l := by
  rw [List.set_append_right _ _ (by omega)]; simp

/-- Rows that refer to none beyond them all. -/
def Good (st : St) : Prop := ∀ r ∈ st, r.top ≤ st.length
theorem Good.set {st : St} (h : Good st) {r : Nat} {x : Row} (hx : x.top ≤ st.length) : Good (st.set r x) := by
  intro y hy
  rw [List.length_set]
  rcases List.mem_or_eq_of_mem_set hy with h1 | h1
  · exact h y h1
  · subst h1; exact hx
theorem Good.nil : Good [] := fun _ h => by cases h
theorem Good.push {st l : St} (h : Good st) (hl : ∀ r ∈ l, r.top ≤ st.length + l.length) : Good (st ++ l) := by
  intro y hy
  rw [List.length_append]
  rcases List.mem_append.1 hy with h1 | h1
  · have := h y h1; omega
  · exact hl y h1
theorem leave_drop {st l : St} {n0 : Nat} {sl : Bool} {v : AV} (hn : st.length = n0) (hg : Good st) (hv : v.hi ≤ n0) : leave n0 sl v (st ++ l) = (v, st) := by
  subst hn
  unfold leave
  have h1 : (st ++ l).take st.length = st := by simp
  rw [h1]
  rw [if_pos (by rw [List.all_eq_true]; intro r hr; simpa using hg r hr), if_pos hv]
theorem leave_keep {st : St} {n0 : Nat} {sl : Bool} {v : AV} (hn : st.length = n0) (hv : v.hi ≤ n0) : leave n0 sl v st = (v, st) := by
  subst hn
  unfold leave
  rw [List.take_length]
  split <;> simp [hv]
theorem leave_row {st : St} {sl : Bool} {v : AV} {r : Nat} {x : Row} (hv : v.hi = 0) : leave st.length sl v (st.set r x) = (v, st.set r x) := leave_keep (by simp) (by omega)
theorem leave_setb {st : St} {sl : Bool} {b : Bool} {r : Nat} {x : Row} : leave st.length sl (.bool b) (st.set r x) = (.bool b, st.set r x) := leave_row (by simp [AV.hi])
theorem leave_sets {st : St} {sl : Bool} {b : List UInt8} {r : Nat} {x : Row} : leave st.length sl (.str b) (st.set r x) = (.str b, st.set r x) := leave_row (by simp [AV.hi])
theorem leave_set0 {st : St} {sl : Bool} {r : Nat} {x : Row} : leave st.length sl (.tup []) (st.set r x) = (.tup [], st.set r x) := leave_row (by simp [AV.hi, AV.his])
theorem leave_setn {st : St} {sl : Bool} {r : Nat} {x : Row} : leave st.length sl .nils (st.set r x) = (.nils, st.set r x) := leave_row (by simp [AV.hi])
theorem leave0 {st : St} {sl : Bool} {b : Bool} : leave 0 sl (.bool b) st = (.bool b, []) := by
  unfold leave
  simp [AV.hi]
theorem leave_nil {st : St} {sl : Bool} : leave st.length sl (.tup []) st = (.tup [], st) := leave_same (by simp [AV.hi, AV.his])
end

/-! ### Drawn regions with effects -/
section
variable {C : Ctx} {env : Env} {st : St} {Q : Ex → Env → St → Prop} {R : Env → St → List St → Prop} {l : List KOp} {h : List St}
def WH (C : Ctx) (l : List KOp) (env : Env) (st : St) (h : List St) (R : Env → St → List St → Prop) : Prop := ∃ e s h', evHist C (callW C) l env st h = some (e, s, h') ∧ R e s h'
/-- What is asked at a drawn region's end. -/
def againQ (C : Ctx) (ops : List KOp) (env0 : Env) (Q : Ex → Env → St → Prop) (e : Env) (s : St) (h : List St) : Prop := ops.all (evAgain C env0 e h) = true ∧ Q .norm e s
theorem W_draw (ops : List KOp) : W C (.reg true ops) env st Q ↔ WH C ops env st [st] (againQ C ops env Q) := by
  unfold W WH againQ
  rw [evW_reg]
  simp only [if_true]
  unfold evDraw
  cases hh : evHist C (callW C) ops env st [st] with
  | none => simp only [Option.map_none, ex_none3]
  | some p =>
    obtain ⟨e, s, h'⟩ := p
    simp only [ex_some3]
    split
    · rename_i hc
      simp only [Option.map_some, ex_some3, hc, true_and]
    · rename_i hc
      simp only [Option.map_none, ex_none3, hc, false_and, Bool.false_eq_true]
theorem WH_nil : WH C [] env st h R ↔ R env st h := by simp only [WH, evHist, ex_some3]
def histQ (C : Ctx) (d : Option Nat) (o : KO) (l : List KOp) (env : Env) (st : St) (h : List St) (R : Env → St → List St → Prop) (r : Option (AV × St)) : Prop :=
  match r with
  | some (v, s) => if o.eff then WH C l (env.put d v) s (s :: h) R else quietOk o v = true ∧ WH C l (env.put d v) st h R
  | none => False
theorem histQ_eff (d : Option Nat) (o : KO) (v : AV) (s : St) (he : o.eff = true) : histQ C d o l env st h R (some (v, s)) ↔ WH C l (env.put d v) s (s :: h) R := by simp [histQ, he]
theorem histQ_pure (d : Option Nat) (o : KO) (v : AV) (s : St) (he : o.eff = false) (hq : o.lays = false) : histQ C d o l env st h R (some (v, s)) ↔ WH C l (env.put d v) st h R := by simp [histQ, he, quiet_of_lays hq]
theorem WH_op (d : Option Nat) (o : KO) (a b : List Nat) : WH C (⟨d, o, none, a, b⟩ :: l) env st h R ↔ histQ C d o l env st h R (evOp C (callW C) o env st) := by
  unfold WH histQ
  simp only [evHist]
  show (∃ e s h', (match evOp C (callW C) o env st with
    | some (v, st') =>
      if o.eff then evHist C (callW C) l (env.put d v) st' (st' :: h)
      else if quietOk o v then evHist C (callW C) l (env.put d v) st h else none
    | none => none) = some (e, s, h') ∧ R e s h') ↔ _
  cases evOp C (callW C) o env st with
  | none => simp only [ex_none3]
  | some p =>
    obtain ⟨v, s⟩ := p
    simp only
    by_cases he : o.eff = true
    · simp only [he, if_true]; exact Iff.rfl
    · simp only [he, if_false, Bool.false_eq_true]
      by_cases hq : quietOk o v = true
      · simp only [hq, if_true, true_and]; exact Iff.rfl
      · simp only [hq, if_false, Bool.false_eq_true, ex_none3, false_and]
theorem again_nil (env0 e : Env) (h : List St) (d : Option Nat) (o : KO) (g : Option (Nat × Bool)) (olds : List Nat) : evAgain C env0 e h ⟨d, o, g, [], olds⟩ = true := rfl
theorem again_one (env0 e : Env) (h : List St) (d : Nat) (o : KO) (k : Nat) (olds : List Nat) {s s' : St} {v : AV} (hs : h.reverse[k]? = some s) (hv : evOp C (fun _ _ _ => none) o (Env.mix env0 e olds) s = some (v, s')) (hq : o.lays = false) (hd : e.get d = v) : evAgain C env0 e h ⟨some d, o, none, [k], olds⟩ = true := by
  unfold evAgain
  simp only [List.all_cons, List.all_nil, Bool.and_true, hs]
  show (match evOp C (fun _ _ _ => none) o (Env.mix env0 e olds) s with
    | some (v, _) => quietOk o v && AV.same v (e.get d)
    | none => false) = true
  rw [hv]
  simp only [quiet_of_lays hq, hd, AV.same_refl, Bool.and_self]
theorem again_two (env0 e : Env) (h : List St) (d : Nat) (o : KO) (k j : Nat) (olds : List Nat) (h1 : evAgain C env0 e h ⟨some d, o, none, [k], olds⟩ = true) (h2 : evAgain C env0 e h ⟨some d, o, none, [j], olds⟩ = true) : evAgain C env0 e h ⟨some d, o, none, [k, j], olds⟩ = true := by
  unfold evAgain at *
  simp only [List.all_cons, List.all_nil, Bool.and_true] at h1 h2 ⊢
  exact Bool.and_eq_true_iff.2 ⟨h1, h2⟩
end
theorem eff_mv (x : X) : (KO.mv x).eff = false := by simp [KO.eff]
theorem lays_mv (x : X) : (KO.mv x).lays = false := by simp [KO.lays]
theorem eff_pick (a b c : X) : (KO.pick a b c).eff = false := by simp [KO.eff]
theorem lays_pick (a b c : X) : (KO.pick a b c).lays = false := by simp [KO.lays]
theorem eff_build (z : List AV) (p : List (Nat × Nat × X)) : (KO.build z p).eff = false := by simp [KO.eff]
theorem lays_build (z : List AV) (p : List (Nat × Nat × X)) : (KO.build z p).lays = false := by simp [KO.lays]
theorem eff_load (a : Bool) (n : Nat) (x : X) : (KO.load a n x).eff = false := by simp [KO.eff]
theorem lays_load (a : Bool) (n : Nat) (x : X) : (KO.load a n x).lays = false := by simp [KO.lays]
theorem eff_nilchk (x : X) : (KO.nilchk x).eff = false := by simp [KO.eff]
theorem lays_nilchk (x : X) : (KO.nilchk x).lays = false := by simp [KO.lays]
theorem eff_faddr (n : Nat) (x : X) : (KO.faddr n x).eff = false := by simp [KO.eff]
theorem lays_faddr (n : Nat) (x : X) : (KO.faddr n x).lays = false := by simp [KO.lays]
theorem eff_field (a : Bool) (o n : Nat) (x : X) : (KO.field a o n x).eff = false := by simp [KO.eff]
theorem lays_field (a : Bool) (o n : Nat) (x : X) : (KO.field a o n x).lays = false := by simp [KO.lays]
theorem eff_bin (o : BinOp) (q : EqS) (x y : X) : (KO.bin o q x y).eff = false := by simp [KO.eff]
theorem lays_bin (o : BinOp) (q : EqS) (x y : X) : (KO.bin o q x y).lays = false := by simp [KO.lays]
theorem eff_un (o : UnOp) (x : X) : (KO.un o x).eff = false := by simp [KO.eff]
theorem lays_un (o : UnOp) (x : X) : (KO.un o x).lays = false := by simp [KO.lays]
theorem eff_conv (k : ConvK) (x : X) : (KO.conv k x).eff = false := by simp [KO.eff]
theorem lays_conv (k : ConvK) (x : X) : (KO.conv k x).lays = false := by simp [KO.lays]
theorem eff_mkfn (f : Fn) (a b : List X) : (KO.mkfn f a b).eff = false := by simp [KO.eff]
theorem lays_mkfn (f : Fn) (a b : List X) : (KO.mkfn f a b).lays = false := by simp [KO.lays]
theorem eff_mkif (t : TypeId) (x : X) : (KO.mkif t x).eff = false := by simp [KO.eff]
theorem lays_mkif (t : TypeId) (x : X) : (KO.mkif t x).lays = false := by simp [KO.lays]
theorem eff_slice (k : SliceK) (x : X) (a b c : Option X) : (KO.slice k x a b c).eff = false := by simp [KO.eff]
theorem lays_slice (k : SliceK) (x : X) (a b c : Option X) : (KO.slice k x a b c).lays = false := by simp [KO.lays]
theorem eff_iaddr (a : Option Nat) (n : Nat) (x i : X) : (KO.iaddr a n x i).eff = false := by simp [KO.eff]
theorem lays_iaddr (a : Option Nat) (n : Nat) (x i : X) : (KO.iaddr a n x i).lays = false := by simp [KO.lays]
theorem eff_ixs (x i : X) : (KO.ixs x i).eff = false := by simp [KO.eff]
theorem lays_ixs (x i : X) : (KO.ixs x i).lays = false := by simp [KO.lays]
theorem eff_extract (x : X) (i : Nat) : (KO.extract x i).eff = false := by simp [KO.eff]
theorem lays_extract (x : X) (i : Nat) : (KO.extract x i).lays = false := by simp [KO.lays]
theorem eff_len (k : LenK) (x : X) : (KO.len k x).eff = false := by simp [KO.eff]
theorem lays_len (k : LenK) (x : X) : (KO.len k x).lays = false := by simp [KO.lays]
theorem eff_alloc (t : Nat) (z : List AV) : (KO.alloc t z).eff = true := by simp [KO.eff]
theorem eff_box (t : Nat) (x : X) : (KO.box t x).eff = true := by simp [KO.eff]
theorem eff_store (n : Nat) (a v : X) : (KO.store n a v).eff = true := by simp [KO.eff]
theorem eff_call (f : X) (l : List X) : (KO.call f l).eff = true := by simp [KO.eff]
theorem eff_append (a b c : Nat) (z : List AV) (q : Bool) (x y : X) : (KO.append a b c z q x y).eff = true := by simp [KO.eff]
end Go.Eng

set_option linter.unusedSimpArgs false
set_option linter.unusedVariables false
namespace Go.Eng
open Go

def ExtFr (C : Ctx) : Prop := ∀ f g, C.fns f = some (.ext g) → ∀ (r : Nat) (X : Row), X.top = 0 → ∀ xs st x st', st[r]? = some Row.dead → g xs st = some (x, st') → g xs (st.set r X) = some (x, st'.set r X) ∧ st'[r]? = some Row.dead

theorem callW_fr {C : Ctx} (hg : ExtFr C) {r : Nat} {X : Row} (hX : X.top = 0) {f : Nat} {xs : List AV} {st : St} {x : AV} {st' : St} (hd : st[r]? = some Row.dead) (h : callW C f xs st = some (x, st')) :
    callW C f xs (st.set r X) = some (x, st'.set r X) := by
  obtain ⟨n, hn⟩ := callW_ex h
  exact callW_of (evCall_fr hg n n r X hX f xs st x st' hd hn).1

theorem rows_step {C : Ctx} (hg : ExtFr C) {f : Nat} {xs : List AV} {v : AV} {m : Nat} (h : callW C f xs (List.replicate m .dead) = some (v, List.replicate m .dead)) (st : St) (hm : st.length = m) (ht : ∀ r ∈ st, r.top = 0) :
    ∀ i, i ≤ m → callW C f xs (st.take i ++ List.replicate (m - i) .dead) = some (v, st.take i ++ List.replicate (m - i) .dead)
  | 0, _ => by simpa using h
  | i + 1, hi => by
    have ih := rows_step hg h st hm ht i (by omega)
    have hlt : i < st.length := by omega
    have e1 : m - i = (m - (i + 1)) + 1 := by omega
    have e2 : (st.take i ++ List.replicate (m - i) Row.dead).set i st[i] = st.take (i + 1) ++ List.replicate (m - (i + 1)) Row.dead := by
      rw [e1, List.replicate_succ, List.set_append_right _ _ (by simp; omega)]
      have e3 : i - (st.take i).length = 0 := by simp; omega
      have e4 : st.take (i + 1) = st.take i ++ [st[i]] := by rw [← List.take_append_getElem hlt]
      rw [e3, List.set_cons_zero, e4, List.append_assoc]
      rfl
    have hd : (st.take i ++ List.replicate (m - i) Row.dead)[i]? = some .dead := by
      rw [List.getElem?_append_right (by simp; omega)]
      have e3 : i - (st.take i).length = 0 := by simp; omega
      rw [e3, e1]; simp
    have := callW_fr hg (ht st[i] (by simp)) hd ih
    rwa [e2] at this

/-- .. at all rows at once. -/
theorem rows_any {C : Ctx} (hg : ExtFr C) {f : Nat} {xs : List AV} {v : AV} (st : St) (ht : ∀ r ∈ st, r.top = 0) (h : callW C f xs (List.replicate st.length .dead) = some (v, List.replicate st.length .dead)) : callW C f xs st = some (v, st) := by
  have := rows_step hg h st rfl ht st.length (Nat.le_refl _)
  simpa using this

/-- The entries of this program know no rows of old. -/
theorem extFr_of {C : Ctx} (h : ∀ f g, C.fns f = some (.ext g) → g = xNoEscape ∨ g = xIndexByte ∨ g = xCount ∨ ∃ t, g = xMakeNoZero t) : ExtFr C := by
  intro f g hf r X hX xs st x st' hd hx
  have hlt := (List.getElem?_eq_some_iff.1 hd).1
  rcases h f g hf with rfl | rfl | rfl | ⟨t, rfl⟩
  · unfold xNoEscape at hx ⊢
    split at hx
    · cases hx; exact ⟨rfl, hd⟩
    · cases hx
  · unfold xIndexByte at hx ⊢
    split at hx
    · cases hx; exact ⟨rfl, hd⟩
    · cases hx
  · unfold xCount at hx ⊢
    split at hx
    · cases hx; exact ⟨rfl, hd⟩
    · cases hx
  · unfold xMakeNoZero at hx ⊢
    split at hx
    · split at hx
      · rename_i n hc
        cases hx
        refine ⟨?_, by rw [List.getElem?_append_left hlt]; exact hd⟩
        rw [if_pos hc]
        simp only [List.length_set, List.set_append_left _ _ hlt]
      · cases hx
    · cases hx
end Go.Eng

