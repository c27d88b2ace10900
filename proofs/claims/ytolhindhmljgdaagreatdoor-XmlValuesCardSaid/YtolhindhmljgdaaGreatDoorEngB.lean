/-
  The engine, part 12: conversions as operations; small operations.
  Conditions: none.
-/
import Derived.Test.YtolhindhmljgdaaGreatDoorEngA
import Derived.IntWalk
import Derived.Lib.UnsafeStr
import Derived.Lib.Builder
set_option linter.unusedVariables false
set_option linter.unusedSimpArgs false
set_option linter.unnecessarySimpa false
set_option linter.unusedSectionVars false
set_option linter.unusedSimpArgs false
namespace Go.Eng
open Go

section
variable {P : Program} {W0 w : World} {μ : Pls} {st : St}

theorem un_ok {op : UnOp} {x z : AV} {u : Value} (hx : VR w μ st x u) (h : aUn op x = some z) : ∃ r, (Op.unary op u).run P w = .ok r w ∧ VR w μ st z r := by
  unfold aUn at h
  split at h
  · cases h; cases hx; exact ⟨_, by simp [Op.unary, Op.intArith], .int _ _⟩
  · cases h; cases hx; exact ⟨_, by simp [Op.unary], .bool _⟩
  · cases h; cases hx; exact ⟨_, by simp [Op.unary, Op.intBits], .int _ _⟩
  · cases h

theorem runesOf_run {ad : Addr} {len cap : Nat} {cs : List AV} {b : List UInt8} {vs : List Value} (hv : vs.length = len) (hcell : ∀ (i : Nat) u, vs[i]? = some u → w.cell? (ad.add i) = some u) (hr : VRs w μ st cs vs) (hb : runesOf cs = some b) :
    (Conv.runesToString (.slice (some ad) len cap)).run P w = .ok (.string ⟨b.toArray⟩) w := by
  have key : ∀ (cs : List AV) (vs : List Value) (b : List UInt8) (acc : ByteArray), VRs w μ st cs vs → runesOf cs = some b →
      ((do
        let mut s := acc
        for c in vs do
          let .int .i32 n := c | stuck "runesToString: rune expected"
          s := s ++ Utf8.encode n
        pure (.string s)) : Sem Value).run P w = .ok (.string ⟨acc.data ++ b.toArray⟩) w := by
    intro cs
    induction cs with
    | nil =>
      intro vs b acc hr hb
      simp [runesOf] at hb; subst hb
      have : vs = [] := by have := hr.1; simpa using this.symm
      subst this
      simp
    | cons x cs ih =>
      intro vs b acc hr hb
      cases vs with
      | nil => have := hr.1; simp at this
      | cons v vs =>
        cases x <;> try (simp [runesOf] at hb; done)
        rename_i k n
        cases k <;> try (simp [runesOf] at hb; done)
        simp [runesOf] at hb
        obtain ⟨b', h1, rfl⟩ := hb
        have hv := (hr.2 0 _ _ rfl rfl).int_inv
        subst hv
        have := ih vs b' (acc ++ Utf8.encode n) ⟨by have := hr.1; simpa using this, fun i x v hx hv => hr.2 (i + 1) x v (by simpa using hx) (by simpa using hv)⟩ h1
        simp only [List.forIn_cons, Sem.run_bind, Sem.run_pure, Result.andThen_ok] at this ⊢
        rw [this]
        congr 2
        apply ByteArray.ext
        apply Array.ext'
        simp
  have := key cs vs b .empty hr hb
  unfold Conv.runesToString
  simp only [Sem.run_bind]
  rw [← hv, run_loadCells_list w ad vs hcell]
  simp only [Result.andThen_ok]
  rw [← Array.forIn_toList]
  simp only [Sem.run_bind] at this
  simp only [List.toList_toArray]
  refine Eq.trans this ?_
  congr 2
  apply ByteArray.ext
  simp

/-- A slice over a new block that nobody writes. -/
theorem sl_new (hs : Sim W0 w μ st) {w' : World} (q : Quiet w w') {B : Nat} (hB : w.heap.size ≤ B) {c : Array Value} {ty : TypeId} {fr : Nat × Nat} (hb : w'.heap[B]? = some (.cells c ty fr)) {sz cap : Nat} {es : List (List AV)} {ex : Bool}
    (h1 : es.length ≤ cap) (h3 : ex = true → cap = es.length) (hn : ∀ (i : Nat) e, es[i]? = some e → e.length = sz ∧ AV.his e = 0)
    (hc : ∀ (i : Nat) e, es[i]? = some e → ∀ (j : Nat) x, e[j]? = some x → ∃ v, c[i * sz + j]? = some v ∧ VR w μ st x v) : VR w' μ st (.sl sz es ex) (.slice (some ⟨B, 0, none⟩) es.length cap) := by
  have e := hs.quiet_ext q
  have hno : ¬ Own μ st B := fun ho => by have := (hs.own_ge ho).2; omega
  refine .sl (fun i j => c.getD (i * sz + j) Go.undef) h1 h3 hn (fun i x hi j y hj => ?_) (fun i x hi j y hj => ?_)
  · obtain ⟨v, hv, _⟩ := hc i x hi j y hj
    refine ⟨⟨rfl, hno⟩, ?_⟩
    simp only [World.cell?, hb, Nat.zero_add]
    simp [Array.getD_eq_getD_getElem?, hv]
  · obtain ⟨v, hv, hr⟩ := hc i x hi j y hj
    have : c.getD (i * sz + j) Go.undef = v := by simp [Array.getD_eq_getD_getElem?, hv]
    rw [this]
    exact hr.ext e

theorem run_choose_cap (need old : Nat) (t : TypeId) : ∃ c, need ≤ c ∧ (choose (.appendCap need old t)).run P w = .ok c w.drew := by
  refine ⟨_, ?_, by simp [Question.forced]; rfl⟩
  simp only [Question.cut]; omega

theorem runes_ok (s : List UInt8) : ∀ (bound i : Nat) (acc : Array Value), ∃ vs : List Value, Conv.runesFrom ⟨s.toArray⟩ bound i acc = acc ++ vs.toArray ∧ VRs w μ st (runesFromA s bound i) vs ∧ AV.his (runesFromA s bound i) = 0
  | 0, i, acc => ⟨[], by simp [Conv.runesFrom], by simp [runesFromA, VRs], by simp [runesFromA, AV.his]⟩
  | bound + 1, i, acc => by
    have hsz : (ByteArray.mk s.toArray).size = s.length := by simp [ByteArray.size]
    unfold Conv.runesFrom runesFromA
    rw [hsz]
    by_cases h : i < s.length
    · rw [if_pos h, if_pos h]
      obtain ⟨vs, h1, h2, h3⟩ := runes_ok s bound (i + (Utf8.decode ⟨s.toArray⟩ i).2) (acc.push (.int .i32 (Int.ofNat (Utf8.decode ⟨s.toArray⟩ i).1)))
      refine ⟨.int .i32 (Int.ofNat (Utf8.decode ⟨s.toArray⟩ i).1) :: vs, ?_, ?_, ?_⟩
      · simp only [h1]
        apply Array.ext'
        simp
      · refine ⟨by simp [h2.1], fun j x v hx hv => ?_⟩
        cases j with
        | zero => simp at hx hv; subst hx; subst hv; exact .int _ _
        | succ j => exact h2.2 j x v (by simpa using hx) (by simpa using hv)
      · simp [AV.his, AV.hi, h3]
    · rw [if_neg h, if_neg h]
      exact ⟨[], by simp, by simp [VRs], by simp [AV.his]⟩

theorem give_conv (hs : Sim W0 w μ st) {src dst : TypeId} {k : ConvK}
    (hk : (∃ a b, P.underlying src = some (.int a) ∧ P.underlying dst = some (.int b) ∧ k = .toInt b) ∨ (∃ a, P.underlying src = some (.int a) ∧ P.underlying dst = some .string ∧ k = .runeToStr) ∨
      (P.underlying src = some .string ∧ P.underlying dst = some .string ∧ k = .same) ∨ (∃ e, P.underlying src = some .string ∧ P.underlying dst = some (.slice e) ∧ P.underlying e = some (.int .u8) ∧ k = .strToBytes) ∨
      (∃ e, P.underlying src = some .string ∧ P.underlying dst = some (.slice e) ∧ P.underlying e = some (.int .i32) ∧ k = .strToRunes) ∨ (∃ e, P.underlying src = some (.slice e) ∧ P.underlying dst = some .string ∧ P.underlying e = some (.int .u8) ∧ k = .bytesToStr) ∨
      (∃ e, P.underlying src = some (.slice e) ∧ P.underlying dst = some .string ∧ P.underlying e = some (.int .i32) ∧ k = .runesToStr))
    {x y : AV} {v : Value} (hx : VR w μ st x v) (hy : aConv st k x = some y) {s : Sem Next} (hrun : s.run P w = ((convert src dst v).run P w).andThen fun v w' => .ok (.value v) w') : Gives P W0 w μ st s y st := by
  rcases hk with ⟨a, b, h1, h2, rfl⟩ | ⟨a, h1, h2, rfl⟩ | ⟨h1, h2, rfl⟩ | ⟨e, h1, h2, h3, rfl⟩ | ⟨e, h1, h2, h3, rfl⟩ | ⟨e, h1, h2, h3, rfl⟩ | ⟨e, h1, h2, h3, rfl⟩
  · cases x <;> simp [aConv] at hy
    subst hy
    cases hx
    refine Gives.pure hs ?_ (.int _ _)
    rw [hrun]
    simp [convert, run_underlying w h1, run_underlying w h2, Conv.intToInt]
  · cases x <;> simp [aConv] at hy
    subst hy
    cases hx
    refine Gives.pure hs (v := .string ⟨(Utf8.encode _).data.toList.toArray⟩) ?_ (.str _)
    rw [hrun]
    simp [convert, run_underlying w h1, run_underlying w h2, Conv.intToString]
  · cases x <;> simp [aConv] at hy
    subst hy
    cases hx
    refine Gives.pure hs ?_ (.str _)
    rw [hrun]
    simp [convert, run_underlying w h1, run_underlying w h2]
  · cases x <;> simp [aConv] at hy
    rename_i b
    subst hy
    cases hx
    obtain ⟨c, hc1, hc2⟩ := run_choose_cap (P := P) (w := w) b.length 0 e
    have hsz : (ByteArray.mk b.toArray).size = b.length := by simp [ByteArray.size]
    obtain ⟨arr, harr⟩ : ∃ arr : Array Value, arr = (b.toArray.map fun b => Value.int .u8 b.toNat) ++ Array.replicate (c - b.length) (.int .u8 0) := ⟨_, rfl⟩
    have hasz : arr.size = c := by subst harr; simp; omega
    have hget : ∀ (i : Nat) (u : UInt8), b[i]? = some u → arr[i]? = some (Value.int .u8 u.toNat) := by
      intro i u hu
      have hlt : i < b.length := (List.getElem?_eq_some_iff.1 hu).1
      subst harr
      rw [Array.getElem?_append_left (by simpa using hlt)]
      simp [hu]
    have hnew : (w.drew.alloc (.cells arr e)).heap[w.heap.size]? = some (.cells arr e (0, 0)) := heap_new w.drew _
    have hshape : (w.drew.alloc (.cells arr e)).shape? w.heap.size = some (e, c) := by
      simp only [World.shape?, hnew, hasz]
    have q : Quiet w ((w.drew.alloc (.cells arr e)).freeze ⟨w.heap.size, c, none⟩ 1) := by
      refine ⟨?_, fun B hB => ?_, rfl, rfl, rfl⟩
      · simp [World.freeze]
      · simp only [World.freeze, Nat.one_ne_zero, if_false, Array.getElem?_modify]
        rw [if_neg (by omega)]
        exact RowKit.Below.heap_alloc _ _ _ hB
    have hfin : ((w.drew.alloc (.cells arr e)).freeze ⟨w.heap.size, c, none⟩ 1).heap[w.heap.size]? = some (.cells arr e (c, c + 1)) := by
      simp only [World.freeze, Nat.one_ne_zero, if_false, Array.getElem?_modify, if_true, hnew, Option.map_some]
      rfl
    have hv := sl_new hs q (B := w.heap.size) (Nat.le_refl _) hfin (sz := 1) (cap := c) (es := b.map fun b => [.int .u8 b.toNat]) (ex := false) (by simpa using hc1) (by simp) (fun i x hi => by
      simp at hi; obtain ⟨u, _, rfl⟩ := hi; simp [AV.his, AV.hi]) (fun i x hi j y hj => by
      simp at hi
      obtain ⟨u, hu, rfl⟩ := hi
      cases j with
      | succ j => simp at hj
      | zero =>
        simp at hj; subst hj
        exact ⟨.int .u8 u.toNat, by simpa using hget i u hu, .int _ _⟩)
    refine Gives.quiet hs q (v := .slice (some ⟨w.heap.size, 0, none⟩) b.length c) ?_ (by simpa using hv)
    rw [hrun]
    simp only [convert, Sem.run_bind, run_underlying w h1, run_underlying w h2, run_underlying w h3, Result.andThen_ok, Conv.stringToBytes, hsz, hc2, newRow, run_newObj, World.alloc_eq, Sem.run_pure, ← harr, World.size_drew, markStringish, run_shape, hshape, run_freeze]
  · cases x <;> simp [aConv] at hy
    rename_i b
    subst hy
    cases hx
    have hsz : (ByteArray.mk b.toArray).size = b.length := by simp [ByteArray.size]
    obtain ⟨vs, g1, g2, g3⟩ := runes_ok (w := w) (μ := μ) (st := st) b b.length 0 #[]
    have hl : (runesFromA b b.length 0).length = vs.length := g2.1
    obtain ⟨c, hc1, hc2⟩ := run_choose_cap (P := P) (w := w) vs.length 0 e
    obtain ⟨arr, harr⟩ : ∃ arr : Array Value, arr = vs.toArray ++ Array.replicate (c - vs.length) (.int .i32 0) := ⟨_, rfl⟩
    have hget : ∀ (i : Nat) (u : Value), vs[i]? = some u → arr[i]? = some u := by
      intro i u hu
      have hlt : i < vs.length := (List.getElem?_eq_some_iff.1 hu).1
      subst harr
      rw [Array.getElem?_append_left (by simpa using hlt)]
      simpa using hu
    have q : Quiet w (w.drew.alloc (.cells arr e)) := (Quiet.drew w).trans (Quiet.alloc _ _)
    have hnew : (w.drew.alloc (.cells arr e)).heap[w.heap.size]? = some (.cells arr e (0, 0)) := heap_new w.drew _
    have hv := sl_new hs q (B := w.heap.size) (Nat.le_refl _) hnew (sz := 1) (cap := c) (es := (runesFromA b b.length 0).map fun v => [v]) (ex := false) (by simpa [hl] using hc1) (by simp) (fun i x hi => by
      simp at hi; obtain ⟨u, hu, rfl⟩ := hi; exact ⟨rfl, by have := hi_le_his hu; simp only [AV.his]; omega⟩) (fun i x hi j y hj => by
      simp at hi
      obtain ⟨u, hu, rfl⟩ := hi
      cases j with
      | succ j => simp at hj
      | zero =>
        simp at hj; subst hj
        have hlt : i < vs.length := by rw [← hl]; exact (List.getElem?_eq_some_iff.1 hu).1
        exact ⟨vs[i], by simpa using hget i _ (List.getElem?_eq_getElem hlt), g2.2 i u _ hu (List.getElem?_eq_getElem hlt)⟩)
    refine Gives.quiet hs q (v := .slice (some ⟨w.heap.size, 0, none⟩) vs.length c) ?_ (by simpa [hl] using hv)
    rw [hrun]
    simp only [convert, Sem.run_bind, run_underlying w h1, run_underlying w h2, run_underlying w h3, Result.andThen_ok, Conv.stringToRunes, hsz, g1, Array.empty_append, List.size_toArray, hc2, newRow, run_newObj, World.alloc_eq, Sem.run_pure, ← harr, World.size_drew]
  · have hy' : ∃ cs n b, elems st x = some cs ∧ lenA x = some n ∧ cs.length = n ∧ strOf cs = some b ∧ y = .str b ∧ ∀ t, x ≠ .str t := by
      unfold aConv at hy
      split at hy <;> try contradiction
      split at hy
      · cases hy
      · rename_i hns
        split at hy
        · rename_i cs n e1 e2
          split at hy
          · rename_i hl
            simp only [Option.map_eq_some_iff] at hy
            obtain ⟨b, hb, rfl⟩ := hy
            exact ⟨cs, n, b, e1, e2, hl, hb, rfl, fun t ht => hns t ht⟩
          · cases hy
        · cases hy
    obtain ⟨cs, n, b, e1, e2, e3, e4, rfl, e5⟩ := hy'
    refine Gives.pure hs (v := .string ⟨b.toArray⟩) ?_ (.str _)
    rw [hrun]
    cases elems_ok hs hx e1 with
    | nils h hc =>
      subst hc
      simp [strOf] at e4; subst e4
      simp [convert, run_underlying w h1, run_underlying w h2, run_underlying w h3, Conv.bytesToString]
      rfl
    | str t h hc => exact absurd h (e5 t)
    | slice ad len cap sz vs h hne hns hl hv hcell hr _ _ =>
      rw [e2] at h; cases h
      have := run_bytesToString (P := P) (cap := cap) (len := n) (by rw [← hr.1]; exact e3) hcell hr e4
      simp [convert, run_underlying w h1, run_underlying w h2, run_underlying w h3, this]
  · have hy' : ∃ cs n b, elems st x = some cs ∧ lenA x = some n ∧ cs.length = n ∧ runesOf cs = some b ∧ y = .str b ∧ ∀ t, x ≠ .str t := by
      unfold aConv at hy
      split at hy <;> try contradiction
      split at hy
      · cases hy
      · rename_i hns
        split at hy
        · rename_i cs n e1 e2
          split at hy
          · rename_i hl
            simp only [Option.map_eq_some_iff] at hy
            obtain ⟨b, hb, rfl⟩ := hy
            exact ⟨cs, n, b, e1, e2, hl, hb, rfl, fun t ht => hns t ht⟩
          · cases hy
        · cases hy
    obtain ⟨cs, n, b, e1, e2, e3, e4, rfl, e5⟩ := hy'
    refine Gives.pure hs (v := .string ⟨b.toArray⟩) ?_ (.str _)
    rw [hrun]
    cases elems_ok hs hx e1 with
    | nils h hc =>
      subst hc
      simp [runesOf] at e4; subst e4
      simp [convert, run_underlying w h1, run_underlying w h2, run_underlying w h3, Conv.runesToString]
      rfl
    | str t h hc => exact absurd h (e5 t)
    | slice ad len cap sz vs h hne hns hl hv hcell hr _ _ =>
      rw [e2] at h; cases h
      have := runesOf_run (P := P) (cap := cap) (len := n) (by rw [← hr.1]; exact e3) hcell hr e4
      simp [convert, run_underlying w h1, run_underlying w h2, run_underlying w h3, this]

end
end Go.Eng

set_option linter.unusedSimpArgs false
namespace Go.Eng
open Go

section
variable {P : Program} {W0 w : World} {μ : Pls} {st : St}

theorem aggOr_ok {t : TypeId} {b : Bool} (hb : isAggT P t = some b) {l : List AV} {x : AV} {vs : List Value} (hv : VRs w μ st l vs) (hx : isAggOr b l = some x) :
    ∃ v, VR w μ st x v ∧ ((b = true ∧ v = .agg vs.toArray) ∨ (b = false ∧ vs = [v])) := by
  cases b with
  | true => simp [isAggOr] at hx; subst hx; exact ⟨.agg vs.toArray, .agg (by simpa using hv.1) (fun i x v h1 h2 => hv.2 i x v h1 (by simpa using h2)), .inl ⟨rfl, rfl⟩⟩
  | false =>
    cases l with
    | nil => simp [isAggOr] at hx
    | cons y l =>
      cases l with
      | cons z l => simp [isAggOr] at hx
      | nil =>
        simp [isAggOr] at hx
        subst hx
        match vs, hv with
        | [], hv => have := hv.1; simp at this
        | [u], hv => exact ⟨u, hv.2 0 _ _ rfl rfl, .inr ⟨rfl, rfl⟩⟩
        | _ :: _ :: _, hv => have := hv.1; simp at this

/-- A part of a struct or an array. -/
theorem run_partOf {t : TypeId} {b : Bool} {n off : Nat} (hb : isAggT P t = some b) (hn : sizeT P t = some n) {cs l : List AV} {vs : Array Value} (hl : cs.length = vs.size) (hv : ∀ (i : Nat) x v, cs[i]? = some x → vs[i]? = some v → VR w μ st x v)
    (hc : cut cs off n = some l) {x : AV} (hx : isAggOr b l = some x) : ∃ v, (part t vs off).run P w = .ok v w ∧ VR w μ st x v := by
  obtain ⟨h1, h2, h3⟩ := cut_some hc
  have hrel : VRs w μ st l (vs.toList.drop off |>.take n) := by
    have hlen : (cs.drop off).take n = l := by
      unfold cut at hc
      simp only at hc
      split at hc
      · cases hc; rfl
      · cases hc
    refine ⟨?_, fun i y u hy hu => ?_⟩
    · rw [← hlen]; simp [hl]
    · have hi : i < n := by rw [← h1]; exact (List.getElem?_eq_some_iff.1 hy).1
      rw [List.getElem?_take_of_lt hi, List.getElem?_drop] at hu
      rw [h3 i hi] at hy
      exact hv _ y u hy (by simpa using hu)
  obtain ⟨v, hvr, hcase⟩ := aggOr_ok (P := P) hb hrel hx
  refine ⟨v, ?_, hvr⟩
  rcases hcase with ⟨rfl, rfl⟩ | ⟨rfl, hone⟩
  · simp only [part, Sem.run_bind, run_isAgg w hb, Result.andThen_ok, if_true, run_sizeOf w hn, Sem.run_pure]
    congr 2
    apply Array.ext'
    simp [List.drop_take]
  · have hn1 : n = 1 := by
      cases l with
      | nil => simp [isAggOr] at hx
      | cons a l => cases l with
        | nil => simpa using h1.symm
        | cons => simp [isAggOr] at hx
    subst hn1
    have : vs[off]? = some v := by
      have h0 : (List.take 1 (List.drop off vs.toList))[0]? = some v := by rw [hone]; rfl
      rw [List.getElem?_take_of_lt (by omega), List.getElem?_drop] at h0
      simpa using h0
    simp [part, run_isAgg w hb, this]

theorem give_field (hs : Sim W0 w μ st) {t : TypeId} {i : Nat} {fs : Array Field} {f : Field} {b : Bool} {n : Nat} (hu : P.underlying t = some (.struct fs)) (hf : fs[i]? = some f) (hb : isAggT P f.type = some b) (hn : sizeT P f.type = some n)
    {cs l : List AV} {x : AV} {v : Value} (hv : VR w μ st (.agg cs) v) (hc : cut cs f.offset n = some l) (hx : isAggOr b l = some x)
    {s : Sem Next} (hrun : s.run P w = ((Instr.field t v i).run P w).andThen fun v w' => .ok (.value v) w') : Gives P W0 w μ st s x st := by
  cases hv with
  | agg h1 h2 =>
    obtain ⟨r, e1, e2⟩ := run_partOf hb hn h1 h2 hc hx
    refine Gives.pure hs ?_ e2
    rw [hrun]
    simp [Instr.field, run_underlying w hu, hf, asAgg, e1]

theorem give_ixa (hs : Sim W0 w μ st) {t e : TypeId} {len n : Nat} {b : Bool} (hu : P.underlying t = some (.array len e)) (hb : isAggT P e = some b) (hn : sizeT P e = some n)
    {cs l : List AV} {x i : AV} {k : Nat} {v iv : Value} (hv : VR w μ st (.agg cs) v) (hi : VR w μ st i iv) (hk : natOf i = some k) (hlt : k < len) (hc : cut cs (k * n) n = some l) (hx : isAggOr b l = some x)
    {s : Sem Next} (hrun : s.run P w = ((Instr.index t v iv).run P w).andThen fun v w' => .ok (.value v) w') : Gives P W0 w μ st s x st := by
  obtain ⟨kk, z, rfl, hz, rfl⟩ := hi.nat hk
  cases hv with
  | agg h1 h2 =>
    obtain ⟨r, e1, e2⟩ := run_partOf hb hn h1 h2 hc hx
    refine Gives.pure hs ?_ e2
    rw [hrun]
    simp [Instr.index, asIntOf, run_underlying w hu, hz, show z < (len : Int) by omega, run_sizeOf w hn, e1]

theorem give_ixs (hs : Sim W0 w μ st) {t : TypeId} (hu : P.underlying t = some .string) {b : List UInt8} {i : AV} {k : Nat} {c : UInt8} {v iv : Value} (hv : VR w μ st (.str b) v) (hi : VR w μ st i iv) (hk : natOf i = some k) (hc : b[k]? = some c)
    {s : Sem Next} (hrun : s.run P w = ((Instr.index t v iv).run P w).andThen fun v w' => .ok (.value v) w') : Gives P W0 w μ st s (.int .u8 c.toNat) st := by
  obtain ⟨kk, z, rfl, hz, rfl⟩ := hi.nat hk
  have := hv.str_inv
  subst this
  refine Gives.pure hs (v := .int .u8 c.toNat) ?_ (.int _ _)
  rw [hrun]
  have hlt : z.toNat < b.length := (List.getElem?_eq_some_iff.1 hc).1
  have hget : (ByteArray.mk b.toArray)[z.toNat]? = some c := by
    have hlt' : z.toNat < (ByteArray.mk b.toArray).size := by simpa [ByteArray.size] using hlt
    rw [getElem?_pos (ByteArray.mk b.toArray) z.toNat hlt']
    have := (List.getElem?_eq_some_iff.1 hc).2
    simpa [ByteArray.getElem_eq_getElem_data] using this
  simp [Instr.index, asIntOf, run_underlying w hu, hz, hget]

theorem give_nilchk (hs : Sim W0 w μ st) {x : AV} {v : Value} (hv : VR w μ st x v) (h1 : x ≠ .nilp ∧ x ≠ .nili ∧ x ≠ .nilf ∧ x ≠ .any) (h2 : ∀ m a b, x ≠ .fn (.method m) a b) {ρ : Operand → Value} {o : Oper} {X : Operand} (ho : o.op = .nilCheck X) (hX : ρ X = v) :
    Gives P W0 w μ st (execOp ρ o) x st := by
  refine Gives.pure hs (v := v) ?_ hv
  unfold execOp
  rw [ho]
  simp only [hX]
  cases hv <;> first
    | rfl
    | exact absurd rfl h1.1
    | exact absurd rfl h1.2.1
    | exact absurd rfl h1.2.2.1
    | exact absurd rfl h1.2.2.2
    | (rename_i f first caps fv cv _ _ _ _
       cases f <;> first | rfl | exact absurd rfl (h2 _ _ _))

theorem give_mkif (hs : Sim W0 w μ st) {t : TypeId} {d : TypeDesc} (hu : P.underlying t = some d) (hd : ∀ ms, d ≠ .interface ms) {x : AV} {v : Value} (hv : VR w μ st x v)
    {s : Sem Next} (hrun : s.run P w = ((Instr.makeInterface t v).run P w).andThen fun v w' => .ok (.value v) w') : Gives P W0 w μ st s (.iface t x) st := by
  refine Gives.pure hs (v := .iface t v) ?_ (.iface hv)
  rw [hrun]
  simp only [Instr.makeInterface, Sem.run_bind, run_underlying w hu, Result.andThen_ok]
  cases d <;> first | rfl | exact absurd rfl (hd _)

theorem give_mkmap (hs : Sim W0 w μ st) {t : TypeId} {s : Sem Next} (hrun : s.run P w = ((Instr.makeMap t none).run P w).andThen fun v w' => .ok (.value v) w') : Gives P W0 w μ st s (.map st.length) (st ++ [.map [] 0]) := by
  have q := Quiet.alloc w (.map #[] 0)
  have e := hs.alloc_ext q (B := w.heap.size) (Nat.le_refl _) (.map [] 0)
  have h4 : (st ++ [Row.map [] 0])[st.length]? = some (.map [] 0) := by simp
  refine ⟨.map (some w.heap.size), _, _, .inl ?_, .map ⟨_, h4, rfl, Nat.zero_le _⟩ fun _ => ⟨⟨w.heap.size, 0⟩, by rw [← hs.len]; simp, rfl⟩, hs.alloc q (Nat.le_refl _) (by intro i k v h; simp at h) ⟨#[], 0, heap_new _ _, by simp, by simp⟩, e⟩
  rw [hrun]
  simp [Instr.makeMap]

theorem repCells_get {zero : List AV} {sz : Nat} (hz : zero.length = sz) : ∀ n, (repCells zero n).length = n * sz ∧ ∀ (k : Nat) c, (repCells zero n)[k]? = some c → k < n * sz ∧ zero[k % sz]? = some c
  | 0 => by simp [repCells]
  | n + 1 => by
    obtain ⟨h1, h2⟩ := repCells_get hz n
    refine ⟨by simp [repCells, h1, hz, Nat.succ_mul]; omega, fun k c hk => ?_⟩
    simp only [repCells] at hk
    rw [Nat.succ_mul]
    rcases Nat.lt_or_ge k zero.length with hlt | hge
    · rw [List.getElem?_append_left hlt] at hk
      rw [hz] at hlt
      exact ⟨by omega, by rw [Nat.mod_eq_of_lt hlt]; exact hk⟩
    · rw [List.getElem?_append_right hge] at hk
      obtain ⟨a, b⟩ := h2 _ c hk
      refine ⟨by omega, ?_⟩
      rw [← b]
      congr 1
      rw [hz] at hge ⊢
      rw [Nat.mod_eq_sub_mod hge]

theorem repCells_his {zero : List AV} (h : AV.his zero = 0) (n : Nat) : AV.his (repCells zero n) = 0 := by
  have : AV.his (repCells zero n) ≤ 0 := his_le fun i c hi => by
    obtain ⟨_, b⟩ := (repCells_get (zero := zero) rfl n).2 i c hi
    have := hi_le_his b; omega
  omega

/-- Zero cells, as the model lays them. -/
theorem zeros_ok {zero : List AV} {zs : Array Value} (hz : VRs w μ st zero zs.toList) (n : Nat) :
    VRs w μ st (repCells zero n) ((Array.range (n * zs.size)).map (zs[· % zs.size]!)).toList := by
  have hsz : zero.length = zs.size := by simpa using hz.1
  obtain ⟨h1, h2⟩ := repCells_get hsz n
  refine ⟨by simp [h1], fun i x v hx hv => ?_⟩
  obtain ⟨a, b⟩ := h2 i x hx
  have hpos : 0 < zs.size := by rcases Nat.eq_zero_or_pos zs.size with h | h; (rw [h] at a; omega); exact h
  have hlt : i % zs.size < zs.size := Nat.mod_lt _ hpos
  simp [a] at hv
  subst hv
  refine hz.2 _ x _ b ?_
  simp [hlt]

end
end Go.Eng

set_option linter.unusedSimpArgs false
namespace Go.Eng
open Go

section
variable {P : Program} {C : Ctx} {W0 w : World} {μ : Pls} {st : St} {env : Env} {a : Act}

theorem bytes_info {t : TypeId} {n : Nat} (h : bytesT P t = some n) : ∃ i, P.info? t = some i ∧ i.bytes = n := by
  unfold bytesT at h
  cases hi : P.info? t with
  | none => simp [hi] at h
  | some i => simp [hi] at h; exact ⟨i, rfl, h⟩

theorem small_mul {a b : Nat} (h : (a + 1) * (b + 1) ≤ small) : a ≤ 1099511627776 ∧ a * b ≤ 1099511627776 := by
  unfold small at h
  have e : (a + 1) * (b + 1) = a * b + a + b + 1 := by rw [Nat.add_mul, Nat.mul_add]; omega
  omega

theorem give_mkslice (hs : Sim W0 w μ st) {t e : TypeId} {sz bytes : Nat} {zero : List AV} (hu : P.underlying t = some (.slice e)) (hn : sizeT P e = some sz) (hb : bytesT P e = some bytes) (hz : zeroCellsT P e = some zero) (hzl : zero.length = sz)
    {lx cx : AV} {lv cv : Value} {l c : Nat} (hl : VR w μ st lx lv) (hc : VR w μ st cx cv) (h1 : natOf lx = some l) (h2 : natOf cx = some c) (hlc : l ≤ c) (hsm : (c + 1) * (bytes + 1) ≤ small)
    {s : Sem Next} (hrun : s.run P w = ((Instr.makeSlice t lv cv).run P w).andThen fun v w' => .ok (.value v) w') :
    Gives P W0 w μ st s (.slc st.length 0 l c 0 sz true) (st ++ [.cells (repCells zero c) 0 0 false e]) := by
  obtain ⟨k1, z1, rfl, p1, rfl⟩ := hl.nat h1
  obtain ⟨k2, z2, rfl, p2, rfl⟩ := hc.nat h2
  obtain ⟨zv, hzv, hzc, hz0⟩ := zeroCells_ok (P := P) (w := w) (μ := μ) (st := st) hz
  obtain ⟨b1, b2⟩ := small_mul hsm
  obtain ⟨i, hi, hib⟩ := bytes_info hb
  have hsz' : zv.cells.size = sz := by have := hzc.1; simp at this; omega
  have w1 : IntKind.i64.wrap z1 = z1 := IntWalk.i64_in _ (by omega)
  have w2 : IntKind.i64.wrap z2 = z2 := IntWalk.i64_in _ (by omega)
  have hzs := zeros_ok hzc z2.toNat
  rw [hsz'] at hzs
  obtain ⟨arr, harr⟩ : ∃ arr : Array Value, arr = (Array.range (z2.toNat * sz)).map (zv.cells[· % sz]!) := ⟨_, rfl⟩
  rw [← harr] at hzs
  obtain ⟨g1, g2⟩ := cells_list hzs
  obtain ⟨s1, e1⟩ := hs.newRow (Quiet.refl w) (c := arr) (ty := e) (hi := 0) (Nat.le_of_eq g1) g2 (by rw [repCells_his hz0]; omega)
  have hasz : arr.size = z2.toNat * sz := by subst harr; simp
  refine ⟨.slice (some ⟨w.heap.size, 0, none⟩) z1.toNat z2.toNat, _, _, .inl ?_, VR.newSlc hs _ _ _ rfl rfl hlc (Nat.le_refl _) (fun _ => rfl) (ty := e) (n := arr.size) ?_ (by omega), s1, e1⟩
  · rw [hrun]
    have hb2 : ¬ ((bytes : Int) * z2 > 2 ^ 48) := by
      have : ((bytes : Int) * z2) = ((z2.toNat * bytes : Nat) : Int) := by
        rw [Int.natCast_mul, Int.toNat_of_nonneg p2, Int.mul_comm]
      rw [this]; omega
    have hc1 : (decide (z2 < 0) || decide ((bytes : Int) * z2 > 2 ^ 48) || decide (z1 < 0) || decide (z1 > z2)) = false := by
      simp only [Bool.or_eq_false_iff, decide_eq_false_iff_not]
      exact ⟨⟨⟨by omega, hb2⟩, by omega⟩, by omega⟩
    have hne : ¬ (z2.toNat * sz = 0) ∨ z2.toNat * sz = 0 := by omega
    simp only [Instr.makeSlice, Sem.run_bind, run_underlying w hu, Result.andThen_ok, asInt, asIntOf, Sem.run_pure, run_typeInfo w hi, hib, w1, w2]
    simp only [hc1, Bool.false_eq_true, if_false, Sem.run_bind, Sem.run_pure, Result.andThen_ok, run_askRoom, run_sizeOf w hn]
    by_cases h0 : z2.toNat * sz = 0
    · simp only [h0, if_true, Sem.run_pure, Result.andThen_ok, newRow, Sem.run_bind, run_newObj, World.alloc_eq]
      have : arr = #[] := by apply Array.eq_empty_of_size_eq_zero; omega
      rw [this]
      simp [show Array.range 0 = #[] from rfl]
    · simp only [h0, if_false, Sem.run_bind, hzv, Sem.run_pure, Result.andThen_ok, newRow, run_newObj, World.alloc_eq, hsz', ← harr]
  · simp only [World.shape?, heap_new]

theorem give_tassert (hs : Sim W0 w μ st) {t xt : TypeId} {d : TypeDesc} (hu : P.underlying t = some d) (hd : ∀ ms, d ≠ .interface ms) {ok : Bool} {zero : AV} (hz : zeroT P t = some zero) {x y : AV} {v : Value} (hv : VR w μ st x v)
    (hy : (∃ t' u, x = .iface t' u ∧ ((t = t' ∧ y = if ok then .tup [u, .bool true] else u) ∨ (t ≠ t' ∧ ok = true ∧ y = .tup [zero, .bool false]))) ∨ (x = .nili ∧ ok = true ∧ y = .tup [zero, .bool false]))
    {s : Sem Next} (hrun : s.run P w = ((Instr.typeAssert v xt t ok).run P w).andThen fun v w' => .ok (.value v) w') : Gives P W0 w μ st s y st := by
  obtain ⟨zv, hzv, hzo⟩ := run_zeroValue w hz
  obtain ⟨hzr, _, _⟩ := ofValue_ok (w := w) (μ := μ) (st := st) 3 hzo
  have two : ∀ {p : AV} {q : Value} (b : Bool), VR w μ st p q → VR w μ st (.tup [p, .bool b]) (.tuple #[q, .bool b]) := fun b h => .tup (by simp) fun i x v hx hv => by
    match i, hx, hv with
    | 0, hx, hv => simp at hx hv; subst hx; subst hv; exact h
    | 1, hx, hv => simp at hx hv; subst hx; subst hv; exact .bool b
    | i + 2, hx, hv => simp at hx
  rcases hy with ⟨t', u, rfl, hc⟩ | ⟨rfl, rfl, rfl⟩
  · cases hv with
    | iface hu' =>
      rcases hc with ⟨rfl, rfl⟩ | ⟨hne, rfl, rfl⟩
      · cases ok with
        | true =>
          refine Gives.pure hs ?_ (two true hu')
          rw [hrun]
          simp only [Instr.typeAssert, Sem.run_bind, run_underlying w hu, Result.andThen_ok]
          cases d <;> first | exact absurd rfl (hd _) | simp
        | false =>
          refine Gives.pure hs ?_ hu'
          rw [hrun]
          simp only [Instr.typeAssert, Sem.run_bind, run_underlying w hu, Result.andThen_ok]
          cases d <;> first | exact absurd rfl (hd _) | simp
      · refine Gives.pure hs ?_ (two false hzr)
        rw [hrun]
        simp only [Instr.typeAssert, Sem.run_bind, run_underlying w hu, Result.andThen_ok]
        have hne' : ¬ t' = t := fun e => hne e.symm
        cases d <;> first | exact absurd rfl (hd _) | simp [hne', hzv]
  · cases hv
    refine Gives.pure hs ?_ (two false hzr)
    rw [hrun]
    simp only [Instr.typeAssert, Sem.run_bind, run_underlying w hu, Result.andThen_ok]
    cases d <;> first | exact absurd rfl (hd _) | simp [hzv]

theorem give_extract (hs : Sim W0 w μ st) {vs : List AV} {i : Nat} {y : AV} {v : Value} (hv : VR w μ st (.tup vs) v) (hy : vs[i]? = some y)
    {s : Sem Next} (hrun : s.run P w = ((Instr.extract v i).run P w).andThen fun v w' => .ok (.value v) w') : Gives P W0 w μ st s y st := by
  cases hv with
  | @tup _ us h1 h2 =>
    have hlt : i < us.size := by rw [← h1]; exact (List.getElem?_eq_some_iff.1 hy).1
    refine Gives.pure hs ?_ (h2 i y us[i] hy (by simp [hlt]))
    rw [hrun]
    simp [Instr.extract, hlt]

theorem give_range (hs : Sim W0 w μ st) {t : TypeId} (hu : P.underlying t = some .string) {b : List UInt8} {v : Value} (hv : VR w μ st (.str b) v)
    {s : Sem Next} (hrun : s.run P w = ((Instr.range t v).run P w).andThen fun v w' => .ok (.value v) w') : Gives P W0 w μ st s (.ptr st.length 0 0) (st ++ [.siter b 0]) := by
  have := hv.str_inv
  subst this
  have q := Quiet.alloc w (.stringIter ⟨b.toArray⟩ 0)
  have e := hs.alloc_ext q (B := w.heap.size) (Nat.le_refl _) (.siter b 0)
  refine ⟨.pointer (some ⟨w.heap.size, 0, none⟩), _, _, .inl ?_, VR.newPtr hs _ _ _ rfl rfl, hs.alloc q (Nat.le_refl _) trivial ⟨heap_new _ _, rfl⟩, e⟩
  rw [hrun]
  simp [Instr.range, run_underlying w hu]

theorem give_next (hs : Sim W0 w μ st) {r : Nat} {b : List UInt8} {pos : Nat} {t : TypeId} {v : Value} (hv : VR w μ st (.ptr r 0 0) v) (hr : st[r]? = some (.siter b pos)) {y : AV} {st' : St}
    (hy : (pos < b.length ∧ y = .tup [.bool true, .int .i64 pos, .int .i32 (Utf8.decode ⟨b.toArray⟩ pos).1] ∧ st' = st.set r (.siter b (pos + (Utf8.decode ⟨b.toArray⟩ pos).2))) ∨ (¬ pos < b.length ∧ y = .tup [.bool false] ∧ st' = st))
    {s : Sem Next} (hrun : s.run P w = ((Instr.next v true t).run P w).andThen fun v w' => .ok (.value v) w') : Gives P W0 w μ st s y st' := by
  cases hv with
  | @ptr _ _ _ ad hvl hl =>
    obtain ⟨p, hp, rfl⟩ := hl ⟨_, hr, rfl, rfl⟩
    obtain ⟨hW, hb, hbase⟩ := hs.row r _ p hr hp rfl
    have hsz : (ByteArray.mk b.toArray).size = b.length := by simp [ByteArray.size]
    have hget : (getObj p.blk).run P w = .ok (.stringIter ⟨b.toArray⟩ pos) w := by
      simp [getObj, Sem.run, hb]
    rcases hy with ⟨hlt, rfl, rfl⟩ | ⟨hge, rfl, rfl⟩
    · have hlt2 : p.blk < w.heap.size := (Array.getElem?_eq_some_iff.1 hb).1
      have hset : (setObj p.blk (.stringIter ⟨b.toArray⟩ (pos + (Utf8.decode ⟨b.toArray⟩ pos).2))).run P w = .ok () { w with heap := w.heap.setIfInBounds p.blk (.stringIter ⟨b.toArray⟩ (pos + (Utf8.decode ⟨b.toArray⟩ pos).2)) } := by
        simp [setObj, Sem.run, hb]
      have ht : Turn p.blk w { w with heap := w.heap.setIfInBounds p.blk (.stringIter ⟨b.toArray⟩ (pos + (Utf8.decode ⟨b.toArray⟩ pos).2)) } :=
        ⟨by simp, fun C _ hne => by simp only; rw [Array.getElem?_setIfInBounds_ne (fun e => hne e.symm)], rfl, rfl, rfl⟩
      have hmu : μ.set r p = μ := by
        have hlt' : r < μ.length := (List.getElem?_eq_some_iff.1 hp).1
        have : μ[r] = p := (List.getElem?_eq_some_iff.1 hp).2
        rw [← this]; exact List.set_getElem_self hlt'
      have hnewb : ({ w with heap := w.heap.setIfInBounds p.blk (.stringIter ⟨b.toArray⟩ (pos + (Utf8.decode ⟨b.toArray⟩ pos).2)) } : World).heap[p.blk]? = some (.stringIter ⟨b.toArray⟩ (pos + (Utf8.decode ⟨b.toArray⟩ pos).2)) := by
        simp [hlt2]
      have hsh : ({ w with heap := w.heap.setIfInBounds p.blk (.stringIter ⟨b.toArray⟩ (pos + (Utf8.decode ⟨b.toArray⟩ pos).2)) } : World).shape? p.blk = w.shape? p.blk := by
        simp only [World.shape?, hnewb, hb]
      have he := hs.turn_ext (row' := .siter b (pos + (Utf8.decode ⟨b.toArray⟩ pos).2)) (p' := p) hr hp rfl rfl ht (.inl rfl) (.inl ⟨rfl, rfl, hsh⟩)
      have hsim := hs.turn (row' := .siter b (pos + (Utf8.decode ⟨b.toArray⟩ pos).2)) (p' := p) hr hp rfl rfl ht (.inl rfl) (.inl ⟨rfl, rfl, hsh⟩) trivial ⟨hnewb, hbase⟩
      rw [hmu] at he hsim
      refine ⟨.tuple #[.bool true, .int .i64 pos, .int .i32 (Utf8.decode ⟨b.toArray⟩ pos).1], _, μ, .inl ?_, .tup (by simp) fun i x v hx hv => ?_, hsim, he⟩
      · rw [hrun]
        simp only [Instr.next, hbase, Nat.zero_add, Sem.run_bind, hget, Result.andThen_ok, hsz, hlt, if_true, hset, Sem.run_pure]
        rfl
      · match i, hx, hv with
        | 0, hx, hv => simp at hx hv; subst hx; subst hv; exact .bool _
        | 1, hx, hv => simp at hx hv; subst hx; subst hv; exact .int _ _
        | 2, hx, hv => simp at hx hv; subst hx; subst hv; exact .int _ _
        | i + 3, hx, hv => simp at hx
    · refine Gives.pure hs (v := .tuple #[.bool false]) ?_ (.tup (by simp) fun i x v hx hv => ?_)
      · rw [hrun]
        simp only [Instr.next, hbase, Nat.zero_add, Sem.run_bind, hget, Result.andThen_ok, hsz, hge, if_false, Sem.run_pure]
      · match i, hx, hv with
        | 0, hx, hv => simp at hx hv; subst hx; subst hv; exact .bool _
        | i + 1, hx, hv => simp at hx

end
end Go.Eng

set_option linter.unusedSimpArgs false
namespace Go.Eng
open Go

section
variable {P : Program} {C : Ctx} {W0 w : World} {μ : Pls} {st : St} {env : Env} {a : Act}

theorem lenA_ok {s : AV} {v : Value} (hv : VR w μ st s v) {n : Nat} (h : lenA s = some n) : (s = .nils ∧ v = .slice none 0 0 ∧ n = 0) ∨ (∃ ad cap, v = .slice (some ad) n cap) ∨ (∃ b, s = .str b ∧ v = .string ⟨b.toArray⟩ ∧ n = b.length) := by
  cases hv <;> simp [lenA] at h
  · subst h; exact .inr (.inr ⟨_, rfl, rfl, rfl⟩)
  · subst h; exact .inl ⟨rfl, rfl, rfl⟩
  · subst h; exact .inr (.inl ⟨_, _, rfl⟩)
  · subst h; exact .inr (.inl ⟨_, _, rfl⟩)

/-- A map's block. -/
theorem map_at (hs : Sim W0 w μ st) {r : Nat} {es : List (AV × AV)} {h : Nat} (hr : st[r]? = some (.map es h)) {v : Value} (hv : VR w μ st (.map r) v) :
    ∃ p, v = .map (some p.blk) ∧ μ[r]? = some p ∧ ∃ ents clk, w.heap[p.blk]? = some (.map ents clk) ∧ (getObj p.blk).run P w = .ok (.map ents clk) w ∧ es.length = ents.size ∧
      ∀ (i : Nat) k v e, es[i]? = some (k, v) → ents[i]? = some e → VR w μ st k e.key ∧ VR w μ st v e.val := by
  cases hv with
  | map hvl hl =>
    obtain ⟨p, hp, rfl⟩ := hl ⟨_, hr, rfl, rfl⟩
    obtain ⟨_, ents, clk, hb, h1, h2⟩ := hs.row r _ p hr hp rfl
    exact ⟨p, rfl, hp, ents, clk, hb, by simp [getObj, Sem.run, hb], h1, h2⟩

theorem give_len (hs : Sim W0 w μ st) {t ty : TypeId} {A : Array TypeId} (hA : A[0]? = some t) {x y : AV} {v : Value} (hv : VR w μ st x v)
    (hy : (∃ n, lenA x = some n ∧ y = .int .i64 n) ∨ (x = .nilm ∧ y = .int .i64 0) ∨ ∃ r es h, x = .map r ∧ st[r]? = some (.map es h) ∧ y = .int .i64 es.length) (hT : (∃ b, x = .str b) → P.underlying t = some .string) (hT2 : (x = .nils ∨ (∃ a b c d e f g, x = .slc a b c d e f g) ∨ ∃ a b c, x = .sl a b c) → ∃ e, P.underlying t = some (.slice e))
    (hT3 : (x = .nilm ∨ ∃ r, x = .map r) → ∃ k e, P.underlying t = some (.map k e))
    {s : Sem Next} (hrun : s.run P w = ((Builtin.len_ A ty #[v]).run P w).andThen fun v w' => .ok (.value v) w') : Gives P W0 w μ st s y st := by
  rcases hy with ⟨n, hn, rfl⟩ | ⟨rfl, rfl⟩ | ⟨r, es, h, rfl, hr, rfl⟩
  · refine Gives.pure hs (v := .int .i64 n) ?_ (.int _ _)
    rw [hrun]
    cases hv <;> simp [lenA] at hn
    · subst hn
      have := hT ⟨_, rfl⟩
      have hsz : ∀ b : List UInt8, (ByteArray.mk b.toArray).size = b.length := fun b => by simp [ByteArray.size]
      rename_i bb
      have key : ∀ bs : ByteArray, (Builtin.len_ A ty #[.string bs]).run P w = .ok (goInt bs.size) w := fun bs => by simp [Builtin.len_, hA, run_underlying w this]
      rw [key, hsz]
      rfl
    · subst hn
      obtain ⟨e, h⟩ := hT2 (.inl rfl)
      simp [Builtin.len_, hA, run_underlying w h, goInt]
    · subst hn
      obtain ⟨e, h⟩ := hT2 (.inr (.inl ⟨_, _, _, _, _, _, _, rfl⟩))
      simp [Builtin.len_, hA, run_underlying w h, goInt]
    · subst hn
      obtain ⟨e, h⟩ := hT2 (.inr (.inr ⟨_, _, _, rfl⟩))
      simp [Builtin.len_, hA, run_underlying w h, goInt]
  · obtain ⟨k, e, h⟩ := hT3 (.inl rfl)
    have := hv.nilm_inv
    subst this
    refine Gives.pure hs (v := .int .i64 0) ?_ (.int _ _)
    rw [hrun]
    simp [Builtin.len_, hA, run_underlying w h, goInt]
  · obtain ⟨k, e, h'⟩ := hT3 (.inr ⟨_, rfl⟩)
    obtain ⟨p, rfl, hp, ents, clk, hb, hg, hl, _⟩ := map_at (P := P) hs hr hv
    refine Gives.pure hs (v := .int .i64 es.length) ?_ (.int _ _)
    rw [hrun]
    simp [Builtin.len_, hA, run_underlying w h', hg, goInt, hl]

theorem give_cap (hs : Sim W0 w μ st) {t e ty : TypeId} {A : Array TypeId} (hA : A[0]? = some t) (hu : P.underlying t = some (.slice e)) {x y : AV} {v : Value} (hv : VR w μ st x v)
    (hy : (x = .nils ∧ y = .int .i64 0) ∨ (∃ r o l cm g sz, x = .slc r o l cm g sz true ∧ y = .int .i64 cm) ∨ ∃ sz es, x = .sl sz es true ∧ y = .int .i64 es.length)
    {s : Sem Next} (hrun : s.run P w = ((Builtin.cap_ A ty #[v]).run P w).andThen fun v w' => .ok (.value v) w') : Gives P W0 w μ st s y st := by
  rcases hy with ⟨rfl, rfl⟩ | ⟨r, o, l, cm, g, sz, rfl, rfl⟩ | ⟨sz, es, rfl, rfl⟩
  · have := hv.nils_inv; subst this
    refine Gives.pure hs (v := .int .i64 0) ?_ (.int _ _)
    rw [hrun]; simp [Builtin.cap_, hA, run_underlying w hu, goInt]
  · cases hv with
    | slc h h1 h2 h3 hl =>
      have := h3 rfl
      subst this
      refine Gives.pure hs (v := .int .i64 _) ?_ (.int _ _)
      rw [hrun]; simp [Builtin.cap_, hA, run_underlying w hu, goInt]
  · cases hv with
    | sl vs h1 h3 _ _ _ =>
      have := h3 rfl
      subst this
      refine Gives.pure hs (v := .int .i64 _) ?_ (.int _ _)
      rw [hrun]; simp [Builtin.cap_, hA, run_underlying w hu, goInt]

theorem minmax_ok (isMax : Bool) : ∀ (l : List AV) (vs : List Value) (m : Int) (k : IntKind) (z : Int), VRs w μ st l vs → minmaxA isMax m l k = some z →
    (vs.foldlM (if isMax then Builtin.max2 else Builtin.min2) (Value.int k m)).run P w = .ok (.int k z) w
  | [], vs, m, k, z, hr, h => by
    have : vs = [] := by have := hr.1; simpa using this.symm
    subst this
    simp [minmaxA] at h; subst h; simp
  | x :: l, [], m, k, z, hr, h => by have := hr.1; simp at this
  | x :: l, v :: vs, m, k, z, hr, h => by
    cases x <;> try (simp [minmaxA] at h; done)
    rename_i k' n
    simp only [minmaxA] at h
    split at h
    · rename_i hk
      subst hk
      have hv := (hr.2 0 _ _ rfl rfl).int_inv
      subst hv
      have := minmax_ok isMax l vs _ k' z ⟨by have := hr.1; simpa using this, fun i x v hx hv => hr.2 (i + 1) x v (by simpa using hx) (by simpa using hv)⟩ h
      cases isMax
      · simp only [Bool.false_eq_true, if_false] at this ⊢
        simp [List.foldlM_cons, Builtin.min2, this]
      · simp only [if_true] at this ⊢
        simp [List.foldlM_cons, Builtin.max2, this]
    · cases h

theorem give_sdata (hs : Sim W0 w μ st) {t : TypeId} {x y : AV} {v : Value} (hv : VR w μ st x v) (hy : (x = .nils ∧ y = .nilp) ∨ ∃ r o l cm g sz ex, x = .slc r o l cm g sz ex ∧ 0 < cm ∧ y = .ptr r o g)
    {A : Array TypeId} {s : Sem Next} (hrun : s.run P w = ((Builtin.unsafeSliceData_ A t #[v]).run P w).andThen fun v w' => .ok (.value v) w') : Gives P W0 w μ st s y st := by
  rcases hy with ⟨rfl, rfl⟩ | ⟨r, o, l, cm, g, sz, ex, rfl, hpos, rfl⟩
  · have := hv.nils_inv; subst this
    refine Gives.pure hs ?_ .nilp
    rw [hrun]; rfl
  · cases hv with
    | @slc _ _ _ _ _ _ cap _ ad h h1 h2 h3 hl =>
      refine Gives.pure hs (v := .pointer (some ad)) ?_ (.ptr h fun lv => ?_)
      · rw [hrun]
        show ((if cap ≠ 0 then pure (.pointer (some ad)) else _ : Sem Value).run P w).andThen _ = _
        rw [if_pos (by omega)]
        rfl
      · obtain ⟨p, ty, n, hp, _, ha⟩ := hl lv
        exact ⟨p, hp, (ha (by omega)).1⟩

theorem loadBytes_ok {ad : Addr} : ∀ (cs : List AV) (b : List UInt8) (vs : List Value) (i : Nat) (acc : ByteArray), VRs w μ st cs vs → strOf cs = some b → (∀ (j : Nat) u, vs[j]? = some u → w.cell? (ad.add (i + j)) = some u) →
    (Go.loadBytes (ad.add i) acc cs.length).run P w = .ok ⟨acc.data ++ b.toArray⟩ w
  | [], b, vs, i, acc, hr, hb, hc => by
    simp [strOf] at hb; subst hb
    simp [Go.loadBytes]
  | x :: cs, b, [], i, acc, hr, hb, hc => by have := hr.1; simp at this
  | x :: cs, b, v :: vs, i, acc, hr, hb, hc => by
    cases x <;> try (simp [strOf] at hb; done)
    rename_i k n
    cases k <;> try (simp [strOf] at hb; done)
    simp [strOf] at hb
    obtain ⟨b', h1, rfl⟩ := hb
    have hv := (hr.2 0 _ _ rfl rfl).int_inv
    subst hv
    have h0 := hc 0 _ rfl
    have hadd : (ad.add i).add 1 = ad.add (i + 1) := by
      unfold Addr.add
      by_cases hi : i = 0
      · subst hi; simp
      · simp [hi]; omega
    have := loadBytes_ok cs b' vs (i + 1) (acc.push n.toNat.toUInt8) ⟨by have := hr.1; simpa using this, fun i x v hx hv => hr.2 (i + 1) x v (by simpa using hx) (by simpa using hv)⟩ h1 (fun j u hu => by
      have := hc (j + 1) u (by simpa using hu)
      rwa [show i + (j + 1) = i + 1 + j by omega] at this)
    simp only [List.length_cons, Go.loadBytes, Sem.run_bind]
    simp only [Nat.add_zero] at h0
    simp only [run_load, h0, Result.andThen_ok, hadd, this]
    congr 2
    apply Array.ext'
    simp


theorem give_clear (hs : Sim W0 w μ st) {t ty : TypeId} {A : Array TypeId} (hA : A[0]? = some t) {x : AV} {v : Value} (hv : VR w μ st x v) {st' : St}
    (hy : ((x = .nils ∨ x = .nilm) ∧ st' = st ∧ ∃ d, P.underlying t = some d) ∨
      (∃ r off len cm gen sz ex e zero, x = .slc r off len cm gen sz ex ∧ P.underlying t = some (.slice e) ∧ zeroCellsT P e = some zero ∧ zero.length = sz ∧ wrRow st r off gen (repCells zero len) = some st') ∨
      (∃ r es h k e, x = .map r ∧ P.underlying t = some (.map k e) ∧ st[r]? = some (.map es h) ∧ st' = st.set r (.map [] h)))
    {s : Sem Next} (hrun : s.run P w = ((Builtin.clear_ A ty #[v]).run P w).andThen fun v w' => .ok (.value v) w') : Gives P W0 w μ st s (.tup []) st' := by
  rcases hy with ⟨hx, rfl, d, hu⟩ | ⟨r, off, len, cm, gen, sz, ex, e, zero, rfl, hu, hz, hzl, hw⟩ | ⟨r, es, h, k, e, rfl, hu, hr, rfl⟩
  · refine Gives.pure hs (v := .tuple #[]) ?_ (.tup (by simp) (by simp))
    rw [hrun]
    rcases hx with rfl | rfl
    · have := hv.nils_inv; subst this
      simp [Builtin.clear_, hA, run_underlying w hu]
    · have := hv.nilm_inv; subst this
      simp [Builtin.clear_, hA, run_underlying w hu]
  · cases hv with
    | @slc _ _ _ _ _ _ cap _ ad h h1 h2 h3 hl =>
      obtain ⟨zv, hzv, hzc, _⟩ := zeroCells_ok (P := P) (w := w) (μ := μ) (st := st) hz
      have hsz' : zv.cells.size = sz := by have := hzc.1; simp at this; omega
      have hzs := zeros_ok hzc len
      obtain ⟨p, hp, hlive, w', e1, e2, e3, _⟩ := wrRow_ok (P := P) hs hw h hzs
      obtain ⟨p', ty', n, hp', hsh, ha⟩ := hl hlive
      rw [hp] at hp'; cases hp'
      refine ⟨.tuple #[], w', μ, .inl ?_, .tup (by simp) (by simp), e2, e3⟩
      rw [hrun]
      by_cases h0 : len = 0
      · subst h0
        have : w' = w := by
          simp [storeCells] at e1
          exact e1.symm
        subst this
        simp [Builtin.clear_, hA, run_underlying w' hu]
      · obtain ⟨rfl, _⟩ := ha (by omega)
        have hm : ∀ n : Nat, len = n + 1 → (Builtin.clear_ A ty #[.slice (some ⟨p.blk, p.base + off, none⟩) (n + 1) cap]).run P w = .ok (.tuple #[]) w' := by
          intro n hn
          subst hn
          simp only [Builtin.clear_, hA, Sem.run_bind, run_underlying w hu, Result.andThen_ok]
          simp only [List.getElem?_toArray, List.getElem?_cons_zero, Sem.run_bind, run_underlying w hu, Result.andThen_ok, hzv, Builtin.zeroCells, e1, Sem.run_pure]
        obtain ⟨n, hn⟩ : ∃ n, len = n + 1 := ⟨len - 1, by omega⟩
        have := hm n hn
        rw [← hn] at this
        rw [this]
        rfl
  · obtain ⟨p, rfl, hp, ents, clk, hb, hg, hl, hrel⟩ := map_at (P := P) hs hr hv
    have hlt2 : p.blk < w.heap.size := (Array.getElem?_eq_some_iff.1 hb).1
    have hset : (setObj p.blk (.map #[] clk)).run P w = .ok () { w with heap := w.heap.setIfInBounds p.blk (.map #[] clk) } := by simp [setObj, Sem.run, hb]
    have ht : Turn p.blk w { w with heap := w.heap.setIfInBounds p.blk (.map #[] clk) } :=
      ⟨by simp, fun C _ hne => by simp only; rw [Array.getElem?_setIfInBounds_ne (fun e => hne e.symm)], rfl, rfl, rfl⟩
    have hmu : μ.set r p = μ := by
      have hlt' : r < μ.length := (List.getElem?_eq_some_iff.1 hp).1
      have : μ[r] = p := (List.getElem?_eq_some_iff.1 hp).2
      rw [← this]; exact List.set_getElem_self hlt'
    have hnewb : ({ w with heap := w.heap.setIfInBounds p.blk (.map #[] clk) } : World).heap[p.blk]? = some (.map #[] clk) := by simp [hlt2]
    have hsh : ({ w with heap := w.heap.setIfInBounds p.blk (.map #[] clk) } : World).shape? p.blk = w.shape? p.blk := by simp only [World.shape?, hnewb, hb]
    have he := hs.turn_ext (row' := .map [] h) (p' := p) hr hp rfl rfl ht (.inl rfl) (.inl ⟨rfl, rfl, hsh⟩)
    have hsim := hs.turn (row' := .map [] h) (p' := p) hr hp rfl rfl ht (.inl rfl) (.inl ⟨rfl, rfl, hsh⟩) (by intro i k v h; simp at h) ⟨#[], clk, hnewb, by simp, by simp⟩
    rw [hmu] at he hsim
    refine ⟨.tuple #[], _, μ, .inl ?_, .tup (by simp) (by simp), hsim, he⟩
    rw [hrun]
    simp [Builtin.clear_, hA, run_underlying w hu, hg, hset]

theorem give_ustr (hs : Sim W0 w μ st) {t it ty e : TypeId} (hu : P.underlying t = some (.pointer e)) (hsz1 : sizeT P e = some 1) {r off gen n : Nat} {px nx : AV} {pv nv : Value} (hpv : VR w μ st px pv) (hnv : VR w μ st nx nv) (hn : natOf nx = some n) (hnb : (n : Int) ≤ 9223372036854775807)
    {y : AV} {st' : St} (hy : (n = 0 ∧ (px = .nilp ∨ ∃ r o g, px = .ptr r o g) ∧ y = .str [] ∧ st' = st) ∨
      (n ≠ 0 ∧ px = .ptr r off gen ∧ ∃ cs h fz b l, st[r]? = some (.cells cs gen h fz e) ∧ cut cs off n = some l ∧ strOf l = some b ∧ y = .str b ∧ st' = st.set r (.cells cs gen h true e)))
    {s : Sem Next} (hrun : s.run P w = ((Builtin.unsafeString_ #[t, it] ty #[pv, nv]).run P w).andThen fun v w' => .ok (.value v) w') : Gives P W0 w μ st s y st' := by
  obtain ⟨k, z, rfl, hz0, hzn⟩ := hnv.nat hn
  have hz1 : ¬ z < 0 := by omega
  have hz2 : ¬ z > IntKind.i64.max := by
    have : IntKind.i64.max = 9223372036854775807 := by decide
    rw [this]; omega
  rcases hy with ⟨rfl, hpx, rfl, rfl⟩ | ⟨hne, rfl, cs, h, fz, b, l, hrow, hcut, hstr, rfl, rfl⟩
  · have hz3 : z = 0 := by omega
    subst hz3
    obtain ⟨q, rfl⟩ : ∃ q, pv = .pointer q := by
      rcases hpx with rfl | ⟨r, o, g, rfl⟩
      · exact ⟨none, hpv.nilp_inv⟩
      · cases hpv with
        | ptr => exact ⟨_, rfl⟩
    refine Gives.pure hs (v := .string ⟨#[]⟩) ?_ (.str [])
    rw [hrun]
    have hk : ∀ k, (Builtin.unsafeString_ #[t, it] ty #[.pointer q, .int k 0]).run P w = .ok (.string .empty) w := by
      intro k
      have := Lib.run_unsafeString_none (P := P) w t it ty q
      cases k <;> exact this
    rw [hk]
    rfl
  · have hz3 : z ≠ 0 := by omega
    cases hpv with
    | @ptr _ _ _ ad hvl hll =>
      have hlive : Live st r gen := ⟨_, hrow, rfl, rfl⟩
      obtain ⟨p, hp, rfl⟩ := hll hlive
      obtain ⟨hW, c, fr, hb, hsz, hcs, hfz⟩ := hs.row r _ p hrow hp rfl
      obtain ⟨c1, _, c3⟩ := cut_some hcut
      have hlen : off + n ≤ cs.length := by
        unfold cut at hcut
        simp only at hcut
        split at hcut
        · rename_i hl'; simp at hl'; omega
        · cases hcut
      have hcells : P.cellsOf e = 1 := by
        unfold sizeT at hsz1
        unfold Program.cellsOf
        cases hi : P.info? e with
        | none => simp [hi] at hsz1
        | some i => simp [hi] at hsz1 ⊢; exact hsz1
      obtain ⟨d, hdd⟩ : ∃ d, P.depth = d + 1 := ⟨_, rfl⟩
      have hvar : (variablesAt ⟨p.blk, p.base + off, none⟩ e n).run P w = .ok true w := by
        simp only [variablesAt, Sem.run_bind, run_program, Result.andThen_ok, run_shape, World.shape?, hb, Sem.run_pure, hcells, Nat.div_one]
        congr 1
        have hrow : ∀ m, rowAt P (sameLayout P P.depth · e) (m + 1) e c.size (p.base + off) n = true := by
          intro m
          rw [rowAt.eq_def]
          simp only [hcells]
          rw [hdd]
          simp [sameLayout, show p.base + off + n ≤ c.size by omega, Nat.mod_one]
        have := hrow d
        rw [← hdd] at this
        rw [show P.depth = d + 1 from hdd, liesAt.eq_def]
        simp only
        rw [this]
        rfl
      obtain ⟨vs, g1, g2, g3⟩ := pick_vals (p := fun i u => w.cell? ((⟨p.blk, p.base + off, none⟩ : Addr).add i) = some u) c1 fun i y hy => by
        have hi : i < n := by rw [← c1]; exact (List.getElem?_eq_some_iff.1 hy).1
        rw [c3 i hi] at hy
        obtain ⟨v, k1, k2⟩ := hcs _ y hy
        refine ⟨v, ?_, k2⟩
        simp only [add_lit, World.cell?, hb]
        simpa [Nat.add_assoc] using k1
      have hlb := loadBytes_ok (P := P) (ad := ⟨p.blk, p.base + off, none⟩) l b vs 0 .empty g3 hstr (fun j u hu => by simpa using g2 j u hu)
      rw [c1] at hlb
      have ha0 : (⟨p.blk, p.base + off, none⟩ : Addr).add 0 = ⟨p.blk, p.base + off, none⟩ := by simp [Addr.add]
      rw [ha0] at hlb
      obtain ⟨fr', hfr'⟩ : ∃ fr', (w.freeze ⟨p.blk, p.base + off, none⟩ n).heap[p.blk]? = some (.cells c e fr') := by
        simp only [World.freeze, hne, if_false, Array.getElem?_modify, if_true, hb, Option.map_some]
        exact ⟨_, rfl⟩
      have ht : Turn p.blk w (w.freeze ⟨p.blk, p.base + off, none⟩ n) := by
        refine ⟨?_, fun C _ hC => ?_, ?_, ?_, ?_⟩
        · simp [World.freeze, hne]
        · simp only [World.freeze, hne, if_false, Array.getElem?_modify]
          rw [if_neg (fun e => hC e.symm)]
        all_goals simp [World.freeze, hne]
      have hmu : μ.set r p = μ := by
        have hlt' : r < μ.length := (List.getElem?_eq_some_iff.1 hp).1
        have : μ[r] = p := (List.getElem?_eq_some_iff.1 hp).2
        rw [← this]; exact List.set_getElem_self hlt'
      have hsh : (w.freeze ⟨p.blk, p.base + off, none⟩ n).shape? p.blk = w.shape? p.blk := by simp only [World.shape?, hfr', hb]
      have hext := hs.turn_ext (row' := .cells cs gen h true e) (p' := p) hrow hp rfl rfl ht (.inl rfl) (.inl ⟨rfl, rfl, hsh⟩)
      have hsim := hs.turn (row' := .cells cs gen h true e) (p' := p) hrow hp rfl rfl ht (.inl rfl) (.inl ⟨rfl, rfl, hsh⟩) (show AV.his cs ≤ h from hs.top r (.cells cs gen h fz e) hrow) ⟨c, fr', hfr', hsz, fun i x hi => by
        obtain ⟨v, k1, k2⟩ := hcs i x hi
        exact ⟨v, k1, k2.ext hext⟩, by simp⟩
      rw [hmu] at hext hsim
      refine ⟨.string ⟨b.toArray⟩, _, μ, .inl ?_, .str _, hsim, hext⟩
      rw [hrun]
      have hem : (ByteArray.empty.data ++ b.toArray) = b.toArray := by apply Array.ext'; simp
      rw [hem] at hlb
      have hdef : Builtin.unsafeString_ #[t, it] ty #[.pointer (some ⟨p.blk, p.base + off, none⟩), .int k z] =
          (do
            let n ← asInt (.int k z)
            if n < 0 then runtimePanic (.error "unsafe.String: len out of range")
            if n > IntKind.i64.max then unsupported (.unsafePointer "String: a length above the largest int")
            if n = 0 then pure (.string .empty)
            else if ← variablesAt ⟨p.blk, p.base + off, none⟩ (← elemOf t) n.toNat then do
              let s ← Go.loadBytes ⟨p.blk, p.base + off, none⟩ .empty n.toNat
              freeze ⟨p.blk, p.base + off, none⟩ n.toNat
              pure (.string s)
            else unsupported (.unsafePointer "String: not so many bytes at ptr")) := rfl
      rw [hdef]
      simp only [Sem.run_bind, asInt, asIntOf, Sem.run_pure, Result.andThen_ok, hz1, hz2, if_false, hz3, elemOf, run_underlying w hu, hzn, hvar, if_true, hlb, run_freeze]

end
end Go.Eng

set_option linter.unusedSimpArgs false
namespace Go.Eng
open Go

section
variable {P : Program} {C : Ctx} {W0 w : World} {μ : Pls} {st : St} {env : Env} {a : Act}

/-- What is appended: so many elements, so many cells. -/
def AppSrc (P : Program) (w : World) (A : Array TypeId) (e : TypeId) (sz : Nat) (x : Value) (n : Nat) (new : Array Value) : Prop :=
  (∃ u d, A[1]? = some u ∧ P.underlying u = some d ∧ (∀ k, d ≠ .int k) ∧ (Builtin.lenOf x).run P w = .ok n w ∧ (Builtin.firstCells sz n x).run P w = .ok new w) ∨
  (∃ u k k' bytes zv, A[1]? = some u ∧ P.underlying u = some (.int k) ∧ x = .int k' (n : Int) ∧ (n : Int) ≤ 9223372036854775807 ∧ (∃ i, P.info? e = some i ∧ i.bytes = bytes) ∧ n * bytes ≤ 281474976710656 ∧
    (zeroValue e).run P w = .ok zv w ∧ 0 < sz ∧ zv.cells.size = sz ∧ new = if n * sz = 0 then #[] else Builtin.zeroCells zv.cells n)

theorem append_place {A : Array TypeId} {t ty e : TypeId} (hA : A[0]? = some t) (hu : P.underlying t = some (.slice e)) {sz : Nat} (hsz : sizeT P e = some sz) {base : Option Addr} {len cap n : Nat} {x : Value} {new : Array Value}
    (hsrc : AppSrc P w A e sz x n new) (hle : len + n ≤ cap) :
    (Builtin.append_ A ty #[.slice base len cap, x]).run P w = (match base with
      | some a => (storeCells (a.add (len * sz)) new.toList).run P w
      | none => .ok () w).andThen fun _ w' => .ok (.slice base (len + n) cap) w' := by
  rcases hsrc with ⟨u, d, h1, h2, h3, h4, h5⟩ | ⟨u, k, k', bytes, zv, h1, h2, rfl, h3, ⟨i, hi, hib⟩, h5, h6, h7, h8, h9⟩
  · have hd : (match d with | .int _ => true | _ => false) = false := by cases d <;> first | rfl | exact absurd rfl (h3 _)
    unfold Builtin.append_
    simp only [hA, h1, List.getElem?_toArray, List.getElem?_cons_zero, List.getElem?_cons_succ, Sem.run_bind, run_underlying w hu, Result.andThen_ok, run_sizeOf w hsz, run_underlying w h2, Sem.run_pure, hd, Bool.false_eq_true, if_false, h4, hle, if_true, Bool.not_false, h5]
    cases base <;> simp
  · have hw : IntKind.i64.wrap (n : Int) = n := IntWalk.i64_in _ (by omega)
    have hb : ¬ ((n : Int) * (i.bytes : Int) > 2 ^ 48) := by
      rw [hib, ← Int.natCast_mul]; omega
    have hneg : ¬ ((n : Int) < 0) := by omega
    unfold Builtin.append_
    simp only [hA, h1, List.getElem?_toArray, List.getElem?_cons_zero, List.getElem?_cons_succ, Sem.run_bind, run_underlying w hu, Result.andThen_ok, run_sizeOf w hsz, run_underlying w h2, Sem.run_pure, if_true, asInt, asIntOf, hw, hneg, if_false, run_typeInfo w hi, hb, Int.toNat_natCast, hle, Bool.not_true, Bool.false_eq_true]
    by_cases h0 : n * sz = 0
    · rw [if_pos h0] at h9; subst h9
      simp only [h0, if_true, Sem.run_pure, Result.andThen_ok]
      cases base <;> simp
    · rw [if_neg h0] at h9; subst h9
      simp only [h0, if_false, Sem.run_bind, h6, Sem.run_pure, Result.andThen_ok]
      cases base <;> simp

theorem next_cap {need old b : Nat} (h : old < need) : Builtin.nextslicecap need old * b ≤ (2 * need + 1000) * b := by
  apply Nat.mul_le_mul_right
  unfold Builtin.nextslicecap
  split
  · omega
  · split
    · omega
    · simp only [Builtin.growBy]
      repeat' split
      all_goals omega

theorem append_grow {A : Array TypeId} {t ty e : TypeId} (hA : A[0]? = some t) (hu : P.underlying t = some (.slice e)) {sz bytes : Nat} (hsz : sizeT P e = some sz) (hby : bytesT P e = some bytes) {zv : Value} (hzv : ∀ w, (zeroValue e).run P w = .ok zv w)
    {base : Option Addr} {len cap n : Nat} {x : Value} {new old : Array Value} (hsrc : AppSrc P w A e sz x n new) (hsrc2 : AppSrc P w.drew A e sz x n new) (hgt : cap < len + n) (hold : (Builtin.firstCells sz len (.slice base len cap)).run P w.drew = .ok old w.drew) (hsm : (2 * (len + n) + 1000) * (bytes + 1) ≤ 281474976710656) :
    ∃ c, len + n ≤ c ∧ (Builtin.append_ A ty #[.slice base len cap, x]).run P w = .ok (.slice (some ⟨w.heap.size, 0, none⟩) (len + n) c) (w.drew.alloc (.cells (old ++ new ++ Builtin.zeroCells zv.cells (c - (len + n))) e)) := by
  obtain ⟨c, hc1, hc2⟩ := run_choose_cap (P := P) (w := w) (len + n) cap e
  obtain ⟨i, hi, hib⟩ := bytes_info hby
  have hbig : (2 * (len + n) + 1000) * (bytes + 1) = (2 * (len + n) + 1000) * bytes + (2 * (len + n) + 1000) := by rw [Nat.mul_add]; omega
  have hmax : ¬ (((len + n : Nat) : Int) > IntKind.i64.max) := by
    have : IntKind.i64.max = 9223372036854775807 := by decide
    rw [this]; omega
  have hnc : ¬ (Builtin.nextslicecap (len + n) cap * i.bytes > 2 ^ 48) := by
    have := next_cap (b := i.bytes) hgt
    rw [hib] at this ⊢
    have e48 : (2 : Nat) ^ 48 = 281474976710656 := by decide
    rw [e48]; omega
  have hnle : ¬ (len + n ≤ cap) := by omega
  refine ⟨c, hc1, ?_⟩
  rcases hsrc with ⟨u, d, h1, h2, h3, h4, h5⟩ | ⟨u, k, k', bytes', zv', h1, h2, rfl, h3, ⟨i', hi', hib'⟩, h5, h6, h7, h8, h9⟩
  · rcases hsrc2 with ⟨u', d', g1, g2, g3, g4, g5⟩ | ⟨u', k, k', bytes', zv', g1, g2, _⟩
    · have hd : (match d with | .int _ => true | _ => false) = false := by cases d <;> first | rfl | exact absurd rfl (h3 _)
      unfold Builtin.append_
      simp only [hA, h1, List.getElem?_toArray, List.getElem?_cons_zero, List.getElem?_cons_succ, Sem.run_bind, run_underlying w hu, Result.andThen_ok, run_sizeOf w hsz, run_underlying w h2, Sem.run_pure, hd, Bool.false_eq_true, if_false, h4, hnle, Bool.not_false, if_true,
        run_typeInfo _ hi, hmax, false_and, hnc, hc2, run_askRoom, hold, g5, hzv, newRow, run_newObj, World.alloc_eq, World.size_drew]
    · rw [h1] at g1; cases g1
      rw [h2] at g2; cases g2
      exact absurd rfl (h3 _)
  · have hw : IntKind.i64.wrap (n : Int) = n := IntWalk.i64_in _ (by omega)
    have hb : ¬ ((n : Int) * (i.bytes : Int) > 2 ^ 48) := by
      rw [hi] at hi'; cases hi'
      rw [hib', ← Int.natCast_mul]; omega
    have hneg : ¬ ((n : Int) < 0) := by omega
    have hzz : zv' = zv := by have := hzv w; rw [h6] at this; cases this; rfl
    subst hzz
    unfold Builtin.append_
    simp only [hA, h1, List.getElem?_toArray, List.getElem?_cons_zero, List.getElem?_cons_succ, Sem.run_bind, run_underlying w hu, Result.andThen_ok, run_sizeOf w hsz, run_underlying w h2, Sem.run_pure, if_true, asInt, asIntOf, hw, hneg, if_false, run_typeInfo w hi, hb, Int.toNat_natCast, hnle, Bool.not_true, Bool.false_eq_true,
      hmax, false_and, hnc, hc2, run_askRoom, hold, run_typeInfo _ hi]
    by_cases h0 : n * sz = 0
    · rw [if_pos h0] at h9; subst h9
      simp only [h0, if_true, Sem.run_pure, Result.andThen_ok, Sem.run_bind, hzv, newRow, run_newObj, World.alloc_eq, World.size_drew]
    · rw [if_neg h0] at h9; subst h9
      simp only [h0, if_false, Sem.run_bind, Sem.run_pure, Result.andThen_ok, hzv, newRow, run_newObj, World.alloc_eq, World.size_drew]

end
end Go.Eng

set_option linter.unusedSimpArgs false
namespace Go.Eng
open Go

section
variable {P : Program} {C : Ctx} {W0 w : World} {μ : Pls} {st : St} {env : Env} {a : Act}

theorem Quiet.cell {w w' : World} (q : Quiet w w') {a : Addr} {v : Value} (h : w.cell? a = some v) : w'.cell? a = some v := by
  rw [cell?_eq (q.block _ (World.block_lt_of_cell? _ _ h))]; exact h

theorem str_cells (b : List UInt8) : VRs w μ st (b.map fun b => .int .u8 b.toNat) (b.map fun b => Value.int .u8 b.toNat).toArray.toList := by
  refine ⟨by simp, fun i x v hx hv => ?_⟩
  simp at hx hv
  obtain ⟨c, h1, rfl⟩ := hx
  obtain ⟨c', h2, rfl⟩ := hv
  rw [h1] at h2; cases h2
  exact .int _ _

theorem appSrc_elems (hs : Sim W0 w μ st) {A : Array TypeId} {e u : TypeId} {d : TypeDesc} {sz : Nat} (h1 : A[1]? = some u) (h2 : P.underlying u = some d) (h3 : ∀ k, d ≠ .int k)
    {x : AV} {xv : Value} (hx : VR w μ st x xv) {cs : List AV} {k : Nat} (he : elems st x = some cs) (hl : lenA x = some k) (hcs : k ≠ 0 → cs.length = k * sz) :
    ∃ new : Array Value, (∀ w', Quiet w w' → AppSrc P w' A e sz xv k new) ∧ (k = 0 → new = #[]) ∧ (k ≠ 0 → VRs w μ st cs new.toList) := by
  have H := elems_ok hs hx he
  cases H with
  | nils h hc =>
    subst h
    simp [lenA] at hl; subst hl
    exact ⟨#[], fun w' q => .inl ⟨u, d, h1, h2, h3, by simp [Builtin.lenOf], by simp [Builtin.firstCells]⟩, fun _ => rfl, fun h => absurd rfl h⟩
  | str b h hc =>
    subst h
    simp only [lenA, Option.some.injEq] at hl; subst hl
    refine ⟨_, fun w' q => .inl ⟨u, d, h1, h2, h3, ?_, by simp [Builtin.firstCells]; rfl⟩, fun h => ?_, fun _ => ?_⟩
    · simp only [Builtin.lenOf, Sem.run_pure]; rfl
    · cases b <;> simp at h ⊢
    · subst hc
      exact str_cells b
  | slice ad len cap sz' vs h hne hns hl' hv hcell hr hsz hsz2 =>
    rw [hl] at h; cases h
    refine ⟨vs.toArray, fun w' q => .inl ⟨u, d, h1, h2, h3, by simp [Builtin.lenOf], ?_⟩, fun h0 => ?_, fun _ => by simpa using hr⟩
    · by_cases h0 : k = 0
      · subst h0
        have : vs = [] := by cases vs; rfl; simp at hv
        subst this
        exact run_firstCells (by simp) (by simp)
      · exact run_firstCells (by rw [← hr.1]; exact hcs h0) fun i y hy => q.cell (hcell i y hy)
    · subst h0
      have : vs = [] := by cases vs; rfl; simp at hv
      subst this; rfl

theorem appSrc_zeros {A : Array TypeId} {e u : TypeId} {ik : IntKind} {sz bytes : Nat} (h1 : A[1]? = some u) (h2 : P.underlying u = some (.int ik)) (hby : bytesT P e = some bytes) {zero : List AV} (hz : zeroCellsT P e = some zero) (hzl : zero.length = sz) (hpos : 0 < sz)
    {x : AV} {xv : Value} (hx : VR w μ st x xv) {k : Nat} (hk : natOf x = some k) (hsm : (k + 1) * (bytes + 1) ≤ small) :
    ∃ new : Array Value, (∀ w', AppSrc P w' A e sz xv k new) ∧ (k = 0 → new = #[]) ∧ VRs w μ st (repCells zero k) new.toList := by
  obtain ⟨k', z, rfl, p0, p1⟩ := hx.nat hk
  obtain ⟨b1, b2⟩ := small_mul hsm
  obtain ⟨zv, hzv, hzc, hz0⟩ := zeroCells_ok (P := P) (w := w) (μ := μ) (st := st) hz
  have hzv' : ∀ w', (zeroValue e).run P w' = .ok zv w' := by
    intro w'
    unfold zeroCellsT at hz
    simp only [Option.map_eq_some_iff] at hz
    obtain ⟨z, hz, _⟩ := hz
    unfold zeroT at hz
    cases hi : P.info? e with
    | none => simp [hi] at hz
    | some i =>
      cases hzz : i.zero with
      | none => simp [hi, hzz] at hz
      | some v =>
        have : ∀ w, (zeroValue e).run P w = .ok v w := fun w => by simp [zeroValue, typeInfo, hi, hzz]
        have h := hzv; rw [this] at h; cases h
        exact this w'
  have hsz' : zv.cells.size = sz := by have := hzc.1; simp at this; omega
  have hzz : (k : Int) = z := by omega
  refine ⟨if k * sz = 0 then #[] else Builtin.zeroCells zv.cells k, fun w' => .inr ⟨u, ik, k', bytes, zv, h1, h2, by rw [hzz], by omega, bytes_info hby, by omega, hzv' w', hpos, hsz', rfl⟩, fun h => by subst h; simp, ?_⟩
  have := zeros_ok hzc k
  by_cases h0 : k * sz = 0
  · rw [if_pos h0]
    have : k = 0 := by rcases Nat.mul_eq_zero.1 h0 with h | h; exact h; omega
    subst this
    exact ⟨by simp [repCells], by simp [repCells]⟩
  · rw [if_neg h0]
    exact this

theorem zeroValue_all (w : World) {e : TypeId} {zero : List AV} (hz : zeroCellsT P e = some zero) : ∃ zv : Value, (∀ w, (zeroValue e).run P w = .ok zv w) ∧ zv.cells.size = zero.length := by
  obtain ⟨zv, hzv, hzc, _⟩ := zeroCells_ok (P := P) (w := w) (μ := []) (st := []) hz
  unfold zeroCellsT at hz
  simp only [Option.map_eq_some_iff] at hz
  obtain ⟨z, hz, _⟩ := hz
  unfold zeroT at hz
  cases hi : P.info? e with
  | none => simp [hi] at hz
  | some i =>
    cases hzz : i.zero with
    | none => simp [hi, hzz] at hz
    | some v =>
      have h1 : ∀ w, (zeroValue e).run P w = .ok v w := fun w => by simp [zeroValue, typeInfo, hi, hzz]
      have h := hzv; rw [h1] at h; cases h
      exact ⟨_, h1, by have := hzc.1; simp at this; omega⟩

theorem grow_small_aux {x y : Nat} (h : y ≤ 2 * x) (h2 : x ≤ 1099511627776) : y ≤ 281474976710656 := by omega

theorem grow_le (a b : Nat) : (2 * a + 1000) * (b + 1) ≤ 2 * ((a + 1000) * (b + 1)) := by
  rw [← Nat.mul_assoc]
  exact Nat.mul_le_mul_right _ (by omega)

theorem grow_small {a b : Nat} (h : (a + 1000) * (b + 1) ≤ small) : (2 * a + 1000) * (b + 1) ≤ 281474976710656 := grow_small_aux (grow_le a b) h

theorem shape_new (w : World) (arr : Array Value) (e : TypeId) : (w.alloc (.cells arr e)).shape? w.heap.size = some (e, arr.size) := by
  simp only [World.shape?, heap_new]

/-- What a grown slice's block holds. -/
theorem grown {ocs ncs : List AV} {old new zs : Array Value} (ho : VRs w μ st ocs old.toList) (hn : VRs w μ st ncs new.toList) :
    (ocs ++ ncs).length ≤ (old ++ new ++ zs).size ∧ ∀ (i : Nat) x, (ocs ++ ncs)[i]? = some x → ∃ v, (old ++ new ++ zs)[i]? = some v ∧ VR w μ st x v := by
  obtain ⟨o1, o2⟩ := cells_list ho
  obtain ⟨n1, n2⟩ := cells_list hn
  refine ⟨by simp [o1, n1], fun i x hx => ?_⟩
  rw [Array.append_assoc]
  rcases Nat.lt_or_ge i ocs.length with hlt | hge
  · rw [List.getElem?_append_left hlt] at hx
    rw [Array.getElem?_append_left (by omega)]
    exact o2 i x hx
  · rw [List.getElem?_append_right hge] at hx
    have hlt := (List.getElem?_eq_some_iff.1 hx).1
    rw [Array.getElem?_append_right (by omega), Array.getElem?_append_left (by omega), ← o1]
    exact n2 _ x hx

section
variable {A : Array TypeId} {t ty e : TypeId} {sz bytes k : Nat} {zero : List AV} (hA : A[0]? = some t) (hu : P.underlying t = some (.slice e)) (hsz : sizeT P e = some sz) (hby : bytesT P e = some bytes) (hz : zeroCellsT P e = some zero) (hzl : zero.length = sz)
  {cs : List AV} {xv : Value} {new : Array Value} (hsrc : ∀ w', Quiet w w' → AppSrc P w' A e sz xv k new) (hn : VRs w μ st cs new.toList) (hcs : cs.length = k * sz)
include hA hu hsz hby hz hzl hsrc hn hcs

/-- A slice grown into a new block. -/
theorem append_new {base : Option Addr} {len cap : Nat} (hgt : cap < len + k) {ocs : List AV} {old : Array Value} (ho : VRs w μ st ocs old.toList) (hol : ocs.length = len * sz) (hold : (Builtin.firstCells sz len (.slice base len cap)).run P w.drew = .ok old w.drew)
    (hsm : (len + k + 1000) * (bytes + 1) ≤ small) : ∃ (c : Nat) (arr : Array Value), len + k ≤ c ∧ arr.size = c * sz ∧
      (Builtin.append_ A ty #[.slice base len cap, xv]).run P w = .ok (.slice (some ⟨w.heap.size, 0, none⟩) (len + k) c) (w.drew.alloc (.cells arr e)) ∧
      (ocs ++ cs).length ≤ arr.size ∧ ∀ (i : Nat) x, (ocs ++ cs)[i]? = some x → ∃ v, arr[i]? = some v ∧ VR w μ st x v := by
  obtain ⟨zv, hzv, hzs⟩ := zeroValue_all w hz
  obtain ⟨c, hc, hr⟩ := append_grow (ty := ty) hA hu hsz hby hzv (hsrc w (Quiet.refl w)) (hsrc w.drew (Quiet.drew w)) hgt hold (grow_small hsm)
  obtain ⟨g1, g2⟩ := grown (zs := Builtin.zeroCells zv.cells (c - (len + k))) ho hn
  refine ⟨c, _, hc, ?_, hr, g1, g2⟩
  obtain ⟨o1, _⟩ := cells_list ho
  obtain ⟨n1, _⟩ := cells_list hn
  have : (Builtin.zeroCells zv.cells (c - (len + k))).size = (c - (len + k)) * sz := by simp [Builtin.zeroCells, hzs, hzl]
  simp only [Array.size_append, this, ← o1, ← n1, hol, hcs]
  rw [← Nat.add_mul, ← Nat.add_mul]
  congr 1; omega

end

theorem take_drop_rd {st : St} {r off gen len sz : Nat} {cs : List AV} {h : Nat} {fz : Bool} {ty : TypeId} (hr : st[r]? = some (.cells cs gen h fz ty)) (hle : off + len * sz ≤ cs.length) : rdRow st r off gen (len * sz) = some ((cs.drop off).take (len * sz)) := by
  simp only [rdRow, hr, if_true, cut]
  rw [if_pos]
  simp; omega

set_option maxHeartbeats 1000000 in
theorem give_append (hs : Sim W0 w μ st) {A : Array TypeId} {t ty e : TypeId} {sz bytes k : Nat} {zero : List AV} (hA : A[0]? = some t) (hu : P.underlying t = some (.slice e)) (hsz : sizeT P e = some sz) (hpos : 0 < sz) (hby : bytesT P e = some bytes)
    (hz : zeroCellsT P e = some zero) (hzl : zero.length = sz) {cs : List AV} {sv xv : Value} {new : Array Value} (hsrc : ∀ w', Quiet w w' → AppSrc P w' A e sz xv k new) (hn0 : k = 0 → new = #[]) (hn : k ≠ 0 → VRs w μ st cs new.toList)
    {sx y : AV} {st' : St} (hsv : VR w μ st sx sv) (ha : aAppend st e sz bytes sx cs k = some (y, st'))
    {s : Sem Next} (hrun : s.run P w = ((Builtin.append_ A ty #[sv, xv]).run P w).andThen fun v w' => .ok (.value v) w') : Gives P W0 w μ st s y st' := by
  unfold aAppend at ha
  by_cases hk : k = 0
  · rw [if_pos hk] at ha
    have hns : ∀ b, sx ≠ .str b := by rintro b rfl; cases ha
    obtain ⟨n, hl, hy⟩ : ∃ n, lenA sx = some n ∧ (sx, st) = (y, st') := by
      cases hsx : lenA sx with
      | none => exfalso; cases sx <;> simp_all
      | some n => exact ⟨n, rfl, by cases sx <;> simp_all⟩
    cases hy
    subst hk
    obtain rfl := hn0 rfl
    obtain ⟨base, cap, rfl, hle⟩ : ∃ base cap, sv = .slice base n cap ∧ n ≤ cap := by
      cases hsv with
      | nils => simp [lenA] at hl; subst hl; exact ⟨_, _, rfl, Nat.le_refl _⟩
      | str b => exact absurd rfl (hns b)
      | slc h h1 h2 => simp [lenA] at hl; subst hl; exact ⟨_, _, rfl, by omega⟩
      | sl vs h1 => simp [lenA] at hl; subst hl; exact ⟨_, _, rfl, h1⟩
      | _ => simp [lenA] at hl
    refine Gives.pure hs ?_ hsv
    rw [hrun, append_place hA hu hsz (hsrc w (Quiet.refl w)) (by omega)]
    cases base <;> simp [storeCells]
  · rw [if_neg hk] at ha
    split at ha
    · cases ha
    rename_i hc0
    have hcl : cs.length = k * sz := by
      rcases Nat.decEq cs.length (k * sz) with h | h
      · exact absurd (.inl h) hc0
      · exact h
    have hcell : cs.all AV.isCell = true := by
      cases h : cs.all AV.isCell with
      | true => rfl
      | false => exact absurd (.inr h) hc0
    have hnew := hn hk
    split at ha
    · -- nils
      split at ha
      · rename_i hsm
        cases ha
        have := hsv.nils_inv
        subst this
        obtain ⟨c, arr, h1, h2, h3, h4, h5⟩ := append_new (ty := ty) hA hu hsz hby hz hzl hsrc hnew hcl (base := none) (len := 0) (cap := 0) (by omega) (ocs := []) (old := #[]) ⟨rfl, by simp⟩ (by simp) (by simp [Builtin.firstCells]) (by simpa using hsm)
        obtain ⟨s1, e1⟩ := hs.newRow (Quiet.drew w) (ty := e) h4 h5 (Nat.le_refl _)
        simp only [List.nil_append, Nat.zero_add] at s1 e1 h1 h3
        refine ⟨_, _, _, .inl (by rw [hrun, h3]; rfl), VR.newSlc hs _ _ _ rfl rfl (Nat.le_refl _) h1 (by simp) (ty := e) (n := arr.size) ?_ (by omega), s1, e1⟩
        exact shape_new w.drew arr e
      · cases ha
    · -- sl
      rename_i sz' es ex
      split at ha
      · rename_i hc
        obtain ⟨rfl, rfl, hsm⟩ := hc
        cases ha
        have H := elems_ok hs hsv (cs := es.flatten) rfl
        cases H with
        | nils h => cases h
        | str b h => cases h
        | slice ad len cap sz2 vs h hne hns hl' hv hcell' hr hsz1 hsz2 =>
          simp only [lenA, Option.some.injEq] at h
          obtain rfl := hsz1 _ _ _ rfl
          have hcap : cap = es.length := by cases hsv with | sl vs h1 h3 => exact h3 rfl
          subst h hcap
          obtain ⟨c, arr, h1, h2, h3, h4, h5⟩ := append_new (ty := ty) hA hu hsz hby hz hzl hsrc hnew hcl (base := some ad) (len := es.length) (cap := es.length) (by omega) (ocs := es.flatten) (old := vs.toArray) (by simpa using hr) hl'
            (run_firstCells hv fun i y hy => (Quiet.drew w).cell (hcell' i y hy)) hsm
          obtain ⟨s1, e1⟩ := hs.newRow (Quiet.drew w) (ty := e) (hi := AV.his cs) h4 h5 (by
            rw [his_append]
            have : AV.his es.flatten ≤ 0 := his_le fun i c hi => by
              cases hsv with
              | sl vs g1 g3 gn =>
                obtain ⟨i', j', e', k1, k2, _⟩ := (flatten_get es fun i e hi => (gn i e hi).1).2 i c hi
                have := hi_le_his k2
                have := (gn i' e' k1).2
                omega
            omega)
          refine ⟨_, _, _, .inl (by rw [hrun, h3]; rfl), VR.newSlc hs _ _ _ rfl rfl (Nat.le_refl _) h1 (by simp) (ty := e) (n := arr.size) ?_ (by omega), s1, e1⟩
          exact shape_new w.drew arr e
      · cases ha
    · -- slc
      rename_i r off len cm gen sz' ex
      split at ha
      · cases ha
      rename_i hcc
      have hz' : sz' = sz := by
        rcases Nat.decEq sz' sz with h | h
        · exact absurd (.inl h) hcc
        · exact h
      have hsm : (len + k + 1000) * (bytes + 1) ≤ small := by
        rcases Nat.lt_or_ge small ((len + k + 1000) * (bytes + 1)) with h | h
        · exact absurd (.inr (by omega)) hcc
        · exact h
      subst hz'
      split at ha
      · rename_i rcs g h fz ty' hrow
        split at ha
        · cases ha
        rename_i hcg
        have hg : g = gen := by
          rcases Nat.decEq g gen with h | h
          · exact absurd (.inl h) hcg
          · exact h
        have hle : off + len * sz' ≤ rcs.length := by
          rcases Nat.lt_or_ge rcs.length (off + len * sz') with h | h
          · exact absurd (.inr h) hcg
          · exact h
        subst hg
        have hlive : Live st r g := ⟨_, hrow, rfl, rfl⟩
        have hrd := take_drop_rd (len := len) (sz := sz') hrow hle
        have H := elems_ok hs hsv (cs := (rcs.drop off).take (len * sz')) hrd
        have hsv2 := hsv
        cases hsv with
        | @slc _ _ _ _ _ _ cap _ ad hv hl1 hl2 hl3 hll =>
        have hold : ∃ vs : List Value, VRs w μ st ((rcs.drop off).take (len * sz')) vs ∧ ((rcs.drop off).take (len * sz')).length = len * sz' ∧ (Builtin.firstCells sz' len (.slice (some ad) len cap)).run P w.drew = .ok vs.toArray w.drew := by
          cases H with
          | slice _ len' _ sz2 vs h hne hns hl' hv' hcell' hr hsz1 hsz2 =>
            simp only [lenA, Option.some.injEq] at h
            obtain rfl := hsz2 _ _ _ _ _ _ _ rfl
            exact ⟨vs, hr, hl', run_firstCells hv' fun i y hy => (Quiet.drew w).cell (hcell' i y hy)⟩
        obtain ⟨p, pty, n, hp, hshp, hcapf⟩ := hll hlive
        obtain ⟨hW, c, fr, hb, hbsz, hbc, hfz⟩ := hs.row r _ p hrow hp rfl
        have hshape : w.shape? p.blk = some (ty', c.size) := by simp [World.shape?, hb]
        rw [hshape] at hshp
        cases hshp
        split at ha
        · -- room that the evaluator knows of
          rename_i hroom
          simp only [Option.map_eq_some_iff] at ha
          obtain ⟨st2, hw, hy⟩ := ha
          cases hy
          obtain ⟨rfl, hcap⟩ := hcapf (by omega)
          obtain ⟨p', hp', _, w', e1, e2, e3, _⟩ := wrRow_ok (P := P) hs hw hv hnew
          rw [hp] at hp'; cases hp'
          have hsv' : VR w μ st (.slc r off (len + k) cm g sz' ex) (.slice (some ⟨p.blk, p.base + off, none⟩) (len + k) cap) :=
            .slc hv hroom hl2 hl3 hll
          refine ⟨_, w', μ, .inl ?_, hsv'.ext e3, e2, e3⟩
          rw [hrun, append_place hA hu hsz (hsrc w (Quiet.refl w)) (by omega)]
          simp only [add_lit]
          rw [show p.base + off + len * sz' = p.base + (off + len * sz') by omega, e1]
          rfl
        · rename_i hroom
          split at ha
          · -- no room: the capacity is known
            rename_i hex
            cases ha
            have hcap : cap = cm := hl3 hex
            obtain ⟨vs, ho1, ho2, ho3⟩ := hold
            obtain ⟨c', arr, h1, h2, h3, h4, h5⟩ := append_new (ty := ty) hA hu hsz hby hz hzl hsrc hnew hcl (base := some ad) (len := len) (cap := cap) (by omega) (old := vs.toArray) (by simpa using ho1) ho2 ho3 hsm
            obtain ⟨s1, e1⟩ := hs.newRow (Quiet.drew w) (ty := e) (hi := max h (AV.his cs)) h4 h5 (by
              rw [his_append]
              have : AV.his ((rcs.drop off).take (len * sz')) ≤ h := his_le fun i c hi => by
                obtain ⟨k1, _⟩ := take_getElem? hi
                rw [List.getElem?_drop] at k1
                exact Row.bound_his (hs.top r _ hrow) k1
              omega)
            refine ⟨_, _, _, .inl (by rw [hrun, h3]; rfl), VR.newSlc hs _ _ _ rfl rfl (Nat.le_refl _) h1 (by simp) (ty := e) (n := arr.size) ?_ (by omega), s1, e1⟩
            exact shape_new w.drew arr e
          · split at ha
            · -- the row's tip
              rename_i htip
              obtain ⟨ht1, rfl, rfl⟩ := htip
              cases ha
              have hrlt : r < st.length := (List.getElem?_eq_some_iff.1 hrow).1
              have hplt : r < μ.length := (List.getElem?_eq_some_iff.1 hp).1
              have hbound : (Row.cells (rcs.drop off ++ cs) (g + 1) (max h (AV.his cs)) false ty').bound := by
                simp only [Row.bound, his_append]
                have : AV.his (rcs.drop off) ≤ h := his_le fun i c hi => by
                  rw [List.getElem?_drop] at hi
                  exact Row.bound_his (hs.top r _ hrow) hi
                omega
              have htake : (rcs.drop off).take (len * sz') = rcs.drop off := by
                apply List.take_of_length_le; simp; omega
              rcases Nat.lt_or_ge cap (len + k) with hgrow | hin
              · obtain ⟨vs, ho1, ho2, ho3⟩ := hold
                rw [htake] at ho1 ho2
                obtain ⟨c', arr, h1, h2, h3, h4, h5⟩ := append_new (ty := ty) hA hu hsz hby hz hzl hsrc hnew hcl (base := some ad) (len := len) (cap := cap) hgrow (old := vs.toArray) (by simpa using ho1) ho2 ho3 hsm
                have q : Quiet w (w.drew.alloc (.cells arr ty')) := (Quiet.drew w).trans (Quiet.alloc _ _)
                have hnb : (w.drew.alloc (.cells arr ty')).heap[w.heap.size]? = some (.cells arr ty') := heap_new w.drew _
                have he := hs.turn_ext (row' := .cells (rcs.drop off ++ cs) (g + 1) (max h (AV.his cs)) false ty') (p' := ⟨w.heap.size, 0⟩) hrow hp rfl rfl (Turn.of_quiet q) (.inr (Nat.le_refl _)) (.inr (by simp [Row.gen]))
                have hsim := hs.turn (row' := .cells (rcs.drop off ++ cs) (g + 1) (max h (AV.his cs)) false ty') (p' := ⟨w.heap.size, 0⟩) hrow hp rfl rfl (Turn.of_quiet q) (.inr (Nat.le_refl _)) (.inr (by simp [Row.gen])) hbound
                  ⟨arr, (0, 0), hnb, by simpa using h4, fun i x hx => by
                    obtain ⟨v, g1, g2⟩ := h5 i x hx
                    exact ⟨v, by simpa using g1, g2.ext he⟩, fun _ o _ => by simp⟩
                refine ⟨_, _, _, .inl (by rw [hrun, h3]; rfl), ?_, hsim, he⟩
                refine .slc ⟨_, List.getElem?_set_self hrlt, rfl, by simp [Row.gen]⟩ (Nat.le_refl _) h1 (by simp) fun _ => ⟨⟨w.heap.size, 0⟩, ty', arr.size, List.getElem?_set_self hplt, shape_new w.drew arr ty', fun _ => ⟨by simp, by simp [h2]⟩⟩
              · obtain ⟨rfl, hcap⟩ := hcapf (by omega)
                have hmul : (len + k) * sz' ≤ cap * sz' := Nat.mul_le_mul_right _ hin
                rw [Nat.add_mul] at hmul
                have hone : ∀ v ∈ new.toList, v.oneCell' = true := by
                  intro v hv
                  obtain ⟨i, hi, rfl⟩ := List.getElem_of_mem hv
                  have hi' : i < cs.length := by rw [hnew.1]; exact hi
                  exact (hnew.2 i _ _ (List.getElem?_eq_getElem hi') (List.getElem?_eq_getElem hi)).oneCell (List.all_eq_true.1 hcell _ (List.getElem_mem hi'))
                have hnl : new.toList.length = k * sz' := by rw [← hnew.1, hcl]
                obtain ⟨w', c', e1, e2, e3, e4, e5, e6⟩ := run_storeCells (P := P) (o := p.base + off + len * sz') new.toList 0 w c hb hone (by omega) (hfz rfl)
                have he := hs.turn_ext (row' := .cells (rcs.drop off ++ cs) (g + 1) (max h (AV.his cs)) false ty') (p' := ⟨p.blk, p.base + off⟩) hrow hp rfl rfl e2 (.inl rfl) (.inr (by simp [Row.gen]))
                have hsim := hs.turn (row' := .cells (rcs.drop off ++ cs) (g + 1) (max h (AV.his cs)) false ty') (p' := ⟨p.blk, p.base + off⟩) hrow hp rfl rfl e2 (.inl rfl) (.inr (by simp [Row.gen])) hbound
                  ⟨c', fr, e4, by simp only [List.length_append, List.length_drop]; omega, fun i x hx => by
                    simp only
                    rw [e6]
                    rcases Nat.lt_or_ge i (rcs.drop off).length with hlt | hge
                    · rw [List.getElem?_append_left hlt, List.getElem?_drop] at hx
                      rw [if_neg (by simp at hlt; omega)]
                      obtain ⟨v, g1, g2⟩ := hbc _ x hx
                      exact ⟨v, by rw [← g1]; congr 1; omega, g2.ext he⟩
                    · rw [List.getElem?_append_right hge] at hx
                      have hlt2 := (List.getElem?_eq_some_iff.1 hx).1
                      simp only [List.length_drop] at hx hge hlt2
                      rw [if_pos (by omega)]
                      have hi2 : i - (rcs.length - off) < new.toList.length := by rw [← hnew.1]; exact hlt2
                      refine ⟨new.toList[i - (rcs.length - off)], ?_, (hnew.2 _ x _ hx (List.getElem?_eq_getElem hi2)).ext he⟩
                      rw [← List.getElem?_eq_getElem hi2]
                      congr 1; omega, fun _ => by rw [e5]; exact hfz rfl⟩
                refine ⟨.slice (some ⟨p.blk, p.base + off, none⟩) (len + k) cap, w', _, .inl ?_, ?_, hsim, he⟩
                · rw [hrun, append_place hA hu hsz (hsrc w (Quiet.refl w)) hin]
                  simp only [add_lit, e1]
                  rfl
                · refine .slc ⟨_, List.getElem?_set_self hrlt, rfl, by simp [Row.gen]⟩ (Nat.le_refl _) hin (by simp) fun _ => ⟨⟨p.blk, p.base + off⟩, ty', c'.size, List.getElem?_set_self hplt, by simp [World.shape?, e4], fun _ => ⟨by simp, ?_⟩⟩
                  simp only; omega
            · cases ha
      · cases ha
    · cases ha

end
end Go.Eng

set_option linter.unusedSimpArgs false
namespace Go.Eng
open Go

section
variable {P : Program} {C : Ctx} {W0 w : World} {μ : Pls} {st : St} {env : Env} {a : Act}

theorem sameNow_ok {kt : TypeId} {q : EqS} (hq : plainEq q = true) (hT : QT0 P kt q) {kd : TypeDesc} (hkd : P.underlying kt = some kd) {x y : AV} {u v : Value} (hx : VR w μ st x u) (hy : VR w μ st y v) {b : Bool} (h : aeq st q x y = some b) :
    Instr.sameNow kd u v = some b ∧ (b = true → ∀ n, Instr.sameBits n u v = true) := by
  rcases plain_inv hq h with ⟨rfl, m, n, rfl, rfl, rfl⟩ | ⟨rfl, k, m, n, rfl, rfl, rfl⟩ | ⟨rfl, m, n, rfl, rfl, rfl⟩
  · have := hx.bool_inv; have := hy.bool_inv; subst_vars
    rw [hT] at hkd; cases hkd
    exact ⟨rfl, fun h n => by simpa [Instr.sameBits] using h⟩
  · have := hx.int_inv; have := hy.int_inv; subst_vars
    obtain ⟨k', hT⟩ := hT
    rw [hT] at hkd; cases hkd
    exact ⟨by simp [Instr.sameNow], fun h n => by simpa [Instr.sameBits] using h⟩
  · have := hx.str_inv; have := hy.str_inv; subst_vars
    rw [hT] at hkd; cases hkd
    exact ⟨by simp only [Instr.sameNow, string_beq], fun h n => by simp only [Instr.sameBits, string_beq]; exact h⟩

theorem checkKey_ok {kt : TypeId} {q : EqS} (hq : plainEq q = true) (hT : QT0 P kt q) {x : AV} {u : Value} (hx : VR w μ st x u) {b : Bool} (h : aeq st q x x = some b) (em : Bool) (n : Nat) : (Instr.checkKey em (n + 1) kt u).run P w = .ok () w := by
  rcases plain_inv hq h with ⟨rfl, m, n, rfl, _, rfl⟩ | ⟨rfl, k, m, n, rfl, _, rfl⟩ | ⟨rfl, m, n, rfl, _, rfl⟩
  · have := hx.bool_inv; subst_vars
    simp [Instr.checkKey, run_underlying w hT]
  · have := hx.int_inv; subst_vars
    obtain ⟨k', hT⟩ := hT
    simp [Instr.checkKey, run_underlying w hT]
  · have := hx.str_inv; subst_vars
    simp [Instr.checkKey, run_underlying w hT]

abbrev EntsR (w : World) (μ : Pls) (st : St) (es : List (AV × AV)) (ms : List MapEntry) : Prop :=
  es.length = ms.length ∧ ∀ (i : Nat) k v e, es[i]? = some (k, v) → ms[i]? = some e → VR w μ st k e.key ∧ VR w μ st v e.val

theorem EntsR.tail {p : AV × AV} {m : MapEntry} {es : List (AV × AV)} {ms : List MapEntry} (h : EntsR w μ st (p :: es) (m :: ms)) : EntsR w μ st es ms :=
  ⟨by simpa using h.1, fun i k v e hk he => h.2 (i + 1) k v e (by simpa using hk) (by simpa using he)⟩

theorem findNow_ok {kt : TypeId} {q : EqS} (hq : plainEq q = true) (hT : QT0 P kt q) {kd : TypeDesc} (hkd : P.underlying kt = some kd) {x : AV} {u : Value} (hx : VR w μ st x u) :
    ∀ (es : List (AV × AV)) (ms : List MapEntry) (i : Nat), EntsR w μ st es ms → ∀ r, findA st q x es = some r →
    (r = none ∧ Instr.findNow kd u ms i = some none) ∨ ∃ v j z, r = some v ∧ Instr.findNow kd u ms i = some (some (i + j, z)) ∧ VR w μ st v z
  | [], [], i, _, r, hr => by simp [findA] at hr; subst hr; exact .inl ⟨rfl, rfl⟩
  | [], _ :: _, _, h, _, _ => by have := h.1; simp at this
  | _ :: _, [], _, h, _, _ => by have := h.1; simp at this
  | (k, v) :: es, m :: ms, i, h, r, hr => by
    obtain ⟨hk, hv⟩ := h.2 0 k v m (by simp) (by simp)
    simp only [findA] at hr
    split at hr
    · rename_i he
      cases hr
      obtain ⟨g1, _⟩ := sameNow_ok hq hT hkd hx hk he
      exact .inr ⟨v, 0, m.val, rfl, by simp [Instr.findNow, g1], hv⟩
    · rename_i he
      obtain ⟨g1, _⟩ := sameNow_ok hq hT hkd hx hk he
      rcases findNow_ok hq hT hkd hx es ms (i + 1) h.tail r hr with ⟨rfl, g2⟩ | ⟨v', j, z, rfl, g2, g3⟩
      · exact .inl ⟨rfl, by simp [Instr.findNow, g1, g2]⟩
      · exact .inr ⟨v', j + 1, z, rfl, by simp [Instr.findNow, g1, g2]; omega, g3⟩
    · cases hr

theorem setNow_ok {kt : TypeId} {q : EqS} (hq : plainEq q = true) (hT : QT0 P kt q) {kd : TypeDesc} (hkd : P.underlying kt = some kd) {x y : AV} {u : Value} (hx : VR w μ st x u) :
    ∀ (es : List (AV × AV)) (ms : List MapEntry) (i : Nat), EntsR w μ st es ms → ∀ r, setA st q x y es = some r →
    (r = es ++ [(x, y)] ∧ Instr.findNow kd u ms i = some none) ∨ ∃ j z m, j < ms.length ∧ r = es.set j (x, y) ∧ Instr.findNow kd u ms i = some (some (i + j, z)) ∧ ms[j]? = some m ∧ ∀ n, Instr.sameBits n m.key u = true
  | [], [], i, _, r, hr => by simp [setA] at hr; subst hr; exact .inl ⟨rfl, rfl⟩
  | [], _ :: _, _, h, _, _ => by have := h.1; simp at this
  | _ :: _, [], _, h, _, _ => by have := h.1; simp at this
  | (k, v) :: es, m :: ms, i, h, r, hr => by
    obtain ⟨hk, hv⟩ := h.2 0 k v m (by simp) (by simp)
    simp only [setA] at hr
    split at hr
    · rename_i he
      cases hr
      obtain ⟨g1, g2⟩ := sameNow_ok hq hT hkd hx hk he
      have he' : aeq st q k x = some true := by
        rcases plain_inv hq he with ⟨rfl, m, n, rfl, rfl, hb⟩ | ⟨rfl, k, m, n, rfl, rfl, hb⟩ | ⟨rfl, m, n, rfl, rfl, hb⟩ <;> simp at hb <;> subst hb <;> simp [aeq]
      obtain ⟨_, g3⟩ := sameNow_ok hq hT hkd hk hx he'
      exact .inr ⟨0, m.val, m, by simp, by simp, by simp [Instr.findNow, g1], by simp, g3 rfl⟩
    · rename_i he
      obtain ⟨g1, _⟩ := sameNow_ok hq hT hkd hx hk he
      simp only [Option.map_eq_some_iff] at hr
      obtain ⟨r', hr', rfl⟩ := hr
      rcases setNow_ok hq hT hkd hx es ms (i + 1) h.tail r' hr' with ⟨rfl, g2⟩ | ⟨j, z, m', h1, rfl, g2, g3, g4⟩
      · exact .inl ⟨by simp, by simp [Instr.findNow, g1, g2]⟩
      · exact .inr ⟨j + 1, z, m', by simp; omega, by simp, by simp [Instr.findNow, g1, g2]; omega, by simpa using g3, g4⟩
    · cases hr

theorem two_tup {p : AV} {q : Value} (b : Bool) (h : VR w μ st p q) : VR w μ st (.tup [p, .bool b]) (.tuple #[q, .bool b]) := .tup (by simp) fun i x v hx hv => by
  match i, hx, hv with
  | 0, hx, hv => simp at hx hv; subst hx; subst hv; exact h
  | 1, hx, hv => simp at hx hv; subst hx; subst hv; exact .bool b
  | i + 2, hx, hv => simp at hx

theorem qt_plain {t : TypeId} {q : EqS} (hq : plainEq q = true) (h : QT P t q) : QT0 P t q := by cases q <;> first | exact h | simp [plainEq] at hq

theorem plain_desc {t : TypeId} {q : EqS} (hq : plainEq q = true) (h : QT0 P t q) : ∃ d, P.underlying t = some d := by
  cases q <;> simp [plainEq] at hq
  · exact ⟨_, h⟩
  · obtain ⟨k, h⟩ := h; exact ⟨_, h⟩
  · exact ⟨_, h⟩

theorem give_lookup (hs : Sim W0 w μ st) {t kt e : TypeId} (hu : P.underlying t = some (.map kt e)) {q : EqS} (hq : plainEq q = true) (hT : QT0 P kt q) {zero : AV} (hz : zeroT P e = some zero) {ok : Bool} {x k y : AV} {xv kv : Value} (hx : VR w μ st x xv) (hk : VR w μ st k kv)
    (hkk : ∃ b, aeq st q k k = some b) (hy : (x = .nilm ∧ y = if ok then .tup [zero, .bool false] else zero) ∨ ∃ r es h res, x = .map r ∧ st[r]? = some (.map es h) ∧ findA st q k es = some res ∧
      ((∃ v, res = some v ∧ y = if ok then .tup [v, .bool true] else v) ∨ (res = none ∧ y = if ok then .tup [zero, .bool false] else zero)))
    {s : Sem Next} (hrun : s.run P w = ((Instr.lookup t xv kv ok).run P w).andThen fun v w' => .ok (.value v) w') : Gives P W0 w μ st s y st := by
  obtain ⟨zv, hzv, hzo⟩ := run_zeroValue w hz
  obtain ⟨hzr, _, _⟩ := ofValue_ok (w := w) (μ := μ) (st := st) 3 hzo
  obtain ⟨b, hkk⟩ := hkk
  obtain ⟨kd, hkd⟩ := plain_desc hq hT
  have hck : ∀ em, (Instr.checkKey em 10000 kt kv).run P w = .ok () w := fun em => checkKey_ok hq hT hk hkk em 9999
  rcases hy with ⟨rfl, rfl⟩ | ⟨r, es, h, res, rfl, hr, hf, hy⟩
  · have := hx.nilm_inv; subst this
    have hrun' : s.run P w = .ok (.value (if ok then .tuple #[zv, .bool false] else zv)) w := by
      rw [hrun]
      simp only [Instr.lookup, Sem.run_bind, run_underlying w hu, Result.andThen_ok, Sem.run_pure, hck, Instr.findKey, run_underlying w hkd, Instr.findNow, hzv]
    refine Gives.pure hs hrun' ?_
    cases ok
    · exact hzr
    · exact two_tup false hzr
  · obtain ⟨p, rfl, hp, ents, clk, hb, hg, h1, h2⟩ := map_at (P := P) hs hr hx
    rcases findNow_ok hq hT hkd hk es ents.toList 0 ⟨by simpa using h1, fun i k v e hk he => h2 i k v e hk (by simpa using he)⟩ res hf with ⟨rfl, g2⟩ | ⟨v, j, z, rfl, g2, g3⟩
    · rcases hy with ⟨v, hv, _⟩ | ⟨_, rfl⟩
      · cases hv
      have hrun' : s.run P w = .ok (.value (if ok then .tuple #[zv, .bool false] else zv)) w := by
        rw [hrun]
        simp only [Instr.lookup, Sem.run_bind, run_underlying w hu, Result.andThen_ok, hg, Sem.run_pure, hck, Instr.findKey, run_underlying w hkd, g2, hzv]
      refine Gives.pure hs hrun' ?_
      cases ok
      · exact hzr
      · exact two_tup false hzr
    · rcases hy with ⟨v', hv, rfl⟩ | ⟨hv, _⟩
      · cases hv
        have hrun' : s.run P w = .ok (.value (if ok then .tuple #[z, .bool true] else z)) w := by
          rw [hrun]
          simp only [Instr.lookup, Sem.run_bind, run_underlying w hu, Result.andThen_ok, hg, Sem.run_pure, hck, Instr.findKey, run_underlying w hkd, g2]
        refine Gives.pure hs hrun' ?_
        cases ok
        · exact g3
        · exact two_tup true g3
      · cases hv

theorem give_mapset (hs : Sim W0 w μ st) {t kt e : TypeId} (hu : P.underlying t = some (.map kt e)) {q : EqS} (hq : plainEq q = true) (hT : QT0 P kt q) {r : Nat} {k v : AV} {mv kv vv : Value} (hx : VR w μ st (.map r) mv) (hk : VR w μ st k kv) (hv : VR w μ st v vv)
    (hkk : ∃ b, aeq st q k k = some b) {es es' : List (AV × AV)} {h : Nat} (hr : st[r]? = some (.map es h)) (hset : setA st q k v es = some es')
    {s : Sem Next} (hrun : s.run P w = ((Instr.mapUpdate t mv kv vv).run P w).andThen fun _ w' => .ok .skip w') : Gives P W0 w μ st s undefA (st.set r (.map es' (max h (max k.hi v.hi)))) := by
  obtain ⟨b, hkk⟩ := hkk
  obtain ⟨kd, hkd⟩ := plain_desc hq hT
  have hck : ∀ em, (Instr.checkKey em 10000 kt kv).run P w = .ok () w := fun em => checkKey_ok hq hT hk hkk em 9999
  obtain ⟨p, rfl, hp, ents, clk, hb, hg, h1, h2⟩ := map_at (P := P) hs hr hx
  have hlt2 : p.blk < w.heap.size := (Array.getElem?_eq_some_iff.1 hb).1
  have hmu : μ.set r p = μ := by
    have hlt' : r < μ.length := (List.getElem?_eq_some_iff.1 hp).1
    have : μ[r] = p := (List.getElem?_eq_some_iff.1 hp).2
    rw [← this]; exact List.set_getElem_self hlt'
  -- what is written
  have key : ∃ (ents' : Array MapEntry) (clk' : Nat), (Instr.mapUpdate t (.map (some p.blk)) kv vv).run P w = .ok () { w with heap := w.heap.setIfInBounds p.blk (.map ents' clk') } ∧ es'.length = ents'.size ∧
      (∀ (i : Nat) k' v', es'[i]? = some (k', v') → (k' = k ∧ v' = v) ∨ ∃ j : Nat, es[j]? = some (k', v')) ∧
      ∀ (i : Nat) k' v' e, es'[i]? = some (k', v') → ents'[i]? = some e → VR w μ st k' e.key ∧ VR w μ st v' e.val := by
    have hset' : ∀ ob, (setObj p.blk ob).run P w = .ok () { w with heap := w.heap.setIfInBounds p.blk ob } := fun ob => by simp [setObj, Sem.run, hb]
    rcases setNow_ok hq hT hkd hk es ents.toList 0 ⟨by simpa using h1, fun i k v e hk he => h2 i k v e hk (by simpa using he)⟩ es' hset with ⟨rfl, g2⟩ | ⟨j, z, m, hj, rfl, g2, g3, g4⟩
    · refine ⟨ents.push { key := kv, val := vv, born := clk }, clk + 1, ?_, by simp [h1], fun i k' v' hi => ?_, fun i k' v' e hi he => ?_⟩
      · simp only [Instr.mapUpdate, Sem.run_bind, run_underlying w hu, Result.andThen_ok, hg, hck, Instr.findKey, run_underlying w hkd, g2, Sem.run_pure, hset']
      · rcases Nat.lt_or_ge i es.length with hlt | hge
        · rw [List.getElem?_append_left hlt] at hi; exact .inr ⟨i, hi⟩
        · rw [List.getElem?_append_right hge] at hi
          have hlt := (List.getElem?_eq_some_iff.1 hi).1
          simp at hlt
          have : i - es.length = 0 := by omega
          rw [this] at hi
          simp at hi
          exact .inl ⟨hi.1.symm, hi.2.symm⟩
      · rcases Nat.lt_or_ge i es.length with hlt | hge
        · rw [List.getElem?_append_left hlt] at hi
          rw [Array.getElem?_push, if_neg (by omega)] at he
          exact h2 i k' v' e hi he
        · rw [List.getElem?_append_right hge] at hi
          have hlt := (List.getElem?_eq_some_iff.1 hi).1
          simp at hlt
          have : i - es.length = 0 := by omega
          rw [this] at hi
          simp at hi
          obtain ⟨rfl, rfl⟩ := hi
          rw [Array.getElem?_push, if_pos (by omega)] at he
          cases he
          exact ⟨hk, hv⟩
    · have hj' : j < ents.size := by simpa using hj
      have hjm : ents[j]? = some m := by simpa using g3
      refine ⟨ents.modify j fun e => { e with key := kv, val := vv }, clk, ?_, by simp [h1], fun i k' v' hi => ?_, fun i k' v' e hi he => ?_⟩
      · simp only [Instr.mapUpdate, Sem.run_bind, run_underlying w hu, Result.andThen_ok, hg, hck, Instr.findKey, run_underlying w hkd, g2, Sem.run_pure, Nat.zero_add, hjm, Option.map_some, Option.getD_some, Instr.keyThatStays, g4, if_true, hset']
      · rw [List.getElem?_set] at hi
        split at hi
        · rename_i hij
          split at hi
          · cases hi; exact .inl ⟨rfl, rfl⟩
          · cases hi
        · exact .inr ⟨i, hi⟩
      · rw [List.getElem?_set] at hi
        rw [Array.getElem?_modify] at he
        split at hi
        · rename_i hij
          subst hij
          rw [if_pos rfl, hjm] at he
          simp at he
          split at hi
          · cases hi; subst he; exact ⟨hk, hv⟩
          · cases hi
        · rename_i hij
          rw [if_neg hij] at he
          exact h2 i k' v' e hi he
  obtain ⟨ents', clk', e1, e2, e3, e4⟩ := key
  have ht : Turn p.blk w { w with heap := w.heap.setIfInBounds p.blk (.map ents' clk') } :=
    ⟨by simp, fun C _ hne => by simp only; rw [Array.getElem?_setIfInBounds_ne (fun e => hne e.symm)], rfl, rfl, rfl⟩
  have hnewb : ({ w with heap := w.heap.setIfInBounds p.blk (.map ents' clk') } : World).heap[p.blk]? = some (.map ents' clk') := by simp [hlt2]
  have hsh : ({ w with heap := w.heap.setIfInBounds p.blk (.map ents' clk') } : World).shape? p.blk = w.shape? p.blk := by simp only [World.shape?, hnewb, hb]
  have he := hs.turn_ext (row' := .map es' (max h (max k.hi v.hi))) (p' := p) hr hp rfl rfl ht (.inl rfl) (.inl ⟨rfl, rfl, hsh⟩)
  have hsim := hs.turn (row' := .map es' (max h (max k.hi v.hi))) (p' := p) hr hp rfl rfl ht (.inl rfl) (.inl ⟨rfl, rfl, hsh⟩) (by
    intro i k' v' hi
    rcases e3 i k' v' hi with ⟨rfl, rfl⟩ | ⟨j, hj⟩
    · omega
    · have := hs.top r _ hr j k' v' hj
      omega) ⟨ents', clk', hnewb, e2, fun i k' v' e hi hee => ⟨(e4 i k' v' e hi hee).1.ext he, (e4 i k' v' e hi hee).2.ext he⟩⟩
  rw [hmu] at he hsim
  refine ⟨Go.undef, _, μ, .inr ⟨?_, rfl⟩, .undef, hsim, he⟩
  rw [hrun, e1]
  rfl

/-- copy. -/
theorem give_copy (hs : Sim W0 w μ st) {A : Array TypeId} {t ty e : TypeId} {sz : Nat} (hA : A[0]? = some t) (hu : P.underlying t = some (.slice e)) (hsz : sizeT P e = some sz) {d x y : AV} {dv xv : Value} (hd : VR w μ st d dv) (hx : VR w μ st x xv)
    {cs : List AV} {k : Nat} (he : elems st x = some cs) (hl : lenA x = some k) {st' : St}
    (hy : (d = .nils ∧ y = .int .i64 0 ∧ st' = st) ∨ ∃ r off len cm gen ex, d = .slc r off len cm gen sz ex ∧ cs.length = k * sz ∧ wrRow st r off gen (cs.take (min k len * sz)) = some st' ∧ y = .int .i64 (min k len : Nat))
    {s : Sem Next} (hrun : s.run P w = ((Builtin.copy_ A ty #[dv, xv]).run P w).andThen fun v w' => .ok (.value v) w') : Gives P W0 w μ st s y st' := by
  have hlen : (Builtin.lenOf xv).run P w = .ok k w := by
    have H := elems_ok hs hx he
    cases H with
    | nils h hc => subst h; simp [lenA] at hl; subst hl; simp [Builtin.lenOf]
    | str b h hc => subst h; simp [lenA] at hl; subst hl; simp only [Builtin.lenOf, Sem.run_pure]; rfl
    | slice ad len cap sz' vs h => rw [hl] at h; cases h; simp [Builtin.lenOf]
  have hfirst : ∀ n, n ≤ k → (n ≠ 0 → cs.length = k * sz) → ∃ vs : List Value, (Builtin.firstCells sz n xv).run P w = .ok vs.toArray w ∧ (n = 0 → vs = []) ∧ (n ≠ 0 → VRs w μ st (cs.take (n * sz)) vs) := by
    intro n hn hcs
    have H := elems_ok hs hx he
    by_cases h0 : n = 0
    · subst h0
      refine ⟨[], ?_, fun _ => rfl, fun h => absurd rfl h⟩
      cases H with
      | nils h hc => simp [Builtin.firstCells]
      | str b h hc => simp [Builtin.firstCells]
      | slice ad len cap sz' vs h => exact run_firstCells (by simp) (by simp)
    · have hcs := hcs h0
      cases H with
      | nils h hc => subst h; simp [lenA] at hl; omega
      | str b h hc =>
        subst h
        simp only [lenA, Option.some.injEq] at hl
        subst hl
        have hs1 : sz = 1 := by
          rw [hc] at hcs
          simp at hcs
          have hp : 0 < b.length := by omega
          have : b.length * 1 = b.length * sz := by omega
          exact (Nat.eq_of_mul_eq_mul_left hp this).symm
        subst hs1
        refine ⟨((b.take n).map fun b => Value.int .u8 b.toNat), by simp [Builtin.firstCells], fun h => absurd h h0, fun _ => ?_⟩
        subst hc
        rw [Nat.mul_one, ← List.map_take]
        have := str_cells (w := w) (μ := μ) (st := st) (b.take n)
        simpa using this
      | slice ad len cap sz' vs h hne hns hl' hv hcell hr =>
        refine ⟨vs.take (n * sz), run_firstCells (by
          have := hr.1
          have hm : n * sz ≤ k * sz := Nat.mul_le_mul_right _ hn
          simp only [List.length_take]; omega) (fun i u hu => ?_), fun h => absurd h h0, fun _ => ⟨by simp [hr.1], fun i x v h1 h2 => ?_⟩⟩
        · exact hcell i u (take_getElem? hu).1
        · exact hr.2 i x v (take_getElem? h1).1 (take_getElem? h2).1
  rcases hy with ⟨rfl, rfl, rfl⟩ | ⟨r, off, len, cm, gen, ex, rfl, hcs, hw, rfl⟩
  · have := hd.nils_inv; subst this
    obtain ⟨vs, h1, h2, _⟩ := hfirst 0 (Nat.zero_le _) (fun h => absurd rfl h)
    refine Gives.pure hs (v := goInt 0) ?_ (.int _ _)
    rw [hrun]
    simp only [Builtin.copy_, hA, List.getElem?_toArray, List.getElem?_cons_zero, List.getElem?_cons_succ, Sem.run_bind, run_underlying w hu, Result.andThen_ok, hlen, run_sizeOf w hsz, show Nat.min k 0 = 0 from Nat.min_zero k, h1, Sem.run_pure]
    rfl
  · have hlk : (min k len : Nat) ≤ k := Nat.min_le_left _ _
    obtain ⟨vs, h1, h2, h3⟩ := hfirst (min k len) hlk (fun _ => hcs)
    cases hd with
    | @slc _ _ _ _ _ _ cap _ ad hv hl1 hl2 hl3 hll =>
    have hvs : VRs w μ st (cs.take (min k len * sz)) vs := by
      by_cases h0 : min k len = 0
      · rw [h2 h0, h0]; exact ⟨by simp, by simp⟩
      · exact h3 h0
    obtain ⟨p, hp, hlive, w', e1, e2, e3, _⟩ := wrRow_ok (P := P) hs hw hv hvs
    obtain ⟨p', pty, n, hp', hshp, hcapf⟩ := hll hlive
    rw [hp] at hp'; cases hp'
    have hstore : (storeCells ad vs).run P w = .ok () w' := by
      by_cases h0 : min k len = 0
      · rw [h2 h0] at e1 ⊢
        simpa [storeCells] using e1
      · obtain ⟨rfl, _⟩ := hcapf (by omega)
        exact e1
    refine ⟨goInt (min k len : Nat), w', μ, .inl ?_, .int _ _, e2, e3⟩
    rw [hrun]
    simp only [Builtin.copy_, hA, List.getElem?_toArray, List.getElem?_cons_zero, List.getElem?_cons_succ, Sem.run_bind, run_underlying w hu, Result.andThen_ok, hlen, run_sizeOf w hsz, show Nat.min k len = min k len from rfl, h1, hstore, Sem.run_pure]

end
end Go.Eng

set_option linter.unusedSimpArgs false
namespace Go.Eng
open Go

section
variable {P : Program} {C : Ctx} {W0 w : World} {μ : Pls} {st : St} {env : Env} {a : Act}

theorem run_conv_nil {src dst : TypeId} {d e : TypeDesc} (h1 : P.underlying src = some d) (h2 : P.underlying dst = some e) (h : (∃ t, d = .pointer t ∧ e = .unsafePointer) ∨ ∃ t, d = .unsafePointer ∧ e = .pointer t) :
    (convert src dst (.pointer none)).run P w = .ok (.pointer none) w := by
  rcases h with ⟨t, rfl, rfl⟩ | ⟨t, rfl, rfl⟩ <;> simp [convert, run_underlying w h1, run_underlying w h2, Conv.unsafePointer]

theorem give_uto (hs : Sim W0 w μ st) {src dst t : TypeId} {n : Nat} (h1 : P.underlying src = some (.pointer t)) (h2 : P.underlying dst = some .unsafePointer) (hn : sizeT P t = some n) (hpos : 0 < n) {x : AV} {v : Value} (hv : VR w μ st x v)
    (hx : x = .nilp ∨ ∃ r off gen cs h fz ty, x = .ptr r off gen ∧ st[r]? = some (.cells cs gen h fz ty) ∧ off < cs.length)
    {s : Sem Next} (hrun : s.run P w = ((convert src dst v).run P w).andThen fun v w' => .ok (.value v) w') : Gives P W0 w μ st s x st := by
  rcases hx with rfl | ⟨r, off, gen, cs, h, fz, ty, rfl, hr, hoff⟩
  · have := hv.nilp_inv; subst this
    refine Gives.pure hs ?_ hv
    rw [hrun, run_conv_nil h1 h2 (.inl ⟨_, rfl, rfl⟩)]; rfl
  · cases hv with
    | @ptr _ _ _ ad hvl hl =>
      obtain ⟨p, hp, rfl⟩ := hl ⟨_, hr, rfl, rfl⟩
      obtain ⟨hW, c, fr, hb, hsz, _⟩ := hs.row r _ p hr hp rfl
      obtain ⟨i, hi, rfl⟩ : ∃ i, P.info? t = some i ∧ i.size = n := by
        unfold sizeT at hn
        cases hi : P.info? t with
        | none => simp [hi] at hn
        | some i => simp [hi] at hn; exact ⟨i, rfl, hn⟩
      refine Gives.pure hs ?_ (.ptr hvl hl)
      rw [hrun, Lib.run_to_unsafe (e := ty) (cells := c.size) w _ h1 h2 hi (by omega) (by simp [World.shape?, hb]) (show p.base + off < c.size by omega)]; rfl

theorem give_ufrom (hs : Sim W0 w μ st) {src dst t : TypeId} {n : Nat} (h1 : P.underlying src = some .unsafePointer) (h2 : P.underlying dst = some (.pointer t)) (hn : sizeT P t = some n) (hpos : 0 < n) {x : AV} {v : Value} (hv : VR w μ st x v)
    (hx : x = .nilp ∨ ∃ r cs h fz, x = .ptr r 0 0 ∧ st[r]? = some (.cells cs 0 h fz t) ∧ n ≤ cs.length)
    {s : Sem Next} (hrun : s.run P w = ((convert src dst v).run P w).andThen fun v w' => .ok (.value v) w') : Gives P W0 w μ st s x st := by
  rcases hx with rfl | ⟨r, cs, h, fz, rfl, hr, hle⟩
  · have := hv.nilp_inv; subst this
    refine Gives.pure hs ?_ hv
    rw [hrun, run_conv_nil h1 h2 (.inr ⟨_, rfl, rfl⟩)]; rfl
  · cases hv with
    | @ptr _ _ _ ad hvl hl =>
      obtain ⟨p, hp, rfl⟩ := hl ⟨_, hr, rfl, rfl⟩
      have hbase := hs.base r _ p hr hp rfl rfl
      obtain ⟨hW, c, fr, hb, hsz, _⟩ := hs.row r _ p hr hp rfl
      obtain ⟨i, hi, hin⟩ : ∃ i, P.info? t = some i ∧ i.size = n := by
        unfold sizeT at hn
        cases hi : P.info? t with
        | none => simp [hi] at hn
        | some i => simp [hi] at hn; exact ⟨i, rfl, hn⟩
      have hcells : P.cellsOf t = n := by unfold Program.cellsOf; simp [hi, hin]
      refine Gives.pure hs ?_ (.ptr hvl hl)
      rw [hrun, Lib.run_from_unsafe w _ h1 h2 hi (e := t) (cells := c.size) (by simp [World.shape?, hb]) ?_]
      · rfl
      · simp only [hbase]
        obtain ⟨d, hd⟩ : ∃ d, P.depth = d + 1 := ⟨_, rfl⟩
        rw [hd, liesAt.eq_def]
        simp only
        rw [Bool.or_eq_true]
        left
        rw [hd, rowAt.eq_def]
        have hdiv : 0 + 1 ≤ c.size / n := (Nat.le_div_iff_mul_le hpos).2 (by omega)
        simp [hcells, show n ≠ 0 by omega, hdiv, sameLayout]

theorem fillA_length : ∀ (ps : List (Nat × Nat × AV)) (cells out : List AV), fillA cells ps = some out → out.length = cells.length
  | [], cells, out, h => by simp [fillA] at h; rw [h]
  | (off, n, v) :: ps, cells, out, h => by
    simp only [fillA] at h
    split at h
    · rename_i hc
      rw [fillA_length ps _ out h, splice_length (by omega)]
    · cases h

theorem give_bslice (hs : Sim W0 w μ st) {t e : TypeId} {sz n : Nat} (hu : P.underlying t = some (.slice e)) (hsz : sizeT P e = some sz) (hpos : 0 < sz) (hsm : n * sz ≤ 65536) {zero : List AV} (hz : zeroCellsT P e = some zero) (hzl : zero.length = sz)
    {vs : List (Nat × Nat × AV)} {qs : Array (Nat × Value)} (hl : vs.length = qs.toList.length)
    (hq : ∀ (i : Nat) p q, vs[i]? = some p → qs.toList[i]? = some q → some (q.1 * sz, sz) = some (p.1, p.2.1) ∧ VR w μ st p.2.2 q.2)
    {out : List AV} (hf : fillA (repCells zero n) vs = some out) {y : AV} {st' : St}
    (hy : (AV.his out = 0 ∧ y = .sl sz (chunk sz n out) true ∧ st' = st) ∨ (out.all AV.isCell = true ∧ y = .slc st.length 0 n n 0 sz true ∧ st' = st ++ [.cells out 0 (AV.his out) false e]))
    {s : Sem Next} (hrun : s.run P w = ((Instr.buildSlice t n qs).run P w).andThen fun v w' => .ok (.value v) w') : Gives P W0 w μ st s y st' := by
  obtain ⟨zv, hzv, hzc, _⟩ := zeroCells_ok (P := P) (w := w) (μ := μ) (st := st) hz
  have hsz' : zv.cells.size = sz := by have := hzc.1; simp at this; omega
  have hzs := zeros_ok hzc n
  have hcomp : (do if n * sz = 0 then pure #[] else do pure (← zeroValue e).cells : Sem (Array Value)).run P w = .ok (if n * sz = 0 then #[] else zv.cells) w := by
    by_cases h0 : n * sz = 0 <;> simp [h0, hzv]
  have hinit : ((Array.range (n * sz)).map ((if n * sz = 0 then (#[] : Array Value) else zv.cells)[· % (if n * sz = 0 then (#[] : Array Value) else zv.cells).size]!)) = ((Array.range (n * zv.cells.size)).map (zv.cells[· % zv.cells.size]!)) := by
    by_cases h0 : n * sz = 0
    · rw [hsz', h0]; simp [show Array.range 0 = #[] from rfl]
    · rw [if_neg h0, hsz']
  obtain ⟨c', e1, e2⟩ := fill_ok (place := fun i => some (i * sz, sz)) vs qs.toList (repCells zero n) out _ hl hq hf hzs
  have hlen : c'.size = n * sz := by
    have h1 := (fillA_length vs (repCells zero n) out hf)
    have h2 := e2.1
    have h3 := (repCells_get hzl n).1
    simp at h2; omega
  have hr2 : s.run P w = .ok (.value (.slice (some ⟨w.heap.size, 0, none⟩) n n)) (w.alloc (.cells c' e)) := by
    have hbig : ¬ (n * sz > 2 ^ 24) := by omega
    rw [hrun]
    simp only [Instr.buildSlice, Sem.run_bind, run_underlying w hu, Result.andThen_ok, run_sizeOf w hsz, hbig, if_false, Sem.run_pure]
    by_cases h0 : n * sz = 0
    · simp only [h0, if_true] at hinit
      simp only [h0, if_true, Sem.run_pure, Result.andThen_ok, hinit, e1, newRow, run_newObj, World.alloc_eq, Sem.run_bind]
    · simp only [h0, if_false] at hinit
      simp only [h0, if_false, Sem.run_bind, hzv, Sem.run_pure, Result.andThen_ok, hinit, e1, newRow, run_newObj, World.alloc_eq]
  obtain ⟨g1, g2⟩ := cells_list e2
  rcases hy with ⟨hhi, rfl, rfl⟩ | ⟨hall, rfl, rfl⟩
  · obtain ⟨k1, k2⟩ := chunk_get (sz := sz) n out (by omega)
    have hv := sl_new (sz := sz) (cap := n) (es := chunk sz n out) (ex := true) hs (Quiet.alloc w (.cells c' e)) (Nat.le_refl _) (heap_new _ _) (by omega) (fun _ => k1.symm) (fun i x hi => by
      obtain ⟨a, b, c⟩ := k2 i x hi
      refine ⟨a, ?_⟩
      have : AV.his x ≤ 0 := his_le fun j y hj => by
        have hj' : j < sz := by rw [← a]; exact (List.getElem?_eq_some_iff.1 hj).1
        rw [c j hj'] at hj
        have := his_eq_zero hhi hj; omega
      omega) (fun i x hi j y hj => by
      obtain ⟨a, b, c⟩ := k2 i x hi
      have hj' : j < sz := by rw [← a]; exact (List.getElem?_eq_some_iff.1 hj).1
      rw [c j hj'] at hj
      exact g2 _ y hj)
    rw [k1] at hv
    exact Gives.quiet hs (Quiet.alloc w _) hr2 hv
  · obtain ⟨s1, e1'⟩ := hs.newRow (Quiet.refl w) (ty := e) (Nat.le_of_eq g1) g2 (Nat.le_refl _)
    exact ⟨_, _, _, .inl hr2, VR.newSlc hs _ _ _ rfl rfl (Nat.le_refl _) (Nat.le_refl _) (fun _ => rfl) (ty := e) (n := c'.size) (shape_new w c' e) (by omega), s1, e1'⟩

end
end Go.Eng

set_option linter.unusedSimpArgs false
set_option linter.unusedVariables false
namespace Go.Eng
open Go

section
variable {P : Program} {C : Ctx} {W0 w : World} {μ : Pls} {st : St} {env : Env} {a : Act}

/-- An operation's answer, whatever comes behind it. -/
def OpWp (P : Program) (W0 w : World) (μ : Pls) (st : St) (o : Oper) (a : Act) (x : AV) (st' : St) : Prop :=
  ∀ (next : Act → World → Prop) (Q : Exit → Act → World → Prop), (∀ v w' μ', VR w' μ' st' x v → Sim W0 w' μ' st' → Ext w μ st w' μ' st' → next (a.put o.dst v) w') → o.wp P a w next Q

theorem OpWp.of_gives {o : Oper} {x : AV} {st' : St} (h : Gives P W0 w μ st (execOp a.eval o) x st') : OpWp P W0 w μ st o a x st' := by
  intro next Q hn
  obtain ⟨v, w', μ', hr, hv, hs, he⟩ := h
  unfold Oper.wp
  rcases hr with hr | ⟨hr, rfl⟩
  · rw [hr]; exact hn v w' μ' hv hs he
  · rw [hr]; exact hn _ w' μ' hv hs he

theorem guard_some {p : Prop} [Decidable p] {u : Unit} : (guard p : Option Unit) = some u ↔ p := by
  unfold guard; split <;> simp_all [failure]

theorem run_v (s : Sem Value) : Sem.run P (do pure (Next.value (← s))) w = (s.run P w).andThen fun v w' => .ok (.value v) w' := by
  simp only [Sem.run_bind, Sem.run_pure]
theorem run_u (s : Sem Unit) : Sem.run P (do s; pure Next.skip) w = (s.run P w).andThen fun _ w' => .ok .skip w' := by
  simp only [Sem.run_bind, Sem.run_pure]

/-- The plain operations (no call among them). -/
def isCall : Op → Bool
  | .call _ => true
  | _ => false

theorem pure1_inv {y : Option AV} {x : AV} {st' : St} (h : (y.map fun v => (v, st)) = some (x, st')) : y = some x ∧ st' = st := by
  cases y <;> simp at h
  exact ⟨by rw [h.1], h.2.symm⟩

variable (hg : GlobOk C W0) (hs : Sim W0 w μ st) (he : EnvR w μ st env a.tmps) {call : CallF}
include hg hs he

set_option maxHeartbeats 4000000 in
theorem op_ok {o : Oper} (hnc : isCall o.op = false) {k : KO} (ht : trOp P o.op = some k) {x : AV} {st' : St} (hx : evOp C call k env st = some (x, st')) : Gives P W0 w μ st (execOp a.eval o) x st' := by
  obtain ⟨dst, op, type, pos, after, guard⟩ := o
  have hX : ∀ {o : Operand} {y : X} {v : AV}, trX o = some y → y.ev C env = some v → VR w μ st v (a.eval o) := fun h1 h2 => X_ok hg hs he h1 h2
  cases op
  case move y =>
    simp only [trOp, Option.map_eq_some_iff] at ht
    obtain ⟨z, hz, rfl⟩ := ht
    simp only [evOp, Option.map_eq_some_iff] at hx
    obtain ⟨v, hv, h⟩ := hx; cases h
    exact Gives.pure hs (by simp [execOp]) (hX hz hv)
  case assign y =>
    simp only [trOp, Option.map_eq_some_iff] at ht
    obtain ⟨z, hz, rfl⟩ := ht
    simp only [evOp, Option.map_eq_some_iff] at hx
    obtain ⟨v, hv, h⟩ := hx; cases h
    exact Gives.pure hs (by simp [execOp]) (hX hz hv)
  case pick c p q =>
    simp only [trOp, Option.bind_eq_bind, Option.bind_eq_some_iff, Option.pure_def, Option.some.injEq] at ht
    obtain ⟨c', hc, p', hp, q', hq, rfl⟩ := ht
    simp only [evOp] at hx
    split at hx
    · rename_i t hct
      have := (hX hc hct).bool_inv
      simp only [Option.map_eq_some_iff] at hx
      obtain ⟨v, hv, h⟩ := hx; cases h
      cases t
      · exact Gives.pure hs (by simp [execOp, this, asBool]) (hX hq (by simpa using hv))
      · exact Gives.pure hs (by simp [execOp, this, asBool]) (hX hp (by simpa using hv))
    · cases hx
  case alloc t =>
    simp only [trOp, Option.bind_eq_bind, Option.bind_eq_some_iff, Option.pure_def, Option.some.injEq] at ht
    obtain ⟨z, hz, rfl⟩ := ht
    simp only [evOp, Option.some.injEq] at hx
    cases hx
    exact give_alloc hs hz (run_v _)
  case box t y =>
    simp only [trOp, Option.bind_eq_bind, Option.bind_eq_some_iff, Option.pure_def, Option.some.injEq] at ht
    obtain ⟨z, hz, rfl⟩ := ht
    simp only [evOp] at hx
    split at hx
    · rename_i v hv
      split at hx
      · rename_i hc
        cases hx
        exact give_box hs (hX hz hv) hc (run_v _)
      · cases hx
    · cases hx
  case build t parts =>
    simp only [trOp, Option.bind_eq_bind, Option.bind_eq_some_iff] at ht
    obtain ⟨zero, hz, ht⟩ := ht
    split at ht
    · rename_i fs hu
      simp only [Option.bind_eq_some_iff, Option.pure_def, Option.some.injEq, guard_some] at ht
      obtain ⟨ps, hps, u, hgd, rfl⟩ := ht
      simp only [evOp] at hx
      split at hx
      · rename_i vs hvs
        obtain ⟨h1, h2⟩ := pure1_inv hx
        simp only [Option.map_eq_some_iff] at h1
        obtain ⟨out, hout, rfl⟩ := h1
        subst h2
        obtain ⟨g1, g2⟩ := parts_ok (place := fun i => (fs[i]?).bind fun f => (sizeT P f.type).map fun n => (f.offset, n)) hps hvs hg hs he (by
          intro i x p hp
          simp only [Option.bind_eq_some_iff, Option.pure_def, Option.some.injEq] at hp
          obtain ⟨f, hf, n, hn, y, hy, rfl⟩ := hp
          exact ⟨by simp [hf, hn], hy⟩)
        exact give_build_struct hs hz hu hgd g1 g2 hout (run_v _)
      · cases hx
    · rename_i n e hu
      simp only [Option.bind_eq_some_iff, Option.pure_def, Option.some.injEq] at ht
      obtain ⟨n', hn', ps, hps, rfl⟩ := ht
      simp only [evOp] at hx
      split at hx
      · rename_i vs hvs
        obtain ⟨h1, h2⟩ := pure1_inv hx
        simp only [Option.map_eq_some_iff] at h1
        obtain ⟨out, hout, rfl⟩ := h1
        subst h2
        obtain ⟨g1, g2⟩ := parts_ok (place := fun i => some (i * n', n')) hps hvs hg hs he (by
          intro i x p hp
          simp only [Option.bind_eq_some_iff, Option.pure_def, Option.some.injEq] at hp
          obtain ⟨y, hy, rfl⟩ := hp
          exact ⟨rfl, hy⟩)
        exact give_build_array hs hz hu hn' g1 g2 hout (run_v _)
      · cases hx
    · cases ht
  case buildSlice t n parts =>
    simp only [trOp, Option.bind_eq_bind] at ht
    split at ht
    · rename_i e hu
      simp only [Option.bind_eq_some_iff, Option.pure_def, Option.some.injEq, guard_some, Bool.and_eq_true, decide_eq_true_eq, Bool.decide_eq_true] at ht
      obtain ⟨sz, hsz, zero, hz, u, ⟨⟨h1, h2⟩, h3⟩, ps, hps, rfl⟩ := ht
      simp only [evOp] at hx
      split at hx
      · rename_i vs hvs
        obtain ⟨g1, g2⟩ := parts_ok (place := fun i => some (i * sz, sz)) hps hvs hg hs he (by
          intro i x p hp
          simp only [Option.bind_eq_some_iff, Option.pure_def, Option.some.injEq] at hp
          obtain ⟨y, hy, rfl⟩ := hp
          exact ⟨rfl, hy⟩)
        split at hx
        · rename_i cs hcs
          split at hx
          · rename_i hhi
            obtain ⟨k1, k2⟩ := pure1_inv hx
            simp only [Option.some.injEq] at k1
            exact give_bslice hs hu hsz h1 h2 hz h3 g1 g2 hcs (.inl ⟨hhi, k1.symm, k2⟩) (run_v _)
          · split at hx
            · rename_i hall
              cases hx
              exact give_bslice hs hu hsz h1 h2 hz h3 g1 g2 hcs (.inr ⟨hall, rfl, rfl⟩) (run_v _)
            · cases hx
        · cases hx
      · cases hx
    · cases ht
  case load t y =>
    simp only [trOp, Option.bind_eq_bind, Option.bind_eq_some_iff, Option.pure_def, Option.some.injEq] at ht
    obtain ⟨b, hb, n, hn, z, hz, rfl⟩ := ht
    simp only [evOp] at hx
    split at hx
    · rename_i v hv
      split at hx
      · rename_i l hl
        obtain ⟨h1, rfl⟩ := pure1_inv hx
        exact give_load hs hb hn (hX hz hv) hl h1 (run_v _)
      · cases hx
    · cases hx
  case store t y z =>
    simp only [trOp, Option.bind_eq_bind, Option.bind_eq_some_iff, Option.pure_def, Option.some.injEq] at ht
    obtain ⟨n, hn, y', hy, z', hz, rfl⟩ := ht
    simp only [evOp] at hx
    split at hx
    · rename_i r off gen v hv1 hv2
      split at hx
      · rename_i hlen
        simp only [Option.map_eq_some_iff] at hx
        obtain ⟨st2, hw, h⟩ := hx
        cases h
        exact give_store hs hn (hX hy hv1) (hX hz hv2) hlen hw (run_u _)
      · cases hx
    · cases hx
  case nilCheck y =>
    simp only [trOp, Option.map_eq_some_iff] at ht
    obtain ⟨z, hz, rfl⟩ := ht
    simp only [evOp] at hx
    split at hx
    all_goals first | (cases hx; done) | skip
    rename_i hn1 hn2 hn3 hn4 hn5
    obtain ⟨h1, rfl⟩ := pure1_inv hx
    refine give_nilchk hs (hX hz h1) ⟨?_, ?_, ?_, ?_⟩ ?_ rfl rfl
    · rintro rfl; exact hn1 h1
    · rintro rfl; exact hn2 h1
    · rintro rfl; exact hn3 h1
    · rintro rfl; exact hn4 h1
    · rintro m p q rfl; exact hn5 _ _ _ h1
  case binOp bop t y z yt =>
    simp only [trOp, Option.bind_eq_bind, Option.bind_eq_some_iff, Option.pure_def, Option.some.injEq] at ht
    obtain ⟨y', hy, z', hz, rfl⟩ := ht
    simp only [evOp] at hx
    split at hx
    · rename_i u v hu hv
      have key : ∀ q, QT P t q → (q = .ic → isConstO y = true ∨ isConstO z = true) → aBin st bop q u v = some x → Gives P W0 w μ st (execOp a.eval ⟨dst, .binOp bop t y z yt, type, pos, after, guard⟩) x st := by
        intro q hT hc h
        obtain ⟨r, hr, hvr⟩ := bin_ok (P := P) hT hc (hX hy hu) (hX hz hv) h
        refine Gives.pure hs ?_ hvr
        show Sem.run P (do pure (Next.value (← (do eqGuard bop t y z (a.eval y) (a.eval z); binOp bop t (a.eval y) (a.eval z) : Sem Value)))) w = _
        rw [run_v, hr]; rfl
      obtain ⟨h1, rfl⟩ := pure1_inv hx
      split at h1
      · rename_i ms hms
        have hb : ∀ b : Bool, (b = true → isConstO y = true ∨ isConstO z = true) → aBin st' bop (if b = true then .ic else .ifc) u v = some x → Gives P W0 w μ st' (execOp a.eval ⟨dst, .binOp bop t y z yt, type, pos, after, guard⟩) x st' := by
          intro b hc h
          cases b
          · exact key _ (show QT P t .ifc from ⟨ms, hms⟩) (by simp) h
          · exact key _ (show QT P t .ic from ⟨ms, hms⟩) (fun _ => hc rfl) h
        refine hb _ ?_ h1
        cases y <;> cases z <;> simp [isConstO]
      · refine key _ (eqS_ok P t) (fun hic => ?_) h1
        exfalso
        rename_i hno
        have := eqS_ok P t
        rw [hic] at this
        obtain ⟨ms, hms⟩ := this
        exact hno ms hms
    · cases hx
  case convert src dt y =>
    simp only [trOp, Option.bind_eq_bind, Option.bind_eq_some_iff] at ht
    obtain ⟨z, hz, ht⟩ := ht
    have fin : ∀ ck, k = .conv ck z → ((∃ a b, P.underlying src = some (.int a) ∧ P.underlying dt = some (.int b) ∧ ck = .toInt b) ∨ (∃ a, P.underlying src = some (.int a) ∧ P.underlying dt = some .string ∧ ck = .runeToStr) ∨
      (P.underlying src = some .string ∧ P.underlying dt = some .string ∧ ck = .same) ∨ (∃ e, P.underlying src = some .string ∧ P.underlying dt = some (.slice e) ∧ P.underlying e = some (.int .u8) ∧ ck = .strToBytes) ∨
      (∃ e, P.underlying src = some .string ∧ P.underlying dt = some (.slice e) ∧ P.underlying e = some (.int .i32) ∧ ck = .strToRunes) ∨ (∃ e, P.underlying src = some (.slice e) ∧ P.underlying dt = some .string ∧ P.underlying e = some (.int .u8) ∧ ck = .bytesToStr) ∨
      (∃ e, P.underlying src = some (.slice e) ∧ P.underlying dt = some .string ∧ P.underlying e = some (.int .i32) ∧ ck = .runesToStr)) →
      Gives P W0 w μ st (execOp a.eval ⟨dst, .convert src dt y, type, pos, after, guard⟩) x st' := by
      rintro ck rfl hk
      simp only [evOp] at hx
      split at hx
      · rename_i v hv
        obtain ⟨h1, rfl⟩ := pure1_inv hx
        exact give_conv hs hk (hX hz hv) h1 (run_v _)
      · cases hx
    split at ht
    · rename_i k1 k2 h1 h2
      cases ht; exact fin _ rfl (.inl ⟨_, _, h1, h2, rfl⟩)
    · rename_i k1 h1 h2
      cases ht; exact fin _ rfl (.inr (.inl ⟨_, h1, h2, rfl⟩))
    · rename_i h1 h2
      cases ht; exact fin _ rfl (.inr (.inr (.inl ⟨h1, h2, rfl⟩)))
    · rename_i e h1 h2
      split at ht
      · rename_i h3
        cases ht; exact fin _ rfl (.inr (.inr (.inr (.inl ⟨_, h1, h2, h3, rfl⟩))))
      · rename_i h3
        cases ht; exact fin _ rfl (.inr (.inr (.inr (.inr (.inl ⟨_, h1, h2, h3, rfl⟩)))))
      · cases ht
    · rename_i e h1 h2
      split at ht
      · rename_i h3
        cases ht; exact fin _ rfl (.inr (.inr (.inr (.inr (.inr (.inl ⟨_, h1, h2, h3, rfl⟩))))))
      · rename_i h3
        cases ht; exact fin _ rfl (.inr (.inr (.inr (.inr (.inr (.inr ⟨_, h1, h2, h3, rfl⟩))))))
      · cases ht
    · rename_i t h1 h2
      simp only [Option.bind_eq_some_iff, Option.pure_def, Option.some.injEq, guard_some] at ht
      obtain ⟨n, hn, u, hpos, rfl⟩ := ht
      simp only [evOp] at hx
      split at hx
      · rename_i hv
        obtain ⟨h3, rfl⟩ := pure1_inv hx
        cases h3
        exact give_uto hs h1 h2 hn hpos (hX hz hv) (.inl rfl) (run_v _)
      · rename_i r off gen hv
        split at hx
        · rename_i cs g hh fz ty hrow
          split at hx
          · rename_i hc
            obtain ⟨h3, rfl⟩ := pure1_inv hx
            cases h3
            obtain ⟨rfl, hlt⟩ := hc
            exact give_uto hs h1 h2 hn hpos (hX hz hv) (.inr ⟨_, _, _, _, _, _, _, rfl, hrow, hlt⟩) (run_v _)
          · cases hx
        · cases hx
      · cases hx
    · rename_i t h1 h2
      simp only [Option.bind_eq_some_iff, Option.pure_def, Option.some.injEq, guard_some] at ht
      obtain ⟨n, hn, u, hpos, n', hn', rfl⟩ := ht
      rw [hn] at hn'; cases hn'
      simp only [evOp] at hx
      split at hx
      · rename_i hv
        obtain ⟨h3, rfl⟩ := pure1_inv hx
        cases h3
        exact give_ufrom hs h1 h2 hn hpos (hX hz hv) (.inl rfl) (run_v _)
      · rename_i r hv
        split at hx
        · rename_i cs hh fz ty hrow
          split at hx
          · rename_i hc
            obtain ⟨h3, rfl⟩ := pure1_inv hx
            cases h3
            obtain ⟨rfl, hlt⟩ := hc
            exact give_ufrom hs h1 h2 hn hpos (hX hz hv) (.inr ⟨_, _, _, _, rfl, hrow, hlt⟩) (run_v _)
          · cases hx
        · cases hx
      · cases hx
    · cases ht
  case makeInterface t y =>
    cases hu : P.underlying t with
    | none => simp [trOp, hu] at ht
    | some d =>
      have hh : (∀ ms, d ≠ .interface ms) ∧ ∃ z, trX y = some z ∧ k = .mkif t z := by
        cases d <;> simp [trOp, hu, Option.bind_eq_some_iff] at ht ⊢ <;> (obtain ⟨z, hz, rfl⟩ := ht; exact ⟨z, hz, rfl⟩)
      obtain ⟨hd, z, hz, rfl⟩ := hh
      simp only [evOp] at hx
      obtain ⟨h3, rfl⟩ := pure1_inv hx
      simp only [Option.map_eq_some_iff] at h3
      obtain ⟨v, hv, rfl⟩ := h3
      exact give_mkif hs hu hd (hX hz hv) (run_v _)
  case makeFunc fn first caps =>
    simp only [trOp, Option.bind_eq_bind, Option.bind_eq_some_iff, Option.pure_def, Option.some.injEq] at ht
    obtain ⟨fs, hfs, cs, hcs, rfl⟩ := ht
    simp only [evOp] at hx
    split at hx
    · rename_i va vb h1 h2
      obtain ⟨h3, rfl⟩ := pure1_inv hx
      cases h3
      obtain ⟨l1, g1⟩ := Xs_ok hg hs he hfs h1
      obtain ⟨l2, g2⟩ := Xs_ok hg hs he hcs h2
      refine Gives.pure hs (v := .func fn (first.map a.eval) (caps.map a.eval)) (by simp [execOp, Instr.makeFunc]) (.fn (by simp [l1]) (by simp [l2]) (fun i x v hi hv => ?_) (fun i x v hi hv => ?_))
      · simp only [Array.getElem?_map, Option.map_eq_some_iff] at hv
        obtain ⟨o, ho, rfl⟩ := hv
        exact g1 i x o hi (by simpa using ho)
      · simp only [Array.getElem?_map, Option.map_eq_some_iff] at hv
        obtain ⟨o, ho, rfl⟩ := hv
        exact g2 i x o hi (by simpa using ho)
    · cases hx
  case makeMap t r =>
    cases r with
    | some r => simp [trOp] at ht
    | none =>
      simp only [trOp, Option.some.injEq] at ht
      subst ht
      simp only [evOp, Option.some.injEq] at hx
      cases hx
      exact give_mkmap hs (t := t) (run_v _)
  case makeSlice t l c =>
    simp only [trOp, Option.bind_eq_bind] at ht
    split at ht
    · rename_i e hu
      simp only [Option.bind_eq_some_iff, Option.pure_def, Option.some.injEq, guard_some, Bool.and_eq_true, decide_eq_true_eq, Bool.decide_eq_true] at ht
      obtain ⟨sz, hsz, zero, hz, u, ⟨h1, h2⟩, by', hby, l', hl, c', hc, rfl⟩ := ht
      simp only [evOp] at hx
      split at hx
      · rename_i ln cn hln hcn
        simp only [Option.bind_eq_some_iff] at hln hcn
        obtain ⟨lx, hlx, hln⟩ := hln
        obtain ⟨cx, hcx, hcn⟩ := hcn
        split at hx
        · rename_i hcond
          cases hx
          exact give_mkslice hs hu hsz hby hz h2 (hX hl hlx) (hX hc hcx) hln hcn hcond.1 hcond.2 (run_v _)
        · cases hx
      · cases hx
    · cases ht
  case slice t y lo hi mx =>
    simp only [trOp, Option.bind_eq_bind, Option.bind_eq_some_iff] at ht
    obtain ⟨y', hy, lo', hlo, hi', hhi, mx', hmx, ht⟩ := ht
    have opt : ∀ {o : Option Operand} {q : Option X} {v : Option AV}, trOpt o = some q → evo C env q = some v → OptR w μ st v (o.map a.eval) := fun h1 h2 => by
      rcases Xo_ok hg hs he h1 h2 with ⟨rfl, rfl⟩ | ⟨y, p, rfl, rfl, hv⟩
      · exact .inl ⟨rfl, rfl⟩
      · exact .inr ⟨_, _, rfl, rfl, hv⟩
    have fin : ∀ sk, k = .slice sk y' lo' hi' mx' → ((P.underlying t = some .string ∧ sk = .str) ∨ (∃ n e sz, P.underlying t = some (.array n e) ∧ sizeT P e = some sz ∧ sk = .arr n sz) ∨ (∃ e sz, P.underlying t = some (.slice e) ∧ sizeT P e = some sz ∧ sk = .slc sz)) →
      Gives P W0 w μ st (execOp a.eval ⟨dst, .slice t y lo hi mx, type, pos, after, guard⟩) x st' := by
      rintro sk rfl hk
      simp only [evOp] at hx
      split at hx
      · rename_i v1 v2 v3 v4 e1 e2 e3 e4
        obtain ⟨h3, rfl⟩ := pure1_inv hx
        exact give_slice hs hk (hX hy e1) (opt hlo e2) (opt hhi e3) (opt hmx e4) h3 (run_v _)
      · cases hx
    split at ht
    · rename_i hu
      split at ht
      · cases ht
      · cases ht; exact fin _ rfl (.inl ⟨hu, rfl⟩)
    · rename_i n e hu
      simp only [Option.bind_eq_some_iff, Option.pure_def, Option.some.injEq] at ht
      obtain ⟨sz, hsz, rfl⟩ := ht
      exact fin _ rfl (.inr (.inl ⟨_, _, _, hu, hsz, rfl⟩))
    · rename_i e hu
      simp only [Option.bind_eq_some_iff, Option.pure_def, Option.some.injEq] at ht
      obtain ⟨sz, hsz, rfl⟩ := ht
      exact fin _ rfl (.inr (.inr ⟨_, _, hu, hsz, rfl⟩))
    · cases ht
  case fieldAddr t y i =>
    simp only [trOp, Option.bind_eq_bind] at ht
    split at ht
    · rename_i fs hu
      simp only [Option.bind_eq_some_iff, Option.pure_def, Option.some.injEq, guard_some] at ht
      obtain ⟨f, hf, n, hn, u, hpos, y', hy, rfl⟩ := ht
      simp only [evOp] at hx
      split at hx
      · rename_i r o g hv
        obtain ⟨h3, rfl⟩ := pure1_inv hx
        cases h3
        exact give_faddr hs hu hf hn hpos (hX hy hv) (.inl ⟨_, _, _, rfl, rfl⟩) (run_v _)
      · rename_i cs hv
        obtain ⟨h3, rfl⟩ := pure1_inv hx
        cases h3
        exact give_faddr hs hu hf hn hpos (hX hy hv) (.inr ⟨_, rfl, rfl⟩) (run_v _)
      · cases hx
    · cases ht
  case field t y i =>
    simp only [trOp, Option.bind_eq_bind] at ht
    split at ht
    · rename_i fs hu
      simp only [Option.bind_eq_some_iff, Option.pure_def, Option.some.injEq] at ht
      obtain ⟨f, hf, b, hb, n, hn, y', hy, rfl⟩ := ht
      simp only [evOp] at hx
      split at hx
      · rename_i cs hv
        split at hx
        · rename_i l hl
          obtain ⟨h3, rfl⟩ := pure1_inv hx
          exact give_field hs hu hf hb hn (hX hy hv) hl h3 (run_v _)
        · cases hx
      · cases hx
    · cases ht
  case indexAddr t y i =>
    simp only [trOp, Option.bind_eq_bind] at ht
    split at ht
    · rename_i n e hu
      simp only [Option.bind_eq_some_iff, Option.pure_def, Option.some.injEq] at ht
      obtain ⟨sz, hsz, y', hy, i', hi, rfl⟩ := ht
      simp only [evOp] at hx
      split at hx
      · rename_i v1 v2 e1 e2
        obtain ⟨h3, rfl⟩ := pure1_inv hx
        exact give_iaddr hs (.inl ⟨_, hu, rfl⟩) hsz (hX hy e1) (hX hi e2) h3 (run_v _)
      · cases hx
    · rename_i e hu
      simp only [Option.bind_eq_some_iff, Option.pure_def, Option.some.injEq] at ht
      obtain ⟨sz, hsz, y', hy, i', hi, rfl⟩ := ht
      simp only [evOp] at hx
      split at hx
      · rename_i v1 v2 e1 e2
        obtain ⟨h3, rfl⟩ := pure1_inv hx
        exact give_iaddr hs (.inr ⟨hu, rfl⟩) hsz (hX hy e1) (hX hi e2) h3 (run_v _)
      · cases hx
    · cases ht
  case index t y i =>
    simp only [trOp, Option.bind_eq_bind] at ht
    split at ht
    · rename_i hu
      simp only [Option.bind_eq_some_iff, Option.pure_def, Option.some.injEq] at ht
      obtain ⟨y', hy, i', hi, rfl⟩ := ht
      simp only [evOp] at hx
      split at hx
      · rename_i b n e1 e2
        obtain ⟨h3, rfl⟩ := pure1_inv hx
        simp only [Option.map_eq_some_iff, Option.bind_eq_some_iff] at h3 e2
        obtain ⟨c, hc, rfl⟩ := h3
        obtain ⟨iv, hiv, hn⟩ := e2
        exact give_ixs hs hu (hX hy e1) (hX hi hiv) hn hc (run_v _)
      · cases hx
    · rename_i n e hu
      simp only [Option.bind_eq_some_iff, Option.pure_def, Option.some.injEq] at ht
      obtain ⟨sz, hsz, b, hb, y', hy, i', hi, rfl⟩ := ht
      simp only [evOp] at hx
      split at hx
      · rename_i cs m e1 e2
        simp only [Option.bind_eq_some_iff] at e2
        obtain ⟨iv, hiv, hn⟩ := e2
        split at hx
        · rename_i hlt
          split at hx
          · rename_i l hl
            obtain ⟨h3, rfl⟩ := pure1_inv hx
            exact give_ixa hs hu hb hsz (hX hy e1) (hX hi hiv) hn hlt hl h3 (run_v _)
          · cases hx
        · cases hx
      · cases hx
    · cases ht
  case lookup t y kk ok =>
    simp only [trOp, Option.bind_eq_bind] at ht
    split at ht
    · rename_i kt e hu
      simp only [Option.bind_eq_some_iff, Option.pure_def, Option.some.injEq, guard_some] at ht
      obtain ⟨u, hq, zero, hz, y', hy, k', hk, rfl⟩ := ht
      have hT := qt_plain hq (eqS_ok P kt)
      simp only [evOp] at hx
      split at hx
      · rename_i kv e1 e2
        split at hx
        · rename_i b hb
          obtain ⟨h3, rfl⟩ := pure1_inv hx
          simp only [Option.some.injEq] at h3
          exact give_lookup hs hu hq hT hz (hX hy e1) (hX hk e2) ⟨_, hb⟩ (.inl ⟨rfl, h3.symm⟩) (run_v _)
        · cases hx
      · rename_i r kv e1 e2
        split at hx
        · rename_i es hh b hr hb
          split at hx
          · rename_i v hf
            obtain ⟨h3, rfl⟩ := pure1_inv hx
            simp only [Option.some.injEq] at h3
            exact give_lookup hs hu hq hT hz (hX hy e1) (hX hk e2) ⟨_, hb⟩ (.inr ⟨_, _, _, _, rfl, hr, hf, .inl ⟨_, rfl, h3.symm⟩⟩) (run_v _)
          · rename_i hf
            obtain ⟨h3, rfl⟩ := pure1_inv hx
            simp only [Option.some.injEq] at h3
            exact give_lookup hs hu hq hT hz (hX hy e1) (hX hk e2) ⟨_, hb⟩ (.inr ⟨_, _, _, _, rfl, hr, hf, .inr ⟨rfl, h3.symm⟩⟩) (run_v _)
          · cases hx
        · cases hx
      · cases hx
    · cases ht
  case mapUpdate t m kk v =>
    simp only [trOp, Option.bind_eq_bind] at ht
    split at ht
    · rename_i kt e hu
      simp only [Option.bind_eq_some_iff, Option.pure_def, Option.some.injEq, guard_some] at ht
      obtain ⟨u, hq, m', hm, k', hk, v', hv, rfl⟩ := ht
      have hT := qt_plain hq (eqS_ok P kt)
      simp only [evOp] at hx
      split at hx
      · rename_i r kv vv e1 e2 e3
        split at hx
        · rename_i es hh b hr hb
          simp only [Option.map_eq_some_iff] at hx
          obtain ⟨es', hes, h⟩ := hx
          cases h
          exact give_mapset hs hu hq hT (hX hm e1) (hX hk e2) (hX hv e3) ⟨_, hb⟩ hr hes (run_u _)
        · cases hx
      · cases hx
    · cases ht
  case insert t m kk v =>
    simp only [trOp, Option.bind_eq_bind] at ht
    split at ht
    · rename_i kt e hu
      simp only [Option.bind_eq_some_iff, Option.pure_def, Option.some.injEq, guard_some] at ht
      obtain ⟨u, hq, m', hm, k', hk, v', hv, rfl⟩ := ht
      have hT := qt_plain hq (eqS_ok P kt)
      simp only [evOp] at hx
      split at hx
      · rename_i r kv vv e1 e2 e3
        split at hx
        · rename_i es hh b hr hb
          simp only [Option.map_eq_some_iff] at hx
          obtain ⟨es', hes, h⟩ := hx
          cases h
          exact give_mapset hs hu hq hT (hX hm e1) (hX hk e2) (hX hv e3) ⟨_, hb⟩ hr hes (run_u _)
        · cases hx
      · cases hx
    · cases ht
  case range t y =>
    simp only [trOp] at ht
    split at ht
    · rename_i hu
      simp only [Option.map_eq_some_iff] at ht
      obtain ⟨y', hy, rfl⟩ := ht
      simp only [evOp] at hx
      split at hx
      · rename_i b e1
        cases hx
        exact give_range hs hu (hX hy e1) (run_v _)
      · cases hx
    · cases ht
  case next y isS =>
    cases isS with
    | false => simp [trOp] at ht
    | true =>
      simp only [trOp, Option.map_eq_some_iff] at ht
      obtain ⟨y', hy, rfl⟩ := ht
      simp only [evOp] at hx
      split at hx
      · rename_i r e1
        split at hx
        · rename_i b p hr
          split at hx
          · rename_i hlt
            cases hx
            exact give_next hs (hX hy e1) hr (.inl ⟨hlt, rfl, rfl⟩) (run_v _)
          · rename_i hlt
            obtain ⟨h3, rfl⟩ := pure1_inv hx
            cases h3
            exact give_next hs (hX hy e1) hr (.inr ⟨hlt, rfl, rfl⟩) (run_v _)
        · cases hx
      · cases hx
  case typeAssert y xt t ok =>
    cases hu : P.underlying t with
    | none => simp [trOp, hu] at ht
    | some d =>
      have hh : (∀ ms, d ≠ .interface ms) ∧ ∃ zero z, zeroT P t = some zero ∧ trX y = some z ∧ k = .tassert t ok zero z := by
        cases d <;> simp [trOp, hu, Option.bind_eq_some_iff] at ht ⊢ <;> (obtain ⟨zero, hzero, z, hz, rfl⟩ := ht; exact ⟨zero, hzero, z, hz, rfl⟩)
      obtain ⟨hd, zero, z, hzero, hz, rfl⟩ := hh
      simp only [evOp] at hx
      split at hx
      · rename_i t' v e1
        split at hx
        · rename_i htt
          obtain ⟨h3, rfl⟩ := pure1_inv hx
          simp only [Option.some.injEq] at h3
          exact give_tassert hs hu hd hzero (hX hz e1) (.inl ⟨_, _, rfl, .inl ⟨htt, h3.symm⟩⟩) (run_v _)
        · rename_i htt
          split at hx
          · rename_i hok
            obtain ⟨h3, rfl⟩ := pure1_inv hx
            simp only [Option.some.injEq] at h3
            exact give_tassert hs hu hd hzero (hX hz e1) (.inl ⟨_, _, rfl, .inr ⟨htt, hok, h3.symm⟩⟩) (run_v _)
          · cases hx
      · rename_i e1
        split at hx
        · rename_i hok
          obtain ⟨h3, rfl⟩ := pure1_inv hx
          simp only [Option.some.injEq] at h3
          exact give_tassert hs hu hd hzero (hX hz e1) (.inr ⟨rfl, hok, h3.symm⟩) (run_v _)
        · cases hx
      · cases hx
  case extract y i =>
    simp only [trOp, Option.bind_eq_bind, Option.bind_eq_some_iff, Option.pure_def, Option.some.injEq] at ht
    obtain ⟨y', hy, rfl⟩ := ht
    simp only [evOp] at hx
    split at hx
    · rename_i vs e1
      obtain ⟨h3, rfl⟩ := pure1_inv hx
      exact give_extract hs (hX hy e1) h3 (run_v _)
    · cases hx
  case unOp uop t y =>
    simp only [trOp, Option.map_eq_some_iff] at ht
    obtain ⟨z, hz, rfl⟩ := ht
    simp only [evOp] at hx
    split at hx
    · rename_i v hv
      obtain ⟨h1, rfl⟩ := pure1_inv hx
      obtain ⟨r, hr, hvr⟩ := un_ok (P := P) (hX hz hv) h1
      refine Gives.pure hs ?_ hvr
      show Sem.run P (do pure (Next.value (← Op.unary uop (a.eval y)))) w = _
      rw [run_v, hr]; rfl
    · cases hx
  all_goals first | (simp [trOp] at ht; done) | (simp [isCall] at hnc; done)

end
end Go.Eng

set_option linter.unusedSimpArgs false
set_option linter.unusedVariables false
namespace Go.Eng
open Go

section
variable {P : Program} {C : Ctx} {W0 w : World} {μ : Pls} {st : St} {env : Env} {a : Act}

/-- What is known of an evaluator of calls. -/
def CallOk (P : Program) (W0 : World) (call : CallF) : Prop :=
  ∀ f xs st x st', call f xs st = some (x, st') → ∀ (w : World) (μ : Pls) (vs : Array Value), Sim W0 w μ st → VRs w μ st xs vs.toList →
    ∀ (o : Oper) (a : Act) (next : Act → World → Prop) (Q : Exit → Act → World → Prop),
      (∀ v w' μ', VR w' μ' st' x v → Sim W0 w' μ' st' → Ext w μ st w' μ' st' → next (a.put o.dst v) w') → o.upon P a next Q ((callFunc f vs).run P w)

theorem VRs.append {xs ys : List AV} {us vs : List Value} (h : VRs w μ st xs us) (k : VRs w μ st ys vs) : VRs w μ st (xs ++ ys) (us ++ vs) := by
  refine ⟨by simp [h.1, k.1], fun i x v hx hv => ?_⟩
  rcases Nat.lt_or_ge i xs.length with hlt | hge
  · rw [List.getElem?_append_left hlt] at hx
    rw [List.getElem?_append_left (by rw [← h.1]; exact hlt)] at hv
    exact h.2 i x v hx hv
  · rw [List.getElem?_append_right hge] at hx
    rw [List.getElem?_append_right (by rw [← h.1]; exact hge), ← h.1] at hv
    exact k.2 _ x v hx hv

variable (hg : GlobOk C W0) (hs : Sim W0 w μ st) (he : EnvR w μ st env a.tmps) {call : CallF}
include hg hs he

theorem args_ok {args : Array Operand} {xs : List X} {vs : List AV} (h1 : args.toList.mapM trX = some xs) (h2 : evs C env xs = some vs) : VRs w μ st vs (args.map a.eval).toList := by
  obtain ⟨l, g⟩ := Xs_ok hg hs he h1 h2
  refine ⟨by simp [l], fun i x v hx hv => ?_⟩
  simp only [Array.toList_map, List.getElem?_map, Option.map_eq_some_iff] at hv
  obtain ⟨o, ho, rfl⟩ := hv
  exact g i x o hx ho

theorem value_ok (hc : CallOk P W0 call) {o : Oper} {f : Operand} {args : Array Operand} {tys : Array TypeId} (ho : o.op = .call { callee := .value f, args, argTypes := tys }) {k : KO} (ht : trOp P o.op = some k) {x : AV} {st' : St} (hx : evOp C call k env st = some (x, st')) :
    OpWp P W0 w μ st o a x st' := by
  obtain ⟨dst, op, type, pos, after, guard⟩ := o
  simp only at ho; subst ho
  simp only [trOp, Option.bind_eq_bind, Option.bind_eq_some_iff, Option.pure_def, Option.some.injEq] at ht
  obtain ⟨f', hf, xs, hxs, rfl⟩ := ht
  simp only [evOp] at hx
  split at hx
  · rename_i g first caps vs e1 e2
    have hv := X_ok hg hs he hf e1
    have hargs := args_ok hg hs he hxs e2
    generalize hfv : a.eval f = fv at hv
    cases hv with
    | @fn _ _ _ fv cv h1 h2 h3 h4 =>
      intro next Q hn
      have := hc g _ st x st' hx w μ (fv ++ args.map a.eval ++ cv) hs (by
        simp only [Array.toList_append]
        refine VRs.append (VRs.append ⟨by simp [h1], fun i x v hx hv => h3 i x v hx (by simpa using hv)⟩ hargs) ⟨by simp [h2], fun i x v hx hv => h4 i x v hx (by simpa using hv)⟩) ⟨dst, .call { callee := .value f, args, argTypes := tys }, type, pos, after, guard⟩ a next Q hn
      unfold Oper.wp
      have hrun : (execOp a.eval ⟨dst, .call { callee := .value f, args, argTypes := tys }, type, pos, after, guard⟩).run P w = (callFunc g (fv ++ args.map a.eval ++ cv)).run P w := by
        simp only [execOp, resolve, hfv, Deferred.ofValue, Sem.run_bind, Sem.run_pure, Result.andThen_ok, invoke]
      rw [hrun]
      exact this
  · cases hx

omit hg hs he in
theorem builtin_run {dst : Option Tmp} {b : Builtin} {args : Array Operand} {tys : Array TypeId} {type : TypeId} {pos : String} {after : Array Edge} {guard : Option (Nat × Bool)} :
    (execOp a.eval ⟨dst, .call { callee := .builtin b, args, argTypes := tys }, type, pos, after, guard⟩).run P w =
      (builtin b tys type (args.map fun | .const _ => true | _ => false) (args.map a.eval)).run P w := by
  simp only [execOp, resolve, Sem.run_bind, Sem.run_pure, Result.andThen_ok, invoke]
  rfl

omit hg hs he in
theorem args_one {args : Array Operand} {x : Operand} (h : args.toList = [x]) : args.map a.eval = #[a.eval x] := by
  apply Array.ext'; simp [h]
omit hg hs he in
theorem args_two {args : Array Operand} {x y : Operand} (h : args.toList = [x, y]) : args.map a.eval = #[a.eval x, a.eval y] := by
  apply Array.ext'; simp [h]

set_option maxHeartbeats 4000000 in
theorem builtin_ok {o : Oper} {b : Builtin} {args : Array Operand} {tys : Array TypeId} (ho : o.op = .call { callee := .builtin b, args, argTypes := tys }) {k : KO} (ht : trOp P o.op = some k) {x : AV} {st' : St} (hx : evOp C call k env st = some (x, st')) :
    Gives P W0 w μ st (execOp a.eval o) x st' := by
  obtain ⟨dst, op, type, pos, after, guard⟩ := o
  simp only at ho; subst ho
  have hX : ∀ {o : Operand} {y : X} {v : AV}, trX o = some y → y.ev C env = some v → VR w μ st v (a.eval o) := fun h1 h2 => X_ok hg hs he h1 h2
  have hrun1 : ∀ {f : Sem Value} {y : Operand}, args.toList = [y] → (builtin b tys type (args.map fun | .const _ => true | _ => false) (args.map a.eval)) = (do pure (Next.value (← f))) →
      (execOp a.eval ⟨dst, .call { callee := .builtin b, args, argTypes := tys }, type, pos, after, guard⟩).run P w = (f.run P w).andThen fun v w' => .ok (.value v) w' := fun _ h => by
    rw [builtin_run, h, run_v]
  have hrun2 : ∀ {f : Sem Value}, (builtin b tys type (args.map fun | .const _ => true | _ => false) (args.map a.eval)) = (do pure (Next.value (← f))) →
      (execOp a.eval ⟨dst, .call { callee := .builtin b, args, argTypes := tys }, type, pos, after, guard⟩).run P w = (f.run P w).andThen fun v w' => .ok (.value v) w' := fun h => by
    rw [builtin_run, h, run_v]
  simp only [trOp, Option.bind_eq_bind] at ht
  split at ht
  · -- append
    rename_i s y hl
    have ha := args_two (a := a) hl
    simp only [Option.bind_eq_some_iff] at ht
    obtain ⟨t, ht0, ht⟩ := ht
    split at ht
    · rename_i e hu
      simp only [Option.bind_eq_some_iff, Option.pure_def, Option.some.injEq, guard_some, Bool.and_eq_true, decide_eq_true_eq, Bool.decide_eq_true] at ht
      obtain ⟨sz, hsz, zero, hz, _, ⟨hpos, hzl⟩, u, hu1, d, hd, by', hby, s', hs', y', hy', hk0⟩ := ht
      have hA : tys[0]? = some t := by simpa using ht0
      have hA1 : tys[1]? = some u := by simpa using hu1
      have key : ∀ zs : Bool, k = .append e sz by' zero zs s' y' → (zs = true → ∃ ik, d = .int ik) → (zs = false → ∀ ik, d ≠ .int ik) →
          Gives P W0 w μ st (execOp a.eval ⟨dst, .call { callee := .builtin .append, args, argTypes := tys }, type, pos, after, guard⟩) x st' := by
        rintro zs rfl hz1 hz2
        simp only [evOp] at hx
        split at hx
        · rename_i sv yv e1 e2
          have hrun := hrun2 (f := Builtin.append_ tys type (args.map a.eval)) rfl
          rw [ha] at hrun
          split at hx
          · rename_i hzeros
            split at hx
            · rename_i k hk
              split at hx
              · rename_i hsm
                obtain ⟨ik, rfl⟩ := hz1 hzeros
                obtain ⟨new, g1, g2, g3⟩ := appSrc_zeros (w := w) (μ := μ) (st := st) hA1 hd hby hz hzl hpos (hX hy' e2) hk hsm
                exact give_append hs hA hu hsz hpos hby hz hzl (fun w' _ => g1 w') g2 (fun _ => g3) (hX hs' e1) hx hrun
              · cases hx
            · cases hx
          · rename_i hzeros
            split at hx
            · rename_i new k he1 he2
              have hni := hz2 (by simpa using hzeros)
              by_cases hcond : k ≠ 0 → new.length = k * sz
              · obtain ⟨nw, g1, g2, g3⟩ := appSrc_elems (e := e) hs hA1 hd hni (hX hy' e2) he1 he2 hcond
                exact give_append hs hA hu hsz hpos hby hz hzl g1 g2 g3 (hX hs' e1) hx hrun
              · exfalso
                have hk : k ≠ 0 := fun h => hcond fun h' => absurd h h'
                unfold aAppend at hx
                rw [if_neg hk, if_pos (.inl fun h => hcond fun _ => h)] at hx
                cases hx
            · cases hx
        · cases hx
      exact key _ hk0.symm (by intro h; cases d <;> simp at h ⊢) (by intro h; cases d <;> simp at h ⊢)
    · cases ht
  · -- copy
    rename_i dd ss hl
    have ha := args_two (a := a) hl
    simp only [Option.bind_eq_some_iff] at ht
    obtain ⟨t, ht0, ht⟩ := ht
    split at ht
    · rename_i e hu
      simp only [Option.bind_eq_some_iff, Option.pure_def, Option.some.injEq] at ht
      obtain ⟨sz, hsz, d', hd', s', hs', rfl⟩ := ht
      have hA : tys[0]? = some t := by simpa using ht0
      have hrun := hrun2 (f := Builtin.copy_ tys type (args.map a.eval)) rfl
      rw [ha] at hrun
      simp only [evOp] at hx
      split at hx
      · rename_i r off len cm gen sz' ex sv e1 e2
        split at hx
        · rename_i new k h1 h2
          split at hx
          · rename_i hszz
            obtain ⟨rfl, hcl⟩ := hszz
            simp only [Option.map_eq_some_iff] at hx
            obtain ⟨st2, hw, h⟩ := hx
            cases h
            exact give_copy hs hA hu hsz (hX hd' e1) (hX hs' e2) h1 h2 (.inr ⟨_, _, _, _, _, _, rfl, hcl, hw, rfl⟩) hrun
          · cases hx
        · cases hx
      · rename_i sv e1 e2
        split at hx
        · rename_i new k h1 h2
          obtain ⟨h3, rfl⟩ := pure1_inv hx
          cases h3
          exact give_copy hs hA hu hsz (hX hd' e1) (hX hs' e2) h1 h2 (.inl ⟨rfl, rfl, rfl⟩) hrun
        · cases hx
      · cases hx
    · cases ht
  · -- len
    rename_i y hl
    have ha := args_one (a := a) hl
    simp only [Option.bind_eq_some_iff] at ht
    obtain ⟨t, ht0, ht⟩ := ht
    have hA : tys[0]? = some t := by simpa using ht0
    have hrun := hrun2 (f := Builtin.len_ tys type (args.map a.eval)) rfl
    rw [ha] at hrun
    split at ht
    · rename_i n e hu
      cases ht
      simp only [evOp, X.ev, Option.map_some, Option.some.injEq] at hx
      cases hx
      refine Gives.pure hs (v := goInt n) ?_ (.int _ _)
      rw [hrun]
      simp [Builtin.len_, hA, run_underlying w hu]
    · rename_i arr hu
      split at ht
      · rename_i n e hu2
        cases ht
        simp only [evOp, X.ev, Option.map_some, Option.some.injEq] at hx
        cases hx
        refine Gives.pure hs (v := goInt n) ?_ (.int _ _)
        rw [hrun]
        simp [Builtin.len_, hA, run_underlying w hu, run_underlying w hu2]
      · cases ht
    · rename_i hu
      simp only [Option.map_eq_some_iff] at ht
      obtain ⟨y', hy', rfl⟩ := ht
      simp only [evOp] at hx
      split at hx <;> first | (cases hx; done) | skip
      all_goals first | (rename_i hk _; cases hk; done) | skip
      all_goals rename_i e1
      all_goals obtain ⟨h3, rfl⟩ := pure1_inv hx
      all_goals cases h3
      all_goals exact give_len hs hA (hX hy' e1) (.inl ⟨_, rfl, rfl⟩) (fun _ => hu) (by simp) (by simp) hrun
    · rename_i e hu
      simp only [Option.map_eq_some_iff] at ht
      obtain ⟨y', hy', rfl⟩ := ht
      simp only [evOp] at hx
      split at hx <;> first | (cases hx; done) | skip
      all_goals first | (rename_i hk _; cases hk; done) | skip
      all_goals rename_i e1
      all_goals obtain ⟨h3, rfl⟩ := pure1_inv hx
      all_goals cases h3
      all_goals exact give_len hs hA (hX hy' e1) (.inl ⟨_, rfl, rfl⟩) (by simp) (fun _ => ⟨_, hu⟩) (by simp) hrun
    · rename_i kt e hu
      simp only [Option.map_eq_some_iff] at ht
      obtain ⟨y', hy', rfl⟩ := ht
      simp only [evOp] at hx
      split at hx
      · rename_i r e1
        split at hx
        · rename_i es h hr
          obtain ⟨h3, rfl⟩ := pure1_inv hx
          cases h3
          exact give_len hs hA (hX hy' e1) (.inr (.inr ⟨_, _, _, rfl, hr, rfl⟩)) (by simp) (by simp) (fun _ => ⟨_, _, hu⟩) hrun
        · cases hx
      · rename_i e1
        obtain ⟨h3, rfl⟩ := pure1_inv hx
        cases h3
        exact give_len hs hA (hX hy' e1) (.inr (.inl ⟨rfl, rfl⟩)) (by simp) (by simp) (fun _ => ⟨_, _, hu⟩) hrun
      all_goals first | (rename_i hk _; cases hk; done) | (cases hx; done)
    · cases ht
  · -- cap
    rename_i y hl
    have ha := args_one (a := a) hl
    simp only [Option.bind_eq_some_iff] at ht
    obtain ⟨t, ht0, ht⟩ := ht
    have hA : tys[0]? = some t := by simpa using ht0
    have hrun := hrun2 (f := Builtin.cap_ tys type (args.map a.eval)) rfl
    rw [ha] at hrun
    split at ht
    · rename_i e hu
      simp only [Option.map_eq_some_iff] at ht
      obtain ⟨y', hy', rfl⟩ := ht
      simp only [evOp] at hx
      split at hx
      · rename_i e1
        obtain ⟨h3, rfl⟩ := pure1_inv hx
        cases h3
        exact give_cap hs hA hu (hX hy' e1) (.inl ⟨rfl, rfl⟩) hrun
      · rename_i e1
        obtain ⟨h3, rfl⟩ := pure1_inv hx
        cases h3
        exact give_cap hs hA hu (hX hy' e1) (.inr (.inl ⟨_, _, _, _, _, _, rfl, rfl⟩)) hrun
      · rename_i e1
        obtain ⟨h3, rfl⟩ := pure1_inv hx
        cases h3
        exact give_cap hs hA hu (hX hy' e1) (.inr (.inr ⟨_, _, rfl, rfl⟩)) hrun
      · cases hx
    · cases ht
  · -- clear
    rename_i y hl
    have ha := args_one (a := a) hl
    simp only [Option.bind_eq_some_iff] at ht
    obtain ⟨t, ht0, ht⟩ := ht
    have hA : tys[0]? = some t := by simpa using ht0
    have hrun := hrun2 (f := Builtin.clear_ tys type (args.map a.eval)) rfl
    rw [ha] at hrun
    split at ht
    · rename_i e hu
      simp only [Option.bind_eq_some_iff, Option.pure_def, Option.some.injEq] at ht
      obtain ⟨sz, hsz, zero, hz, y', hy', rfl⟩ := ht
      simp only [evOp] at hx
      split at hx
      · rename_i e1
        cases hx
        exact give_clear hs hA (hX hy' e1) (.inl ⟨.inl rfl, rfl, _, hu⟩) hrun
      · rename_i e1
        cases hx
        exact give_clear hs hA (hX hy' e1) (.inl ⟨.inr rfl, rfl, _, hu⟩) hrun
      · rename_i r off len cm gen sz' ex _ e1
        split at hx
        · rename_i hc
          obtain ⟨rfl, hzl⟩ := hc
          simp only [Option.map_eq_some_iff] at hx
          obtain ⟨st2, hw, h⟩ := hx
          cases h
          exact give_clear hs hA (hX hy' e1) (.inr (.inl ⟨_, _, _, _, _, _, _, _, _, rfl, hu, hz, hzl, hw⟩)) hrun
        · cases hx
      all_goals first | (rename_i hk _; cases hk; done) | (cases hx; done)
    · rename_i kt e hu
      simp only [Option.bind_eq_some_iff, Option.pure_def, Option.some.injEq] at ht
      obtain ⟨y', hy', rfl⟩ := ht
      simp only [evOp] at hx
      split at hx
      · rename_i e1
        cases hx
        exact give_clear hs hA (hX hy' e1) (.inl ⟨.inl rfl, rfl, _, hu⟩) hrun
      · rename_i e1
        cases hx
        exact give_clear hs hA (hX hy' e1) (.inl ⟨.inr rfl, rfl, _, hu⟩) hrun
      · rename_i hk _; cases hk
      · rename_i r _ e1
        split at hx
        · rename_i es h hr
          cases hx
          exact give_clear hs hA (hX hy' e1) (.inr (.inr ⟨_, _, _, _, _, rfl, hu, hr, rfl⟩)) hrun
        · cases hx
      · cases hx
    · cases ht
  · -- min
    rename_i y l hl
    have key : ∀ isMax : Bool, (∀ vs : Array Value, (if isMax then Builtin.max_ tys type vs else Builtin.min_ tys type vs) = match vs.toList with
        | [] => if isMax then stuck "max: at least one argument expected" else stuck "min: at least one argument expected"
        | x :: rest => rest.foldlM (if isMax then Builtin.max2 else Builtin.min2) x) := by
      intro isMax vs; cases isMax <;> rfl
    simp only [Option.bind_eq_some_iff, Option.pure_def, Option.some.injEq] at ht
    obtain ⟨xs, hxs, rfl⟩ := ht
    simp only [evOp] at hx
    split at hx
    · rename_i kk n rest e1
      obtain ⟨h3, rfl⟩ := pure1_inv hx
      simp only [Option.map_eq_some_iff] at h3
      obtain ⟨z, hz, rfl⟩ := h3
      rw [← hl] at hxs
      have hargs := args_ok hg hs he hxs e1
      cases hv : (args.map a.eval).toList with
      | nil => rw [hv] at hargs; have := hargs.1; simp at this
      | cons u us =>
        rw [hv] at hargs
        have hu := (hargs.2 0 (.int kk n) u (by simp) (by simp)).int_inv
        subst hu
        have hus : VRs w μ st' rest us := ⟨by simpa using hargs.1, fun i x v hx hv => hargs.2 (i + 1) x v (by simpa using hx) (by simpa using hv)⟩
        have hm := minmax_ok (P := P) false rest us n kk z hus hz
        refine Gives.pure hs ?_ (.int _ _)
        rw [hrun2 (f := Builtin.min_ tys type (args.map a.eval)) rfl]
        have := key false (args.map a.eval)
        simp only [Bool.false_eq_true, if_false, hv] at this
        rw [this]
        simp only [Bool.false_eq_true, if_false] at hm
        rw [hm]; rfl
    · cases hx
  · -- max
    rename_i y l hl
    have key : ∀ isMax : Bool, (∀ vs : Array Value, (if isMax then Builtin.max_ tys type vs else Builtin.min_ tys type vs) = match vs.toList with
        | [] => if isMax then stuck "max: at least one argument expected" else stuck "min: at least one argument expected"
        | x :: rest => rest.foldlM (if isMax then Builtin.max2 else Builtin.min2) x) := by
      intro isMax vs; cases isMax <;> rfl
    simp only [Option.bind_eq_some_iff, Option.pure_def, Option.some.injEq] at ht
    obtain ⟨xs, hxs, rfl⟩ := ht
    simp only [evOp] at hx
    split at hx
    · rename_i kk n rest e1
      obtain ⟨h3, rfl⟩ := pure1_inv hx
      simp only [Option.map_eq_some_iff] at h3
      obtain ⟨z, hz, rfl⟩ := h3
      rw [← hl] at hxs
      have hargs := args_ok hg hs he hxs e1
      cases hv : (args.map a.eval).toList with
      | nil => rw [hv] at hargs; have := hargs.1; simp at this
      | cons u us =>
        rw [hv] at hargs
        have hu := (hargs.2 0 (.int kk n) u (by simp) (by simp)).int_inv
        subst hu
        have hus : VRs w μ st' rest us := ⟨by simpa using hargs.1, fun i x v hx hv => hargs.2 (i + 1) x v (by simpa using hx) (by simpa using hv)⟩
        have hm := minmax_ok (P := P) true rest us n kk z hus hz
        refine Gives.pure hs ?_ (.int _ _)
        rw [hrun2 (f := Builtin.max_ tys type (args.map a.eval)) rfl]
        have := key true (args.map a.eval)
        simp only [if_true, hv] at this
        rw [this]
        simp only [if_true] at hm
        rw [hm]; rfl
    · cases hx
  · -- unsafe.SliceData
    rename_i y hl
    have ha := args_one (a := a) hl
    have hrun := hrun2 (f := Builtin.unsafeSliceData_ tys type (args.map a.eval)) rfl
    rw [ha] at hrun
    simp only [Option.map_eq_some_iff] at ht
    obtain ⟨y', hy', rfl⟩ := ht
    simp only [evOp] at hx
    split at hx
    · rename_i e1
      obtain ⟨h3, rfl⟩ := pure1_inv hx
      cases h3
      exact give_sdata hs (hX hy' e1) (.inl ⟨rfl, rfl⟩) hrun
    · rename_i e1
      split at hx
      · rename_i hpos
        obtain ⟨h3, rfl⟩ := pure1_inv hx
        cases h3
        exact give_sdata hs (hX hy' e1) (.inr ⟨_, _, _, _, _, _, _, rfl, hpos, rfl⟩) hrun
      · cases hx
    · cases hx
  · -- unsafe.String
    rename_i p n hl
    have ha := args_two (a := a) hl
    have hrun := hrun2 (f := Builtin.unsafeString_ tys type (args.map a.eval)) rfl
    rw [ha] at hrun
    split at ht
    · rename_i t it htys
      have htys' : tys = #[t, it] := by apply Array.ext'; simpa using htys
      subst htys'
      split at ht
      · rename_i e hu
        simp only [Option.bind_eq_some_iff, Option.pure_def, Option.some.injEq, guard_some] at ht
        obtain ⟨_, hsz1, p', hp', n', hn', rfl⟩ := ht
        simp only [evOp] at hx
        split at hx
        · rename_i e1 e2
          simp only [Option.bind_eq_some_iff] at e2
          obtain ⟨nv, hnv, hn0⟩ := e2
          obtain ⟨h3, rfl⟩ := pure1_inv hx
          cases h3
          exact give_ustr (r := 0) (off := 0) (gen := 0) hs hu hsz1 (hX hp' e1) (hX hn' hnv) hn0 (by simp) (.inl ⟨rfl, .inl rfl, rfl, rfl⟩) hrun
        · rename_i r off gen m e1 e2
          simp only [Option.bind_eq_some_iff] at e2
          obtain ⟨nv, hnv, hn0⟩ := e2
          split at hx
          · rename_i hm0
            subst hm0
            obtain ⟨h3, rfl⟩ := pure1_inv hx
            cases h3
            exact give_ustr (r := 0) (off := 0) (gen := 0) hs hu hsz1 (hX hp' e1) (hX hn' hnv) hn0 (by simp) (.inl ⟨rfl, .inr ⟨_, _, _, rfl⟩, rfl, rfl⟩) hrun
          · rename_i hm0
            split at hx
            · cases hx
            · rename_i hsm
              have hsm' : m ≤ 1099511627776 := by
                have := Decidable.not_not.1 hsm
                exact this
              split at hx
              · rename_i cs g h fz ty' hrow
                split at hx
                · rename_i hgt
                  obtain ⟨rfl, rfl⟩ := hgt
                  split at hx
                  · rename_i bs hbs
                    simp only [Option.bind_eq_some_iff] at hbs
                    obtain ⟨l, hl1, hl2⟩ := hbs
                    cases hx
                    exact give_ustr hs hu hsz1 (hX hp' e1) (hX hn' hnv) hn0 (by omega) (.inr ⟨hm0, rfl, _, _, _, _, _, hrow, hl1, hl2, rfl, rfl⟩) hrun
                  · cases hx
                · cases hx
              · cases hx
        · cases hx
      · cases ht
    · cases ht
  · cases ht

end
end Go.Eng

