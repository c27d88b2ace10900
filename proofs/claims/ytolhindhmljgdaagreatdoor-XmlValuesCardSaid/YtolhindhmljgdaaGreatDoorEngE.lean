/-
  The engine, part 32: functions by contracts that are proved elsewhere: texts in, a text, a number or a yes out; the world grows at most.
  Conditions: none.
-/
import Derived.Test.YtolhindhmljgdaaGreatDoorEngD
import Derived.Lib.ValidU
import Derived.Lib.Replace
import Derived.Lib.Index
set_option linter.unusedVariables false
set_option linter.unusedSimpArgs false
set_option linter.unnecessarySimpa false
set_option linter.unusedSectionVars false
set_option linter.unusedSimpArgs false
set_option linter.unusedVariables false
namespace Go.Eng
open Go

section
variable {P : Program} {W0 : World}

theorem quiet_of_below {w w' : World} (h : RowKit.Below w.heap.size w w') : Quiet w w' := ⟨h.size, h.block, h.os, h.tape, h.output⟩

/-- A function with a contract. -/
theorem extOk_calls {f : FuncId} {fn : Func} (hfn : P.funcs[f]? = some fn) {c : Code} (hbody : fn.body = some c) (hn : (fn.name == "runtime.NumGoroutine") = false) {g : List AV → St → Option (AV × St)}
    (h : ∀ xs st x st', g xs st = some (x, st') → st' = st ∧ ∀ (w : World) (μ : Pls) (vs : Array Value), Sim W0 w μ st → VRs w μ st xs vs.toList →
      Calls P f vs w fun e w' => ∃ v, e = .returned v ∧ RowKit.Below w.heap.size w w' ∧ ∀ w μ st, VR w μ st x v) : ExtOk P W0 f g := by
  intro xs st x st' hx w μ vs hs hv o a next Q hq
  obtain ⟨rfl, hc⟩ := h xs st x st' hx
  rw [run_call hfn hbody hn, Oper.upon_enter]
  refine (hc w μ vs hs hv).mono ?_
  rintro e w' ⟨v, rfl, hb, hr⟩
  have q := quiet_of_below hb
  exact hq v w' μ (hr _ _ _) (hs.quiet q) (hs.quiet_ext q)

def xValid : List AV → St → Option (AV × St)
  | [.str s], st => if s.length ≤ 9223372036854775807 then some (.bool (Lib.validD s), st) else none
  | _, _ => none
def xIndex : List AV → St → Option (AV × St)
  | [.str s, .str p], st => if s.length < 4294967281 then some (.int .i64 (Lib.index s p), st) else none
  | _, _ => none
def xReplace : List AV → St → Option (AV × St)
  | [.str s, .str o, .str n], st => if s.length < 4294967281 ∧ 1 ≤ o.length ∧ n.length ≤ 1000 then some (.str (Lib.replaceAll s o n), st) else none
  | _, _ => none

theorem fr_valid {r : Nat} {X : Row} {xs : List AV} {st : St} {x : AV} {st' : St} (hd : st[r]? = some Row.dead) (h : xValid xs st = some (x, st')) : xValid xs (st.set r X) = some (x, st'.set r X) ∧ st'[r]? = some Row.dead := by
  unfold xValid at h ⊢
  split at h
  · split at h
    · rename_i hc; cases h; exact ⟨if_pos hc, hd⟩
    · cases h
  · cases h
theorem fr_index {r : Nat} {X : Row} {xs : List AV} {st : St} {x : AV} {st' : St} (hd : st[r]? = some Row.dead) (h : xIndex xs st = some (x, st')) : xIndex xs (st.set r X) = some (x, st'.set r X) ∧ st'[r]? = some Row.dead := by
  unfold xIndex at h ⊢
  split at h
  · split at h
    · rename_i hc; cases h; exact ⟨if_pos hc, hd⟩
    · cases h
  · cases h
theorem fr_replace {r : Nat} {X : Row} {xs : List AV} {st : St} {x : AV} {st' : St} (hd : st[r]? = some Row.dead) (h : xReplace xs st = some (x, st')) : xReplace xs (st.set r X) = some (x, st'.set r X) ∧ st'[r]? = some Row.dead := by
  unfold xReplace at h ⊢
  split at h
  · split at h
    · rename_i hc; cases h; exact ⟨if_pos hc, hd⟩
    · cases h
  · cases h

theorem ba_eq (s : List UInt8) : (⟨s.toArray⟩ : ByteArray).data.toList = s := by simp
theorem ba_size (s : List UInt8) : (⟨s.toArray⟩ : ByteArray).size = s.length := by simp [ByteArray.size]

theorem valid_ok {f : FuncId} {fn : Func} (hfn : P.funcs[f]? = some fn) {c : Code} (hbody : fn.body = some c) (hn : (fn.name == "runtime.NumGoroutine") = false)
    (h : ∀ (s : ByteArray) (w : World), RowKit.Below W0.heap.size W0 w → s.size ≤ 9223372036854775807 → Calls P f #[.string s] w fun e w' => e = .returned (.bool (Lib.validD s.data.toList)) ∧ RowKit.Below w.heap.size w w') : ExtOk P W0 f xValid :=
  extOk_calls hfn hbody hn fun xs st x st' hx => by
    unfold xValid at hx
    split at hx
    · rename_i s
      split at hx
      · rename_i hc
        cases hx
        refine ⟨rfl, fun w μ vs hs hv => ?_⟩
        obtain ⟨v, rfl, hv1⟩ := vs_one hv
        have := hv1.str_inv; subst this
        refine (h ⟨s.toArray⟩ w hs.below (by rw [ba_size]; exact hc)).mono ?_
        rintro e w' ⟨rfl, hb⟩
        exact ⟨_, rfl, hb, fun _ _ _ => by rw [ba_eq]; exact .bool _⟩
      · cases hx
    · cases hx

theorem index_ok {f : FuncId} {fn : Func} (hfn : P.funcs[f]? = some fn) {c : Code} (hbody : fn.body = some c) (hn : (fn.name == "runtime.NumGoroutine") = false)
    (h : ∀ (s p : ByteArray) (w : World), RowKit.Below W0.heap.size W0 w → s.size < 4294967281 → Calls P f #[.string s, .string p] w fun e w' => e = .returned (.int .i64 (Lib.index s.data.toList p.data.toList)) ∧ w' = w) : ExtOk P W0 f xIndex :=
  extOk_calls hfn hbody hn fun xs st x st' hx => by
    unfold xIndex at hx
    split at hx
    · rename_i s p
      split at hx
      · rename_i hc
        cases hx
        refine ⟨rfl, fun w μ vs hs hv => ?_⟩
        obtain ⟨u, v, rfl, hu, hv1⟩ := vs_two hv
        have := hu.str_inv; subst this
        have := hv1.str_inv; subst this
        refine (h ⟨s.toArray⟩ ⟨p.toArray⟩ w hs.below (by rw [ba_size]; exact hc)).mono ?_
        rintro e w' ⟨rfl, rfl⟩
        exact ⟨_, rfl, RowKit.Below.refl _ _, fun _ _ _ => by rw [ba_eq, ba_eq]; exact .int _ _⟩
      · cases hx
    · cases hx

theorem vs_three {w : World} {μ : Pls} {st : St} {x y z : AV} {vs : Array Value} (h : VRs w μ st [x, y, z] vs.toList) : ∃ t u v, vs = #[t, u, v] ∧ VR w μ st x t ∧ VR w μ st y u ∧ VR w μ st z v := by
  obtain ⟨h1, h2⟩ := h
  match hvs : vs.toList, h1 with
  | [t, u, v], _ =>
    refine ⟨t, u, v, by apply Array.ext'; simp [hvs], ?_⟩
    rw [hvs] at h2
    exact ⟨h2 0 x t (by simp) (by simp), h2 1 y u (by simp) (by simp), h2 2 z v (by simp) (by simp)⟩

theorem replace_ok {f : FuncId} {fn : Func} (hfn : P.funcs[f]? = some fn) {c : Code} (hbody : fn.body = some c) (hn : (fn.name == "runtime.NumGoroutine") = false)
    (h : ∀ (s o n : ByteArray) (w : World), RowKit.Below W0.heap.size W0 w → s.size < 4294967281 → 1 ≤ o.size → n.size ≤ 1000 → Calls P f #[.string s, .string o, .string n] w fun e w' => e = .returned (.string ⟨(Lib.replaceAll s.data.toList o.data.toList n.data.toList).toArray⟩) ∧ RowKit.Below w.heap.size w w') : ExtOk P W0 f xReplace :=
  extOk_calls hfn hbody hn fun xs st x st' hx => by
    unfold xReplace at hx
    split at hx
    · rename_i s o n
      split at hx
      · rename_i hc
        cases hx
        refine ⟨rfl, fun w μ vs hs hv => ?_⟩
        obtain ⟨t, u, v, rfl, ht, hu, hv1⟩ := vs_three hv
        have := ht.str_inv; subst this
        have := hu.str_inv; subst this
        have := hv1.str_inv; subst this
        refine (h ⟨s.toArray⟩ ⟨o.toArray⟩ ⟨n.toArray⟩ w hs.below (by rw [ba_size]; exact hc.1) (by rw [ba_size]; exact hc.2.1) (by rw [ba_size]; exact hc.2.2)).mono ?_
        rintro e w' ⟨rfl, hb⟩
        exact ⟨_, rfl, hb, fun _ _ _ => by rw [ba_eq, ba_eq, ba_eq]; exact .str _⟩
      · cases hx
    · cases hx
end
end Go.Eng

