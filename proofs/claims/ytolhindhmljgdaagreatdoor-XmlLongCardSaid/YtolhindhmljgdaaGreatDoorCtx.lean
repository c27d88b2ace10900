/-
  Texts of a proof. Conditions: none.
-/
import Derived.Test.YtolhindhmljgdaaGreatDoorProg
import Derived.Test.YtolhindhmljgdaaGreatDoorCodes
import Derived.Test.YtolhindhmljgdaaGreatDoorEngD
import Derived.KernelRfl
set_option linter.unusedVariables false
set_option linter.unusedSimpArgs false
set_option linter.unnecessarySimpa false
set_option linter.unusedSectionVars false
namespace Go.Eng
open Go Go.Proofs

def exts : Nat → Option (List AV → St → Option (AV × St))
  | 61 => some xNoEscape
  | 113 => some xIndexByte
  | 96 => some xCount
  | 111 => some (xMakeNoZero 5)
  | _ => none

noncomputable def ctx : Ctx := ctxOf Tryz.prog exts (fun _ => true) (fun _ => none)

def codeOf (C : Ctx) (f : Nat) : Option (Nat × List KRes × Bool × K) :=
  match C.fns f with
  | some (.code n res shut b) => some (n, res, shut, b.calmed n)
  | _ => none
theorem codeIs_of {C : Ctx} {f n : Nat} {res : List KRes} {shut : Bool} {body : K} (h : codeOf C f = some (n, res, shut, body)) : CodeIs C f n res shut body := by
  unfold codeOf at h
  split at h
  · rename_i hh
    cases h
    exact ⟨_, hh, rfl⟩
  · cases h

set_option maxRecDepth 100000
theorem codes : Codes ctx where
  h9 := codeIs_of (by kernel_rfl)
  h14 := codeIs_of (by kernel_rfl)
  h25 := codeIs_of (by kernel_rfl)
  h26 := codeIs_of (by kernel_rfl)
  h27 := codeIs_of (by kernel_rfl)
  h28 := codeIs_of (by kernel_rfl)
  h29 := codeIs_of (by kernel_rfl)
  h40 := codeIs_of (by kernel_rfl)
  h43 := codeIs_of (by kernel_rfl)
  h44 := codeIs_of (by kernel_rfl)
  h45 := codeIs_of (by kernel_rfl)
  h46 := codeIs_of (by kernel_rfl)
  h47 := codeIs_of (by kernel_rfl)
  h48 := codeIs_of (by kernel_rfl)
  h49 := codeIs_of (by kernel_rfl)
  h50 := codeIs_of (by kernel_rfl)
  h59 := codeIs_of (by kernel_rfl)
  h60 := codeIs_of (by kernel_rfl)
  h63 := codeIs_of (by kernel_rfl)
  h64 := codeIs_of (by kernel_rfl)
  h65 := codeIs_of (by kernel_rfl)
  h66 := codeIs_of (by kernel_rfl)
  h70 := codeIs_of (by kernel_rfl)
  h71 := codeIs_of (by kernel_rfl)
  h80 := codeIs_of (by kernel_rfl)
  h81 := codeIs_of (by kernel_rfl)
  h85 := codeIs_of (by kernel_rfl)
  h86 := codeIs_of (by kernel_rfl)
  h88 := codeIs_of (by kernel_rfl)
  h99 := codeIs_of (by kernel_rfl)
  h100 := codeIs_of (by kernel_rfl)
  h101 := codeIs_of (by kernel_rfl)
  h103 := codeIs_of (by kernel_rfl)
theorem e113 : ctx.fns 113 = some (.ext xIndexByte) := rfl
theorem extFr : ExtFr ctx := extFr_of (by
  intro f g h
  simp only [ctx, ctxOf] at h
  split at h
  · rename_i g' hg
    cases h
    unfold exts at hg
    split at hg
    · cases hg; exact .inl rfl
    · cases hg; exact .inr (.inl rfl)
    · cases hg; exact .inr (.inr (.inl rfl))
    · cases hg; exact .inr (.inr (.inr ⟨_, rfl⟩))
    · cases hg
  · rename_i hn
    simp only [Option.bind_eq_some_iff] at h
    obtain ⟨fn, hf, h⟩ := h
    unfold trF at h
    split at h
    · simp only [Option.bind_eq_bind, Option.bind_eq_some_iff, Option.pure_def, Option.some.injEq] at h
      obtain ⟨_, _, _, _, _, _, h⟩ := h
      cases h
    · cases h)

/-- true, and the rows dead as they were -/
def isTrueD (m : Nat) : Option (AV × St) → Bool
  | some (.bool true, st) => st.length == m && st.all fun r => match r with | .dead => true | _ => false
  | _ => false
theorem of_isTrueD {m : Nat} {o : Option (AV × St)} (h : isTrueD m o = true) : o = some (.bool true, List.replicate m .dead) := by
  unfold isTrueD at h
  split at h
  · rename_i st
    simp only [Bool.and_eq_true, beq_iff_eq, List.all_eq_true] at h
    obtain ⟨h1, h2⟩ := h
    congr 2
    refine List.eq_replicate_iff.2 ⟨h1, fun r hr => ?_⟩
    have := h2 r hr
    split at this
    · rfl
    · cases this
  · cases h
theorem known_dead1 : evCall ctx 1000 100 15 [] [.dead] = some (.bool true, [.dead]) := of_isTrueD (m := 1) (by kernel_rfl)
theorem known_any1 (X : Row) (hX : X.top = 0) : callW ctx 15 [] [X] = some (.bool true, [X]) :=
  rows_any extFr [X] (by intro r hr; simp at hr; subst hr; exact hX) (callW_of known_dead1)

theorem follows : Tryz.prog.follows .mixedOrders = true := by kernel_rfl
theorem fnsOk (W : World) : ∀ f b, ctx.fns f = some b → FnOk Tryz.prog W f b := ctxOf_ok (by
  intro f g h
  unfold exts at h
  split at h
  · cases h; exact noEscape_ok (fn := Tryz.f61) Tryz.func61 (by kernel_rfl) (by kernel_rfl) (by kernel_rfl) (by kernel_rfl)
  · cases h; exact indexByte_ok (fn := Tryz.f113) Tryz.func113 (by kernel_rfl) (by kernel_rfl) (by kernel_rfl) (by kernel_rfl)
  · cases h; exact count_ok (fn := Tryz.f96) Tryz.func96 (by kernel_rfl) (by kernel_rfl) (by kernel_rfl) (by kernel_rfl)
  · cases h; exact makeNoZero_ok (fn := Tryz.f111) (t := 42) (e := 5) (ps := #[3]) Tryz.func111 (by kernel_rfl) (by kernel_rfl) (by kernel_rfl) (by kernel_rfl) (by kernel_rfl)
  · cases h)
theorem globOk (W : World) : GlobOk ctx W := fun g cs h => by cases h
end Go.Eng

