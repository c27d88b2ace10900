/-
  Texts of a proof. Conditions: none.
-/
import Derived.Test.YtolhindhmljgdaaGreatDoorVLib
import Derived.Test.YtolhindhmljgdaaGreatDoorVCodes
import Derived.Test.YtolhindhmljgdaaGreatDoorEngE
import Derived.KernelRfl
set_option linter.unusedVariables false
set_option linter.unusedSimpArgs false
set_option linter.unnecessarySimpa false
set_option linter.unusedSectionVars false
namespace Go.Eng
open Go Go.Proofs

def exts : Nat → Option (List AV → St → Option (AV × St))
  | 61 => some xNoEscape
  | 113 => some xIndexByte
  | 96 => some xCount
  | 111 => some (xMakeNoZero 5)
  | 35 => some xValid
  | 42 => some xReplace
  | _ => none

noncomputable def ctx : Ctx := ctxOf Tryz.prog exts (fun _ => true) (fun _ => none)

def codeOf (C : Ctx) (f : Nat) : Option (Nat × List KRes × Bool × K) :=
  match C.fns f with
  | some (.code n res shut b) => some (n, res, shut, b.calmed n)
  | _ => none
theorem codeIs_of {C : Ctx} {f n : Nat} {res : List KRes} {shut : Bool} {body : K} (h : codeOf C f = some (n, res, shut, body)) : CodeIs C f n res shut body := by
  unfold codeOf at h
  split at h
  · rename_i hh
    cases h
    exact ⟨_, hh, rfl⟩
  · cases h

set_option maxRecDepth 100000
theorem codes : Codes ctx where
  h7 := codeIs_of (by kernel_rfl)
  h13 := codeIs_of (by kernel_rfl)
  h14 := codeIs_of (by kernel_rfl)
  h19 := codeIs_of (by kernel_rfl)
  h22 := codeIs_of (by kernel_rfl)
  h23 := codeIs_of (by kernel_rfl)
  h24 := codeIs_of (by kernel_rfl)
  h25 := codeIs_of (by kernel_rfl)
  h26 := codeIs_of (by kernel_rfl)
  h27 := codeIs_of (by kernel_rfl)
  h28 := codeIs_of (by kernel_rfl)
  h29 := codeIs_of (by kernel_rfl)
  h36 := codeIs_of (by kernel_rfl)
  h40 := codeIs_of (by kernel_rfl)
  h41 := codeIs_of (by kernel_rfl)
  h43 := codeIs_of (by kernel_rfl)
  h44 := codeIs_of (by kernel_rfl)
  h45 := codeIs_of (by kernel_rfl)
  h46 := codeIs_of (by kernel_rfl)
  h47 := codeIs_of (by kernel_rfl)
  h49 := codeIs_of (by kernel_rfl)
  h50 := codeIs_of (by kernel_rfl)
  h51 := codeIs_of (by kernel_rfl)
  h59 := codeIs_of (by kernel_rfl)
  h60 := codeIs_of (by kernel_rfl)
  h63 := codeIs_of (by kernel_rfl)
  h64 := codeIs_of (by kernel_rfl)
  h65 := codeIs_of (by kernel_rfl)
  h66 := codeIs_of (by kernel_rfl)
  h67 := codeIs_of (by kernel_rfl)
  h69 := codeIs_of (by kernel_rfl)
  h70 := codeIs_of (by kernel_rfl)
  h71 := codeIs_of (by kernel_rfl)
  h72 := codeIs_of (by kernel_rfl)
  h73 := codeIs_of (by kernel_rfl)
  h78 := codeIs_of (by kernel_rfl)
  h80 := codeIs_of (by kernel_rfl)
  h81 := codeIs_of (by kernel_rfl)
  h82 := codeIs_of (by kernel_rfl)
  h83 := codeIs_of (by kernel_rfl)
  h85 := codeIs_of (by kernel_rfl)
  h86 := codeIs_of (by kernel_rfl)
  h88 := codeIs_of (by kernel_rfl)
  h89 := codeIs_of (by kernel_rfl)
  h90 := codeIs_of (by kernel_rfl)
  h91 := codeIs_of (by kernel_rfl)
  h92 := codeIs_of (by kernel_rfl)
  h93 := codeIs_of (by kernel_rfl)
  h99 := codeIs_of (by kernel_rfl)
  h100 := codeIs_of (by kernel_rfl)
  h101 := codeIs_of (by kernel_rfl)
  h103 := codeIs_of (by kernel_rfl)
  h107 := codeIs_of (by kernel_rfl)
  h108 := codeIs_of (by kernel_rfl)
  h109 := codeIs_of (by kernel_rfl)
  h115 := codeIs_of (by kernel_rfl)
theorem e113 : ctx.fns 113 = some (.ext xIndexByte) := rfl
theorem e61 : ctx.fns 61 = some (.ext xNoEscape) := rfl
theorem e35 : ctx.fns 35 = some (.ext xValid) := rfl
theorem e42 : ctx.fns 42 = some (.ext xReplace) := rfl
theorem exts_of {f : Nat} {g : List AV → St → Option (AV × St)} (h : ctx.fns f = some (.ext g)) : (f ≠ 35 ∧ f ≠ 42 ∧ exts f = some g) ∨ g = xValid ∨ g = xReplace := by
  simp only [ctx, ctxOf] at h
  split at h
  · rename_i g' hg
    cases h
    by_cases h1 : f = 35
    · subst h1; cases hg; exact .inr (.inl rfl)
    by_cases h2 : f = 42
    · subst h2; cases hg; exact .inr (.inr rfl)
    exact .inl ⟨h1, h2, hg⟩
  · rename_i hn
    simp only [Option.bind_eq_some_iff] at h
    obtain ⟨fn, hf, h⟩ := h
    unfold trF at h
    split at h
    · simp only [Option.bind_eq_bind, Option.bind_eq_some_iff, Option.pure_def, Option.some.injEq] at h
      obtain ⟨_, _, _, _, _, _, h⟩ := h
      cases h
    · cases h
/-- The entries whose codes know no rows. -/
def ctx0 : Ctx := ⟨fun f => match exts f with | some g => if f = 35 ∨ f = 42 then none else some (.ext g) | none => none, fun _ => none⟩
theorem extFr0 : ExtFr ctx0 := extFr_of (by
  intro f g h
  unfold ctx0 at h
  simp only at h
  split at h
  · rename_i g' hg
    split at h
    · cases h
    · rename_i hne
      cases h
      unfold exts at hg
      split at hg
      · cases hg; exact .inl rfl
      · cases hg; exact .inr (.inl rfl)
      · cases hg; exact .inr (.inr (.inl rfl))
      · cases hg; exact .inr (.inr (.inr ⟨_, rfl⟩))
      · exact absurd (.inl rfl) hne
      · exact absurd (.inr rfl) hne
      · cases hg
  · cases h)
theorem extFr : ExtFr ctx := by
  intro f g hf r X hX xs st x st' hd hx
  rcases exts_of hf with ⟨h1, h2, hg⟩ | rfl | rfl
  · refine extFr0 f g ?_ r X hX xs st x st' hd hx
    unfold ctx0
    simp only [hg]
    rw [if_neg (by rintro (h | h) <;> contradiction)]
  · exact fr_valid hd hx
  · exact fr_replace hd hx

/-- true, and the rows dead as they were -/
def isTrueD (m : Nat) : Option (AV × St) → Bool
  | some (.bool true, st) => st.length == m && st.all fun r => match r with | .dead => true | _ => false
  | _ => false
theorem of_isTrueD {m : Nat} {o : Option (AV × St)} (h : isTrueD m o = true) : o = some (.bool true, List.replicate m .dead) := by
  unfold isTrueD at h
  split at h
  · rename_i st
    simp only [Bool.and_eq_true, beq_iff_eq, List.all_eq_true] at h
    obtain ⟨h1, h2⟩ := h
    congr 2
    refine List.eq_replicate_iff.2 ⟨h1, fun r hr => ?_⟩
    have := h2 r hr
    split at this
    · rfl
    · cases this
  · cases h
theorem known_dead2 : evCall ctx 1000 100 15 [] [.dead, .dead] = some (.bool true, [.dead, .dead]) := of_isTrueD (m := 2) (by kernel_rfl)
theorem known_any2 (X Y : Row) (hX : X.top = 0) (hY : Y.top = 0) : callW ctx 15 [] [X, Y] = some (.bool true, [X, Y]) :=
  rows_any extFr [X, Y] (by intro r hr; simp at hr; rcases hr with rfl | rfl <;> assumption) (callW_of known_dead2)

theorem follows : Tryz.prog.follows .mixedOrders = true := by kernel_rfl
theorem fnsOk {W : World} (hW : LibHolds W) : ∀ f b, ctx.fns f = some b → FnOk Tryz.prog W f b := ctxOf_ok (by
  intro f g h
  unfold exts at h
  split at h
  · cases h; exact noEscape_ok (fn := Tryz.f61) Tryz.func61 (by kernel_rfl) (by kernel_rfl) (by kernel_rfl) (by kernel_rfl)
  · cases h; exact indexByte_ok (fn := Tryz.f113) Tryz.func113 (by kernel_rfl) (by kernel_rfl) (by kernel_rfl) (by kernel_rfl)
  · cases h; exact count_ok (fn := Tryz.f96) Tryz.func96 (by kernel_rfl) (by kernel_rfl) (by kernel_rfl) (by kernel_rfl)
  · cases h; exact makeNoZero_ok (fn := Tryz.f111) (t := 42) (e := 5) (ps := #[3]) Tryz.func111 (by kernel_rfl) (by kernel_rfl) (by kernel_rfl) (by kernel_rfl) (by kernel_rfl)
  · cases h; exact valid35 hW
  · cases h; exact replace42 hW
  · cases h)
theorem globOk (W : World) : GlobOk ctx W := fun g cs h => by cases h
end Go.Eng

