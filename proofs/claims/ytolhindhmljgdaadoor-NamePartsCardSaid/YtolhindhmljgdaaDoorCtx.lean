/-
  Texts of a proof. Conditions: none.
-/
import Derived.Test.YtolhindhmljgdaaDoorProg
import Derived.Test.YtolhindhmljgdaaDoorPlain
import Derived.KernelRfl
set_option linter.unusedVariables false
set_option linter.unusedSimpArgs false
set_option linter.unnecessarySimpa false
set_option linter.unusedSectionVars false
namespace Go.Eng
open Go Go.Proofs

def exts : Nat → Option (List AV → St → Option (AV × St))
  | 37 => some xNoEscape
  | 44 => some xIndexByte
  | 51 => some xCount
  | 60 => some (xMakeNoZero 5)
  | _ => none

noncomputable def ctx : Ctx := ctxOf Tryd.prog exts (fun _ => true) (fun _ => none)

def codeOf (C : Ctx) (f : Nat) : Option (Nat × List KRes × Bool × K) :=
  match C.fns f with
  | some (.code n res shut b) => some (n, res, shut, b.calmed n)
  | _ => none
theorem codeIs_of {C : Ctx} {f n : Nat} {res : List KRes} {shut : Bool} {body : K} (h : codeOf C f = some (n, res, shut, body)) : CodeIs C f n res shut body := by
  unfold codeOf at h
  split at h
  · rename_i hh
    cases h
    exact ⟨_, hh, rfl⟩
  · cases h

set_option maxRecDepth 100000
theorem codes : Codes ctx where
  h3 := codeIs_of (by kernel_rfl)
  h4 := codeIs_of (by kernel_rfl)
  h5 := codeIs_of (by kernel_rfl)
  h6 := codeIs_of (by kernel_rfl)
  h8 := codeIs_of (by kernel_rfl)
  h9 := codeIs_of (by kernel_rfl)
  h10 := codeIs_of (by kernel_rfl)
  h11 := codeIs_of (by kernel_rfl)
  h14 := codeIs_of (by kernel_rfl)
  h15 := codeIs_of (by kernel_rfl)
  h16 := codeIs_of (by kernel_rfl)
  h22 := codeIs_of (by kernel_rfl)
  h31 := codeIs_of (by kernel_rfl)
theorem e44 : ctx.fns 44 = some (.ext xIndexByte) := rfl
def isTrue : Option (AV × St) → Bool
  | some (.bool true, []) => true
  | _ => false
theorem of_isTrue {o : Option (AV × St)} (h : isTrue o = true) : o = some (.bool true, []) := by
  unfold isTrue at h
  split at h
  · rfl
  · cases h
theorem known_true : callW ctx 7 [] [] = some (.bool true, []) := callW_of (of_isTrue (o := evCall ctx 1000 100 7 [] []) (by kernel_rfl))

theorem parts_true (a b : List UInt8) (ha : a.length ≤ 9223372036854775807) (hb : b.length ≤ 9223372036854775807) : callW ctx 3 [.str a, .str b] [] = some (.bool true, []) :=
  parts_W codes [] e44 known_true a b ha hb

theorem follows : Tryd.prog.follows .mixedOrders = true := by kernel_rfl
theorem fnsOk (W : World) : ∀ f b, ctx.fns f = some b → FnOk Tryd.prog W f b := ctxOf_ok (by
  intro f g h
  unfold exts at h
  split at h
  · cases h; exact noEscape_ok (fn := Tryd.f37) Tryd.func37 (by kernel_rfl) (by kernel_rfl) (by kernel_rfl) (by kernel_rfl)
  · cases h; exact indexByte_ok (fn := Tryd.f44) Tryd.func44 (by kernel_rfl) (by kernel_rfl) (by kernel_rfl) (by kernel_rfl)
  · cases h; exact count_ok (fn := Tryd.f51) Tryd.func51 (by kernel_rfl) (by kernel_rfl) (by kernel_rfl) (by kernel_rfl)
  · cases h; exact makeNoZero_ok (fn := Tryd.f60) (t := 33) (e := 5) (ps := #[3]) Tryd.func60 (by kernel_rfl) (by kernel_rfl) (by kernel_rfl) (by kernel_rfl) (by kernel_rfl)
  · cases h)
theorem globOk (W : World) : GlobOk ctx W := fun g cs h => by cases h
end Go.Eng

