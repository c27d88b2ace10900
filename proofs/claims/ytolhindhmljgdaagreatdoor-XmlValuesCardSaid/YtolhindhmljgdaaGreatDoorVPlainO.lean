/-
  Texts of a proof. Conditions: none.
-/
import Derived.Test.YtolhindhmljgdaaGreatDoorVPlainN
set_option linter.unusedVariables false
set_option linter.unusedSimpArgs false
set_option linter.unnecessarySimpa false
set_option linter.unusedSectionVars false
namespace Go.Eng
open Go
set_option maxHeartbeats 1000000
set_option maxRecDepth 4000
set_option linter.unusedSimpArgs false
set_option linter.unusedVariables false
set_option linter.unusedSectionVars false

section
variable {C : Ctx} {call : Nat → List AV → St → Option (AV × St)} {env : Env} {st : St}
def utoE (x : Option AV) (st : St) : Option (AV × St) :=
  match x with
  | some .nilp => some (.nilp, st)
  | some (.ptr r off gen) => match st[r]? with
    | some (.cells cs g _ _ _) => if g = gen ∧ off < cs.length then some (.ptr r off gen, st) else none
    | _ => none
  | _ => none
def utR (row : Option Row) (r off gen : Nat) (st : St) : Option (AV × St) :=
  match row with
  | some (.cells cs g _ _ _) => if g = gen ∧ off < cs.length then some (.ptr r off gen, st) else none
  | _ => none
theorem utoE_ptr (r off gen : Nat) : utoE (some (.ptr r off gen)) st = utR (st[r]?) r off gen st := rfl
theorem utR_cells (cs : List AV) (g h ty r off : Nat) (fz : Bool) (ho : off < cs.length) : utR (some (.cells cs g h fz ty)) r off g st = some (.ptr r off g, st) := by simp [utR, ho]
theorem evOp_uto (x : X) : evOp C call (.uto x) env st = utoE (x.ev C env) st := rfl
def ufE (ty n : Nat) (x : Option AV) (st : St) : Option (AV × St) :=
  match x with
  | some .nilp => some (.nilp, st)
  | some (.ptr r 0 0) => match st[r]? with
    | some (.cells cs 0 _ _ ty') => if ty' = ty ∧ n ≤ cs.length then some (.ptr r 0 0, st) else none
    | _ => none
  | _ => none
def ufR (ty n : Nat) (row : Option Row) (r : Nat) (st : St) : Option (AV × St) :=
  match row with
  | some (.cells cs 0 _ _ ty') => if ty' = ty ∧ n ≤ cs.length then some (.ptr r 0 0, st) else none
  | _ => none
theorem ufE_ptr (ty n r : Nat) : ufE ty n (some (.ptr r 0 0)) st = ufR ty n (st[r]?) r st := rfl
theorem ufR_cells (cs : List AV) (h ty n r : Nat) (fz : Bool) (ho : n ≤ cs.length) : ufR ty n (some (.cells cs 0 h fz ty)) r st = some (.ptr r 0 0, st) := by simp [ufR, ho]
theorem evOp_ufrom (ty n : Nat) (x : X) : evOp C call (.ufrom ty n x) env st = ufE ty n (x.ev C env) st := rfl
def sdE (x : Option AV) (st : St) : Option (AV × St) :=
  match x with
  | some .nils => some (.nilp, st)
  | some (.slc r off _ cm gen _ _) => if 0 < cm then some (.ptr r off gen, st) else none
  | _ => none
theorem sdE_nils : sdE (some .nils) st = some (.nilp, st) := rfl
theorem sdE_slc (r off len cm gen sz : Nat) (ex : Bool) (h : 0 < cm) : sdE (some (.slc r off len cm gen sz ex)) st = some (.ptr r off gen, st) := by simp [sdE, h]
theorem evOp_sdata (x : X) : evOp C call (.sdata x) env st = sdE (x.ev C env) st := rfl
def usE (ty : TypeId) (p n : Option AV) (st : St) : Option (AV × St) :=
  match p, n.bind natOf with
  | some .nilp, some 0 => some (.str [], st)
  | some (.ptr r off gen), some n =>
    if n = 0 then some (.str [], st) else
    if ¬ n ≤ small then none else
    match st[r]? with
    | some (.cells cs g h _ ty') =>
      if g = gen ∧ ty' = ty then match (cut cs off n).bind strOf with
        | some s => some (.str s, st.set r (.cells cs g h true ty'))
        | none => none
      else none
    | _ => none
  | _, _ => none
theorem evOp_ustr (ty : TypeId) (p n : X) : evOp C call (.ustr ty p n) env st = usE ty (p.ev C env) (n.ev C env) st := rfl
theorem eff_sdata (x : X) : (KO.sdata x).eff = false := by simp [KO.eff]
theorem lays_sdata (x : X) : (KO.sdata x).lays = false := by simp [KO.lays]
theorem eff_ustr (ty : TypeId) (p n : X) : (KO.ustr ty p n).eff = true := by simp [KO.eff]
end
end Go.Eng

