/-
  The engine, part 22: a region's operations, one behind the other.
  Conditions: none.
-/
import Derived.Test.YtolhindhmljgdaaGreatDoorEngB
import Derived.Orders
import Derived.LoopN
import Derived.Lib.MakeNoZero
set_option linter.unusedVariables false
set_option linter.unusedSimpArgs false
set_option linter.unnecessarySimpa false
set_option linter.unusedSectionVars false
set_option linter.unusedSimpArgs false
set_option linter.unusedVariables false
namespace Go.Eng
open Go

section
variable {P : Program} {C : Ctx} {W0 w : World} {μ : Pls} {st : St} {env : Env} {a : Act} {call : CallF}

theorem VR.not_bool {x : AV} {v : Value} (h : VR w μ st x v) (h1 : ∀ b, x ≠ .bool b) (h2 : x ≠ .any) : ∀ b, v ≠ .bool b := by
  rintro b rfl
  cases h with
  | any => exact h2 rfl
  | bool b => exact h1 b rfl

theorem trOper_some {ops : Array Oper} {o : Oper} {k : KOp} (ht : trOper P ops o = some k) : ∃ g op, trGuard ops o.guard = some g ∧ (trOp P o.op = some op ∨ op = .bad) ∧ k = { dst := o.dst, op, guard := g, win := [], olds := [] } := by
  unfold trOper at ht
  simp only [Option.map_eq_some_iff] at ht
  obtain ⟨g, hg, h⟩ := ht
  refine ⟨g, _, hg, ?_, h.symm⟩
  cases hop : trOp P o.op with
  | none => exact .inr rfl
  | some op => exact .inl rfl

theorem wanted_ok {ops : Array Oper} {o : Oper} {k : KOp} (he : EnvR w μ st env a.tmps) (ht : trOper P ops o = some k) {b : Bool} (hw : wantedA k.guard env = some b) : Region.wanted o (yielded ops a.tmps) = b := by
  obtain ⟨g, op, hg, hop, rfl⟩ := trOper_some ht
  simp only at hw
  unfold Region.wanted
  cases hgd : o.guard with
  | none =>
    rw [hgd] at hg
    simp only [trGuard, Option.some.injEq] at hg
    subst hg
    simpa [wantedA] using hw
  | some jw =>
    obtain ⟨j, want⟩ := jw
    rw [hgd] at hg
    simp only [trGuard] at hg
    cases hd : (ops[j]?).bind (·.dst) with
    | none => rw [hd] at hg; cases hg
    | some d =>
      rw [hd] at hg
      simp only [Option.map_some, Option.some.injEq] at hg
      subst hg
      have hv := he.get d
      simp only [wantedA] at hw
      split at hw
      · rename_i c hc
        rw [hc] at hv
        have := hv.bool_inv
        have hlt : d < a.tmps.size := by
          rcases Nat.lt_or_ge d a.tmps.size with h | h
          · exact h
          · exfalso
            have h2 : a.tmps.getD d Go.undef = Go.undef := by simp [Array.getD, Nat.not_lt.2 h]
            rw [h2] at this; cases this
        have hq : a.tmps[d]? = some (.bool c) := by
          rw [Array.getElem?_eq_getElem hlt]
          simp [Array.getD, hlt] at this
          rw [this]
        simp only [Option.some.injEq] at hw
        subst hw
        have hy : yielded ops a.tmps j = some c := by simp [yielded, hd, hq]
        simp [hy]
      · cases hw
      · rename_i hb1 hb2
        simp only [Option.some.injEq] at hw
        subst hw
        have hnb := hv.not_bool (fun b h => hb1 b h) (fun h => hb2 h)
        have hy : yielded ops a.tmps j = none := by
          simp only [yielded, hd, Option.bind_some]
          cases hq : a.tmps[d]? with
          | none => rfl
          | some u =>
            have : a.tmps.getD d Go.undef = u := by simp [Array.getD_eq_getD_getElem?, hq]
            rw [this] at hnb
            cases u <;> first | rfl | exact absurd rfl (hnb _)
        simp [hy]

theorem put_defers (a : Act) (d : Option Tmp) (v : Value) : (a.put d v).defers = a.defers := by cases d <;> rfl

variable (hg : GlobOk C W0) (hc : CallOk P W0 call)
include hg hc

theorem any_ok (hs : Sim W0 w μ st) (he : EnvR w μ st env a.tmps) {o : Oper} {k : KO} (ht : trOp P o.op = some k) {x : AV} {st' : St} (hx : evOp C call k env st = some (x, st')) : OpWp P W0 w μ st o a x st' := by
  cases hop : o.op with
  | call c =>
    obtain ⟨callee, args, tys⟩ := c
    cases callee with
    | value f => exact value_ok hg hs he hc hop ht hx
    | builtin b => exact .of_gives (builtin_ok hg hs he hop ht hx)
    | invoke r m => rw [hop] at ht; simp [trOp] at ht
  | _ => exact .of_gives (op_ok hg hs he (by rw [hop]; rfl) ht hx)

/-- One step of a region: performed or left out. -/
theorem step_ok (hs : Sim W0 w μ st) (he : EnvR w μ st env a.tmps) {ops : Array Oper} {i : Nat} {o : Oper} (hi : ops[i]? = some o) {k : KOp} (ht : trOper P ops o = some k) {x : AV} {st' : St} (hx : evStep C call k env st = some (x, st'))
    {K : Act → World → Prop} {Q : Exit → Act → World → Prop} (hn : ∀ v w' μ', VR w' μ' st' x v → Sim W0 w' μ' st' → Ext w μ st w' μ' st' → K (a.put o.dst v) w') : wpOp P ops Q i K a w := by
  unfold wpOp
  simp only [hi]
  unfold evStep at hx
  cases hw : wantedA k.guard env with
  | none => rw [hw] at hx; cases hx
  | some b =>
    rw [hw] at hx
    rw [wanted_ok he ht hw]
    cases b with
    | false =>
      simp only [Option.some.injEq] at hx
      cases hx
      simp only [Bool.false_eq_true, if_false]
      exact hn _ w μ .undef hs (Ext.refl _ _ _)
    | true =>
      simp only [if_true]
      simp only at hx
      have hop : trOp P o.op = some k.op := by
        obtain ⟨g, op, hg, hop, rfl⟩ := trOper_some ht
        rcases hop with hop | rfl
        · exact hop
        · simp [evOp] at hx
      exact .inl (any_ok hg hc hs he hop hx K Q hn)

omit hg hc in
theorem dst_of {ops : Array Oper} {o : Oper} {k : KOp} (ht : trOper P ops o = some k) : k.dst = o.dst := by
  obtain ⟨g, op, hg, hop, rfl⟩ := trOper_some ht
  rfl

/-- A region in the order of the text. -/
theorem ops_ok {ops : Array Oper} {Q : Exit → Act → World → Prop} {env' : Env} {st' : St} : ∀ (l : List Oper) (ks : List KOp) (i : Nat), (∀ j o, l[j]? = some o → ops[i + j]? = some o) → l.mapM (trOper P ops) = some ks →
    ∀ (w : World) (μ : Pls) (st : St) (env : Env) (a : Act), Sim W0 w μ st → EnvR w μ st env a.tmps → evOps C call ks env st = some (env', st') →
    (∀ (a' : Act) w' μ', a'.defers = a.defers → Sim W0 w' μ' st' → EnvR w' μ' st' env' a'.tmps → Ext w μ st w' μ' st' → Q .normal a' w') → wpOps P ops Q ((List.range l.length).map (i + ·)) a w
  | [], ks, i, _, ht, w, μ, st, env, a, hs, he, hx, hq => by
    simp at ht; subst ht
    simp only [evOps, Option.some.injEq] at hx
    cases hx
    simpa [wpOps] using hq a w μ rfl hs he (Ext.refl _ _ _)
  | o :: l, ks, i, hl, ht, w, μ, st, env, a, hs, he, hx, hq => by
    rw [List.mapM_cons] at ht
    simp only [Option.bind_eq_bind, Option.bind_eq_some_iff, Option.pure_def, Option.some.injEq] at ht
    obtain ⟨k, hk, ks', hks, rfl⟩ := ht
    simp only [evOps] at hx
    split at hx
    · rename_i v st1 h1
      rw [List.length_cons, List.range_succ_eq_map, List.map_cons, wpOps_cons]
      refine step_ok hg hc hs he (hl 0 o (by simp)) hk h1 fun u w1 μ1 hv hs1 he1 => ?_
      rw [dst_of hk] at hx
      have := ops_ok (Q := Q) l ks' (i + 1) (fun j o' hj => by rw [show i + 1 + j = i + (j + 1) by omega]; exact hl (j + 1) o' (by simpa using hj)) hks w1 μ1 st1 _ _ hs1 ((he.ext he1).put o.dst hv) hx
        (fun a' w' μ' hd s e x => hq a' w' μ' (hd.trans (put_defers a o.dst u)) s e (he1.trans x))
      rw [List.map_map, show ((i + ·) ∘ Nat.succ) = (i + 1 + ·) from funext fun j => by simp; omega]
      exact this
    · cases hx

end
end Go.Eng

set_option linter.unusedSimpArgs false
set_option linter.unusedVariables false
namespace Go.Eng
open Go

mutual
theorem AV.same_eq : ∀ (a b : AV), AV.same a b = true → a = b
  | .any, b, h => by cases b <;> simp [AV.same] at h ⊢
  | .bool x, b, h => by cases b <;> simp [AV.same] at h ⊢; exact h
  | .int j x, b, h => by cases b <;> simp [AV.same] at h ⊢; exact h
  | .str x, b, h => by cases b <;> simp [AV.same] at h ⊢; exact h
  | .nilp, b, h => by cases b <;> simp [AV.same] at h ⊢
  | .ptr x y z, b, h => by cases b <;> simp [AV.same] at h ⊢; exact ⟨h.1.1, h.1.2, h.2⟩
  | .cptr x, b, h => by cases b <;> simp [AV.same] at h ⊢; exact AV.sames_eq _ _ h
  | .nils, b, h => by cases b <;> simp [AV.same] at h ⊢
  | .slc x1 x2 x3 x4 x5 x6 x7, b, h => by cases b <;> simp [AV.same] at h ⊢; simp [h]
  | .sl n x e, b, h => by cases b <;> simp [AV.same] at h ⊢; exact ⟨h.1.1, AV.samess_eq _ _ h.1.2, h.2⟩
  | .nilm, b, h => by cases b <;> simp [AV.same] at h ⊢
  | .map x, b, h => by cases b <;> simp [AV.same] at h ⊢; exact h
  | .fn f x y, b, h => by
    cases b <;> simp [AV.same] at h ⊢
    exact ⟨h.1.1, AV.sames_eq _ _ h.1.2, AV.sames_eq _ _ h.2⟩
  | .nilf, b, h => by cases b <;> simp [AV.same] at h ⊢
  | .iface t x, b, h => by cases b <;> simp [AV.same] at h ⊢; exact ⟨h.1, AV.same_eq _ _ h.2⟩
  | .nili, b, h => by cases b <;> simp [AV.same] at h ⊢
  | .agg x, b, h => by cases b <;> simp [AV.same] at h ⊢; exact AV.sames_eq _ _ h
  | .tup x, b, h => by cases b <;> simp [AV.same] at h ⊢; exact AV.sames_eq _ _ h
theorem AV.sames_eq : ∀ (a b : List AV), AV.sames a b = true → a = b
  | [], b, h => by cases b <;> simp [AV.sames] at h ⊢
  | x :: l, b, h => by
    cases b <;> simp [AV.sames] at h ⊢
    exact ⟨AV.same_eq _ _ h.1, AV.sames_eq _ _ h.2⟩
theorem AV.samess_eq : ∀ (a b : List (List AV)), AV.samess a b = true → a = b
  | [], b, h => by cases b <;> simp [AV.samess] at h ⊢
  | x :: l, b, h => by
    cases b <;> simp [AV.samess] at h ⊢
    exact ⟨AV.sames_eq _ _ h.1, AV.samess_eq _ _ h.2⟩
end

mutual
theorem AV.same_refl : ∀ (a : AV), AV.same a a = true
  | .any => by simp [AV.same]
  | .bool x => by simp [AV.same]
  | .int j x => by simp [AV.same]
  | .str x => by simp [AV.same]
  | .nilp => by simp [AV.same]
  | .ptr x y z => by simp [AV.same]
  | .cptr x => by simp [AV.same, AV.sames_refl x]
  | .nils => by simp [AV.same]
  | .slc x1 x2 x3 x4 x5 x6 x7 => by simp [AV.same]
  | .sl n x e => by simp [AV.same, AV.samess_refl x]
  | .nilm => by simp [AV.same]
  | .map x => by simp [AV.same]
  | .fn f x y => by simp [AV.same, AV.sames_refl x, AV.sames_refl y]
  | .nilf => by simp [AV.same]
  | .iface t x => by simp [AV.same, AV.same_refl x]
  | .nili => by simp [AV.same]
  | .agg x => by simp [AV.same, AV.sames_refl x]
  | .tup x => by simp [AV.same, AV.sames_refl x]
theorem AV.sames_refl : ∀ (a : List AV), AV.sames a a = true
  | [] => by simp [AV.sames]
  | x :: l => by simp [AV.sames, AV.same_refl x, AV.sames_refl l]
theorem AV.samess_refl : ∀ (a : List (List AV)), AV.samess a a = true
  | [] => by simp [AV.samess]
  | x :: l => by simp [AV.samess, AV.sames_refl x, AV.samess_refl l]
end

section
variable {C : Ctx} {st : St} {env env' : Env} {call call' : CallF}

def Agree (env env' : Env) (xs : List X) : Prop := ∀ t, X.t t ∈ xs → env.get t = env'.get t

theorem ev_congr {x : X} {xs : List X} (h : Agree env env' xs) (hx : x ∈ xs) : x.ev C env = x.ev C env' := by
  cases x with
  | t n => simp only [X.ev]; rw [h n hx]
  | _ => rfl

theorem evs_congr : ∀ {l xs : List X}, Agree env env' xs → (∀ x ∈ l, x ∈ xs) → evs C env l = evs C env' l
  | [], _, _, _ => rfl
  | x :: l, xs, h, hl => by
    simp only [evs, ev_congr h (hl x (by simp)), evs_congr (l := l) h (fun y hy => hl y (by simp [hy]))]

theorem evParts_congr : ∀ {l : List (Nat × Nat × X)} {xs : List X}, Agree env env' xs → (∀ p ∈ l, p.2.2 ∈ xs) → evParts C env l = evParts C env' l
  | [], _, _, _ => rfl
  | (o, n, x) :: l, xs, h, hl => by
    simp only [evParts, ev_congr h (hl (o, n, x) (by simp)), evParts_congr (l := l) h (fun y hy => hl y (by simp [hy]))]

theorem evo_congr {o : Option X} {xs : List X} (h : Agree env env' xs) (hl : ∀ x ∈ xsO o, x ∈ xs) : evo C env o = evo C env' o := by
  cases o with
  | none => rfl
  | some x => simp only [evo, ev_congr h (hl x (by simp [xsO]))]

theorem evOp_congr {o : KO} (h : Agree env env' o.xs) : evOp C call o env st = evOp C call o env' st := by
  cases o <;> simp only [KO.xs] at h <;> simp only [evOp]
  case build => rw [evParts_congr h (fun p hp => List.mem_map.2 ⟨p, hp, rfl⟩)]
  case bslice => rw [evParts_congr h (fun p hp => List.mem_map.2 ⟨p, hp, rfl⟩)]
  case mkfn f a b => rw [evs_congr h (fun x hx => by simp [hx]), evs_congr h (l := b) (fun x hx => by simp [hx])]
  case slice k x a b c => rw [ev_congr h (by simp), evo_congr h (o := a) (fun x hx => by simp [hx]), evo_congr h (o := b) (fun x hx => by simp [hx]), evo_congr h (o := c) (fun x hx => by simp [hx])]
  case call f xs => rw [ev_congr h (x := f) (by simp), evs_congr h (l := xs) (fun x hx => by simp [hx])]
  case minmax m xs => rw [evs_congr h (l := xs) (fun x hx => hx)]
  case pick a b c =>
    rw [ev_congr h (x := a) (by simp)]
    have : ∀ t : Bool, X.ev C env (if t = true then b else c) = X.ev C env' (if t = true then b else c) := by
      intro t; cases t
      · exact ev_congr h (x := c) (by simp)
      · exact ev_congr h (x := b) (by simp)
    simp only [this]
  case mapset q a b c => rw [ev_congr h (x := a) (by simp), ev_congr h (x := b) (by simp), ev_congr h (x := c) (by simp)]
  all_goals first
    | rw [ev_congr h (List.mem_cons_self ..), ev_congr h (List.mem_cons_of_mem _ (List.mem_cons_self ..))]
    | rw [ev_congr h (List.mem_cons_self ..)]

theorem evOp_call {o : KO} (h : o.eff = false) : evOp C call o env st = evOp C call' o env st := by
  cases o <;> simp only [KO.eff] at h <;> first | rfl | cases h

theorem evOp_quiet {o : KO} (h : o.eff = false) {v : AV} {st' : St} (hx : evOp C call o env st = some (v, st')) (hq : quietOk o v = true) : st' = st := by
  cases o <;> simp only [KO.eff] at h <;> first | (cases h; done) | skip
  case bslice ty sz n z ps =>
    simp only [evOp] at hx
    split at hx
    · split at hx
      · split at hx
        · exact (pure1_inv hx).2
        · split at hx
          · cases hx; simp [quietOk] at hq
          · cases hx
      · cases hx
    · cases hx
  all_goals simp only [evOp] at hx
  all_goals repeat' split at hx
  all_goals first | (cases hx; done) | exact (pure1_inv hx).2 | (cases hx; rfl)

def EqS.noRows : EqS → Bool
  | .p | .st _ => false
  | _ => true

theorem aeq_st {q : EqS} (h : q.noRows = true) (s : St) (x y : AV) : aeq st q x y = aeq s q x y := by
  cases q <;> simp [EqS.noRows] at h <;> cases x <;> cases y <;> simp [aeq]

theorem aBin_st {op : BinOp} {q : EqS} (h : q.noRows = true) (s : St) (x y : AV) : aBin st op q x y = aBin s op q x y := by
  unfold aBin
  split <;> first | rfl | rw [aeq_st h s]

theorem evOp_pure {o : KO} (h : o.pure = true) {v : AV} {st' s : St} (hx : evOp C call o env st = some (v, st')) (hq : quietOk o v = true) : evOp C call o env s = some (v, s) := by
  cases o
  case bin op q x y =>
    simp only [evOp] at hx ⊢
    split at hx
    · rename_i u w h1 h2
      obtain ⟨h3, _⟩ := pure1_inv hx
      have h' : q.noRows = true := by cases q <;> simp [KO.pure] at h <;> rfl
      rw [aBin_st h' s] at h3
      simp only [h1, h2, h3, Option.map_some]
    · cases hx
  case bslice ty sz n z ps =>
    simp only [evOp] at hx ⊢
    split at hx
    · rename_i h1
      split at hx
      · rename_i h2
        split at hx
        · rename_i h3
          obtain ⟨h4, _⟩ := pure1_inv hx
          simp only [h1, h2, h3, if_true, h4, Option.map_some]
        · split at hx
          · cases hx; simp [quietOk] at hq
          · cases hx
      · cases hx
    · cases hx
  all_goals first | (simp [KO.pure] at h; done) | skip
  all_goals simp only [evOp] at hx ⊢
  all_goals repeat' split at hx
  all_goals first | (cases hx; done) | skip
  all_goals (obtain ⟨h3, _⟩ := pure1_inv hx; simp_all)

end
end Go.Eng

set_option linter.unusedSimpArgs false
set_option linter.unusedVariables false
namespace Go.Eng
open Go

def exOf : Ex → Exit
  | .norm => .normal
  | .exit id => .exit id
  | .ret => .ret

/-! ### The run in the order of the text -/

/-- How many effects come ahead. -/
def cntE (ks : List KOp) (i : Nat) : Nat := ((ks.take i).filter (·.op.eff)).length

theorem cntE_cons (k : KOp) (ks : List KOp) (i : Nat) : cntE (k :: ks) (i + 1) = (if k.op.eff then 1 else 0) + cntE ks i := by
  unfold cntE
  rw [List.take_succ_cons, List.filter_cons]
  split <;> simp <;> omega

theorem effsOf_get : ∀ (ks : List KOp) (b i : Nat) (k : KOp), ks[i]? = some k → k.op.eff = true → (effsOf b ks)[cntE ks i]? = some (b + i)
  | [], _, _, _, h, _ => by simp at h
  | k0 :: ks, b, 0, k, h, he => by
    simp at h; subst h
    simp [effsOf, he, cntE]
  | k0 :: ks, b, i + 1, k, h, he => by
    have ih := effsOf_get ks (b + 1) i k (by simpa using h) he
    rw [cntE_cons]
    simp only [effsOf]
    split
    · rw [Nat.add_comm 1, List.getElem?_cons_succ, ih]; congr 1; omega
    · rw [Nat.zero_add, ih]; congr 1; omega

theorem effsOf_inv : ∀ (ks : List KOp) (b q j : Nat), (effsOf b ks)[q]? = some j → ∃ i k, j = b + i ∧ ks[i]? = some k ∧ k.op.eff = true ∧ cntE ks i = q
  | [], _, _, _, h => by simp [effsOf] at h
  | k0 :: ks, b, q, j, h => by
    simp only [effsOf] at h
    split at h
    · rename_i he
      cases q with
      | zero => simp at h; exact ⟨0, k0, by omega, by simp, he, by simp [cntE]⟩
      | succ q =>
        obtain ⟨i, k, rfl, h2, h3, h4⟩ := effsOf_inv ks (b + 1) q j (by simpa using h)
        exact ⟨i + 1, k, by omega, by simpa using h2, h3, by rw [cntE_cons, if_pos he]; omega⟩
    · rename_i he
      obtain ⟨i, k, rfl, h2, h3, h4⟩ := effsOf_inv ks (b + 1) q j h
      exact ⟨i + 1, k, by omega, by simpa using h2, h3, by rw [cntE_cons, if_neg he]; omega⟩

theorem effsOf_length (ks : List KOp) (b : Nat) : (effsOf b ks).length = cntE ks ks.length := by
  induction ks generalizing b with
  | nil => simp [effsOf, cntE]
  | cons k ks ih =>
    rw [List.length_cons, cntE_cons, ← ih (b + 1)]
    simp only [effsOf]
    split <;> simp; omega

theorem cntE_mono (ks : List KOp) {i j : Nat} (h : i ≤ j) : cntE ks i ≤ cntE ks j := by
  unfold cntE
  have : ks.take i = (ks.take j).take i := by rw [List.take_take, Nat.min_eq_left h]
  rw [this]
  have hsub : ((ks.take j).take i).Sublist (ks.take j) := List.take_sublist _ _
  exact (hsub.filter _).length_le

theorem cntE_lt {ks : List KOp} {i j : Nat} {k : KOp} (hi : ks[i]? = some k) (he : k.op.eff = true) (h : i < j) : cntE ks i < cntE ks j := by
  have h1 := cntE_mono ks (show i + 1 ≤ j from h)
  have h2 : cntE ks (i + 1) = cntE ks i + 1 := by
    unfold cntE
    rw [List.take_add_one, hi]
    simp [he]
  omega

section
variable {P : Program} {C : Ctx} {W0 : World} {call : CallF}

theorem Env.get_put (env : Env) (d : Option Nat) (v : AV) (t : Nat) : (env.put d v).get t = if d = some t ∧ t < env.length then v else env.get t := by
  unfold Env.put Env.get
  cases d with
  | none => simp
  | some d =>
    simp only [List.getD_eq_getElem?_getD]
    by_cases hd : d = t
    · subst hd
      by_cases hlt : d < env.length
      · simp [hlt]
      · simp [hlt, List.getElem?_eq_none (show env.length ≤ d by omega)]
    · rw [List.getElem?_set_ne hd, if_neg (by simp [hd])]

theorem Env.put_length (env : Env) (d : Option Nat) (v : AV) : (env.put d v).length = env.length := by
  unfold Env.put; cases d <;> simp

theorem evStep_congr {k : KOp} {env env' : Env} {st : St} (h : ∀ t ∈ k.reads, env.get t = env'.get t) : evStep C call k env st = evStep C call k env' st := by
  have hw : wantedA k.guard env = wantedA k.guard env' := by
    unfold wantedA
    cases hgd : k.guard with
    | none => rfl
    | some p =>
      obtain ⟨t, w⟩ := p
      simp only
      rw [h t (by simp [KOp.reads, hgd])]
  have ho : evOp C call k.op env st = evOp C call k.op env' st := evOp_congr fun t ht => h t (by
    unfold KOp.reads
    exact List.mem_append_right _ (List.mem_filterMap.2 ⟨.t t, ht, rfl⟩))
  unfold evStep
  rw [hw, ho]

theorem hist_keeps : ∀ (ks : List KOp) (env : Env) (st : St) (h : List St) (envF : Env) (stF : St) (hist : List St), evHist C call ks env st h = some (envF, stF, hist) →
    envF.length = env.length ∧ ∀ t, (∀ (i : Nat) (k : KOp), ks[i]? = some k → k.dst ≠ some t) → envF.get t = env.get t
  | [], env, st, h, envF, stF, hist, hx => by simp [evHist] at hx; obtain ⟨rfl, rfl, rfl⟩ := hx; exact ⟨rfl, fun _ _ => rfl⟩
  | k :: ks, env, st, h, envF, stF, hist, hx => by
    simp only [evHist] at hx
    split at hx
    · rename_i v st' h1
      have key : ∀ st2 h2, evHist C call ks (env.put k.dst v) st2 h2 = some (envF, stF, hist) → envF.length = env.length ∧ ∀ t, (∀ (i : Nat) (k' : KOp), (k :: ks)[i]? = some k' → k'.dst ≠ some t) → envF.get t = env.get t := by
        intro st2 h2 hx2
        obtain ⟨g1, g2⟩ := hist_keeps ks _ st2 h2 envF stF hist hx2
        refine ⟨by rw [g1, Env.put_length], fun t ht => ?_⟩
        rw [g2 t (fun i k' hi => ht (i + 1) k' (by simpa using hi)), Env.get_put, if_neg (fun hh => ht 0 k (by simp) hh.1)]
      split at hx
      · exact key _ _ hx
      · split at hx
        · exact key _ _ hx
        · cases hx
    · cases hx

/-- No slot is written twice. -/
def Tidy (ks : List KOp) : Prop := ∀ (i j : Nat) (k k' : KOp) (d : Nat), ks[i]? = some k → ks[j]? = some k' → i ≠ j → k.dst = some d → k'.dst ≠ some d

theorem Tidy.tail {k : KOp} {ks : List KOp} (h : Tidy (k :: ks)) : Tidy ks :=
  fun i j k k' d h1 h2 h3 => h (i + 1) (j + 1) k k' d (by simpa using h1) (by simpa using h2) (by omega)

theorem hist_spec : ∀ (ks : List KOp) (env : Env) (st : St) (h : List St) (envF : Env) (stF : St) (hist : List St), Tidy ks → evHist C call ks env st h = some (envF, stF, hist) →
    ∃ chain : List St, hist = chain.reverse ++ h ∧ chain.length = cntE ks ks.length ∧ (st :: chain)[cntE ks ks.length]? = some stF ∧
    ∀ (i : Nat) (k : KOp), ks[i]? = some k → ∃ Ei v s s', evStep C call k Ei s = some (v, s') ∧ (∀ d, k.dst = some d → d < env.length → envF.get d = v) ∧ (k.op.eff = false → quietOk k.op v = true) ∧
      (∀ t, (∀ (j : Nat) (k' : KOp), ks[j]? = some k' → j < i → k'.dst ≠ some t) → Ei.get t = env.get t) ∧ (∀ t, (∀ (j : Nat) (k' : KOp), ks[j]? = some k' → i ≤ j → k'.dst ≠ some t) → envF.get t = Ei.get t) ∧
      (k.op.eff = true → (st :: chain)[cntE ks i]? = some s ∧ (st :: chain)[cntE ks i + 1]? = some s')
  | [], env, st, h, envF, stF, hist, hT, hx => by
    simp [evHist] at hx; obtain ⟨rfl, rfl, rfl⟩ := hx
    exact ⟨[], by simp, by simp [cntE], by simp [cntE], by simp⟩
  | k :: ks, env, st, h, envF, stF, hist, hT, hx => by
    have hkeep := hist_keeps (k :: ks) env st h envF stF hist hx
    simp only [evHist] at hx
    split at hx
    · rename_i v st' h1
      have hval : ∀ st2 h2, evHist C call ks (env.put k.dst v) st2 h2 = some (envF, stF, hist) → ∀ d, k.dst = some d → d < env.length → envF.get d = v := by
        intro st2 h2 hx2 d hd hlt
        have := (hist_keeps ks _ st2 h2 envF stF hist hx2).2 d fun i k' hi => hT 0 (i + 1) k k' d (by simp) (by simpa using hi) (by omega) hd
        rw [this, Env.get_put, if_pos ⟨hd, hlt⟩]
      have hzero : ∀ t, (∀ (j : Nat) (k' : KOp), (k :: ks)[j]? = some k' → 0 ≤ j → k'.dst ≠ some t) → envF.get t = env.get t := fun t ht => hkeep.2 t fun i k' hi => ht i k' hi (Nat.zero_le _)
      have hput : ∀ i t, (∀ (j : Nat) (k' : KOp), (k :: ks)[j]? = some k' → j < i + 1 → k'.dst ≠ some t) → (env.put k.dst v).get t = env.get t := fun i t ht => by
        rw [Env.get_put, if_neg (fun hh => ht 0 k (by simp) (by omega) hh.1)]
      split at hx
      · rename_i heff
        obtain ⟨chain, g1, g2, g3, g4⟩ := hist_spec ks _ st' _ envF stF hist hT.tail hx
        refine ⟨st' :: chain, by simp [g1], by rw [List.length_cons, List.length_cons, cntE_cons, if_pos heff, g2]; omega, ?_, fun i k' hi => ?_⟩
        · rw [List.length_cons, cntE_cons, if_pos heff, Nat.add_comm 1, List.getElem?_cons_succ]; exact g3
        · cases i with
          | zero =>
            simp at hi; subst hi
            exact ⟨env, v, st, st', h1, hval _ _ hx, fun hf => (by rw [heff] at hf; cases hf), fun _ _ => rfl, hzero, fun _ => by simp [cntE]⟩
          | succ i =>
            obtain ⟨Ei, v', s, s', e1, e2, e3, e5, e6, e4⟩ := g4 i k' (by simpa using hi)
            refine ⟨Ei, v', s, s', e1, fun d hd hlt => e2 d hd (by rw [Env.put_length]; exact hlt), e3, fun t ht => ?_, fun t ht => e6 t fun j k2 hj hle => ht (j + 1) k2 (by simpa using hj) (by omega), fun hf => ?_⟩
            · rw [e5 t fun j k2 hj hlt => ht (j + 1) k2 (by simpa using hj) (by omega), hput i t ht]
            · obtain ⟨f1, f2⟩ := e4 hf
              rw [cntE_cons, if_pos heff]
              refine ⟨by rw [Nat.add_comm 1, List.getElem?_cons_succ]; exact f1, by rw [Nat.add_comm 1, List.getElem?_cons_succ]; exact f2⟩
      · rename_i heff
        split at hx
        · rename_i hqo
          obtain ⟨chain, g1, g2, g3, g4⟩ := hist_spec ks _ st _ envF stF hist hT.tail hx
          refine ⟨chain, g1, by rw [List.length_cons, cntE_cons, if_neg heff, g2]; omega, ?_, fun i k' hi => ?_⟩
          · rw [List.length_cons, cntE_cons, if_neg heff, Nat.zero_add]; exact g3
          · cases i with
            | zero =>
              simp at hi; subst hi
              exact ⟨env, v, st, st', h1, hval _ _ hx, fun _ => hqo, fun _ _ => rfl, hzero, fun hf => absurd hf heff⟩
            | succ i =>
              obtain ⟨Ei, v', s, s', e1, e2, e3, e5, e6, e4⟩ := g4 i k' (by simpa using hi)
              refine ⟨Ei, v', s, s', e1, fun d hd hlt => e2 d hd (by rw [Env.put_length]; exact hlt), e3, fun t ht => ?_, fun t ht => e6 t fun j k2 hj hle => ht (j + 1) k2 (by simpa using hj) (by omega), fun hf => ?_⟩
              · rw [e5 t fun j k2 hj hlt => ht (j + 1) k2 (by simpa using hj) (by omega), hput i t ht]
              · obtain ⟨f1, f2⟩ := e4 hf
                rw [cntE_cons, if_neg heff, Nat.zero_add]
                exact ⟨f1, f2⟩
        · cases hx
    · cases hx

end

/-! ### What is bound ahead -/

theorem foldBits {acc : Array Nat} : ∀ (l : List Edge) (s j : Nat), Nat.testBit (l.foldl (fun s e => if Region.binds .any e then s ||| 2 ^ e.on ||| acc.getD e.on 0 else s) s) j = true →
    Nat.testBit s j = true ∨ ∃ e ∈ l, Region.binds .any e = true ∧ (j = e.on ∨ Nat.testBit (acc.getD e.on 0) j = true)
  | [], s, j, h => .inl h
  | e :: l, s, j, h => by
    rw [List.foldl_cons] at h
    rcases foldBits l _ j h with h1 | ⟨e', he', hb⟩
    · split at h1
      · rename_i hb
        rw [Nat.testBit_or, Nat.testBit_or, Bool.or_eq_true, Bool.or_eq_true] at h1
        rcases h1 with (h1 | h1) | h1
        · exact .inl h1
        · rw [Nat.testBit_two_pow] at h1
          exact .inr ⟨e, by simp, hb, .inl (by simpa [eq_comm] using h1)⟩
        · exact .inr ⟨e, by simp, hb, .inr h1⟩
      · exact .inl h1
    · exact .inr ⟨e', by simp [he'], hb⟩

theorem beforeL {ops : Array Oper} : ∀ (l : List Oper) (acc : Array Nat) (m : Nat), acc.size = m → (∀ j o, l[j]? = some o → ops[m + j]? = some o) →
    (∀ i j, Nat.testBit (acc.getD i 0) j = true → ∃ o, ops[i]? = some o ∧ ∃ e ∈ o.after, Region.binds .any e = true ∧ (j = e.on ∨ Nat.testBit (acc.getD e.on 0) j = true)) →
    let out := l.foldl (fun acc o => acc.push (o.after.foldl (fun s e => if Region.binds .any e then s ||| 2 ^ e.on ||| acc.getD e.on 0 else s) 0)) acc
    ∀ i j, Nat.testBit (out.getD i 0) j = true → ∃ o, ops[i]? = some o ∧ ∃ e ∈ o.after, Region.binds .any e = true ∧ (j = e.on ∨ Nat.testBit (out.getD e.on 0) j = true)
  | [], acc, m, hm, hl, h => h
  | o :: l, acc, m, hm, hl, h => by
    simp only [List.foldl_cons]
    refine beforeL l _ (m + 1) (by simp [hm]) (fun j o' hj => by rw [show m + 1 + j = m + (j + 1) by omega]; exact hl (j + 1) o' (by simpa using hj)) fun i j hij => ?_
    have old : ∀ i, i < m → ∀ x, (acc.push x).getD i 0 = acc.getD i 0 := by
      intro i hi x
      simp [Array.getD_eq_getD_getElem?, Array.getElem?_push, show i ≠ acc.size by omega]
    have lift : ∀ i x j, Nat.testBit (acc.getD i 0) j = true → Nat.testBit ((acc.push x).getD i 0) j = true := by
      intro i x j hb
      rcases Nat.lt_or_ge i m with hlt | hge
      · rw [old i hlt]; exact hb
      · have : acc.getD i 0 = 0 := by simp [Array.getD_eq_getD_getElem?, Array.getElem?_eq_none (show acc.size ≤ i by omega)]
        rw [this] at hb; simp at hb
    rcases Nat.lt_trichotomy i m with hlt | heq | hgt
    · rw [old i hlt] at hij
      obtain ⟨o', ho', e, he, hb, hj⟩ := h i j hij
      exact ⟨o', ho', e, he, hb, hj.imp id (lift _ _ _)⟩
    · subst heq
      have : ∀ x, (acc.push x).getD i 0 = x := by intro x; rw [Array.getD_eq_getD_getElem?, Array.getElem?_push, if_pos hm.symm]; rfl
      rw [this, ← Array.foldl_toList] at hij
      rcases foldBits _ _ _ hij with h0 | ⟨e, he, hb, hj⟩
      · simp at h0
      · exact ⟨o, by simpa using hl 0 o (by simp), e, by simpa using he, hb, hj.imp id (lift _ _ _)⟩
    · have : ∀ x, (acc.push x).getD i 0 = 0 := by intro x; simp [Array.getD_eq_getD_getElem?, Array.getElem?_push, show i ≠ acc.size by omega, Array.getElem?_eq_none (show acc.size ≤ i by omega)]
      rw [this] at hij; simp at hij

theorem before_spec (ops : Array Oper) (i j : Nat) (h : Nat.testBit ((Region.before ops).toList.getD i 0) j = true) :
    ∃ o, ops[i]? = some o ∧ ∃ e ∈ o.after, Region.binds .any e = true ∧ (j = e.on ∨ Nat.testBit ((Region.before ops).toList.getD e.on 0) j = true) := by
  have hget : ∀ i, (Region.before ops).toList.getD i 0 = (Region.before ops).getD i 0 := fun i => by
    simp [List.getD_eq_getElem?_getD, Array.getD_eq_getD_getElem?]
  rw [hget] at h
  have := beforeL (ops := ops) ops.toList #[] 0 rfl (fun j o hj => by simpa using hj) (fun i j hij => by simp at hij)
  have hb : Region.before ops = ops.toList.foldl (fun acc o => acc.push (o.after.foldl (fun s e => if Region.binds .any e then s ||| 2 ^ e.on ||| acc.getD e.on 0 else s) 0)) #[] := by
    unfold Region.before
    rw [← Array.foldl_toList]
  rw [← hb] at this
  obtain ⟨o, ho, e, he, hbb, hj⟩ := this i j h
  exact ⟨o, ho, e, he, hbb, hj.imp id (fun h => by rw [hget]; exact h)⟩

section
variable {P : Program} {C : Ctx} {W0 : World} {call : CallF}

theorem effsOf_map {ks ks' : List KOp} (h : ks.map (·.op) = ks'.map (·.op)) (b : Nat) : effsOf b ks = effsOf b ks' := by
  induction ks generalizing ks' b with
  | nil => cases ks' with
    | nil => rfl
    | cons k l => simp at h
  | cons k ks ih => cases ks' with
    | nil => simp at h
    | cons k' ks' =>
      simp only [List.map_cons, List.cons.injEq] at h
      simp only [effsOf, h.1, ih h.2]

theorem countP_lt {α : Type} {p q : α → Bool} : ∀ {l : List α}, (∀ x ∈ l, q x = true → p x = true) → ∀ {x : α}, x ∈ l → p x = true → q x = false → l.countP q < l.countP p
  | [], _, _, h, _, _ => by cases h
  | y :: l, hm, x, hx, hp, hq => by
    have hle : l.countP q ≤ l.countP p := List.countP_mono_left fun z hz => hm z (List.mem_cons_of_mem _ hz)
    rw [List.countP_cons, List.countP_cons]
    rcases List.mem_cons.1 hx with rfl | hx
    · rw [if_pos hp, if_neg (by simp [hq])]; omega
    · have ih := countP_lt (fun z hz => hm z (List.mem_cons_of_mem _ hz)) hx hp hq
      have : (if q y = true then 1 else 0) ≤ (if p y = true then 1 else 0) := by
        split
        · rename_i h; rw [if_pos (hm y (List.mem_cons_self ..) h)]; omega
        · omega
      omega

/-- What is bound, read off the check. -/
structure Bound (ops : Array Oper) (ks : List KOp) (bf : Nat → Nat) : Prop where
  edge : ∀ (i : Nat) (o : Oper), ops[i]? = some o → ∀ e ∈ o.after, Region.binds .any e = true → e.on < i
  eff : ∀ (i : Nat) (k : KOp), ks[i]? = some k → k.op.eff = true → ∀ j, j ∈ effsOf 0 ks → j < i → Nat.testBit (bf i) j = true
  read : ∀ (i j : Nat) (k k' : KOp) (d : Nat), ks[i]? = some k → ks[j]? = some k' → k'.dst = some d → d ∈ k.reads → Nat.testBit (bf i) j = true ∨ Nat.testBit (bf j) i = true
  dst : ∀ (i j : Nat) (k k' : KOp) (d : Nat), ks[i]? = some k → ks[j]? = some k' → i ≠ j → k'.dst = some d → k.dst ≠ some d
  spec : ∀ (i j : Nat), Nat.testBit (bf i) j = true → ∃ o, ops[i]? = some o ∧ ∃ e ∈ o.after, Region.binds .any e = true ∧ (j = e.on ∨ Nat.testBit (bf e.on) j = true)

theorem bound_of {ops : Array Oper} {ks : List KOp} (h : drawOk ops ks (Region.before ops).toList = true) : Bound ops ks fun i => (Region.before ops).toList.getD i 0 := by
  unfold drawOk at h
  simp only [Bool.and_eq_true, List.all_eq_true] at h
  obtain ⟨⟨h1, h2⟩, h3⟩ := h
  refine ⟨fun i o hi e he hb => ?_, fun i k hi heff j hj hlt => ?_, fun i j k k' d hi hj hd hr => ?_, fun i j k k' d hi hj hne hd => ?_, fun i j hij => before_spec ops i j hij⟩
  · have hm : (o, i) ∈ ops.toList.zipIdx := by
      rw [List.mem_zipIdx_iff_getElem?]; simpa using hi
    have := h1 (o, i) hm
    simp only [Array.all_eq_true_iff_forall_mem] at this
    have := this e he
    simpa [hb] using this
  · have hm : (k, i) ∈ ks.zipIdx := by rw [List.mem_zipIdx_iff_getElem?]; exact hi
    have := (h2 (k, i) hm).1
    simp only [heff, if_true, List.all_eq_true] at this
    have := this j hj
    simp only [Bool.or_eq_true, decide_eq_true_eq] at this
    rcases this with h | h
    · omega
    · exact h
  · have hm : (k, i) ∈ ks.zipIdx := by rw [List.mem_zipIdx_iff_getElem?]; exact hi
    have hm2 : (k', j) ∈ ks.zipIdx := by rw [List.mem_zipIdx_iff_getElem?]; exact hj
    have := (h2 (k, i) hm).2 (k', j) hm2
    simp only [hd, Bool.and_eq_true, Bool.or_eq_true, Bool.not_eq_true'] at this
    rcases this.1 with (h | h) | h
    · rw [List.contains_iff_mem.2 hr] at h; cases h
    · exact .inl h
    · exact .inr h
  · have hm : (k, i) ∈ ks.zipIdx := by rw [List.mem_zipIdx_iff_getElem?]; exact hi
    have hm2 : (k', j) ∈ ks.zipIdx := by rw [List.mem_zipIdx_iff_getElem?]; exact hj
    have := (h2 (k, i) hm).2 (k', j) hm2
    simp only [hd, Bool.and_eq_true, Bool.or_eq_true, beq_iff_eq, bne_iff_ne] at this
    rcases this.2 with h | h
    · exact absurd h hne
    · exact h

theorem Bound.lt {ops : Array Oper} {ks : List KOp} {bf : Nat → Nat} (h : Bound ops ks bf) : ∀ (i j : Nat), Nat.testBit (bf i) j = true → j < i := by
  intro i
  induction i using Nat.strongRecOn with
  | _ i ih =>
    intro j hj
    obtain ⟨o, ho, e, he, hb, hc⟩ := h.spec i j hj
    have hlt := h.edge i o ho e he hb
    rcases hc with rfl | hc
    · exact hlt
    · have := ih e.on hlt j hc; omega

theorem Bound.tidy {ops : Array Oper} {ks : List KOp} {bf : Nat → Nat} (h : Bound ops ks bf) : Tidy ks :=
  fun i j k k' d hi hj hne hd hd' => h.dst j i k' k d hj hi (fun e => hne e.symm) hd hd'

/-- A slot's value is told: whoever writes it is listed. -/
def Told (ks : List KOp) (listed : Array Bool) (t : Nat) : Prop := ∀ (j : Nat) (k : KOp), ks[j]? = some k → k.dst = some t → listed.getD j false = true

/-- A slot is as it was: nobody listed writes it. -/
def Old (ks : List KOp) (listed : Array Bool) (t : Nat) : Prop := ∀ (j : Nat) (k : KOp), ks[j]? = some k → k.dst = some t → listed.getD j false = false

structure Inv (W0 : World) (ops : Array Oper) (ks : List KOp) (bf : Nat → Nat) (env0 envF : Env) (chain : List St) (w0 : World) (μ0 : Pls) (st0 : St) (a0 : Act) (listed : Array Bool) (a : Act) (w : World) : Prop where
  size : listed.size = ops.size
  closed : ∀ (i j : Nat), listed.getD i false = true → Nat.testBit (bf i) j = true → listed.getD j false = true
  at_ : ∃ (q : Nat) (s : St) (μ : Pls), (∀ (i : Nat) (k : KOp), ks[i]? = some k → k.op.eff = true → (listed.getD i false = true ↔ cntE ks i < q)) ∧ chain[q]? = some s ∧ Sim W0 w μ s ∧ Ext w0 μ0 st0 w μ s ∧
    (∀ t, Told ks listed t → VR w μ s (envF.get t) (a.tmps.getD t Go.undef)) ∧ ∀ t, Old ks listed t → VR w μ s (env0.get t) (a.tmps.getD t Go.undef)
  defers : a.defers = a0.defers
  tmps : a.tmps.size = envF.length

theorem getD_tf {listed : Array Bool} {i : Nat} (h : listed.getD i true = false) : listed.getD i false = false ∧ i < listed.size := by
  rcases Nat.lt_or_ge i listed.size with hlt | hge
  · simp [Array.getD, hlt] at h ⊢; exact h
  · simp [Array.getD, Nat.not_lt.2 hge] at h

theorem getD_ft {listed : Array Bool} {i : Nat} (h : listed.getD i true = true) (hlt : i < listed.size) : listed.getD i false = true := by
  simp [Array.getD, hlt] at h ⊢; exact h

theorem getD_set_iff {listed : Array Bool} {i j : Nat} (hi : i < listed.size) : (listed.setIfInBounds i true).getD j false = true ↔ listed.getD j false = true ∨ j = i := by
  by_cases h : i = j
  · subst h
    simp [Array.getD_eq_getD_getElem?, hi]
  · simp [Array.getD_eq_getD_getElem?, Array.getElem?_setIfInBounds_ne h, show j ≠ i from fun e => h e.symm]

set_option maxHeartbeats 1000000 in
theorem any_order (hg : GlobOk C W0) (hc : CallOk P W0 call) {ops : Array Oper} {ks : List KOp} {bf : Nat → Nat} (hB : Bound ops ks bf) (hlen : ks.length = ops.size)
    (hk : ∀ (i : Nat) (k : KOp), ks[i]? = some k → ∃ o k0, ops[i]? = some o ∧ trOper P ops o = some k0 ∧ k0.op = k.op ∧ k0.guard = k.guard ∧ k0.dst = k.dst)
    {env0 envF : Env} (hl0 : env0.length = envF.length) {EV : Nat → Env} {chain : List St} {w0 : World} {μ0 : Pls} {st0 : St} {a0 : Act}
    (hEV : ∀ (i : Nat) (k : KOp), ks[i]? = some k → ∀ t ∈ k.reads, ((∃ (j : Nat) (k' : KOp), ks[j]? = some k' ∧ k'.dst = some t ∧ Nat.testBit (bf j) i = true) → (EV i).get t = env0.get t) ∧ ((∀ (j : Nat) (k' : KOp), ks[j]? = some k' → k'.dst = some t → Nat.testBit (bf i) j = true) → (EV i).get t = envF.get t))
    (hE : ∀ (i : Nat) (k : KOp), ks[i]? = some k → k.op.eff = true → ∃ v s s', evStep C call k (EV i) s = some (v, s') ∧ (∀ d, k.dst = some d → d < envF.length → envF.get d = v) ∧ chain[cntE ks i]? = some s ∧ chain[cntE ks i + 1]? = some s')
    (hR : ∀ (i : Nat) (k : KOp), ks[i]? = some k → k.op.eff = false → ∀ q s, chain[q]? = some s → (∀ j ∈ effsOf 0 ks, Nat.testBit (bf i) j = true → ∃ m, (effsOf 0 ks)[m]? = some j ∧ m < q) → (∀ (m j : Nat), (effsOf 0 ks)[m]? = some j → m < q → Nat.testBit (bf j) i = false) →
      ∃ v, evStep C call k (EV i) s = some (v, s) ∧ ∀ d, k.dst = some d → d < envF.length → envF.get d = v)
    {Q : Exit → Act → World → Prop} {stF : St} (hcl : chain.length = cntE ks ks.length + 1) (hF : chain[cntE ks ks.length]? = some stF)
    (hq : ∀ (a' : Act) w' μ', a'.defers = a0.defers → Sim W0 w' μ' stF → EnvR w' μ' stF envF a'.tmps → Ext w0 μ0 st0 w' μ' stF → Q .normal a' w') :
    ∀ (fuel : Nat) (listed : Array Bool) (a : Act) (w : World), (List.range ops.size).countP (fun j => !listed.getD j true) ≤ fuel → Inv W0 ops ks bf env0 envF chain w0 μ0 st0 a0 listed a w → wpAny P .any ops Q fuel listed a w := by
  -- all listed
  have fin : ∀ (listed : Array Bool) (a : Act) (w : World), Inv W0 ops ks bf env0 envF chain w0 μ0 st0 a0 listed a w → Region.ready .any ops listed = [] → Q .normal a w := by
    intro listed a w hI hr
    have hall : ∀ i, i < ops.size → listed.getD i false = true := by
      intro i
      induction i using Nat.strongRecOn with
      | _ i ih =>
        intro hi
        cases hl : listed.getD i true with
        | true => exact getD_ft hl (by rw [hI.size]; exact hi)
        | false =>
          exfalso
          have ho : ops[i]? = some ops[i] := Array.getElem?_eq_getElem hi
          have : i ∈ Region.ready .any ops listed := mem_ready.2 ⟨hl, ops[i], ho, fun e he hb => ih e.on (hB.edge i _ ho e he hb) (by have := hB.edge i _ ho e he hb; omega)⟩
          rw [hr] at this; cases this
    obtain ⟨q, s, μ, h1, h2, h3, h4, h5, _⟩ := hI.at_
    have hqe : q = cntE ks ks.length := by
      have hle : cntE ks ks.length ≤ q := by
        rcases Nat.lt_or_ge q (cntE ks ks.length) with hlt | hge
        · exfalso
          have hlt' : q < (effsOf 0 ks).length := by rw [effsOf_length]; exact hlt
          obtain ⟨i, k, _, g2, g3, g4⟩ := effsOf_inv ks 0 q _ (List.getElem?_eq_getElem hlt')
          have hi : i < ops.size := by rw [← hlen]; exact (List.getElem?_eq_some_iff.1 g2).1
          have := (h1 i k g2 g3).1 (hall i hi)
          omega
        · exact hge
      rcases Nat.lt_or_ge (cntE ks ks.length) q with hlt | hge
      · exfalso
        have := (List.getElem?_eq_some_iff.1 h2).1
        omega
      · omega
    subst hqe
    rw [hF] at h2; cases h2
    refine hq a w μ hI.defers h3 ⟨hI.tmps.symm, fun t x v hx hv => ?_⟩ h4
    have := h5 t fun j k hj hd => hall j (by rw [← hlen]; exact (List.getElem?_eq_some_iff.1 hj).1)
    have hlt : t < a.tmps.size := (Array.getElem?_eq_some_iff.1 hv).1
    simp only [Env.get, List.getD_eq_getElem?_getD, hx, Option.getD_some, Array.getD_eq_getD_getElem?, hv] at this
    exact this
  intro fuel
  induction fuel with
  | zero =>
    intro listed a w hfu hI
    have hr : Region.ready .any ops listed = [] := by
      cases hrd : Region.ready .any ops listed with
      | nil => rfl
      | cons i l =>
        exfalso
        have hm : i ∈ Region.ready .any ops listed := by rw [hrd]; simp
        obtain ⟨hl, o, ho, _⟩ := mem_ready.1 hm
        have hi : i ∈ List.range ops.size := List.mem_range.2 (Array.getElem?_eq_some_iff.1 ho).1
        have : 0 < (List.range ops.size).countP (fun j => !listed.getD j true) := List.countP_pos_iff.2 ⟨i, hi, by simp only [hl]; rfl⟩
        omega
    exact ⟨hr, fin listed a w hI hr⟩
  | succ fuel ih =>
    intro listed a w hfu hI
    refine ⟨fin listed a w hI, fun i hi => ?_⟩
    obtain ⟨hl, o, ho, hedges⟩ := mem_ready.1 hi
    obtain ⟨hlf, hlt⟩ := getD_tf hl
    have hin : i < ks.length := by rw [hlen, ← hI.size]; exact hlt
    have hki : ks[i]? = some ks[i] := List.getElem?_eq_getElem hin
    obtain ⟨o', k0, ho', htk, hop, hgd, hdst⟩ := hk i _ hki
    rw [ho] at ho'; cases ho'
    -- what is ahead is listed
    have hahead : ∀ j, Nat.testBit (bf i) j = true → listed.getD j false = true := by
      intro j hj
      obtain ⟨o2, ho2, e, he, hb, hcase⟩ := hB.spec i j hj
      rw [ho] at ho2; cases ho2
      have hle := hedges e he hb
      rcases hcase with rfl | hcase
      · exact hle
      · exact hI.closed _ _ hle hcase
    obtain ⟨q, s, μ, h1, h2, h3, h4, h5, h6⟩ := hI.at_
    -- the slots that are told
    classical
    let envM : Env := (List.range envF.length).map fun t => if Told ks listed t then envF.get t else if Old ks listed t then env0.get t else .any
    have hM : EnvR w μ s envM a.tmps := by
      refine ⟨by simp [envM, hI.tmps], fun t x v hx hv => ?_⟩
      have hlt2 : t < a.tmps.size := (Array.getElem?_eq_some_iff.1 hv).1
      have hlt3 : t < envF.length := by rw [← hI.tmps]; exact hlt2
      simp only [envM, List.getElem?_map, List.getElem?_range hlt3, Option.map_some, Option.some.injEq] at hx
      subst hx
      split
      · rename_i htold
        have := h5 t htold
        simp only [Array.getD_eq_getD_getElem?, hv, Option.getD_some] at this
        exact this
      · split
        · rename_i hold
          have := h6 t hold
          simp only [Array.getD_eq_getD_getElem?, hv, Option.getD_some] at this
          exact this
        · exact .any v
    have hMget : ∀ t, envM.get t = if t < envF.length then (if Told ks listed t then envF.get t else if Old ks listed t then env0.get t else .any) else undefA := by
      intro t
      unfold Env.get
      split
      · rename_i hlt3
        simp only [List.getD_eq_getElem?_getD, envM, List.getElem?_map, List.getElem?_range hlt3, Option.map_some, Env.get, Option.getD_some]
      · rename_i hge
        have e1 : envM[t]? = none := List.getElem?_eq_none (by simp [envM]; omega)
        simp [List.getD_eq_getElem?_getD, e1]
    have hout : ∀ (e : Env) t, e.length = envF.length → ¬ t < envF.length → e.get t = undefA := by
      intro e t he ht
      have e1 : e[t]? = none := List.getElem?_eq_none (by omega)
      simp [Env.get, List.getD_eq_getElem?_getD, e1]
    have hagree : ∀ t ∈ ks[i].reads, envM.get t = (EV i).get t := by
      intro t ht
      obtain ⟨k1, k2⟩ := hEV i _ hki t ht
      by_cases hw : ∃ (j : Nat) (k' : KOp), ks[j]? = some k' ∧ k'.dst = some t ∧ Nat.testBit (bf j) i = true
      · rw [k1 hw, hMget]
        obtain ⟨j, k', hj, hd, hb⟩ := hw
        have hjn : listed.getD j false = false := by
          cases hlj : listed.getD j false with
          | false => rfl
          | true => have := hI.closed j i hlj hb; rw [hlf] at this; cases this
        have hnt : ¬ Told ks listed t := fun h => by have := h j k' hj hd; rw [hjn] at this; cases this
        have hold : Old ks listed t := fun j2 k2 hj2 hd2 => by
          by_cases hjj : j2 = j
          · subst hjj; exact hjn
          · exact absurd hd2 (hB.dst j2 j k2 k' t hj2 hj hjj hd)
        by_cases hlt3 : t < envF.length
        · rw [if_pos hlt3, if_neg hnt, if_pos hold]
        · rw [if_neg hlt3, hout env0 t hl0 hlt3]
      · have hall : ∀ (j : Nat) (k' : KOp), ks[j]? = some k' → k'.dst = some t → Nat.testBit (bf i) j = true := fun j k' hj hd => by
          rcases hB.read i j _ k' t hki hj hd ht with h | h
          · exact h
          · exact absurd ⟨j, k', hj, hd, h⟩ hw
        have htold : Told ks listed t := fun j k hj hd => hahead j (hall j k hj hd)
        rw [k2 hall, hMget]
        by_cases hlt3 : t < envF.length
        · rw [if_pos hlt3, if_pos htold]
        · rw [if_neg hlt3, hout envF t rfl hlt3]
    -- the step
    have step : ∃ v s' q', evStep C call ks[i] (EV i) s = some (v, s') ∧ (∀ d, ks[i].dst = some d → d < envF.length → envF.get d = v) ∧ chain[q']? = some s' ∧
        (∀ (j : Nat) (k : KOp), ks[j]? = some k → k.op.eff = true → (listed.getD j false = true ∨ j = i ↔ cntE ks j < q')) := by
      cases heff : ks[i].op.eff with
      | true =>
        obtain ⟨v, s1, s1', e1, e2, e3, e4⟩ := hE i _ hki heff
        have hni : ¬ cntE ks i < q := fun h => by
          have := (h1 i _ hki heff).2 h
          rw [hlf] at this; cases this
        have hqi : cntE ks i = q := by
          rcases Nat.lt_or_ge q (cntE ks i) with hgt | hle
          · exfalso
            have hlt' : q < (effsOf 0 ks).length := by
              rw [effsOf_length]
              have := cntE_mono ks (Nat.le_of_lt hin)
              omega
            obtain ⟨i2, k2, g1, g2, g3, g4⟩ := effsOf_inv ks 0 q _ (List.getElem?_eq_getElem hlt')
            have hmem : i2 ∈ effsOf 0 ks := by
              have := List.getElem_mem hlt'
              rw [g1] at this
              simpa using this
            have hlt2 : i2 < i := by
              rcases Nat.lt_or_ge i2 i with h | h
              · exact h
              · have := cntE_mono ks h; omega
            have := hahead i2 (hB.eff i _ hki heff i2 hmem hlt2)
            have := (h1 i2 k2 g2 g3).1 this
            omega
          · omega
        rw [hqi] at e3 e4
        rw [h2] at e3; cases e3
        refine ⟨v, s1', q + 1, e1, e2, e4, fun j k hj he => ?_⟩
        rw [h1 j k hj he]
        constructor
        · rintro (h | rfl) <;> omega
        · intro h
          rcases Nat.lt_or_ge (cntE ks j) q with h' | h'
          · exact .inl h'
          · right
            rcases Nat.lt_trichotomy j i with hji | hji | hji
            · have := cntE_lt hj he hji; omega
            · exact hji
            · have := cntE_lt hki heff hji; omega
      | false =>
        obtain ⟨v, e1, e2⟩ := hR i _ hki heff q s h2 (fun j hj hb => by
          have hlj := hahead j hb
          obtain ⟨m, hm⟩ := List.mem_iff_getElem?.1 hj
          obtain ⟨i2, k2, g1, g2, g3, g4⟩ := effsOf_inv ks 0 m j hm
          rw [Nat.zero_add] at g1; subst g1
          exact ⟨m, hm, by rw [← g4]; exact (h1 j k2 g2 g3).1 hlj⟩) (fun m j hm hmq => by
          obtain ⟨i2, k2, g1, g2, g3, g4⟩ := effsOf_inv ks 0 m j hm
          rw [Nat.zero_add] at g1; subst g1
          have hlj := (h1 j k2 g2 g3).2 (by omega)
          cases hb : Nat.testBit (bf j) i with
          | false => rfl
          | true =>
            have := hI.closed j i hlj hb
            rw [hlf] at this; cases this)
        refine ⟨v, s, q, e1, e2, h2, fun j k hj he => ?_⟩
        rw [← h1 j k hj he]
        constructor
        · rintro (h | rfl)
          · exact h
          · rw [hki] at hj; cases hj
            rw [heff] at he; cases he
        · exact .inl
    obtain ⟨v, s', q', e1, e2, e3, e4⟩ := step
    have hstep : evStep C call k0 envM s = some (v, s') := by
      have : evStep C call ks[i] envM s = some (v, s') := by rw [← e1]; exact evStep_congr hagree
      rw [← this]
      unfold evStep
      rw [hgd, hop]
    refine step_ok hg hc h3 hM ho htk hstep fun u w' μ' hv hs' hext => ?_
    have hdo : k0.dst = o.dst := dst_of htk
    refine ih _ _ w' ?_ ⟨by simp [hI.size], fun a b ha hb => ?_, ⟨q', s', μ', fun j k hj he => ?_, e3, hs', h4.trans hext, fun t htold => ?_, fun t hold => ?_⟩, by rw [put_defers]; exact hI.defers, ?_⟩
    · have : (List.range ops.size).countP (fun j => !(listed.setIfInBounds i true).getD j true) < (List.range ops.size).countP (fun j => !listed.getD j true) := by
        refine countP_lt (x := i) (fun j _ hj => ?_) (List.mem_range.2 (by rw [← hI.size]; exact hlt)) (by simp only [hl]; rfl) (by simp [Array.getD_eq_getD_getElem?, hlt])
        by_cases hij : i = j
        · subst hij; simp only [hl]; rfl
        · rw [getD_set_ne true hij] at hj; exact hj
      omega
    · rw [getD_set_iff hlt] at ha ⊢
      rcases ha with ha | rfl
      · exact .inl (hI.closed a b ha hb)
      · exact .inl (hahead b hb)
    · rw [getD_set_iff hlt]
      exact e4 j k hj he
    · by_cases hd : ks[i].dst = some t
      · rcases Nat.lt_or_ge t envF.length with hlt3 | hge
        · rw [e2 t hd hlt3]
          have : (a.put o.dst u).tmps.getD t Go.undef = u := by
            rw [← hdo, hdst, hd]
            simp [Act.put, Array.getD_eq_getD_getElem?, show t < a.tmps.size by rw [hI.tmps]; exact hlt3]
          rw [this]
          exact hv
        · have h6 : envF.get t = undefA := by simp [Env.get, List.getD_eq_getElem?_getD, List.getElem?_eq_none hge]
          have h7 : (a.put o.dst u).tmps.getD t Go.undef = Go.undef := by
            rw [Array.getD_eq_getD_getElem?, Array.getElem?_eq_none]
            · rfl
            · rw [← hdo, hdst, hd]; simp [Act.put, hI.tmps]; exact hge
          rw [h6, h7]
          exact .undef
      · have htold' : Told ks listed t := fun j k hj hdj => by
          have := htold j k hj hdj
          rw [getD_set_iff hlt] at this
          rcases this with h | rfl
          · exact h
          · rw [hki] at hj; cases hj
            exact absurd hdj hd
        have := (h5 t htold').ext hext
        have h8 : (a.put o.dst u).tmps.getD t Go.undef = a.tmps.getD t Go.undef := by
          rw [← hdo, hdst]
          cases hdd : ks[i].dst with
          | none => rfl
          | some d =>
            have hne : d ≠ t := fun e => hd (by rw [hdd, e])
            simp [Act.put, Array.getD_eq_getD_getElem?, Array.getElem?_setIfInBounds_ne hne]
        rw [h8]
        exact this
    · have hd : ks[i].dst ≠ some t := fun hd => by
        have := hold i _ hki hd
        have h9 := (getD_set_iff (j := i) hlt).2 (.inr rfl)
        rw [h9] at this; cases this
      have hold' : Old ks listed t := fun j k hj hdj => by
        have := hold j k hj hdj
        cases hlj : listed.getD j false with
        | false => rfl
        | true =>
          have h9 := (getD_set_iff (j := j) hlt).2 (.inl hlj)
          rw [h9] at this; cases this
      have := (h6 t hold').ext hext
      have h8 : (a.put o.dst u).tmps.getD t Go.undef = a.tmps.getD t Go.undef := by
        rw [← hdo, hdst]
        cases hdd : ks[i].dst with
        | none => rfl
        | some d =>
          have hne : d ≠ t := fun e => hd (by rw [hdd, e])
          simp [Act.put, Array.getD_eq_getD_getElem?, Array.getElem?_setIfInBounds_ne hne]
      rw [h8]
      exact this
    · rw [← hI.tmps]
      cases o.dst <;> simp [Act.put]

theorem cntE_map {ks ks' : List KOp} (h : ks.map (·.op) = ks'.map (·.op)) (i : Nat) : cntE ks i = cntE ks' i := by
  induction ks generalizing ks' i with
  | nil => cases ks' with
    | nil => rfl
    | cons k l => simp at h
  | cons k ks ih => cases ks' with
    | nil => simp at h
    | cons k' ks' =>
      simp only [List.map_cons, List.cons.injEq] at h
      cases i with
      | zero => simp [cntE]
      | succ i => rw [cntE_cons, cntE_cons, ih h.2, h.1]

theorem evStep_call {k : KOp} {call' : CallF} {env : Env} {st : St} (h : k.op.eff = false) : evStep C call k env st = evStep C call' k env st := by
  unfold evStep
  rw [evOp_call (call' := call') h]

theorem evStep_quiet {k : KOp} {env : Env} {st st' : St} {v : AV} (h : k.op.eff = false) (hx : evStep C call k env st = some (v, st')) (hq : quietOk k.op v = true) : st' = st := by
  unfold evStep at hx
  split at hx
  · exact evOp_quiet h hx hq
  · cases hx; rfl
  · cases hx

theorem evStep_pure {k : KOp} {env : Env} {st st' s : St} {v : AV} (h : k.op.pure = true) (hx : evStep C call k env st = some (v, st')) (hq : quietOk k.op v = true) : evStep C call k env s = some (v, s) := by
  unfold evStep at hx ⊢
  split at hx
  · exact evOp_pure h hx hq
  · cases hx; rfl
  · cases hx

theorem mix_length (env0 env : Env) : ∀ l, (Env.mix env0 env l).length = env.length
  | [] => rfl
  | t :: l => by rw [Env.mix, Env.put_length, mix_length env0 env l]

theorem mix_get {env0 env : Env} (h : env0.length = env.length) (t : Nat) : ∀ l : List Nat, (Env.mix env0 env l).get t = if t ∈ l then env0.get t else env.get t
  | [] => by simp [Env.mix]
  | u :: l => by
    rw [Env.mix, Env.get_put, mix_length, mix_get h t l]
    by_cases hu : u = t
    · subst hu
      by_cases hlt : u < env.length
      · simp [hlt]
      · rw [if_neg (by simp [hlt]), if_pos (List.mem_cons_self ..)]
        split
        · rfl
        · simp [Env.get, List.getD_eq_getElem?_getD, List.getElem?_eq_none (show env.length ≤ u by omega), List.getElem?_eq_none (show env0.length ≤ u by omega)]
    · rw [if_neg (by simp [hu])]
      have : t ∈ u :: l ↔ t ∈ l := by
        constructor
        · intro h'; rcases List.mem_cons.1 h' with h' | h'
          · exact absurd h'.symm hu
          · exact h'
        · exact List.mem_cons_of_mem _
      simp only [this]

set_option maxHeartbeats 1000000 in
theorem draw_ok (hf : P.follows .mixedOrders = true) (hg : GlobOk C W0) (hc : CallOk P W0 call) {ops : Array Oper} {k : K} (ht : trReg P ops true = some k) {fuel id : Nat} {Q : Exit → Act → World → Prop} {w : World} {μ : Pls} {st : St} {env : Env} {a : Act} {x : Ex} {env' : Env} {st' : St}
    (hs : Sim W0 w μ st) (he : EnvR w μ st env a.tmps) (hx : evK C call fuel k env st = some (x, env', st'))
    (hq : ∀ (a' : Act) w' μ', a'.defers = a.defers → Sim W0 w' μ' st' → EnvR w' μ' st' env' a'.tmps → Ext w μ st w' μ' st' → Q (exOf x) a' w') : (Code.region id ops true).wp P Q a w := by
  simp only [trReg, Option.bind_eq_bind, Option.bind_eq_some_iff, if_true, Option.pure_def, Option.some.injEq, guard_some] at ht
  obtain ⟨ks0, hks0, _, hok, rfl⟩ := ht
  obtain ⟨ml, mg⟩ := mapM_get hks0
  have hB0 := bound_of hok
  generalize hbf : (Region.before ops).toList = bl at hB0 hx hok
  let ks : List KOp := ks0.zipIdx.map fun (k, i) => { k with win := winOf ks0 bl i k, olds := oldsOf ks0 bl i k }
  have hlen : ks.length = ks0.length := by simp [ks]
  have hget : ∀ (i : Nat) (k : KOp), ks[i]? = some k → ∃ k0, ks0[i]? = some k0 ∧ k = { k0 with win := winOf ks0 bl i k0, olds := oldsOf ks0 bl i k0 } := by
    intro i k hi
    simp only [ks, List.getElem?_map, List.getElem?_zipIdx, Option.map_eq_some_iff] at hi
    obtain ⟨p, ⟨k0, hk0, rfl⟩, rfl⟩ := hi
    exact ⟨k0, hk0, by simp⟩
  have hops : ks.map (·.op) = ks0.map (·.op) := by
    apply List.ext_getElem?
    intro i
    simp only [ks, List.getElem?_map, List.getElem?_zipIdx, Option.map_map]
    cases ks0[i]? <;> rfl
  have heffs : effsOf 0 ks = effsOf 0 ks0 := effsOf_map hops 0
  have hB : Bound ops ks fun i => bl.getD i 0 := by
    refine ⟨hB0.edge, fun i k hi he j hj hlt => ?_, fun i j k k' d hi hj hd hr => ?_, fun i j k k' d hi hj hne hd => ?_, hB0.spec⟩
    · obtain ⟨k0, h0, rfl⟩ := hget i k hi
      exact hB0.eff i k0 h0 he j (heffs ▸ hj) hlt
    · obtain ⟨k0, h0, rfl⟩ := hget i k hi
      obtain ⟨k1, h1, rfl⟩ := hget j k' hj
      exact hB0.read i j k0 k1 d h0 h1 hd hr
    · obtain ⟨k0, h0, rfl⟩ := hget i k hi
      obtain ⟨k1, h1, rfl⟩ := hget j k' hj
      exact hB0.dst i j k0 k1 d h0 h1 hne hd
  simp only [evK, if_true, Option.map_eq_some_iff] at hx
  obtain ⟨⟨eF, sF⟩, hx, h⟩ := hx
  simp only [Prod.mk.injEq] at h
  obtain ⟨hx1, hx2, hx3⟩ := h
  subst hx1 hx2 hx3
  have hx : evDraw C call ks env st = some (eF, sF) := hx
  unfold evDraw at hx
  split at hx
  · rename_i envF stF hist hh
    split at hx
    · rename_i hall
      simp only [Option.some.injEq, Prod.mk.injEq] at hx
      obtain ⟨hx1, hx2⟩ := hx
      subst hx1 hx2
      obtain ⟨chain, c1, c2, c3, c4⟩ := hist_spec ks env st [st] _ _ hist hB.tidy hh
      have hkeep := hist_keeps ks env st [st] _ _ hist hh
      have hrev : hist.reverse = st :: chain := by rw [c1]; simp
      apply wp_region_any hf
      have hsz : ks.length = ops.size := by rw [hlen, ml]; simp
      have hlenF : env.length = envF.length := hkeep.1.symm
      let EV : Nat → Env := fun i => match ks[i]? with
        | some k => Env.mix env envF k.olds
        | none => envF
      have hEVk : ∀ (i : Nat) (k : KOp), ks[i]? = some k → EV i = Env.mix env envF k.olds := fun i k hi => by simp only [EV, hi]
      have hold : ∀ (i : Nat) (k : KOp), ks[i]? = some k → ∀ t ∈ k.reads, (t ∈ k.olds ↔ ∃ (j : Nat) (k' : KOp), ks[j]? = some k' ∧ k'.dst = some t ∧ Nat.testBit (bl.getD j 0) i = true) := by
        intro i k hi t ht
        obtain ⟨k0, h0, rfl⟩ := hget i k hi
        simp only [oldsOf, List.mem_filter, List.any_eq_true, Bool.and_eq_true, beq_iff_eq]
        constructor
        · rintro ⟨_, ⟨k1, j⟩, hm, hd, hb⟩
          rw [List.mem_zipIdx_iff_getElem?] at hm
          simp only at hm hd hb
          refine ⟨j, { k1 with win := winOf ks0 bl j k1, olds := oldsOf ks0 bl j k1 }, ?_, hd, hb⟩
          simp only [ks, List.getElem?_map, List.getElem?_zipIdx, hm, Option.map_some, Nat.zero_add]
        · rintro ⟨j, k', hj, hd, hb⟩
          obtain ⟨k1, h1, rfl⟩ := hget j k' hj
          exact ⟨ht, (k1, j), by rw [List.mem_zipIdx_iff_getElem?]; exact h1, hd, hb⟩
      have hagr : ∀ (i : Nat) (k : KOp), ks[i]? = some k → ∀ Ei : Env, (∀ t, (∀ (j : Nat) (k' : KOp), ks[j]? = some k' → j < i → k'.dst ≠ some t) → Ei.get t = env.get t) →
          (∀ t, (∀ (j : Nat) (k' : KOp), ks[j]? = some k' → i ≤ j → k'.dst ≠ some t) → envF.get t = Ei.get t) → ∀ t ∈ k.reads, Ei.get t = (EV i).get t := by
        intro i k hi Ei f1 f2 t ht
        rw [hEVk i k hi, mix_get hlenF]
        split
        · rename_i hmem
          obtain ⟨j, k', hj, hd, hb⟩ := (hold i k hi t ht).1 hmem
          have hij := hB.lt j i hb
          refine f1 t fun j2 k2 hj2 hlt hd2 => ?_
          by_cases hjj : j2 = j
          · omega
          · exact hB.dst j2 j k2 k' t hj2 hj hjj hd hd2
        · rename_i hmem
          refine (f2 t fun j k' hj hle hd => ?_).symm
          rcases hB.read i j k k' t hi hj hd ht with h | h
          · have := hB.lt i j h; omega
          · exact hmem ((hold i k hi t ht).2 ⟨j, k', hj, hd, h⟩)
      refine any_order (chain := st :: chain) (w0 := w) (μ0 := μ) (st0 := st) (a0 := a) (envF := envF) (EV := EV) hg hc hB hsz (fun i k hi => ?_) hlenF (fun i k hi t ht => ⟨fun hw => ?_, fun hw => ?_⟩) (fun i k hi heff => ?_) (fun i k hi heff q s hqs hA hBf => ?_) (by simp [c2]) c3 hq ops.size (Array.replicate ops.size false) a _ ?_ ?_
      · obtain ⟨k0, h0, rfl⟩ := hget i k hi
        have hlt : i < ops.toList.length := by rw [← ml]; exact (List.getElem?_eq_some_iff.1 h0).1
        obtain ⟨y, hy, hy2⟩ := mg i ops.toList[i] (List.getElem?_eq_getElem hlt)
        rw [h0] at hy; cases hy
        exact ⟨_, k0, by simpa using List.getElem?_eq_getElem hlt, hy2, rfl, rfl, rfl⟩
      · rw [hEVk i k hi, mix_get hlenF, if_pos ((hold i k hi t ht).2 hw)]
      · rw [hEVk i k hi, mix_get hlenF, if_neg]
        intro hmem
        obtain ⟨j, k', hj, hd, hb⟩ := (hold i k hi t ht).1 hmem
        have h1 := hB.lt j i hb
        have h2 := hB.lt i j (hw j k' hj hd)
        omega
      · obtain ⟨Ei, v, s, s', e1, e2, e3, f1, f2, e4⟩ := c4 i k hi
        obtain ⟨e5, e6⟩ := e4 heff
        exact ⟨v, s, s', by rw [← e1]; exact (evStep_congr (hagr i k hi Ei f1 f2)).symm, fun d hd hlt => e2 d hd (by rw [← hkeep.1]; exact hlt), e5, e6⟩
      · obtain ⟨Ei, v, s0, s0', e1, e2, e3, f1, f2, e4⟩ := c4 i k hi
        have e3 := e3 heff
        rw [evStep_congr (hagr i k hi Ei f1 f2)] at e1
        cases hp : k.op.pure with
        | true => exact ⟨v, evStep_pure hp e1 e3, fun d hd hlt => e2 d hd (by rw [← hkeep.1]; exact hlt)⟩
        | false =>
          obtain ⟨k0, h0, rfl⟩ := hget i k hi
          have hqlt : q < (effsOf 0 ks0).length + 1 := by
            have := (List.getElem?_eq_some_iff.1 hqs).1
            rw [← heffs, effsOf_length, ← c2]
            simpa using this
          have hwin : q ∈ winOf ks0 bl i k0 := by
            unfold winOf
            simp only at heff hp
            simp only [heff, hp, Bool.or_self, Bool.false_eq_true, if_false]
            rw [List.mem_filter]
            refine ⟨List.mem_range.2 hqlt, ?_⟩
            rw [Bool.and_eq_true, List.all_eq_true, List.all_eq_true]
            constructor
            · intro j hj
              obtain ⟨m, hm⟩ := List.mem_iff_getElem?.1 hj
              rw [List.getElem?_drop] at hm
              cases hb : Nat.testBit (bl.getD i 0) j with
              | false => rfl
              | true =>
                exfalso
                have hjm : j ∈ effsOf 0 ks := by rw [heffs]; exact List.mem_of_getElem? hm
                obtain ⟨m', hm', hlt'⟩ := hA j hjm hb
                obtain ⟨i1, _, a1, _, _, a2⟩ := effsOf_inv ks 0 m' j hm'
                rw [← heffs] at hm
                obtain ⟨i2, _, b1, _, _, b2⟩ := effsOf_inv ks 0 _ j hm
                have : i1 = i2 := by omega
                subst this
                omega
            · intro j hj
              obtain ⟨m, hm⟩ := List.mem_iff_getElem?.1 hj
              obtain ⟨hm1, hm2⟩ := take_getElem? hm
              rw [← heffs] at hm1
              rw [hBf m j hm1 hm2]; rfl
          have hag := List.all_eq_true.1 hall _ (List.mem_of_getElem? hi)
          unfold evAgain at hag
          have := List.all_eq_true.1 hag q hwin
          rw [hrev, hqs] at this
          simp only at this
          split at this
          · rename_i v2 s2 hv2
            rw [Bool.and_eq_true] at this
            obtain ⟨g1, g2⟩ := this
            have hs2 := evStep_quiet heff hv2 g1
            subst hs2
            refine ⟨v2, by rw [hEVk i _ hi, ← hv2]; exact evStep_call heff, fun d hd hlt => ?_⟩
            simp only at hd
            rw [hd] at g2
            exact (AV.same_eq _ _ g2).symm
          · cases this
      · refine Nat.le_trans (List.countP_le_length) (by simp)
      · refine ⟨by simp, fun i j hi => ?_, ⟨0, st, μ, fun i k hi he => ?_, by simp, hs.quiet (Quiet.drew w), hs.quiet_ext (Quiet.drew w), fun t htold => ?_, fun t _ => (he.ext (hs.quiet_ext (Quiet.drew w))).get t⟩, rfl, ?_⟩
        · exfalso; simp [Array.getD_eq_getD_getElem?, Array.getElem?_replicate] at hi; split at hi <;> simp at hi
        · constructor
          · intro h; exfalso; simp [Array.getD_eq_getD_getElem?, Array.getElem?_replicate] at h; split at h <;> simp at h
          · intro h; omega
        · have hno : ∀ (j : Nat) (k : KOp), ks[j]? = some k → k.dst ≠ some t := fun j k hj hd => by
            have := htold j k hj hd
            simp [Array.getD_eq_getD_getElem?, Array.getElem?_replicate] at this
            split at this <;> simp at this
          rw [hkeep.2 t hno]
          exact (he.ext (hs.quiet_ext (Quiet.drew w))).get t
        · rw [hkeep.1, he.1]
    · cases hx
  · cases hx

end
end Go.Eng

set_option linter.unusedSimpArgs false
set_option linter.unusedVariables false
namespace Go.Eng
open Go

section
variable {P : Program} {C : Ctx} {W0 : World} {call : CallF}

/-- What is shown of a piece of code. -/
def CodeOk (P : Program) (C : Ctx) (W0 : World) (call : CallF) (fuel : Nat) (c : Code) (k : K) : Prop :=
  ∀ (Q : Exit → Act → World → Prop) (w : World) (μ : Pls) (st : St) (env : Env) (a : Act) (x : Ex) (env' : Env) (st' : St), Sim W0 w μ st → EnvR w μ st env a.tmps → evK C call fuel k env st = some (x, env', st') →
    (∀ (a' : Act) w' μ', a'.defers = a.defers → Sim W0 w' μ' st' → EnvR w' μ' st' env' a'.tmps → Ext w μ st w' μ' st' → Q (exOf x) a' w') → c.wp P Q a w

variable (hf : P.follows .mixedOrders = true) (hg : GlobOk C W0) (hc : CallOk P W0 call)
include hf hg hc

theorem region_ok {fuel : Nat} {id : Nat} {ops : Array Oper} {draw : Bool} {k : K} (ht : trReg P ops draw = some k) : CodeOk P C W0 call fuel (.region id ops draw) k := by
  intro Q w μ st env a x env' st' hs he hx hq
  cases draw with
  | false =>
    simp only [trReg, Option.bind_eq_bind, Option.bind_eq_some_iff, Bool.false_eq_true, if_false, Option.pure_def, Option.some.injEq] at ht
    obtain ⟨ks, hks, rfl⟩ := ht
    simp only [evK, Bool.false_eq_true, if_false, Option.map_eq_some_iff] at hx
    obtain ⟨p, hp, h⟩ := hx
    obtain ⟨e1, s1⟩ := p
    cases h
    apply wp_region
    have := ops_ok hg hc (ops := ops) (Q := Q) ops.toList ks 0 (fun j o hj => by simpa using hj) hks w μ st env a hs he hp (fun a' w' μ' hd s e ex => hq a' w' μ' hd s e ex)
    simpa using this
  | true => exact draw_ok hf hg hc ht hs he hx hq

theorem code_ok (fuel : Nat) : ∀ (c : Code) (k : K), trC P c = some k → CodeOk P C W0 call fuel c k
  | .skip, k, ht => by
    simp only [trC, Option.some.injEq] at ht; subst ht
    intro Q w μ st env a x env' st' hs he hx hq
    simp only [evK, Option.some.injEq] at hx
    cases hx
    exact wp_skip (hq a w μ rfl hs he (Ext.refl _ _ _))
  | .region id ops draw, k, ht => by
    simp only [trC, Option.some.injEq] at ht
    cases hr : trReg P ops draw with
    | none =>
      rw [hr] at ht
      simp only [Option.getD_none] at ht
      subst ht
      intro Q w μ st env a x env' st' hs he hx hq
      simp [evK] at hx
    | some k' =>
      rw [hr] at ht
      simp only [Option.getD_some] at ht
      subst ht
      exact region_ok hf hg hc hr
  | .seq p q, k, ht => by
    simp only [trC, Option.bind_eq_bind, Option.bind_eq_some_iff, Option.pure_def, Option.some.injEq] at ht
    obtain ⟨kp, hp, kq, hkq, rfl⟩ := ht
    have ihp := code_ok fuel p kp hp
    have ihq := code_ok fuel q kq hkq
    intro Q w μ st env a x env' st' hs he hx hq
    apply wp_seq
    simp only [evK] at hx
    split at hx
    · rename_i env1 st1 h1
      refine ihp _ w μ st env a _ env1 st1 hs he h1 fun a1 w1 μ1 hd hs1 he1 ex1 => ?_
      exact ihq Q w1 μ1 st1 env1 a1 x env' st' hs1 he1 hx fun a2 w2 μ2 hd2 s2 e2 ex2 => hq a2 w2 μ2 (hd2.trans hd) s2 e2 (ex1.trans ex2)
    · rename_i hnn
      refine ihp _ w μ st env a x env' st' hs he hx fun a1 w1 μ1 hd hs1 he1 ex1 => ?_
      have := hq a1 w1 μ1 hd hs1 he1 ex1
      cases x with
      | norm => exact absurd hx (hnn _ _)
      | exit id => exact this
      | ret => exact this
  | .cond cnd p q, k, ht => by
    simp only [trC, Option.bind_eq_bind, Option.bind_eq_some_iff, Option.pure_def, Option.some.injEq] at ht
    obtain ⟨kc, hkc, kp, hp, kq, hkq, rfl⟩ := ht
    have ihp := code_ok fuel p kp hp
    have ihq := code_ok fuel q kq hkq
    intro Q w μ st env a x env' st' hs he hx hq
    simp only [evK] at hx
    split at hx
    · rename_i t h1
      have hb := (X_ok hg hs he hkc h1).bool_inv
      cases t with
      | true => exact wp_cond_true hb (ihp Q w μ st env a x env' st' hs he (by simpa using hx) hq)
      | false => exact wp_cond_false hb (ihq Q w μ st env a x env' st' hs he (by simpa using hx) hq)
    · cases hx
  | .block id p, k, ht => by
    simp only [trC, Option.bind_eq_bind, Option.bind_eq_some_iff, Option.pure_def, Option.some.injEq] at ht
    obtain ⟨kp, hp, rfl⟩ := ht
    have ihp := code_ok fuel p kp hp
    intro Q w μ st env a x env' st' hs he hx hq
    apply wp_block
    simp only [evK] at hx
    split at hx
    · rename_i id' env1 st1 h1
      refine ihp _ w μ st env a _ env1 st1 hs he h1 fun a1 w1 μ1 hd hs1 he1 ex1 => ?_
      simp only [exOf, Exit.inBlock]
      split at hx
      · rename_i hid
        cases hx
        rw [if_pos hid]
        exact hq a1 w1 μ1 hd hs1 he1 ex1
      · rename_i hid
        cases hx
        rw [if_neg hid]
        exact hq a1 w1 μ1 hd hs1 he1 ex1
    · rename_i hnn
      refine ihp _ w μ st env a x env' st' hs he hx fun a1 w1 μ1 hd hs1 he1 ex1 => ?_
      have := hq a1 w1 μ1 hd hs1 he1 ex1
      cases x with
      | norm => exact this
      | exit id => exact absurd hx (hnn _ _ _)
      | ret => exact this
  | .loop p, k, ht => by
    simp only [trC, Option.bind_eq_bind, Option.bind_eq_some_iff, Option.pure_def, Option.some.injEq] at ht
    obtain ⟨kp, hp, rfl⟩ := ht
    have ihp := code_ok fuel p kp hp
    intro Q w μ st env a x env' st' hs he hx hq
    simp only [evK] at hx
    have key : ∀ (n : Nat) (w : World) (μ : Pls) (st : St) (env : Env) (a : Act), Sim W0 w μ st → EnvR w μ st env a.tmps → evLoop (evK C call fuel kp) n env st = some (x, env', st') →
        (∀ (a' : Act) w' μ', a'.defers = a.defers → Sim W0 w' μ' st' → EnvR w' μ' st' env' a'.tmps → Ext w μ st w' μ' st' → Q (exOf x) a' w') → Code.rounds P p Q n a w := by
      intro n
      induction n with
      | zero => intro w μ st env a hs he hx hq; simp [evLoop] at hx
      | succ n ih =>
        intro w μ st env a hs he hx hq
        rw [rounds_succ]
        simp only [evLoop] at hx
        split at hx
        · rename_i env1 st1 h1
          refine ihp _ w μ st env a _ env1 st1 hs he h1 fun a1 w1 μ1 hd hs1 he1 ex1 => ?_
          exact ih w1 μ1 st1 env1 a1 hs1 he1 hx fun a2 w2 μ2 hd2 s2 e2 ex2 => hq a2 w2 μ2 (hd2.trans hd) s2 e2 (ex1.trans ex2)
        · rename_i hnn
          refine ihp _ w μ st env a x env' st' hs he hx fun a1 w1 μ1 hd hs1 he1 ex1 => ?_
          have := hq a1 w1 μ1 hd hs1 he1 ex1
          cases x with
          | norm => exact absurd hx (hnn _ _)
          | exit id => exact this
          | ret => exact this
    exact wp_loop_rounds fuel (key fuel w μ st env a hs he hx hq)
  | .exit id, k, ht => by
    simp only [trC, Option.some.injEq] at ht; subst ht
    intro Q w μ st env a x env' st' hs he hx hq
    simp only [evK, Option.some.injEq] at hx
    cases hx
    exact wp_exit (hq a w μ rfl hs he (Ext.refl _ _ _))
  | .ret, k, ht => by
    simp only [trC, Option.some.injEq] at ht; subst ht
    intro Q w μ st env a x env' st' hs he hx hq
    simp only [evK, Option.some.injEq] at hx
    cases hx
    exact wp_ret (hq a w μ rfl hs he (Ext.refl _ _ _))
  | .rangeFunc _ _ _ _, k, ht | .scope _, k, ht | .label _, k, ht | .goto _, k, ht | .refuse _, k, ht => by
    simp only [trC, Option.some.injEq] at ht; subst ht
    intro Q w μ st env a x env' st' hs he hx hq
    simp [evK] at hx

end

/-! ### Functions -/

section
variable {P : Program} {C : Ctx} {W0 : World}

/-- What is known of a function that is not walked. -/
def ExtOk (P : Program) (W0 : World) (f : FuncId) (g : List AV → St → Option (AV × St)) : Prop :=
  ∀ xs st x st', g xs st = some (x, st') → ∀ (w : World) (μ : Pls) (vs : Array Value), Sim W0 w μ st → VRs w μ st xs vs.toList →
    ∀ (o : Oper) (a : Act) (next : Act → World → Prop) (Q : Exit → Act → World → Prop),
      (∀ v w' μ', VR w' μ' st' x v → Sim W0 w' μ' st' → Ext w μ st w' μ' st' → next (a.put o.dst v) w') → o.upon P a next Q ((callFunc f vs).run P w)

inductive FnOk (P : Program) (W0 : World) (f : FuncId) : KBody → Prop
  | code {fn : Func} {sh : Bool} {b : KBody} (hf : P.funcs[f]? = some fn) (hb : trF P sh fn = some b) : FnOk P W0 f b
  | ext {g : List AV → St → Option (AV × St)} (h : ExtOk P W0 f g) : FnOk P W0 f (.ext g)

def resOne (tmps : Array Value) : ResultVar → Sem Value
  | .tmp t => pure (tmps.getD t Go.undef)
  | .cell a t => do loadVar t (← asAddr (tmps.getD a Go.undef))

theorem results_eq (fn : Func) (tmps : Array Value) : results fn tmps = (do
    let vs ← fn.results.mapM (resOne tmps)
    pure (if h : vs.size = 1 then vs[0] else .tuple vs)) := rfl

theorem res_ok {w : World} {μ : Pls} {st : St} {env : Env} {tmps : Array Value} (hs : Sim W0 w μ st) (he : EnvR w μ st env tmps) : ∀ (rs : List ResultVar) (ks : List KRes) (xs : List AV), rs.mapM (trRes P) = some ks → evRes env st ks = some xs →
    ∃ us : List Value, (rs.mapM (resOne tmps)).run P w = .ok us w ∧ VRs w μ st xs us
  | [], ks, xs, h1, h2 => by
    simp at h1; subst h1
    simp [evRes] at h2; subst h2
    exact ⟨[], by simp, rfl, by simp⟩
  | r :: rs, ks, xs, h1, h2 => by
    rw [List.mapM_cons] at h1
    simp only [Option.bind_eq_bind, Option.bind_eq_some_iff, Option.pure_def, Option.some.injEq] at h1
    obtain ⟨k, hk, ks', hks, rfl⟩ := h1
    have cons : ∀ {x : AV} {v : Value} {xs' : List AV} {us : List Value}, VR w μ st x v → VRs w μ st xs' us → VRs w μ st (x :: xs') (v :: us) := fun h k => ⟨by simp [k.1], fun i x v hx hv => by
      cases i with
      | zero => simp at hx hv; subst hx; subst hv; exact h
      | succ i => exact k.2 i x v (by simpa using hx) (by simpa using hv)⟩
    cases r with
    | tmp t =>
      simp only [trRes, Option.some.injEq] at hk
      subst hk
      simp only [evRes, Option.map_eq_some_iff] at h2
      obtain ⟨xs', hxs, rfl⟩ := h2
      obtain ⟨us, h3, h4⟩ := res_ok hs he rs ks' xs' hks hxs
      refine ⟨tmps.getD t Go.undef :: us, ?_, cons (he.get t) h4⟩
      rw [List.mapM_cons]
      simp only [resOne, Sem.run_bind, Sem.run_pure, Result.andThen_ok, h3]
    | cell ad t =>
      simp only [trRes, Option.bind_eq_bind, Option.bind_eq_some_iff, Option.pure_def, Option.some.injEq] at hk
      obtain ⟨b, hb, n, hn, rfl⟩ := hk
      simp only [evRes] at h2
      split at h2
      · rename_i cs hcs
        split at h2
        · rename_i v xs' hv hxs
          cases h2
          obtain ⟨us, h3, h4⟩ := res_ok hs he rs ks' xs' hks hxs
          obtain ⟨addr, hadr, _, vs, g1, g2, g3⟩ := rd_ok hs (he.get ad) hcs
          obtain ⟨u, g4, g5⟩ := run_loadVar (P := P) hb hn g1 g2 g3 hv
          refine ⟨u :: us, ?_, cons g5 h4⟩
          rw [List.mapM_cons]
          have hasA : (asAddr (tmps.getD ad Go.undef)).run P w = .ok addr w := by rw [hadr]; rfl
          simp only [resOne, hasA, Sem.run_bind, Sem.run_pure, Result.andThen_ok, g4, h3]
        · cases h2
      · cases h2

theorem oneOf_ok {w : World} {μ : Pls} {st : St} {xs : List AV} {us : List Value} (h : VRs w μ st xs us) :
    VR w μ st (oneOf xs) (if h : us.toArray.size = 1 then us.toArray[0] else .tuple us.toArray) := by
  have tup : us.toArray.size ≠ 1 → VR w μ st (.tup xs) (.tuple us.toArray) := fun _ => .tup (by simpa using h.1) (fun i x v h1 h2 => h.2 i x v h1 (by simpa using h2))
  match xs, us, h with
  | [], [], h => simp only [oneOf]; exact .tup (by simp) (by simp)
  | [x], [u], h => simpa [oneOf] using h.2 0 x u (by simp) (by simp)
  | x :: y :: l, u :: v :: m, h => simp only [oneOf]; rw [dif_neg (by simp)]; exact .tup (by simpa using h.1) (fun i x v h1 h2 => h.2 i x v h1 (by simpa using h2))
  | [], _ :: _, h => have := h.1; simp at this
  | _ :: _, [], h => have := h.1; simp at this
  | [_], _ :: _ :: _, h => have := h.1; simp at this
  | _ :: _ :: _, [_], h => have := h.1; simp at this

theorem evCall_ok (hf : P.follows .mixedOrders = true) (hg : GlobOk C W0) (hC : ∀ f b, C.fns f = some b → FnOk P W0 f b) (fuel : Nat) : ∀ d, CallOk P W0 (evCall C fuel d)
  | 0 => by intro f xs st x st' h; simp [evCall] at h
  | d + 1 => by
    have ih := evCall_ok hf hg hC fuel d
    intro f xs st x st' h w μ vs hs hv o a next Q hn
    simp only [evCall] at h
    split at h
    · rename_i n res shut body hfb
      have hok := hC f _ hfb
      cases hok with
      | code hfn hb =>
        rename_i fn sh
        unfold trF at hb
        split at hb
        · rename_i c hbody
          simp only [Option.bind_eq_bind, Option.bind_eq_some_iff, Option.pure_def, Option.some.injEq, guard_some] at hb
          obtain ⟨_, hname, ks, hres, kc, hkc, hb⟩ := hb
          cases hb
          have hcall : (callFunc f vs).run P w = .ok (.enter f vs) w := by
            have hn2 : (fn.name == "runtime.NumGoroutine") = false := by simpa [bne] using hname
            simp only [callFunc, Sem.run_bind, run_program, Result.andThen_ok, hfn, hn2, Bool.false_eq_true, if_false, hbody, Option.isNone_some, Sem.run_pure]
          rw [hcall, Oper.upon_enter]
          have henv : EnvR w μ st (xs ++ List.replicate (fn.ntmps - xs.length) undefA) (vs ++ Array.replicate (fn.ntmps - vs.size) Go.undef) := by
            have hl : xs.length = vs.size := by simpa using hv.1
            refine ⟨by simp [hl], fun i y u hy hu => ?_⟩
            rcases Nat.lt_or_ge i xs.length with hlt | hge
            · rw [List.getElem?_append_left hlt] at hy
              rw [Array.getElem?_append_left (by omega)] at hu
              exact hv.2 i y u hy (by simpa using hu)
            · rw [List.getElem?_append_right hge] at hy
              rw [Array.getElem?_append_right (by omega)] at hu
              have h1 := List.mem_of_getElem? hy
              have h2 := Array.mem_of_getElem? hu
              rw [List.eq_of_mem_replicate h1, (Array.mem_replicate.1 h2).2]
              exact .undef
          -- the body
          have hbodyOk := code_ok hf hg ih fuel c body hkc
          have fin : ∀ (ex : Ex) (env' : Env) (st1 : St), (ex = .norm ∨ ex = .ret) → evK C (evCall C fuel d) fuel body (xs ++ List.replicate (fn.ntmps - xs.length) undefA) st = some (ex, env', st1) →
              (match evRes env' st1 res with
               | some vs => some (leave st.length shut (oneOf vs) st1)
               | none => none) = some (x, st') → Calls P f vs w fun
                | .returned v, w'' => next (a.put o.dst v) w''
                | .panicked chain, w'' => Q (.panic chain) a w''
                | .outgrown, _ => LetsOut Q := by
            intro ex env' st1 hex hev hres2
            split at hres2
            · rename_i ys hys
              simp only [Option.some.injEq] at hres2
              refine calls_of_wp hfn hbody (hbodyOk _ w μ st _ ⟨vs ++ Array.replicate (fn.ntmps - vs.size) Go.undef, []⟩ ex env' st1 hs henv hev fun a' w' μ' hd hs' he' hext => ?_)
              obtain ⟨us, hus, hvr⟩ := res_ok (P := P) hs' he' fn.results.toList res ys hres hys
              have hrun : (results fn a'.tmps).run P w' = .ok (if h : us.toArray.size = 1 then us.toArray[0] else .tuple us.toArray) w' := by
                rw [results_eq]
                simp only [Sem.run_bind]
                rw [Array.mapM_eq_mapM_toList]
                simp only [Sem.run_map, hus, Result.andThen_ok, Sem.run_pure]
              obtain ⟨μ2, l1, l2, l3⟩ := leave_ok hs' hext (sh := shut) (oneOf_ok hvr)
              rw [hres2] at l1 l2 l3
              have hpost : a'.defers = [] ∧ ∃ v, (results fn a'.tmps).run P w' = .ok v w' ∧ next (a.put o.dst v) w' := ⟨hd, _, hrun, hn _ w' μ2 l3 l1 l2⟩
              rcases hex with rfl | rfl
              · exact hpost
              · exact hpost
            · cases hres2
          split at h
          · rename_i env' st1 hev
            exact fin _ env' st1 (.inl rfl) hev h
          · rename_i env' st1 hev
            exact fin _ env' st1 (.inr rfl) hev h
          · cases h
        · cases hb
    · rename_i g hfb
      have hok := hC f _ hfb
      cases hok with
      | code hfn hb =>
        exfalso
        unfold trF at hb
        split at hb
        · simp only [Option.bind_eq_bind, Option.bind_eq_some_iff, Option.pure_def, Option.some.injEq, guard_some] at hb
          obtain ⟨_, _, _, _, _, _, hb⟩ := hb
          cases hb
        · cases hb
      | ext hx => exact hx xs st x st' h w μ vs hs hv o a next Q hn
    · cases h

end
end Go.Eng

set_option linter.unusedSimpArgs false
set_option linter.unusedVariables false
namespace Go.Eng
open Go

/-- How a program is evaluated: some functions by what is known of them, all others by their code. -/
def ctxOf (P : Program) (exts : Nat → Option (List AV → St → Option (AV × St))) (shut : Nat → Bool) (glob : Nat → Option (List AV)) : Ctx where
  fns f := match exts f with
    | some g => some (.ext g)
    | none => (P.funcs[f]?).bind (trF P (shut f))
  glob := glob

section
variable {P : Program} {W0 : World}

theorem ctxOf_ok {exts : Nat → Option (List AV → St → Option (AV × St))} {shut : Nat → Bool} {glob : Nat → Option (List AV)} (h : ∀ f g, exts f = some g → ExtOk P W0 f g) : ∀ f b, (ctxOf P exts shut glob).fns f = some b → FnOk P W0 f b := by
  intro f b hb
  simp only [ctxOf] at hb
  split at hb
  · rename_i g hg
    cases hb
    exact .ext (h f g hg)
  · simp only [Option.bind_eq_some_iff] at hb
    obtain ⟨fn, hfn, hb⟩ := hb
    exact .code hfn hb

theorem run_extern {f : FuncId} {fn : Func} (hf : P.funcs[f]? = some fn) (hname : (fn.name == "runtime.NumGoroutine") = false) (hb : fn.body.isNone = true) (hn : Extern.findNext fn = none) {e : Array Value → Sem Value} (he : Extern.find fn = some e) (vs : Array Value) (w : World) :
    (callFunc f vs).run P w = ((e vs).run P w).andThen fun v w' => .ok (.value v) w' := by
  have hb' : fn.body = none := by cases h : fn.body <;> simp [h] at hb ⊢
  simp only [callFunc, Sem.run_bind, run_program, Result.andThen_ok, hf, hname, Bool.false_eq_true, if_false, hb', Option.isNone_none, if_true, hn, he]
  simp

/-- An entry's answer, as an evaluator of calls wants it. -/
theorem ext_of {f : FuncId} {fn : Func} (hf : P.funcs[f]? = some fn) (hname : (fn.name == "runtime.NumGoroutine") = false) (hb : fn.body.isNone = true) (hn : Extern.findNext fn = none) {e : Array Value → Sem Value} (he : Extern.find fn = some e)
    {g : List AV → St → Option (AV × St)}
    (h : ∀ xs st x st', g xs st = some (x, st') → ∀ (w : World) (μ : Pls) (vs : Array Value), Sim W0 w μ st → VRs w μ st xs vs.toList → ∃ v w' μ', (e vs).run P w = .ok v w' ∧ VR w' μ' st' x v ∧ Sim W0 w' μ' st' ∧ Ext w μ st w' μ' st') : ExtOk P W0 f g := by
  intro xs st x st' hx w μ vs hs hv o a next Q hq
  obtain ⟨v, w', μ', h1, h2, h3, h4⟩ := h xs st x st' hx w μ vs hs hv
  rw [run_extern hf hname hb hn he, h1, Result.andThen_ok, Oper.upon_value]
  exact hq v w' μ' h2 h3 h4

theorem vs_one {w : World} {μ : Pls} {st : St} {x : AV} {vs : Array Value} (h : VRs w μ st [x] vs.toList) : ∃ v, vs = #[v] ∧ VR w μ st x v := by
  obtain ⟨h1, h2⟩ := h
  match hvs : vs.toList, h1 with
  | [v], _ =>
    refine ⟨v, by apply Array.ext'; simp [hvs], ?_⟩
    rw [hvs] at h2
    exact h2 0 x v (by simp) (by simp)

theorem vs_two {w : World} {μ : Pls} {st : St} {x y : AV} {vs : Array Value} (h : VRs w μ st [x, y] vs.toList) : ∃ u v, vs = #[u, v] ∧ VR w μ st x u ∧ VR w μ st y v := by
  obtain ⟨h1, h2⟩ := h
  match hvs : vs.toList, h1 with
  | [u, v], _ =>
    refine ⟨u, v, by apply Array.ext'; simp [hvs], ?_⟩
    rw [hvs] at h2
    exact ⟨h2 0 x u (by simp) (by simp), h2 1 y v (by simp) (by simp)⟩

theorem noEscape_ok {f : FuncId} {fn : Func} (hf : P.funcs[f]? = some fn) (hname : (fn.name == "runtime.NumGoroutine") = false) (hb : fn.body.isNone = true) (hn : Extern.findNext fn = none) (he : Extern.find fn = some Extern.AbiNoEscape.same) : ExtOk P W0 f xNoEscape :=
  ext_of hf hname hb hn he fun xs st x st' h w μ vs hs hv => by
    unfold xNoEscape at h
    split at h
    · cases h
      obtain ⟨v, rfl, hr⟩ := vs_one hv
      exact ⟨v, w, μ, Lib.run_noEscape w v, hr, hs, Ext.refl _ _ _⟩
    · cases h

theorem mapsClone_ok {f : FuncId} {fn : Func} (hf : P.funcs[f]? = some fn) (hname : (fn.name == "runtime.NumGoroutine") = false) (hb : fn.body.isNone = true) (hn : Extern.findNext fn = none) (he : Extern.find fn = some Extern.MapsClone.clone) : ExtOk P W0 f xMapsClone :=
  ext_of hf hname hb hn he fun xs st x st' h w μ vs hs hv => by
    unfold xMapsClone at h
    split at h
    · rename_i t r
      split at h
      · rename_i es hh hr
        cases h
        obtain ⟨v, rfl, hv1⟩ := vs_one hv
        cases hv1 with
        | iface hvm =>
          obtain ⟨p, rfl, hp, ents, clk, hb, hg, hl, he2⟩ := map_at (P := P) hs hr hvm
          have q := Quiet.alloc w (.map ents clk)
          have e := hs.alloc_ext q (B := w.heap.size) (Nat.le_refl _) (.map es hh)
          have h4 : (st ++ [Row.map es hh])[st.length]? = some (.map es hh) := by simp
          refine ⟨.iface t (.map (some w.heap.size)), _, _, ?_, .iface (.map ⟨_, h4, rfl, Nat.zero_le _⟩ fun _ => ⟨⟨w.heap.size, 0⟩, by rw [← hs.len]; simp, rfl⟩), hs.alloc q (Nat.le_refl _) (hs.top r _ hr) ⟨ents, clk, heap_new _ _, hl, fun i k v e' hk hee => ?_⟩, e⟩
          · have hdef : Extern.MapsClone.clone #[.iface t (.map (some p.blk))] = (do
                let .map entries clock ← getObj p.blk | stuck "maps.clone: a map expected"
                pure (.iface t (.map (some (← newObj (.map entries clock)))))) := rfl
            rw [hdef]
            simp only [Sem.run_bind, hg, Result.andThen_ok, run_newObj, World.alloc_eq, Sem.run_pure]
          · exact ⟨(he2 i k v e' hk hee).1.ext e, (he2 i k v e' hk hee).2.ext e⟩
      · cases h
    · cases h

theorem indexByteA_eq (c : UInt8) : ∀ (s : List UInt8) (i : Nat), indexByteA c s i = if Lib.indexByte s c = -1 then -1 else Lib.indexByte s c + i
  | [], i => by simp [indexByteA, Lib.indexByte]
  | b :: l, i => by
    have ih := indexByteA_eq c l (i + 1)
    have hge := Lib.indexByte_ge l c
    simp only [indexByteA, Lib.indexByte]
    by_cases hb : (b == c) = true
    · simp [hb]
    · simp only [hb, if_false, Bool.false_eq_true, beq_iff_eq]
      rw [ih]
      by_cases h1 : Lib.indexByte l c = -1
      · simp [h1]
      · simp only [h1, if_false]
        rw [if_neg (by omega)]
        omega

theorem indexByte_ok {f : FuncId} {fn : Func} (hf : P.funcs[f]? = some fn) (hname : (fn.name == "runtime.NumGoroutine") = false) (hb : fn.body.isNone = true) (hn : Extern.findNext fn = none) (he : Extern.find fn = some Extern.BytealgIndexByte.indexByte) : ExtOk P W0 f xIndexByte :=
  ext_of hf hname hb hn he fun xs st x st' h w μ vs hs hv => by
    unfold xIndexByte at h
    split at h
    · rename_i s c
      cases h
      obtain ⟨u, v, rfl, hu, hv1⟩ := vs_two hv
      have := hu.str_inv; subst this
      have := hv1.int_inv; subst this
      refine ⟨_, w, μ, Lib.run_indexByteString _ _ _, ?_, hs, Ext.refl _ _ _⟩
      have : indexByteA c.toNat.toUInt8 s 0 = Lib.indexByte s c.toNat.toUInt8 := by
        rw [indexByteA_eq]; split
        · rename_i h; exact h.symm
        · simp
      rw [this]
      exact .int _ _
    · cases h

theorem count_ok {f : FuncId} {fn : Func} (hf : P.funcs[f]? = some fn) (hname : (fn.name == "runtime.NumGoroutine") = false) (hb : fn.body.isNone = true) (hn : Extern.findNext fn = none) (he : Extern.find fn = some Extern.BytealgCount.count) : ExtOk P W0 f xCount :=
  ext_of hf hname hb hn he fun xs st x st' h w μ vs hs hv => by
    unfold xCount at h
    split at h
    · rename_i s c
      cases h
      obtain ⟨u, v, rfl, hu, hv1⟩ := vs_two hv
      have := hu.str_inv; subst this
      have := hv1.int_inv; subst this
      exact ⟨_, w, μ, Lib.run_countString _ _ _, .int _ _, hs, Ext.refl _ _ _⟩
    · cases h

theorem makeNoZero_ok {f : FuncId} {fn : Func} {t e : TypeId} (hf : P.funcs[f]? = some fn) (hname : (fn.name == "runtime.NumGoroutine") = false) (hb : fn.body.isNone = true) (hn : Extern.findNext fn = none) {ps : Array TypeId} (he : Extern.find fn = some (Extern.BytealgMakeNoZero.makeNoZero ps #[t])) (hu : P.underlying t = some (.slice e)) : ExtOk P W0 f (xMakeNoZero e) :=
  ext_of hf hname hb hn he fun xs st x st' h w μ vs hs hv => by
    unfold xMakeNoZero at h
    split at h
    · rename_i n
      split at h
      · rename_i hc
        cases h
        obtain ⟨v, rfl, hv1⟩ := vs_one hv
        have := hv1.int_inv; subst this
        obtain ⟨m, rfl⟩ : ∃ m : Nat, n = m := ⟨n.toNat, by omega⟩
        have hsm : m ≤ 281474976710656 := by have := hc.2; unfold small at this; simp at this; omega
        obtain ⟨cs, h1, h2, _⟩ := Lib.run_makeNoZero (P := P) w ps t e hu m hsm
        have q : Quiet w w.drew.drew := (Quiet.drew w).trans (Quiet.drew _)
        obtain ⟨s1, e1⟩ := hs.newRow q (cs := List.replicate m .any) (c := cs) (ty := e) (hi := 0) (by simpa using h2) (fun i x hi => by
          have hx := List.eq_of_mem_replicate (List.mem_of_getElem? hi)
          have hlt : i < cs.size := by have := (List.getElem?_eq_some_iff.1 hi).1; simp at this; omega
          exact ⟨cs[i], by simp [hlt], by rw [hx]; exact .any _⟩) (his_le fun i c hi => by
          rw [List.eq_of_mem_replicate (List.mem_of_getElem? hi)]; simp [AV.hi])
        simp only [Int.toNat_natCast] at *
        exact ⟨_, _, _, h1, VR.newSlc hs _ w.heap.size _ rfl rfl (Nat.le_refl _) h2 (by simp) (ty := e) (n := cs.size) (shape_new w.drew.drew cs e) (by omega), s1, e1⟩
      · cases h
    · cases h

end
end Go.Eng

set_option linter.unusedSimpArgs false
set_option linter.unusedVariables false
namespace Go.Eng
open Go

def CallLe (c c' : CallF) : Prop := ∀ f args st r, c f args st = some r → c' f args st = some r

theorem CallLe.refl (c : CallF) : CallLe c c := fun _ _ _ _ h => h

section
variable {C : Ctx} {call call' : CallF}

theorem evOp_mono (h : CallLe call call') {o : KO} {env : Env} {st : St} {r : AV × St} (hr : evOp C call o env st = some r) : evOp C call' o env st = some r := by
  cases o with
  | call f args =>
    simp only [evOp] at hr ⊢
    split at hr
    · exact h _ _ _ _ hr
    · cases hr
  | _ => exact hr

theorem evStep_mono (h : CallLe call call') {o : KOp} {env : Env} {st : St} {r : AV × St} (hr : evStep C call o env st = some r) : evStep C call' o env st = some r := by
  unfold evStep at hr ⊢
  split at hr
  · exact evOp_mono h hr
  · exact hr
  · cases hr

theorem evOps_mono (h : CallLe call call') : ∀ (l : List KOp) (env : Env) (st : St) {r : Env × St}, evOps C call l env st = some r → evOps C call' l env st = some r
  | [], _, _, _, hr => hr
  | o :: l, env, st, r, hr => by
    simp only [evOps] at hr ⊢
    split at hr
    · rename_i v st' hv
      rw [evStep_mono h hv]
      exact evOps_mono h l _ _ hr
    · cases hr

theorem evHist_mono (h : CallLe call call') : ∀ (l : List KOp) (env : Env) (st : St) (hh : List St) {r : Env × St × List St}, evHist C call l env st hh = some r → evHist C call' l env st hh = some r
  | [], _, _, _, _, hr => hr
  | o :: l, env, st, hh, r, hr => by
    simp only [evHist] at hr ⊢
    split at hr
    · rename_i v st' hv
      rw [evStep_mono h hv]
      simp only
      split at hr
      · rename_i he
        rw [if_pos he]
        exact evHist_mono h l _ _ _ hr
      · rename_i he
        rw [if_neg he]
        split at hr
        · rename_i hq
          rw [if_pos hq]
          exact evHist_mono h l _ _ _ hr
        · cases hr
    · cases hr

theorem evDraw_mono (h : CallLe call call') {l : List KOp} {env : Env} {st : St} {r : Env × St} (hr : evDraw C call l env st = some r) : evDraw C call' l env st = some r := by
  unfold evDraw at hr ⊢
  split at hr
  · rename_i env' st' hh hv
    rw [evHist_mono h l _ _ _ hv]
    exact hr
  · cases hr

theorem evLoop_mono {body body' : Env → St → Option (Ex × Env × St)} (hb : ∀ env st r, body env st = some r → body' env st = some r) : ∀ {n m : Nat}, n ≤ m → ∀ {env : Env} {st : St} {r : Ex × Env × St}, evLoop body n env st = some r → evLoop body' m env st = some r
  | 0, _, _, _, _, _, hr => by cases hr
  | n + 1, m, hm, env, st, r, hr => by
    obtain ⟨m, rfl⟩ : ∃ k, m = k + 1 := ⟨m - 1, by omega⟩
    simp only [evLoop] at hr ⊢
    cases hv : body env st with
    | none => rw [hv] at hr; cases hr
    | some p =>
      obtain ⟨x, env', st'⟩ := p
      rw [hv] at hr
      rw [hb _ _ _ hv]
      cases x with
      | norm => exact evLoop_mono hb (by omega) hr
      | _ => exact hr

theorem evK_mono (h : CallLe call call') {n m : Nat} (hm : n ≤ m) : ∀ (k : K) {env : Env} {st : St} {r : Ex × Env × St}, evK C call n k env st = some r → evK C call' m k env st = some r
  | .skip, _, _, _, hr => hr
  | .reg d ops, env, st, r, hr => by
    simp only [evK, Option.map_eq_some_iff] at hr ⊢
    obtain ⟨p, hp, rfl⟩ := hr
    refine ⟨p, ?_, rfl⟩
    cases d with
    | true => exact evDraw_mono h hp
    | false => exact evOps_mono h _ _ _ hp
  | .seq a b, env, st, r, hr => by
    simp only [evK] at hr ⊢
    cases hv : evK C call n a env st with
    | none => rw [hv] at hr; cases hr
    | some p =>
      obtain ⟨x, env', st'⟩ := p
      rw [hv] at hr
      rw [evK_mono h hm a hv]
      cases x with
      | norm => exact evK_mono h hm b hr
      | _ => exact hr
  | .cond c a b, env, st, r, hr => by
    simp only [evK] at hr ⊢
    split at hr
    · rename_i t ht
      split at hr
      · rename_i h2
        simp only [h2, if_true] at *
        exact evK_mono h hm a hr
      · rename_i h2
        simp only [h2, if_false] at *
        exact evK_mono h hm b hr
    · cases hr
  | .block id c, env, st, r, hr => by
    simp only [evK] at hr ⊢
    cases hv : evK C call n c env st with
    | none => rw [hv] at hr; cases hr
    | some p => rw [hv] at hr; rw [evK_mono h hm c hv]; exact hr
  | .loop c, env, st, r, hr => by
    simp only [evK] at hr ⊢
    exact evLoop_mono (fun env st r h2 => evK_mono h hm c h2) hm hr
  | .exit id, _, _, _, hr => hr
  | .ret, _, _, _, hr => hr
  | .no, _, _, _, hr => hr

theorem evCall_mono {n m : Nat} (hm : n ≤ m) : ∀ {d e : Nat}, d ≤ e → CallLe (evCall C n d) (evCall C m e)
  | 0, _, _ => fun _ _ _ _ h => by cases h
  | d + 1, e, he => fun f args st r hr => by
    obtain ⟨e, rfl⟩ : ∃ k, e = k + 1 := ⟨e - 1, by omega⟩
    have ih : CallLe (evCall C n d) (evCall C m e) := evCall_mono hm (by omega)
    simp only [evCall] at hr ⊢
    split at hr
    · split at hr
      · rename_i hv
        rw [evK_mono ih hm _ hv]; exact hr
      · rename_i hv
        rw [evK_mono ih hm _ hv]; exact hr
      · cases hr
    · exact hr
    · cases hr

end

/-! ### The limit -/

open Classical in
noncomputable def lim {β : Type} (f : Nat → Option β) : Option β :=
  if h : ∃ r n, f n = some r then some h.choose else none

theorem lim_some {β : Type} {f : Nat → Option β} (mono : ∀ n m r, n ≤ m → f n = some r → f m = some r) {r : β} : lim f = some r ↔ ∃ n, f n = some r := by
  unfold lim
  constructor
  · intro h
    split at h
    · rename_i h2
      cases h
      exact h2.choose_spec
    · cases h
  · rintro ⟨n, hn⟩
    have h2 : ∃ r n, f n = some r := ⟨r, n, hn⟩
    rw [dif_pos h2]
    obtain ⟨m, hm⟩ := h2.choose_spec
    have a := mono n (max n m) _ (Nat.le_max_left _ _) hn
    have b := mono m (max n m) _ (Nat.le_max_right _ _) hm
    rw [a] at b
    exact b.symm

section
variable (C : Ctx)

def callN (n : Nat) : CallF := evCall C n n

noncomputable def callW : CallF := fun f args st => lim fun n => callN C n f args st

noncomputable def evW (k : K) (env : Env) (st : St) : Option (Ex × Env × St) := lim fun n => evK C (callN C n) n k env st

variable {C}

theorem callN_mono {n m : Nat} (h : n ≤ m) : CallLe (callN C n) (callN C m) := evCall_mono h h

theorem callW_some {f : Nat} {args : List AV} {st : St} {r : AV × St} : callW C f args st = some r ↔ ∃ n, callN C n f args st = some r :=
  lim_some fun n m r h hr => callN_mono h _ _ _ _ hr

theorem evW_some {k : K} {env : Env} {st : St} {r : Ex × Env × St} : evW C k env st = some r ↔ ∃ n, evK C (callN C n) n k env st = some r :=
  lim_some fun n m r h hr => evK_mono (callN_mono h) h _ hr

theorem callN_le (n : Nat) : CallLe (callN C n) (callW C) := fun f args st r h => callW_some.2 ⟨n, h⟩

/-- What is evaluated within some bounds is evaluated without. -/
theorem callW_of {fuel d f : Nat} {args : List AV} {st : St} {r : AV × St} (h : evCall C fuel d f args st = some r) : callW C f args st = some r :=
  callW_some.2 ⟨max fuel d, evCall_mono (Nat.le_max_left _ _) (Nat.le_max_right _ _) _ _ _ _ h⟩

theorem callW_ex {f : Nat} {args : List AV} {st : St} {r : AV × St} (h : callW C f args st = some r) : ∃ n, evCall C n n f args st = some r := callW_some.1 h

theorem evOp_cont {o : KO} {env : Env} {st : St} {r : AV × St} (h : evOp C (callW C) o env st = some r) : ∃ n, evOp C (callN C n) o env st = some r := by
  cases o with
  | call f args =>
    unfold evOp at h
    simp only at h
    split at h
    · rename_i h1 h2
      obtain ⟨n, hn⟩ := callW_some.1 h
      exact ⟨n, by unfold evOp; simp only [h1, h2]; exact hn⟩
    · cases h
  | _ => exact ⟨0, h⟩

theorem evStep_cont {o : KOp} {env : Env} {st : St} {r : AV × St} (h : evStep C (callW C) o env st = some r) : ∃ n, evStep C (callN C n) o env st = some r := by
  unfold evStep at h ⊢
  split at h
  · exact evOp_cont h
  · exact ⟨0, h⟩
  · cases h

theorem evOps_cont : ∀ (l : List KOp) (env : Env) (st : St) {r : Env × St}, evOps C (callW C) l env st = some r → ∃ n, evOps C (callN C n) l env st = some r
  | [], _, _, _, hr => ⟨0, hr⟩
  | o :: l, env, st, r, hr => by
    simp only [evOps] at hr
    split at hr
    · rename_i v st' hv
      obtain ⟨n, hn⟩ := evStep_cont hv
      obtain ⟨m, hm⟩ := evOps_cont l _ _ hr
      refine ⟨max n m, ?_⟩
      simp only [evOps, evStep_mono (callN_mono (Nat.le_max_left n m)) hn]
      exact evOps_mono (callN_mono (Nat.le_max_right n m)) _ _ _ hm
    · cases hr

theorem evHist_cont : ∀ (l : List KOp) (env : Env) (st : St) (hh : List St) {r : Env × St × List St}, evHist C (callW C) l env st hh = some r → ∃ n, evHist C (callN C n) l env st hh = some r
  | [], _, _, _, _, hr => ⟨0, hr⟩
  | o :: l, env, st, hh, r, hr => by
    simp only [evHist] at hr
    split at hr
    · rename_i v st' hv
      obtain ⟨n, hn⟩ := evStep_cont hv
      split at hr
      · rename_i he
        obtain ⟨m, hm⟩ := evHist_cont l _ _ _ hr
        refine ⟨max n m, ?_⟩
        simp only [evHist, evStep_mono (callN_mono (Nat.le_max_left n m)) hn]
        rw [if_pos he]
        exact evHist_mono (callN_mono (Nat.le_max_right n m)) _ _ _ _ hm
      · rename_i he
        split at hr
        · rename_i hq
          obtain ⟨m, hm⟩ := evHist_cont l _ _ _ hr
          refine ⟨max n m, ?_⟩
          simp only [evHist, evStep_mono (callN_mono (Nat.le_max_left n m)) hn]
          rw [if_neg he, if_pos hq]
          exact evHist_mono (callN_mono (Nat.le_max_right n m)) _ _ _ _ hm
        · cases hr
    · cases hr

theorem evDraw_cont {l : List KOp} {env : Env} {st : St} {r : Env × St} (hr : evDraw C (callW C) l env st = some r) : ∃ n, evDraw C (callN C n) l env st = some r := by
  unfold evDraw at hr ⊢
  split at hr
  · rename_i env' st' hh hv
    obtain ⟨n, hn⟩ := evHist_cont _ _ _ _ hv
    refine ⟨n, ?_⟩
    rw [hn]
    exact hr
  · cases hr

/-! ### The equations -/

theorem evW_skip (env : Env) (st : St) : evW C .skip env st = some (.norm, env, st) := evW_some.2 ⟨0, rfl⟩
theorem evW_exit (id : Nat) (env : Env) (st : St) : evW C (.exit id) env st = some (.exit id, env, st) := evW_some.2 ⟨0, rfl⟩
theorem evW_ret (env : Env) (st : St) : evW C .ret env st = some (.ret, env, st) := evW_some.2 ⟨0, rfl⟩

theorem evW_reg (d : Bool) (ops : List KOp) (env : Env) (st : St) :
    evW C (.reg d ops) env st = (if d then evDraw C (callW C) ops env st else evOps C (callW C) ops env st).map fun p => (.norm, p.1, p.2) := by
  apply Option.ext
  intro r
  rw [evW_some]
  constructor
  · rintro ⟨n, hn⟩
    simp only [evK, Option.map_eq_some_iff] at hn ⊢
    obtain ⟨p, hp, rfl⟩ := hn
    refine ⟨p, ?_, rfl⟩
    cases d with
    | true => exact evDraw_mono (callN_le n) hp
    | false => exact evOps_mono (callN_le n) _ _ _ hp
  · intro h
    simp only [Option.map_eq_some_iff] at h
    obtain ⟨p, hp, rfl⟩ := h
    cases d with
    | true =>
      obtain ⟨n, hn⟩ := evDraw_cont hp
      exact ⟨n, by simp only [evK, if_true, hn, Option.map_some]⟩
    | false =>
      obtain ⟨n, hn⟩ := evOps_cont _ _ _ hp
      exact ⟨n, by simp only [evK, Bool.false_eq_true, if_false, hn, Option.map_some]⟩

theorem evW_seq (a b : K) (env : Env) (st : St) :
    evW C (.seq a b) env st = match evW C a env st with
      | some (.norm, env', st') => evW C b env' st'
      | r => r := by
  apply Option.ext
  intro r
  rw [evW_some]
  constructor
  · rintro ⟨n, hn⟩
    simp only [evK] at hn
    cases hv : evK C (callN C n) n a env st with
    | none => rw [hv] at hn; cases hn
    | some p =>
      obtain ⟨x, env', st'⟩ := p
      rw [hv] at hn
      rw [evW_some.2 ⟨n, hv⟩]
      cases x with
      | norm => exact evW_some.2 ⟨n, hn⟩
      | _ => exact hn
  · intro h
    cases hv : evW C a env st with
    | none => rw [hv] at h; cases h
    | some p =>
      obtain ⟨x, env', st'⟩ := p
      rw [hv] at h
      obtain ⟨n, hn⟩ := evW_some.1 hv
      cases x with
      | norm =>
        obtain ⟨m, hm⟩ := evW_some.1 h
        refine ⟨max n m, ?_⟩
        simp only [evK, evK_mono (callN_mono (Nat.le_max_left n m)) (Nat.le_max_left n m) _ hn]
        exact evK_mono (callN_mono (Nat.le_max_right n m)) (Nat.le_max_right n m) _ hm
      | exit id => exact ⟨n, by simp only [evK, hn]; exact h⟩
      | ret => exact ⟨n, by simp only [evK, hn]; exact h⟩

theorem evW_cond (c : X) (a b : K) (env : Env) (st : St) :
    evW C (.cond c a b) env st = match c.ev C env with
      | some (.bool t) => if t then evW C a env st else evW C b env st
      | _ => none := by
  apply Option.ext
  intro r
  rw [evW_some]
  simp only [evK]
  constructor
  · rintro ⟨n, hn⟩
    split at hn
    · rename_i t ht
      simp only [ht]
      cases t with
      | true => exact evW_some.2 ⟨n, hn⟩
      | false => exact evW_some.2 ⟨n, hn⟩
    · cases hn
  · intro h
    split at h
    · rename_i t ht
      simp only [ht]
      cases t with
      | true => exact evW_some.1 h
      | false => exact evW_some.1 h
    · cases h

theorem evW_block (id : Nat) (c : K) (env : Env) (st : St) :
    evW C (.block id c) env st = match evW C c env st with
      | some (.exit id', env', st') => if id' = id then some (.norm, env', st') else some (.exit id', env', st')
      | r => r := by
  apply Option.ext
  intro r
  rw [evW_some]
  constructor
  · rintro ⟨n, hn⟩
    simp only [evK] at hn
    cases hv : evK C (callN C n) n c env st with
    | none => rw [hv] at hn; cases hn
    | some p => rw [hv] at hn; rw [evW_some.2 ⟨n, hv⟩]; exact hn
  · intro h
    cases hv : evW C c env st with
    | none => rw [hv] at h; cases h
    | some p =>
      rw [hv] at h
      obtain ⟨n, hn⟩ := evW_some.1 hv
      exact ⟨n, by simp only [evK, hn]; exact h⟩

theorem evW_loop (c : K) (env : Env) (st : St) :
    evW C (.loop c) env st = match evW C c env st with
      | some (.norm, env', st') => evW C (.loop c) env' st'
      | r => r := by
  apply Option.ext
  intro r
  rw [evW_some]
  constructor
  · rintro ⟨n, hn⟩
    simp only [evK] at hn
    cases n with
    | zero => cases hn
    | succ n =>
      simp only [evLoop] at hn
      cases hv : evK C (callN C (n + 1)) (n + 1) c env st with
      | none => rw [hv] at hn; cases hn
      | some p =>
        obtain ⟨x, env', st'⟩ := p
        rw [hv] at hn
        rw [evW_some.2 ⟨n + 1, hv⟩]
        cases x with
        | norm =>
          refine evW_some.2 ⟨n + 1, ?_⟩
          simp only [evK]
          exact evLoop_mono (fun _ _ _ h => h) (Nat.le_succ n) hn
        | _ => exact hn
  · intro h
    cases hv : evW C c env st with
    | none => rw [hv] at h; cases h
    | some p =>
      obtain ⟨x, env', st'⟩ := p
      rw [hv] at h
      obtain ⟨n, hn⟩ := evW_some.1 hv
      cases x with
      | norm =>
        obtain ⟨m, hm⟩ := evW_some.1 h
        refine ⟨max n m + 1, ?_⟩
        have h1 : n ≤ max n m + 1 := by omega
        have h2 : m ≤ max n m + 1 := by omega
        simp only [evK] at hm ⊢
        simp only [evLoop, evK_mono (callN_mono h1) h1 _ hn]
        exact evLoop_mono (fun _ _ _ h => evK_mono (callN_mono h2) h2 _ h) (by omega) hm
      | exit id =>
        refine ⟨n + 1, ?_⟩
        simp only [evK, evLoop, evK_mono (callN_mono (Nat.le_succ n)) (Nat.le_succ n) _ hn]; exact h
      | ret =>
        refine ⟨n + 1, ?_⟩
        simp only [evK, evLoop, evK_mono (callN_mono (Nat.le_succ n)) (Nat.le_succ n) _ hn]; exact h

theorem callW_code {f n : Nat} {res : List KRes} {shut : Bool} {body : K} (hf : C.fns f = some (.code n res shut body)) (args : List AV) (st : St) :
    callW C f args st = match evW C body (args ++ List.replicate (n - args.length) undefA) st with
      | some (.norm, env', st') | some (.ret, env', st') =>
        match evRes env' st' res with
        | some vs => some (leave st.length shut (oneOf vs) st')
        | none => none
      | _ => none := by
  apply Option.ext
  intro r
  rw [callW_some]
  constructor
  · rintro ⟨m, hm⟩
    unfold callN at hm
    cases m with
    | zero => cases hm
    | succ m =>
      simp only [evCall, hf] at hm
      split at hm
      · rename_i env' st' hv
        rw [evW_some.2 ⟨m + 1, evK_mono (evCall_mono (Nat.le_refl _) (Nat.le_succ m)) (Nat.le_refl _) _ hv⟩]
        exact hm
      · rename_i env' st' hv
        rw [evW_some.2 ⟨m + 1, evK_mono (evCall_mono (Nat.le_refl _) (Nat.le_succ m)) (Nat.le_refl _) _ hv⟩]
        exact hm
      · cases hm
  · intro h
    split at h
    · rename_i env' st' hv
      obtain ⟨m, hm⟩ := evW_some.1 hv
      refine ⟨m + 1, ?_⟩
      unfold callN
      simp only [evCall, hf, evK_mono (call' := evCall C (m + 1) m) (evCall_mono (Nat.le_succ m) (Nat.le_refl m)) (Nat.le_succ m) _ hm]
      exact h
    · rename_i env' st' hv
      obtain ⟨m, hm⟩ := evW_some.1 hv
      refine ⟨m + 1, ?_⟩
      unfold callN
      simp only [evCall, hf, evK_mono (call' := evCall C (m + 1) m) (evCall_mono (Nat.le_succ m) (Nat.le_refl m)) (Nat.le_succ m) _ hm]
      exact h
    · cases h

theorem callW_ext {f : Nat} {g : List AV → List Row → Option (AV × List Row)} (hf : C.fns f = some (.ext g)) (args : List AV) (st : St) : callW C f args st = g args st := by
  apply Option.ext
  intro r
  rw [callW_some]
  constructor
  · rintro ⟨m, hm⟩
    unfold callN at hm
    cases m with
    | zero => cases hm
    | succ m => simp only [evCall, hf] at hm; exact hm
  · intro h
    exact ⟨1, by unfold callN; simp only [evCall, hf]; exact h⟩

end
end Go.Eng

set_option linter.unusedSimpArgs false
set_option linter.unusedVariables false
namespace Go.Eng
open Go

section
variable {P : Program} {C : Ctx} {W : World}

theorem Sim.start (W : World) : Sim W W [] [] :=
  ⟨rfl, RowKit.Below.refl _ _, by simp, by simp, by simp, by simp⟩

theorem run_call {f : FuncId} {fn : Func} (hfn : P.funcs[f]? = some fn) {c : Code} (hbody : fn.body = some c) (hn : (fn.name == "runtime.NumGoroutine") = false) (vs : Array Value) (w : World) :
    (callFunc f vs).run P w = .ok (.enter f vs) w := by
  simp only [callFunc, Sem.run_bind, run_program, Result.andThen_ok, hfn, hn, Bool.false_eq_true, if_false, hbody, Option.isNone_some, Sem.run_pure]

/-- What the evaluator answers, a call returns; of what was there nothing has turned. -/
theorem calls_ok (hf : P.follows .mixedOrders = true) (hg : GlobOk C W) (hC : ∀ f b, C.fns f = some b → FnOk P W f b)
    {f : FuncId} {fn : Func} (hfn : P.funcs[f]? = some fn) {c : Code} (hbody : fn.body = some c) (hn : (fn.name == "runtime.NumGoroutine") = false)
    {xs : List AV} {x : AV} {st' : St} (h : callW C f xs [] = some (x, st')) {vs : Array Value} (hv : VRs W [] [] xs vs.toList) :
    Calls P f vs W fun e W' => ∃ v μ', e = .returned v ∧ VR W' μ' st' x v ∧ Sim W W' μ' st' ∧ Ext W [] [] W' μ' st' := by
  obtain ⟨n, hn'⟩ := callW_ex h
  have key := evCall_ok hf hg hC n n f xs [] x st' hn' W [] vs (Sim.start W) hv
    { (default : Oper) with dst := some 0 } { tmps := #[Go.undef], defers := [] }
    (fun a w' => ∃ v μ', a.tmps = #[v] ∧ VR w' μ' st' x v ∧ Sim W w' μ' st' ∧ Ext W [] [] w' μ' st') (fun _ _ _ => False)
    (fun v w' μ' h1 h2 h3 => ⟨v, μ', by simp [Act.put], h1, h2, h3⟩)
  rw [run_call hfn hbody hn, Oper.upon_enter] at key
  refine key.mono ?_
  intro e w' he
  cases e with
  | returned v =>
    obtain ⟨v', μ', h1, h2, h3, h4⟩ := he
    have : v = v' := by simpa [Act.put] using h1
    subst this
    exact ⟨v, μ', rfl, h2, h3, h4⟩
  | panicked chain => exact he.elim
  | outgrown => exact absurd he (by intro h; obtain h := h; first | exact h.elim | simp [LetsOut] at h)

/-- A law that the evaluator finds true. -/
theorem law_ok (hf : P.follows .mixedOrders = true) (hg : GlobOk C W) (hC : ∀ f b, C.fns f = some b → FnOk P W f b)
    {f : FuncId} {fn : Func} (hfn : P.funcs[f]? = some fn) {c : Code} (hbody : fn.body = some c) (hn : (fn.name == "runtime.NumGoroutine") = false)
    {xs : List AV} {st' : St} (h : callW C f xs [] = some (.bool true, st')) {vs : Array Value} (hv : VRs W [] [] xs vs.toList) :
    Calls P f vs W fun e W' => e = .returned (.bool true) ∧ RowKit.Below W.heap.size W W' := by
  refine (calls_ok hf hg hC hfn hbody hn h hv).mono ?_
  rintro e W' ⟨v, μ', rfl, h1, h2, h3⟩
  cases h1
  exact ⟨rfl, h2.below⟩

end
end Go.Eng

set_option linter.unusedSimpArgs false
set_option linter.unusedVariables false
namespace Go.Eng
open Go

/-- A piece of code comes to an end, and there this holds. -/
def W (C : Ctx) (k : K) (env : Env) (st : St) (Q : Ex → Env → St → Prop) : Prop := ∃ x e s, evW C k env st = some (x, e, s) ∧ Q x e s
/-- .. operations .. -/
def WO (C : Ctx) (l : List KOp) (env : Env) (st : St) (Q : Env → St → Prop) : Prop := ∃ e s, evOps C (callW C) l env st = some (e, s) ∧ Q e s
/-- .. a call .. -/
def CW (C : Ctx) (f : Nat) (args : List AV) (st : St) (Q : AV → St → Prop) : Prop := ∃ v s, callW C f args st = some (v, s) ∧ Q v s

theorem ex_some {α β : Type} {P : α → β → Prop} (a : α) (b : β) : (∃ v s, some (a, b) = some (v, s) ∧ P v s) ↔ P a b :=
  ⟨(fun ⟨_, _, h, hp⟩ => by cases h; exact hp), fun h => ⟨_, _, rfl, h⟩⟩
theorem ex_none {α β : Type} {P : α → β → Prop} : (∃ (v : α) (s : β), none = some (v, s) ∧ P v s) ↔ False :=
  ⟨(fun ⟨_, _, h, hp⟩ => by cases h), fun h => h.elim⟩
theorem ex_some3 {α β γ : Type} {P : α → β → γ → Prop} (a : α) (b : β) (c : γ) : (∃ v s t, some (a, b, c) = some (v, s, t) ∧ P v s t) ↔ P a b c :=
  ⟨(fun ⟨_, _, _, h, hp⟩ => by cases h; exact hp), fun h => ⟨_, _, _, rfl, h⟩⟩
theorem ex_none3 {α β γ : Type} {P : α → β → γ → Prop} : (∃ (v : α) (s : β) (t : γ), none = some (v, s, t) ∧ P v s t) ↔ False :=
  ⟨(fun ⟨_, _, _, h, hp⟩ => by cases h), fun h => h.elim⟩

section
variable {C : Ctx} {env : Env} {st : St} {Q : Ex → Env → St → Prop} {R : Env → St → Prop} {l : List KOp}

theorem W.mono {k : K} {Q' : Ex → Env → St → Prop} (h : W C k env st Q) (hq : ∀ x e s, Q x e s → Q' x e s) : W C k env st Q' := by
  obtain ⟨x, e, s, h1, h2⟩ := h
  exact ⟨x, e, s, h1, hq _ _ _ h2⟩

theorem CW.mono {f : Nat} {args : List AV} {Q Q' : AV → St → Prop} (h : CW C f args st Q) (hq : ∀ v s, Q v s → Q' v s) : CW C f args st Q' := by
  obtain ⟨v, s, h1, h2⟩ := h
  exact ⟨v, s, h1, hq _ _ h2⟩

theorem CW_eq {f : Nat} {args : List AV} {v : AV} {s : St} : CW C f args st (fun v' s' => v' = v ∧ s' = s) ↔ callW C f args st = some (v, s) := by
  constructor
  · rintro ⟨_, _, h, rfl, rfl⟩; exact h
  · intro h; exact ⟨_, _, h, rfl, rfl⟩

theorem W_skip : W C .skip env st Q ↔ Q .norm env st := by simp only [W, evW_skip, ex_some3]
theorem W_ret : W C .ret env st Q ↔ Q .ret env st := by simp only [W, evW_ret, ex_some3]
theorem W_exit (id : Nat) : W C (.exit id) env st Q ↔ Q (.exit id) env st := by simp only [W, evW_exit, ex_some3]

/-- What comes behind a piece of code. -/
def thenK (C : Ctx) (b : K) (Q : Ex → Env → St → Prop) : Ex → Env → St → Prop
  | .norm, e, s => W C b e s Q
  | x, e, s => Q x e s
theorem thenK_norm (b : K) (e : Env) (s : St) : thenK C b Q .norm e s ↔ W C b e s Q := Iff.rfl
theorem thenK_ret (b : K) (e : Env) (s : St) : thenK C b Q .ret e s ↔ Q .ret e s := Iff.rfl
theorem thenK_exit (b : K) (i : Nat) (e : Env) (s : St) : thenK C b Q (.exit i) e s ↔ Q (.exit i) e s := Iff.rfl

theorem W_seq (a b : K) : W C (.seq a b) env st Q ↔ W C a env st (thenK C b Q) := by
  unfold W
  rw [evW_seq]
  cases h : evW C a env st with
  | none => simp only [ex_none3]
  | some p =>
    obtain ⟨x, e, s⟩ := p
    cases x <;> simp only [ex_some3, thenK, W]

/-- What comes behind a block. -/
def blockQ (id : Nat) (Q : Ex → Env → St → Prop) : Ex → Env → St → Prop
  | .exit id', e, s => if id' = id then Q .norm e s else Q (.exit id') e s
  | x, e, s => Q x e s
theorem blockQ_norm (id : Nat) (e : Env) (s : St) : blockQ id Q .norm e s ↔ Q .norm e s := Iff.rfl
theorem blockQ_ret (id : Nat) (e : Env) (s : St) : blockQ id Q .ret e s ↔ Q .ret e s := Iff.rfl
theorem blockQ_exit (id i : Nat) (e : Env) (s : St) : blockQ id Q (.exit i) e s ↔ if i = id then Q .norm e s else Q (.exit i) e s := Iff.rfl

theorem W_block (id : Nat) (c : K) : W C (.block id c) env st Q ↔ W C c env st (blockQ id Q) := by
  unfold W
  rw [evW_block]
  cases h : evW C c env st with
  | none => simp only [ex_none3]
  | some p =>
    obtain ⟨x, e, s⟩ := p
    cases x with
    | exit i =>
      by_cases hi : i = id <;> simp only [hi, if_true, if_false, ex_some3, blockQ]
    | _ => simp only [ex_some3, blockQ]

/-- What comes behind a test. -/
def condQ (C : Ctx) (a b : K) (env : Env) (st : St) (Q : Ex → Env → St → Prop) (v : Option AV) : Prop :=
  match v with
  | some (.bool t) => if t = true then W C a env st Q else W C b env st Q
  | _ => False
theorem condQ_true (a b : K) : condQ C a b env st Q (some (.bool true)) ↔ W C a env st Q := by simp [condQ]
theorem condQ_false (a b : K) : condQ C a b env st Q (some (.bool false)) ↔ W C b env st Q := by simp [condQ]
theorem condQ_dec (a b : K) (p : Prop) [Decidable p] : condQ C a b env st Q (some (.bool (decide p))) ↔ if p then W C a env st Q else W C b env st Q := by simp [condQ]
theorem condQ_ndec (a b : K) (p : Prop) [Decidable p] : condQ C a b env st Q (some (.bool (!decide p))) ↔ if p then W C b env st Q else W C a env st Q := by
  by_cases h : p <;> simp [condQ, h]
theorem condQ_bool (a b : K) (t : Bool) : condQ C a b env st Q (some (.bool t)) ↔ if t = true then W C a env st Q else W C b env st Q := Iff.rfl

theorem W_cond (c : X) (a b : K) : W C (.cond c a b) env st Q ↔ condQ C a b env st Q (c.ev C env) := by
  unfold W condQ
  rw [evW_cond]
  cases c.ev C env with
  | none => simp only [ex_none3]
  | some v => cases v with
    | bool t => cases t <;> simp [W]
    | _ => simp only [ex_none3]

theorem W_reg (ops : List KOp) : W C (.reg false ops) env st Q ↔ WO C ops env st (Q .norm) := by
  unfold W WO
  rw [evW_reg]
  simp only [Bool.false_eq_true, if_false]
  cases h : evOps C (callW C) ops env st with
  | none => simp only [Option.map_none, ex_none3, ex_none]
  | some p => obtain ⟨e, s⟩ := p; simp only [Option.map_some, ex_some3, ex_some]

theorem W_loop (c : K) : W C (.loop c) env st Q ↔ W C c env st (thenK C (.loop c) Q) := by
  unfold W
  rw [evW_loop]
  cases h : evW C c env st with
  | none => simp only [ex_none3]
  | some p =>
    obtain ⟨x, e, s⟩ := p
    cases x <;> simp only [ex_some3, thenK, W]

theorem W_loop' {k c : K} (h : k = .loop c) : W C k env st Q ↔ W C c env st (thenK C k Q) := by
  subst h
  exact W_loop c

/-- What comes behind a round. -/
def roundQ (J : Env → St → Prop) (Q : Ex → Env → St → Prop) : Ex → Env → St → Prop
  | .norm, e, s => J e s
  | x, e, s => Q x e s
theorem roundQ_norm (J : Env → St → Prop) (e : Env) (s : St) : roundQ J Q .norm e s ↔ J e s := Iff.rfl
theorem roundQ_ret (J : Env → St → Prop) (e : Env) (s : St) : roundQ J Q .ret e s ↔ Q .ret e s := Iff.rfl
theorem roundQ_exit (J : Env → St → Prop) (i : Nat) (e : Env) (s : St) : roundQ J Q (.exit i) e s ↔ Q (.exit i) e s := Iff.rfl

/-- A loop, by what holds ahead of each round. -/
theorem W_loop_inv {c : K} (I : Nat → Env → St → Prop) (step : ∀ n env st, I n env st → W C c env st (roundQ (fun e s => ∃ m, m < n ∧ I m e s) Q)) :
    ∀ n env st, I n env st → W C (.loop c) env st Q := by
  intro n
  induction n using Nat.strongRecOn with
  | ind n ih =>
    intro env st hi
    rw [W_loop]
    refine (step n env st hi).mono fun x e s hx => ?_
    cases x with
    | norm =>
      obtain ⟨m, hm, h⟩ := hx
      exact ih m hm e s h
    | _ => exact hx

theorem WO_nil : WO C [] env st R ↔ R env st := by simp only [WO, evOps, ex_some]

theorem WO_cons (o : KOp) : WO C (o :: l) env st R ↔ ∃ v s, evStep C (callW C) o env st = some (v, s) ∧ WO C l (env.put o.dst v) s R := by
  unfold WO
  simp only [evOps]
  cases h : evStep C (callW C) o env st with
  | none => simp only [ex_none]
  | some p => obtain ⟨v, s⟩ := p; simp only [ex_some]

/-- What comes behind an operation. -/
def stepQ (C : Ctx) (d : Option Nat) (l : List KOp) (env : Env) (R : Env → St → Prop) (r : Option (AV × St)) : Prop :=
  match r with
  | some (v, s) => WO C l (env.put d v) s R
  | none => False
theorem stepQ_some (d : Option Nat) (v : AV) (s : St) : stepQ C d l env R (some (v, s)) ↔ WO C l (env.put d v) s R := Iff.rfl
theorem stepQ_none (d : Option Nat) : stepQ C d l env R none ↔ False := Iff.rfl

theorem WO_op (d : Option Nat) (o : KO) (a b : List Nat) : WO C (⟨d, o, none, a, b⟩ :: l) env st R ↔ stepQ C d l env R (evOp C (callW C) o env st) := by
  rw [WO_cons]
  show (∃ v s, evOp C (callW C) o env st = some (v, s) ∧ WO C l (env.put d v) s R) ↔ _
  unfold stepQ
  cases h : evOp C (callW C) o env st with
  | none => simp only [ex_none]
  | some p => obtain ⟨v, s⟩ := p; simp only [ex_some]

/-- A guard. -/
def guardQ (C : Ctx) (d : Option Nat) (o : KO) (w : Bool) (a b : List Nat) (l : List KOp) (env : Env) (st : St) (R : Env → St → Prop) (v : AV) : Prop :=
  match v with
  | .bool x => if x = w then WO C (⟨d, o, none, a, b⟩ :: l) env st R else WO C l (env.put d undefA) st R
  | .any => False
  | _ => WO C l (env.put d undefA) st R
section
variable (d : Option Nat) (o : KO) (w : Bool) (a b : List Nat)
theorem guardQ_tt : guardQ C d o true a b l env st R (.bool true) ↔ WO C (⟨d, o, none, a, b⟩ :: l) env st R := by simp [guardQ]
theorem guardQ_ff : guardQ C d o false a b l env st R (.bool false) ↔ WO C (⟨d, o, none, a, b⟩ :: l) env st R := by simp [guardQ]
theorem guardQ_tf : guardQ C d o true a b l env st R (.bool false) ↔ WO C l (env.put d undefA) st R := by simp [guardQ]
theorem guardQ_ft : guardQ C d o false a b l env st R (.bool true) ↔ WO C l (env.put d undefA) st R := by simp [guardQ]
theorem guardQ_undef : guardQ C d o w a b l env st R undefA ↔ WO C l (env.put d undefA) st R := Iff.rfl
theorem guardQ_dect (p : Prop) [Decidable p] : guardQ C d o true a b l env st R (.bool (decide p)) ↔ if p then WO C (⟨d, o, none, a, b⟩ :: l) env st R else WO C l (env.put d undefA) st R := by simp [guardQ]
theorem guardQ_decf (p : Prop) [Decidable p] : guardQ C d o false a b l env st R (.bool (decide p)) ↔ if p then WO C l (env.put d undefA) st R else WO C (⟨d, o, none, a, b⟩ :: l) env st R := by
  by_cases h : p <;> simp [guardQ, h]
theorem guardQ_ndect (p : Prop) [Decidable p] : guardQ C d o true a b l env st R (.bool (!decide p)) ↔ if p then WO C l (env.put d undefA) st R else WO C (⟨d, o, none, a, b⟩ :: l) env st R := by
  by_cases h : p <;> simp [guardQ, h]
theorem guardQ_ndecf (p : Prop) [Decidable p] : guardQ C d o false a b l env st R (.bool (!decide p)) ↔ if p then WO C (⟨d, o, none, a, b⟩ :: l) env st R else WO C l (env.put d undefA) st R := by
  by_cases h : p <;> simp [guardQ, h]
theorem guardQ_boolt (t : Bool) : guardQ C d o true a b l env st R (.bool t) ↔ if t = true then WO C (⟨d, o, none, a, b⟩ :: l) env st R else WO C l (env.put d undefA) st R := Iff.rfl
theorem guardQ_boolf (t : Bool) : guardQ C d o false a b l env st R (.bool t) ↔ if t = true then WO C l (env.put d undefA) st R else WO C (⟨d, o, none, a, b⟩ :: l) env st R := by
  cases t <;> simp [guardQ]
end

theorem WO_guard (d : Option Nat) (o : KO) (t : Nat) (w : Bool) (a b : List Nat) : WO C (⟨d, o, some (t, w), a, b⟩ :: l) env st R ↔ guardQ C d o w a b l env st R (env.get t) := by
  unfold guardQ
  rw [WO_cons]
  unfold evStep wantedA
  simp only
  generalize env.get t = v
  cases v with
  | bool x =>
    cases x <;> cases w <;> first
      | exact (ex_some undefA st).trans (by simp)
      | (simp only [beq_self_eq_true, if_true]; exact (WO_cons (C := C) ⟨d, o, none, a, b⟩).symm)
  | any => exact ex_none
  | _ => exact ex_some undefA st

/-- What a function's end makes of its results. -/
def endQ (n0 : Nat) (shut : Bool) (Q : AV → St → Prop) (r : Option (List AV)) (s : St) : Prop :=
  match r with
  | some vs => Q (leave n0 shut (oneOf vs) s).1 (leave n0 shut (oneOf vs) s).2
  | none => False
theorem endQ_some (n0 : Nat) (shut : Bool) (Q : AV → St → Prop) (vs : List AV) (s : St) : endQ n0 shut Q (some vs) s ↔ Q (leave n0 shut (oneOf vs) s).1 (leave n0 shut (oneOf vs) s).2 := Iff.rfl

def retQ (n0 : Nat) (shut : Bool) (res : List KRes) (Q : AV → St → Prop) : Ex → Env → St → Prop
  | .exit _, _, _ => False
  | _, e, s => endQ n0 shut Q (evRes e s res) s
theorem retQ_norm (n0 : Nat) (shut : Bool) (res : List KRes) (Q : AV → St → Prop) (e : Env) (s : St) : retQ n0 shut res Q .norm e s ↔ endQ n0 shut Q (evRes e s res) s := Iff.rfl
theorem retQ_ret (n0 : Nat) (shut : Bool) (res : List KRes) (Q : AV → St → Prop) (e : Env) (s : St) : retQ n0 shut res Q .ret e s ↔ endQ n0 shut Q (evRes e s res) s := Iff.rfl
theorem retQ_exit (n0 : Nat) (shut : Bool) (res : List KRes) (Q : AV → St → Prop) (i : Nat) (e : Env) (s : St) : retQ n0 shut res Q (.exit i) e s ↔ False := Iff.rfl

theorem CW_code {f n : Nat} {res : List KRes} {shut : Bool} {body : K} (hf : C.fns f = some (.code n res shut body)) (args : List AV) (Q : AV → St → Prop) :
    CW C f args st Q ↔ W C body (args ++ List.replicate (n - args.length) undefA) st (retQ st.length shut res Q) := by
  unfold CW W
  rw [callW_code hf]
  cases h : evW C body (args ++ List.replicate (n - args.length) undefA) st with
  | none => simp only [ex_none, ex_none3]
  | some p =>
    obtain ⟨x, e, s⟩ := p
    cases x with
    | exit i => simp only [ex_none, ex_some3, retQ]
    | norm => cases h2 : evRes e s res <;> simp only [ex_some3, ex_none, retQ, h2, endQ] <;> exact ex_some (P := Q) _ _
    | ret => cases h2 : evRes e s res <;> simp only [ex_some3, ex_none, retQ, h2, endQ] <;> exact ex_some (P := Q) _ _

/-! ### Drawn regions without effects -/

theorem hist_ops {call : CallF} : ∀ (l : List KOp) (env : Env) (st : St) (h : List St) {e : Env} {s : St} {h' : List St}, evHist C call l env st h = some (e, s, h') → evOps C call l env st = some (e, s)
  | [], env, st, h, e, s, h', hh => by
    simp only [evHist, Option.some.injEq, Prod.mk.injEq] at hh
    obtain ⟨rfl, rfl, _⟩ := hh
    rfl
  | o :: l, env, st, h, e, s, h', hh => by
    simp only [evHist] at hh
    cases hv : evStep C call o env st with
    | none => rw [hv] at hh; cases hh
    | some p =>
      obtain ⟨v, st'⟩ := p
      rw [hv] at hh
      simp only at hh
      simp only [evOps, hv]
      split at hh
      · exact hist_ops l _ _ _ hh
      · rename_i he
        split at hh
        · rename_i hq
          have : st' = st := evStep_quiet (by simpa using he) hv hq
          subst this
          exact hist_ops l _ _ _ hh
        · cases hh

def KO.lays : KO → Bool
  | .bslice .. => true
  | _ => false

/-- Ahead of place i nothing writes slot t. -/
def noneAhead (ks : List KOp) (i t : Nat) : Bool := (ks.take i).all fun k => k.dst != some t
/-- From place i on nothing writes slot t. -/
def noneFrom (ks : List KOp) (i t : Nat) : Bool := (ks.drop i).all fun k => k.dst != some t

def calmAt (n : Nat) (ks : List KOp) (i : Nat) (k : KOp) : Bool :=
  !k.op.eff && !k.op.lays && (k.win.isEmpty || (k.win.all (· == 0) && (k.reads.all fun t => if k.olds.contains t then noneAhead ks i t else noneFrom ks i t) && (match k.dst with
    | some d => decide (d < n) && noneFrom ks (i + 1) d
    | none => true)))

/-- A drawn region whose operations have no effects, and nothing that is asked again has turned. -/
def calm (n : Nat) (ks : List KOp) : Bool := ks.zipIdx.all fun (k, i) => calmAt n ks i k

theorem calm_at {n : Nat} {ks : List KOp} (h : calm n ks = true) {i : Nat} {k : KOp} (hk : ks[i]? = some k) : calmAt n ks i k = true := by
  unfold calm at h
  rw [List.all_eq_true] at h
  exact h (k, i) (by rw [List.mem_iff_getElem?]; exact ⟨i, by simp [hk]⟩)

theorem quiet_of_lays {o : KO} {v : AV} (h : o.lays = false) : quietOk o v = true := by
  cases o <;> simp_all [KO.lays, quietOk]

theorem ops_keep {call : CallF} : ∀ (l : List KOp) (env : Env) (st : St) {e : Env} {s : St}, evOps C call l env st = some (e, s) → ∀ t, (l.all fun k => k.dst != some t) = true → e.get t = env.get t
  | [], env, st, e, s, h, t, _ => by
    simp only [evOps, Option.some.injEq, Prod.mk.injEq] at h
    rw [h.1]
  | o :: l, env, st, e, s, h, t, hl => by
    simp only [evOps] at h
    cases hv : evStep C call o env st with
    | none => rw [hv] at h; cases h
    | some p =>
      obtain ⟨v, st'⟩ := p
      rw [hv] at h
      simp only [List.all_cons, Bool.and_eq_true, bne_iff_ne] at hl
      rw [ops_keep l _ _ h t hl.2, Env.get_put, if_neg (fun hh => hl.1 hh.1)]

theorem ops_length {call : CallF} : ∀ (l : List KOp) (env : Env) (st : St) {e : Env} {s : St}, evOps C call l env st = some (e, s) → e.length = env.length
  | [], env, st, e, s, h => by
    simp only [evOps, Option.some.injEq, Prod.mk.injEq] at h
    rw [h.1]
  | o :: l, env, st, e, s, h => by
    simp only [evOps] at h
    cases hv : evStep C call o env st with
    | none => rw [hv] at h; cases h
    | some p =>
      obtain ⟨v, st'⟩ := p
      rw [hv] at h
      rw [ops_length l _ _ h, Env.put_length]

/-- Operations without effects, in the order of the text: the history is as it was. -/
theorem calm_hist {call : CallF} : ∀ (l : List KOp) (env : Env) (st : St) (h : List St) {e : Env} {s : St}, (∀ k ∈ l, k.op.eff = false ∧ k.op.lays = false) → evOps C call l env st = some (e, s) → evHist C call l env st h = some (e, s, h) ∧ s = st
  | [], env, st, h, e, s, _, hh => by
    simp only [evOps, Option.some.injEq, Prod.mk.injEq] at hh
    obtain ⟨rfl, rfl⟩ := hh
    exact ⟨rfl, rfl⟩
  | o :: l, env, st, h, e, s, hl, hh => by
    simp only [evOps] at hh
    cases hv : evStep C call o env st with
    | none => rw [hv] at hh; cases hh
    | some p =>
      obtain ⟨v, st'⟩ := p
      rw [hv] at hh
      obtain ⟨h1, h2⟩ := hl o (by simp)
      have hq := quiet_of_lays (v := v) h2
      have : st' = st := evStep_quiet h1 hv hq
      subst this
      obtain ⟨h3, h4⟩ := calm_hist l _ _ h (fun k hk => hl k (by simp [hk])) hh
      refine ⟨?_, h4⟩
      simp only [evHist, hv, h1, Bool.false_eq_true, if_false, hq, if_true]
      exact h3

/-- .. and each answer, asked of the end, is what it was. -/
theorem calm_again {call : CallF} {ks : List KOp} {env0 : Env} {st : St} {e : Env} {s : St} (hc : calm env0.length ks = true) (hh : evOps C call ks env0 st = some (e, s)) :
    ∀ (b : List KOp) (a : List KOp), ks = a ++ b → ∀ (env : Env), (∀ t, (a.all fun k => k.dst != some t) = true → env.get t = env0.get t) → env.length = env0.length → evOps C call b env st = some (e, s) → b.all (evAgain C env0 e [st]) = true
  | [], _, _, _, _, _, _ => rfl
  | k :: b, a, hab, env, he, hlen, hb => by
    have hb0 := hb
    have hk : ks[a.length]? = some k := by rw [hab]; simp
    have hcalm := calm_at hc hk
    unfold calmAt at hcalm
    simp only [Bool.and_eq_true, Bool.not_eq_true', Bool.or_eq_true] at hcalm
    obtain ⟨⟨h1, h2⟩, h3⟩ := hcalm
    simp only [evOps] at hb
    cases hv : evStep C call k env st with
    | none => rw [hv] at hb; cases hb
    | some p =>
      obtain ⟨v, st'⟩ := p
      rw [hv] at hb
      have hq := quiet_of_lays (v := v) h2
      have : st' = st := evStep_quiet h1 hv hq
      subst this
      have hdrop : ks.drop a.length = k :: b := by rw [hab]; simp
      have htake : ks.take a.length = a := by rw [hab]; simp
      have hdrop1 : ks.drop (a.length + 1) = b := by rw [hab]; simp
      have hrest := calm_again hc hh b (a ++ [k]) (by simp [hab]) (env.put k.dst v) (fun t ht => by
        simp only [List.all_append, List.all_cons, List.all_nil, Bool.and_true, Bool.and_eq_true, bne_iff_ne] at ht
        rw [Env.get_put, if_neg (fun hh => ht.2 hh.1)]
        exact he t ht.1) (by rw [Env.put_length, hlen]) hb
      simp only [List.all_cons, Bool.and_eq_true]
      refine ⟨?_, hrest⟩
      rcases h3 with h3 | ⟨⟨h4, h5⟩, h6⟩
      · unfold evAgain
        have : k.win = [] := by simpa using h3
        simp [this]
      · unfold evAgain
        rw [List.all_eq_true]
        intro i hi
        rw [List.all_eq_true] at h4
        have hi0 : i = 0 := by simpa using h4 i hi
        subst hi0
        have hlen2 : e.length = env0.length := ops_length _ _ _ hh
        have hstep : evStep C (fun _ _ _ => none) k (Env.mix env0 e k.olds) st' = some (v, st') := by
          rw [← evStep_call (call := call) h1, ← hv]
          refine evStep_congr fun t ht => ?_
          rw [mix_get (by omega)]
          rw [List.all_eq_true] at h5
          have h7 := h5 t ht
          by_cases ho : t ∈ k.olds
          · rw [if_pos ho]
            rw [if_pos (by simpa using ho)] at h7
            unfold noneAhead at h7
            rw [htake] at h7
            exact (he t h7).symm
          · rw [if_neg ho]
            rw [if_neg (by simpa using ho)] at h7
            unfold noneFrom at h7
            rw [hdrop] at h7
            exact ops_keep _ _ _ hb0 t h7
        simp only [List.reverse_cons, List.reverse_nil, List.nil_append, List.getElem?_cons_zero, hstep, hq, Bool.true_and]
        cases hd : k.dst with
        | none => rfl
        | some d =>
          simp only [hd, Bool.and_eq_true, decide_eq_true_eq] at h6
          obtain ⟨h6, h8⟩ := h6
          unfold noneFrom at h8
          rw [hdrop1] at h8
          simp only
          rw [ops_keep _ _ _ hb d h8]
          rw [hd, Env.get_put, if_pos ⟨rfl, by omega⟩]
          exact AV.same_refl v

theorem calm_draw {call : CallF} {ks : List KOp} {n : Nat} (hn : env.length = n) (hc : calm n ks = true) : evDraw C call ks env st = evOps C call ks env st := by
  subst hn
  have hall : ∀ k ∈ ks, k.op.eff = false ∧ k.op.lays = false := fun k hk => by
    obtain ⟨i, hi⟩ := List.mem_iff_getElem?.1 hk
    have := calm_at hc hi
    unfold calmAt at this
    simp only [Bool.and_eq_true, Bool.not_eq_true'] at this
    exact this.1
  apply Option.ext
  intro r
  obtain ⟨e, s⟩ := r
  unfold evDraw
  constructor
  · intro h
    split at h
    · rename_i hh
      split at h
      · cases h; exact hist_ops _ _ _ _ hh
      · cases h
    · cases h
  · intro h
    obtain ⟨h1, h2⟩ := calm_hist ks env st [st] hall h
    rw [h1]
    simp only
    rw [if_pos (calm_again hc h ks [] rfl env (fun _ _ => rfl) rfl h)]

/-- Code whose drawn regions of that kind are read in the order of the text. -/
def K.calmed (n : Nat) : K → K
  | .reg true ks => if calm n ks then .reg false ks else .reg true ks
  | .seq a b => .seq (a.calmed n) (b.calmed n)
  | .cond c a b => .cond c (a.calmed n) (b.calmed n)
  | .block i c => .block i (c.calmed n)
  | .loop c => .loop (c.calmed n)
  | k => k

theorem hist_length {call : CallF} : ∀ (l : List KOp) (env : Env) (st : St) (h : List St) {e : Env} {s : St} {h' : List St}, evHist C call l env st h = some (e, s, h') → e.length = env.length :=
  fun l env st h e s h' hh => ops_length l env st (hist_ops l env st h hh)

theorem loop_length {body : Env → St → Option (Ex × Env × St)} (hb : ∀ env st x e s, body env st = some (x, e, s) → e.length = env.length) : ∀ (n : Nat) (env : Env) (st : St) {x : Ex} {e : Env} {s : St}, evLoop body n env st = some (x, e, s) → e.length = env.length
  | 0, _, _, _, _, _, h => by cases h
  | n + 1, env, st, x, e, s, h => by
    simp only [evLoop] at h
    cases hv : body env st with
    | none => rw [hv] at h; cases h
    | some p =>
      obtain ⟨x1, e1, s1⟩ := p
      rw [hv] at h
      have h1 := hb _ _ _ _ _ hv
      cases x1 with
      | norm => rw [loop_length hb n _ _ h, h1]
      | _ => cases h; exact h1

theorem evK_length {call : CallF} {fuel : Nat} : ∀ (k : K) {env : Env} {st : St} {x : Ex} {e : Env} {s : St}, evK C call fuel k env st = some (x, e, s) → e.length = env.length
  | .skip, _, _, _, _, _, h => by cases h; rfl
  | .exit _, _, _, _, _, _, h => by cases h; rfl
  | .ret, _, _, _, _, _, h => by cases h; rfl
  | .no, _, _, _, _, _, h => by cases h
  | .reg d ops, env, st, x, e, s, h => by
    simp only [evK, Option.map_eq_some_iff] at h
    obtain ⟨p, hp, h2⟩ := h
    cases h2
    cases d with
    | true =>
      simp only [if_true] at hp
      unfold evDraw at hp
      split at hp
      · rename_i hh
        split at hp
        · cases hp; exact hist_length _ _ _ _ hh
        · cases hp
      · cases hp
    | false => exact ops_length _ _ _ hp
  | .seq a b, env, st, x, e, s, h => by
    simp only [evK] at h
    cases hv : evK C call fuel a env st with
    | none => rw [hv] at h; cases h
    | some p =>
      obtain ⟨x1, e1, s1⟩ := p
      rw [hv] at h
      have h1 := evK_length a hv
      cases x1 with
      | norm => rw [evK_length b h, h1]
      | _ => cases h; exact h1
  | .cond c a b, env, st, x, e, s, h => by
    simp only [evK] at h
    split at h
    · split at h
      · exact evK_length a h
      · exact evK_length b h
    · cases h
  | .block id c, env, st, x, e, s, h => by
    simp only [evK] at h
    cases hv : evK C call fuel c env st with
    | none => rw [hv] at h; cases h
    | some p =>
      obtain ⟨x1, e1, s1⟩ := p
      rw [hv] at h
      have h1 := evK_length c hv
      cases x1 with
      | exit i =>
        simp only at h
        split at h
        · cases h; exact h1
        · cases h; exact h1
      | _ => cases h; exact h1
  | .loop c, env, st, x, e, s, h => by
    simp only [evK] at h
    exact loop_length (fun _ _ _ _ _ h => evK_length c h) _ _ _ h

theorem loop_congr {m : Nat} {b b' : Env → St → Option (Ex × Env × St)} (h : ∀ env st, env.length = m → b env st = b' env st) (hb : ∀ env st x e s, b env st = some (x, e, s) → e.length = env.length) :
    ∀ (n : Nat) (env : Env) (st : St), env.length = m → evLoop b n env st = evLoop b' n env st
  | 0, _, _, _ => rfl
  | n + 1, env, st, hm => by
    simp only [evLoop, ← h env st hm]
    cases hv : b env st with
    | none => rfl
    | some p =>
      obtain ⟨x1, e1, s1⟩ := p
      have h1 := hb _ _ _ _ _ hv
      cases x1 with
      | norm => exact loop_congr h hb n _ _ (by omega)
      | _ => rfl

theorem evK_calmed {call : CallF} {fuel n : Nat} : ∀ (k : K) (env : Env) (st : St), env.length = n → evK C call fuel (k.calmed n) env st = evK C call fuel k env st
  | .skip, _, _, _ => rfl
  | .exit _, _, _, _ => rfl
  | .ret, _, _, _ => rfl
  | .no, _, _, _ => rfl
  | .reg false ops, _, _, _ => rfl
  | .reg true ops, env, st, hn => by
    simp only [K.calmed]
    split
    · rename_i hc
      simp only [evK, Bool.false_eq_true, if_false, if_true, calm_draw hn hc]
    · rfl
  | .seq a b, env, st, hn => by
    simp only [K.calmed, evK, evK_calmed a env st hn]
    cases hv : evK C call fuel a env st with
    | none => rfl
    | some p =>
      obtain ⟨x1, e1, s1⟩ := p
      have h1 := evK_length a hv
      cases x1 with
      | norm => exact evK_calmed b _ _ (by omega)
      | _ => rfl
  | .cond c a b, env, st, hn => by
    simp only [K.calmed, evK, evK_calmed a env st hn, evK_calmed b env st hn]
  | .block id c, env, st, hn => by
    simp only [K.calmed, evK, evK_calmed c env st hn]
  | .loop c, env, st, hn => by
    simp only [K.calmed, evK]
    exact loop_congr (fun env st h => evK_calmed c env st h) (fun _ _ _ _ _ h => evK_length _ h) _ _ _ hn

theorem evW_calmed {n : Nat} (k : K) (hn : env.length = n) : evW C (k.calmed n) env st = evW C k env st := by
  unfold evW
  congr 1
  funext m
  exact evK_calmed k env st hn

/-- A function's code, its calm regions in the order of the text. -/
def CodeIs (C : Ctx) (f n : Nat) (res : List KRes) (shut : Bool) (body : K) : Prop := ∃ b0, C.fns f = some (.code n res shut b0) ∧ b0.calmed n = body

theorem CW_is {f n : Nat} {res : List KRes} {shut : Bool} {body : K} (hf : CodeIs C f n res shut body) (args : List AV) (hl : args.length ≤ n) (Q : AV → St → Prop) :
    CW C f args st Q ↔ W C body (args ++ List.replicate (n - args.length) undefA) st (retQ st.length shut res Q) := by
  obtain ⟨b0, h1, rfl⟩ := hf
  rw [CW_code h1]
  unfold W
  rw [evW_calmed b0 (by simp; omega)]

end
end Go.Eng

set_option linter.unusedSimpArgs false
set_option linter.unusedVariables false
namespace Go.Eng
open Go

def prE (v : Option AV) (st : St) : Option (AV × St) := v.map (·, st)
theorem prE_some (v : AV) (st : St) : prE (some v) st = some (v, st) := rfl
theorem prE_none (st : St) : prE none st = none := rfl

def pickE (c a b : Option AV) (st : St) : Option (AV × St) :=
  match c with
  | some (.bool t) => prE (if t then a else b) st
  | _ => none
theorem pickE_true (a b : Option AV) (st : St) : pickE (some (.bool true)) a b st = prE a st := rfl
theorem pickE_false (a b : Option AV) (st : St) : pickE (some (.bool false)) a b st = prE b st := rfl

def binE (st : St) (op : BinOp) (q : EqS) (x y : Option AV) : Option (AV × St) :=
  match x, y with
  | some x, some y => prE (aBin st op q x y) st
  | _, _ => none
theorem binE_some (st : St) (op : BinOp) (q : EqS) (x y : AV) : binE st op q (some x) (some y) = prE (aBin st op q x y) st := rfl

def unE (op : UnOp) (x : Option AV) (st : St) : Option (AV × St) :=
  match x with
  | some x => prE (aUn op x) st
  | none => none
theorem unE_not (b : Bool) (st : St) : unE .not (some (.bool b)) st = some (.bool (!b), st) := rfl
theorem unE_neg (k : IntKind) (n : Int) (st : St) : unE .neg (some (.int k n)) st = some (.int k (k.wrap (0 - n)), st) := rfl

def convE (k : ConvK) (x : Option AV) (st : St) : Option (AV × St) :=
  match x with
  | some x => prE (aConv st k x) st
  | none => none
theorem convE_int (k j : IntKind) (n : Int) (st : St) : convE (.toInt k) (some (.int j n)) st = some (.int k (k.wrap n), st) := rfl
theorem convE_same (s : List UInt8) (st : St) : convE .same (some (.str s)) st = some (.str s, st) := rfl
theorem convE_bytes (s : List UInt8) (st : St) : convE .strToBytes (some (.str s)) st = some (.sl 1 (s.map fun b => [.int .u8 b.toNat]) false, st) := rfl
theorem convE_rune (k : IntKind) (n : Int) (st : St) : convE .runeToStr (some (.int k n)) st = some (.str (Utf8.encode n).data.toList, st) := rfl
theorem convE_runes (s : List UInt8) (st : St) : convE .strToRunes (some (.str s)) st = some (.sl 1 ((runesFromA s s.length 0).map fun v => [v]) false, st) := rfl

def extE (x : Option AV) (i : Nat) (st : St) : Option (AV × St) :=
  match x with
  | some (.tup vs) => prE (vs[i]?) st
  | _ => none
theorem extE_tup (vs : List AV) (i : Nat) (st : St) : extE (some (.tup vs)) i st = prE (vs[i]?) st := rfl

def lenE (k : LenK) (x : Option AV) (st : St) : Option (AV × St) := 
  match k, x with
  | .map, some (.map r) => match st[r]? with
    | some (.map es _) => prE (some (.int .i64 es.length)) st
    | _ => none
  | .map, some .nilm => prE (some (.int .i64 0)) st
  | .str, some (.str b) => prE (some (.int .i64 b.length)) st
  | .slc, some .nils => prE (some (.int .i64 0)) st
  | .slc, some (.slc _ _ n _ _ _ _) => prE (some (.int .i64 n)) st
  | .slc, some (.sl _ es _) => prE (some (.int .i64 es.length)) st
  | _, _ => none
theorem lenE_str (b : List UInt8) (st : St) : lenE .str (some (.str b)) st = some (.int .i64 b.length, st) := rfl
theorem lenE_nils (st : St) : lenE .slc (some .nils) st = some (.int .i64 0, st) := rfl
theorem lenE_slc (r off n cm gen sz : Nat) (ex : Bool) (st : St) : lenE .slc (some (.slc r off n cm gen sz ex)) st = some (.int .i64 n, st) := rfl
theorem lenE_sl (sz : Nat) (es : List (List AV)) (ex : Bool) (st : St) : lenE .slc (some (.sl sz es ex)) st = some (.int .i64 es.length, st) := rfl

def ixsE (x i : Option AV) (st : St) : Option (AV × St) :=
  match x, i.bind natOf with
  | some (.str s), some i => prE ((s[i]?).map fun b => .int .u8 b.toNat) st
  | _, _ => none
theorem ixsE_str (s : List UInt8) (k : IntKind) (i : Nat) (st : St) : ixsE (some (.str s)) (some (.int k (i : Int))) st = prE ((s[i]?).map fun b => .int .u8 b.toNat) st := by
  simp [ixsE, natOf]
theorem ixsE_lit (s : List UInt8) (k : IntKind) (n : Nat) (st : St) : ixsE (some (.str s)) (some (.int k (OfNat.ofNat n))) st = prE ((s[n]?).map fun b => .int .u8 b.toNat) st := by
  show ixsE (some (.str s)) (some (.int k ((n : Nat) : Int))) st = _
  exact ixsE_str s k n st
theorem ixsE_zero (s : List UInt8) (k : IntKind) (st : St) : ixsE (some (.str s)) (some (.int k 0)) st = prE ((s[0]?).map fun b => .int .u8 b.toNat) st := ixsE_str s k 0 st

def loadE (agg : Bool) (n : Nat) (a : Option AV) (st : St) : Option (AV × St) :=
  match a with
  | some a => match rd st a n with
    | some l => prE (isAggOr agg l) st
    | none => none
  | none => none
theorem loadE_some (agg : Bool) (n : Nat) (a : AV) (st : St) {l : List AV} (h : rd st a n = some l) : loadE agg n (some a) st = prE (isAggOr agg l) st := by simp [loadE, h]
theorem loadE_one (v : AV) (st : St) : loadE false 1 (some (.cptr [v])) st = some (v, st) := rfl

def iaddrE (arr : Option Nat) (sz : Nat) (x i : Option AV) (st : St) : Option (AV × St) :=
  match x, i with
  | some x, some i => prE (aIndexAddr arr sz x i) st
  | _, _ => none
theorem iaddrE_some (arr : Option Nat) (sz : Nat) (x i : AV) (st : St) : iaddrE arr sz (some x) (some i) st = prE (aIndexAddr arr sz x i) st := rfl
theorem aIndexAddr_sl (sz : Nat) (es : List (List AV)) (ex : Bool) (k : IntKind) (i : Nat) : aIndexAddr none sz (.sl sz es ex) (.int k (i : Int)) = (es[i]?).map .cptr := by
  simp [aIndexAddr, natOf]
theorem aIndexAddr_slc (r off len cm gen sz : Nat) (ex : Bool) (k : IntKind) (i : Nat) (h : i < len) : aIndexAddr none sz (.slc r off len cm gen sz ex) (.int k (i : Int)) = some (.ptr r (off + i * sz) gen) := by
  simp [aIndexAddr, natOf, h]

def callE (call : CallF) (f : Option AV) (args : Option (List AV)) (st : St) : Option (AV × St) :=
  match f, args with
  | some (.fn (.func f) first caps), some args => call f (first ++ args ++ caps) st
  | _, _ => none
theorem callE_f (call : CallF) (f : Nat) (args : List AV) (st : St) : callE call (some (.fn (.func f) [] [])) (some args) st = call f args st := by simp [callE]
theorem callE_cl (call : CallF) (f : Nat) (first caps args : List AV) (st : St) : callE call (some (.fn (.func f) first caps)) (some args) st = call f (first ++ args ++ caps) st := rfl

def consO (a : Option AV) (l : Option (List AV)) : Option (List AV) :=
  match a, l with
  | some v, some vs => some (v :: vs)
  | _, _ => none
theorem consO_some (a : AV) (l : List AV) : consO (some a) (some l) = some (a :: l) := rfl

def sliceE (k : SliceK) (x : Option AV) (lo hi mx : Option (Option AV)) (st : St) : Option (AV × St) :=
  match x, lo, hi, mx with
  | some x, some lo, some hi, some mx => prE (aSlice st k x lo hi mx) st
  | _, _, _, _ => none
theorem sliceE_some (k : SliceK) (x : AV) (lo hi mx : Option AV) (st : St) : sliceE k (some x) (some lo) (some hi) (some mx) st = prE (aSlice st k x lo hi mx) st := rfl
theorem aSlice_hi (st : St) (s : List UInt8) (k : IntKind) (h : Nat) (hh : h ≤ s.length) : aSlice st .str (.str s) none (some (.int k (h : Int))) none = some (.str (s.take h)) := by
  simp [aSlice, optNat, natOf, hh]
theorem aSlice_lo (st : St) (s : List UInt8) (k : IntKind) (l : Nat) (hl : l ≤ s.length) : aSlice st .str (.str s) (some (.int k (l : Int))) none none = some (.str (s.drop l)) := by
  simp [aSlice, optNat, natOf, hl]
theorem aSlice_lohi (st : St) (s : List UInt8) (k j : IntKind) (l h : Nat) (hl : l ≤ h) (hh : h ≤ s.length) : aSlice st .str (.str s) (some (.int k (l : Int))) (some (.int j (h : Int))) none = some (.str ((s.take h).drop l)) := by
  simp [aSlice, optNat, natOf, hh, hl]

def nilE (x : Option AV) (st : St) : Option (AV × St) :=
  match x with
  | some .nilp | some .nili | some .nilf | some .any => none
  | some (.fn (.method _) _ _) => none
  | v => prE v st
theorem nilE_ptr (r off gen : Nat) (st : St) : nilE (some (.ptr r off gen)) st = some (.ptr r off gen, st) := rfl
theorem nilE_cptr (cs : List AV) (st : St) : nilE (some (.cptr cs)) st = some (.cptr cs, st) := rfl
theorem nilE_fn (f : Nat) (a b : List AV) (st : St) : nilE (some (.fn (.func f) a b)) st = some (.fn (.func f) a b, st) := rfl

section
variable {C : Ctx} {call : CallF} {env : Env} {st : St}
theorem evOp_mv (x : X) : evOp C call (.mv x) env st = prE (x.ev C env) st := rfl
theorem evOp_pick (c a b : X) : evOp C call (.pick c a b) env st = pickE (c.ev C env) (a.ev C env) (b.ev C env) st := by
  unfold evOp pickE
  simp only
  cases c.ev C env with
  | none => rfl
  | some v => cases v with
    | bool t => cases t <;> rfl
    | _ => rfl
theorem evOp_bin (op : BinOp) (q : EqS) (x y : X) : evOp C call (.bin op q x y) env st = binE st op q (x.ev C env) (y.ev C env) := rfl
theorem evOp_un (op : UnOp) (x : X) : evOp C call (.un op x) env st = unE op (x.ev C env) st := rfl
theorem evOp_conv (k : ConvK) (x : X) : evOp C call (.conv k x) env st = convE k (x.ev C env) st := rfl
theorem evOp_ext (x : X) (i : Nat) : evOp C call (.extract x i) env st = extE (x.ev C env) i st := rfl
theorem evOp_len (k : LenK) (x : X) : evOp C call (.len k x) env st = lenE k (x.ev C env) st := rfl
theorem evOp_ixs (x i : X) : evOp C call (.ixs x i) env st = ixsE (x.ev C env) (i.ev C env) st := rfl
theorem evOp_load (agg : Bool) (n : Nat) (a : X) : evOp C call (.load agg n a) env st = loadE agg n (a.ev C env) st := rfl
theorem evOp_iaddr (arr : Option Nat) (sz : Nat) (x i : X) : evOp C call (.iaddr arr sz x i) env st = iaddrE arr sz (x.ev C env) (i.ev C env) st := rfl
theorem evOp_callE (f : X) (args : List X) : evOp C call (.call f args) env st = callE call (f.ev C env) (evs C env args) st := rfl
theorem evOp_slice (k : SliceK) (x : X) (lo hi mx : Option X) : evOp C call (.slice k x lo hi mx) env st = sliceE k (x.ev C env) (evo C env lo) (evo C env hi) (evo C env mx) st := rfl
theorem evOp_nilchk (x : X) : evOp C call (.nilchk x) env st = nilE (x.ev C env) st := by
  unfold evOp nilE
  simp only
  cases x.ev C env with
  | none => rfl
  | some v => cases v with
    | fn f a b => cases f <;> rfl
    | _ => rfl
theorem evOp_alloc (ty : Nat) (zero : List AV) : evOp C call (.alloc ty zero) env st = some (.ptr st.length 0 0, st ++ [.cells zero 0 0 false ty]) := rfl
theorem ev_t (n : Nat) : X.ev C env (.t n) = some (env.get n) := rfl
theorem ev_c (v : AV) : X.ev C env (.c v) = some v := rfl
theorem ev_f (n : Nat) : X.ev C env (.f n) = some (.fn (.func n) [] []) := rfl
theorem ev_g (n : Nat) : X.ev C env (.g n) = (C.glob n).map .cptr := rfl
theorem evs_nil : evs C env [] = some [] := rfl
theorem evs_cons (x : X) (l : List X) : evs C env (x :: l) = consO (x.ev C env) (evs C env l) := rfl
theorem evo_none : evo C env none = some none := rfl
theorem evo_some (x : X) : evo C env (some x) = (x.ev C env).map some := rfl
theorem evRes_nil : evRes env st [] = some [] := rfl
theorem evRes_tmp (t : Nat) (l : List KRes) : evRes env st (.tmp t :: l) = consO (some (env.get t)) (evRes env st l) := by
  simp only [evRes, consO]
  cases evRes env st l <;> rfl

theorem put_none (v : AV) : env.put none v = env := rfl
theorem put_zero (a v : AV) (l : List AV) : Env.put (a :: l) (some 0) v = v :: l := rfl
theorem put_succ (a v : AV) (l : List AV) (n : Nat) : Env.put (a :: l) (some (n + 1)) v = a :: Env.put l (some n) v := rfl
theorem get_zero (a : AV) (l : List AV) : Env.get (a :: l) 0 = a := rfl
theorem get_succ (a : AV) (l : List AV) (n : Nat) : Env.get (a :: l) (n + 1) = Env.get l n := rfl
theorem get_put_eq {d : Nat} (v : AV) (h : d < env.length) : Env.get (Env.put env (some d) v) d = v := by
  rw [Env.get_put, if_pos ⟨rfl, h⟩]
theorem get_put_ne {d t : Nat} (v : AV) (h : (d == t) = false) : Env.get (Env.put env (some d) v) t = Env.get env t := by
  rw [Env.get_put, if_neg]
  rintro ⟨h1, _⟩
  cases h1
  simp at h

theorem bin_add (q : EqS) (k : IntKind) (a b : Int) : aBin st .add q (.int k a) (.int k b) = some (.int k (k.wrap (a + b))) := by simp [aBin, aInt]
theorem bin_sub (q : EqS) (k : IntKind) (a b : Int) : aBin st .sub q (.int k a) (.int k b) = some (.int k (k.wrap (a - b))) := by simp [aBin, aInt]
theorem bin_mul (q : EqS) (k : IntKind) (a b : Int) : aBin st .mul q (.int k a) (.int k b) = some (.int k (k.wrap (a * b))) := by simp [aBin, aInt]
theorem bin_eql (q : EqS) (k : IntKind) (a b : Int) : aBin st .eql q (.int k a) (.int k b) = some (.bool (decide (a = b))) := by simp [aBin, aInt]; rfl
theorem bin_neq (q : EqS) (k : IntKind) (a b : Int) : aBin st .neq q (.int k a) (.int k b) = some (.bool (!decide (a = b))) := by simp [aBin, aInt]; rfl
theorem bin_lss (q : EqS) (k : IntKind) (a b : Int) : aBin st .lss q (.int k a) (.int k b) = some (.bool (decide (a < b))) := by simp [aBin, aInt]
theorem bin_leq (q : EqS) (k : IntKind) (a b : Int) : aBin st .leq q (.int k a) (.int k b) = some (.bool (decide (a ≤ b))) := by simp [aBin, aInt]
theorem bin_gtr (q : EqS) (k : IntKind) (a b : Int) : aBin st .gtr q (.int k a) (.int k b) = some (.bool (decide (b < a))) := by simp [aBin, aInt]
theorem bin_geq (q : EqS) (k : IntKind) (a b : Int) : aBin st .geq q (.int k a) (.int k b) = some (.bool (decide (b ≤ a))) := by simp [aBin, aInt]
theorem bin_seq (q : EqS) (a b : List UInt8) : aBin st .eql q (.str a) (.str b) = some (.bool (decide (a = b))) := by
  show some (AV.bool (a == b)) = _
  rw [Bool.eq_iff_iff.2 (show (a == b) = true ↔ decide (a = b) = true by simp)]
theorem bin_sne (q : EqS) (a b : List UInt8) : aBin st .neq q (.str a) (.str b) = some (.bool (!decide (a = b))) := by
  show some (AV.bool (!(a == b))) = _
  rw [Bool.eq_iff_iff.2 (show (a == b) = true ↔ decide (a = b) = true by simp)]
theorem bin_beq (a b : Bool) : aBin st .eql .b (.bool a) (.bool b) = some (.bool (decide (a = b))) := by
  show some (AV.bool (a == b)) = _
  cases a <;> cases b <;> rfl
theorem bin_bne (a b : Bool) : aBin st .neq .b (.bool a) (.bool b) = some (.bool (!decide (a = b))) := by
  show some (AV.bool (!(a == b))) = _
  cases a <;> cases b <;> rfl
theorem bin_sadd (q : EqS) (a b : List UInt8) (h : a.length + b.length ≤ 9223372036854775807) : aBin st .add q (.str a) (.str b) = some (.str (a ++ b)) := by
  show (if a.length + b.length ≤ 9223372036854775807 then some (AV.str (a ++ b)) else none) = _
  rw [if_pos h]

theorem cast0 : ((0 : Nat) : Int) = 0 := by simp
theorem wrap_i64 {n : Int} (h1 : -9223372036854775808 ≤ n) (h2 : n < 9223372036854775808) : IntKind.wrap .i64 n = n := by
  simp only [IntKind.wrap, IntKind.signed, IntKind.bits]
  simp
  omega

theorem leave_plain {n0 : Nat} {sl : Bool} {v : AV} {st : St} (hn : n0 = st.length) (h : v.hi = 0) : leave n0 sl v st = (v, st) := by
  subst hn
  unfold leave
  simp [h]
theorem leave_same {sl : Bool} {v : AV} {st : St} (h : v.hi = 0) : leave st.length sl v st = (v, st) := leave_plain rfl h
theorem leave_bool (sl : Bool) (b : Bool) : leave st.length sl (.bool b) st = (.bool b, st) := leave_same (by simp [AV.hi])
theorem leave_int (sl : Bool) (k : IntKind) (n : Int) : leave st.length sl (.int k n) st = (.int k n, st) := leave_same (by simp [AV.hi])
theorem leave_str (sl : Bool) (b : List UInt8) : leave st.length sl (.str b) st = (.str b, st) := leave_same (by simp [AV.hi])
theorem leave_tup (sl : Bool) (l : List AV) (h : AV.his l = 0) : leave st.length sl (.tup l) st = (.tup l, st) := leave_same (by simp [AV.hi, h])
theorem his_nil : AV.his [] = 0 := rfl
theorem his_bool (b : Bool) (l : List AV) : AV.his (.bool b :: l) = AV.his l := by simp [AV.his, AV.hi]
theorem his_int (k : IntKind) (n : Int) (l : List AV) : AV.his (.int k n :: l) = AV.his l := by simp [AV.his, AV.hi]
theorem his_str (b : List UInt8) (l : List AV) : AV.his (.str b :: l) = AV.his l := by simp [AV.his, AV.hi]
theorem oneOf_more (a b : AV) (l : List AV) : oneOf (a :: b :: l) = .tup (a :: b :: l) := rfl
theorem oneOf_nil : oneOf [] = .tup [] := rfl
theorem oneOf_one (v : AV) : oneOf [v] = v := rfl
end
end Go.Eng

