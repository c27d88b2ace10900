/-
  Texts of a proof. Conditions: none.
-/
import Derived.Test.YtolhindhmljgdaaGreatDoorVPlainG
set_option linter.unusedVariables false
set_option linter.unusedSimpArgs false
set_option linter.unnecessarySimpa false
set_option linter.unusedSectionVars false
namespace Go.Eng
open Go
set_option maxHeartbeats 2000000
set_option maxRecDepth 4000
set_option linter.unusedSimpArgs false
set_option linter.unusedVariables false
set_option linter.unusedSectionVars false

/-- A cell that refers to no row, and is no bundle. -/
def flatV (v : AV) : Bool :=
  match v with
  | .slc .. | .agg _ | .tup _ | .iface _ _ | .any => false
  | v => v.hi == 0

theorem flat_shut {v : AV} (h : flatV v = true) (st : St) (n0 k : Nat) : shutV st n0 (k + 1) true v = some v := by
  cases v <;> simp_all [flatV, shutV]
theorem flat_cell {v : AV} (h : flatV v = true) : v.isCell = true := by cases v <;> simp_all [flatV, AV.isCell]
theorem flat_hi {v : AV} (h : flatV v = true) : v.hi = 0 := by cases v <;> simp_all [flatV, AV.hi]
theorem flats_shut (st : St) (n0 : Nat) : ∀ (cs : List AV) (k : Nat), (∀ c ∈ cs, flatV c = true) → cs.length + 1 < k → shutVs st n0 k true cs = some cs
  | [], k, _, hk => by
    obtain ⟨k, rfl⟩ : ∃ j, k = j + 1 := ⟨k - 1, by omega⟩
    rfl
  | c :: l, k, h, hk => by
    obtain ⟨k, rfl⟩ : ∃ j, k = j + 1 := ⟨k - 1, by omega⟩
    obtain ⟨j, rfl⟩ : ∃ j, k = j + 1 := ⟨k - 1, by simp at hk; omega⟩
    simp only [shutVs, flat_shut (h c (by simp)), flats_shut st n0 l (j + 1) (fun d hd => h d (by simp [hd])) (by simp at hk; omega)]
theorem flats_hi : ∀ (cs : List AV), (∀ c ∈ cs, flatV c = true) → AV.his cs = 0
  | [], _ => rfl
  | c :: l, h => by
    rw [his_cons, flat_hi (h c (by simp)), flats_hi l (fun d hd => h d (by simp [hd]))]; rfl
theorem flats_cell (cs : List AV) (h : ∀ c ∈ cs, flatV c = true) : cs.all AV.isCell = true := by
  rw [List.all_eq_true]; intro c hc; exact flat_cell (h c hc)

/-- So many cells each. -/
def Each (sz : Nat) (es : List (List AV)) : Prop := ∀ e ∈ es, e.length = sz ∧ ∀ c ∈ e, flatV c = true
theorem Each.flat {sz : Nat} {es : List (List AV)} (h : Each sz es) : ∀ c ∈ es.flatten, flatV c = true := by
  intro c hc
  obtain ⟨e, he, hce⟩ := List.mem_flatten.1 hc
  exact (h e he).2 c hce
theorem Each.len {sz : Nat} : ∀ {es : List (List AV)}, Each sz es → es.flatten.length = es.length * sz
  | [], _ => by simp
  | e :: es, h => by
    have h2 : Each sz es := fun d hd => h d (by simp [hd])
    rw [List.flatten_cons, List.length_append, h2.len, (h e (by simp)).1, List.length_cons, Nat.succ_mul]
    omega
theorem Each.chunk {sz : Nat} : ∀ {es : List (List AV)}, Each sz es → chunk sz es.length es.flatten = es
  | [], _ => rfl
  | e :: es, h => by
    have h2 : Each sz es := fun d hd => h d (by simp [hd])
    have h1 := (h e (by simp)).1
    simp only [List.length_cons, Eng.chunk, List.flatten_cons]
    rw [List.take_append_of_le_length (by omega), List.take_of_length_le (by omega), List.drop_append_of_le_length (by omega), List.drop_of_length_le (by omega)]
    simp [h2.chunk]
theorem Each.push {sz : Nat} {es : List (List AV)} (h : Each sz es) {e : List AV} (he : e.length = sz) (hf : ∀ c ∈ e, flatV c = true) : Each sz (es ++ [e]) := by
  intro d hd
  rcases List.mem_append.1 hd with h1 | h1
  · exact h d h1
  · simp at h1; subst h1; exact ⟨he, hf⟩

/-- A row that grows: nothing yet, or a row at the end. -/
def accV (n0 sz : Nat) (es : List (List AV)) : AV :=
  match es with
  | [] => .nils
  | _ :: l => .slc n0 0 es.length es.length l.length sz false
def accR (sz ty : Nat) (es : List (List AV)) : List Row :=
  match es with
  | [] => []
  | _ :: l => [.cells es.flatten l.length 0 false ty]
/-- What is left of it behind the call. -/
def accF (sz : Nat) (es : List (List AV)) : AV :=
  match es with
  | [] => .nils
  | _ :: _ => .sl sz es false

theorem accF_flat (sz : Nat) (es : List (List AV)) : flatV (accF sz es) = true := by
  cases es <;> simp [accF, flatV, AV.hi]

theorem acc_append {st : St} {sz ty bytes : Nat} {es : List (List AV)} (hE : Each sz es) (hlen : es.length ≤ 1000000) (hb : bytes ≤ 1000) {e : List AV} (he : e.length = sz) (hf : ∀ c ∈ e, flatV c = true) :
    aAppend (st ++ accR sz ty es) ty sz bytes (accV st.length sz es) e 1 = some (accV st.length sz (es ++ [e]), st ++ accR sz ty (es ++ [e])) := by
  have hsm : (es.length + 1 + 1000) * (bytes + 1) ≤ small := by
    have : (es.length + 1 + 1000) * (bytes + 1) ≤ 1001001 * 1001 := Nat.mul_le_mul (by omega) (by omega)
    unfold small; omega
  unfold aAppend
  rw [if_neg (by omega), if_neg (by rw [flats_cell e hf]; simp [he])]
  cases es with
  | nil =>
    simp only [accV, accR, List.append_nil, List.nil_append]
    rw [if_pos (by simp at hsm; omega)]
    simp [flats_hi e hf]
  | cons a l =>
    have hg : (st ++ [Row.cells (a :: l).flatten l.length 0 false ty])[st.length]? = some (.cells (a :: l).flatten l.length 0 false ty) := get_new0
    have hlf : (a :: l).flatten.length = (a :: l).length * sz := hE.len
    simp only [accV, accR, hg]
    rw [if_neg (by simp only [ne_eq, not_true, false_or, Classical.not_not]; exact hsm)]
    rw [if_neg (by rw [hlf]; simp)]
    rw [if_neg (by omega)]
    simp only [Bool.false_eq_true, if_false]
    rw [if_pos (by rw [hlf]; simp)]
    simp [set_new0, flats_hi e hf, List.length_cons]

theorem acc_leave {st : St} {sz ty : Nat} {es : List (List AV)} (hG : Good st) (hE : Each sz es) (hsz : 0 < sz) (hlen : es.length * sz ≤ 900000) (n0 : Nat) (hn : st.length = n0) :
    leave n0 true (accV n0 sz es) (st ++ accR sz ty es) = (accF sz es, st) := by
  subst hn
  cases es with
  | nil => simp only [accV, accR, accF, List.append_nil]; exact leave_keep rfl (by simp [AV.hi])
  | cons a l =>
    unfold leave
    have ht : (st ++ accR sz ty (a :: l)).take st.length = st := by simp
    have hg : (st ++ accR sz ty (a :: l))[st.length]? = some (.cells (a :: l).flatten l.length 0 false ty) := get_new0
    have hlf : (a :: l).flatten.length = (a :: l).length * sz := hE.len
    rw [ht, if_pos (by rw [List.all_eq_true]; intro r hr; simpa using hG r hr)]
    rw [if_neg (by simp [accV, AV.hi])]
    simp only [if_true]
    have hr : rdRow (st ++ accR sz ty (a :: l)) st.length 0 l.length ((a :: l).length * sz) = some (a :: l).flatten := by
      simp only [rdRow, hg, if_true]
      exact cut_all _ _ hlf
    have hs : shutV (st ++ accR sz ty (a :: l)) st.length 1000000 false (accV st.length sz (a :: l)) = some (.sl sz (a :: l) false) := by
      show shutV (st ++ accR sz ty (a :: l)) st.length (999999 + 1) false (.slc st.length 0 (a :: l).length (a :: l).length l.length sz false) = _
      simp only [shutV]
      rw [if_neg (by omega), if_neg (by omega), hr]
      simp only
      rw [flats_shut _ _ _ _ hE.flat (by rw [hlf]; omega)]
      simp only [hE.chunk]
    rw [hs]
    simp [accF, AV.hi]
end Go.Eng

