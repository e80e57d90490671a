/- The place of a set among those of its size, and back; plain. -/
import Derived.Test.YtagghjljbedfdaaDoorMBinom
namespace Go.Proofs.YtagghjljbedfdaaDoor.M
set_option linter.unusedVariables false
set_option linter.unusedSimpArgs false

/-- Rising numbers from f on, below n. -/
def okL (n : Nat) : Nat → List Nat → Prop
  | _, [] => True
  | f, x :: r => f ≤ x ∧ x < n ∧ okL n (x + 1) r
theorem okL_of {n : Nat} : ∀ {l : List Nat} {f : Nat}, l.Pairwise (· < ·) → (∀ x ∈ l, f ≤ x ∧ x < n) → okL n f l
  | [], _, _, _ => trivial
  | x :: r, f, hs, h => by
    rw [List.pairwise_cons] at hs
    have hx := h x List.mem_cons_self
    exact ⟨hx.1, hx.2, okL_of hs.2 fun y hy => ⟨hs.1 y hy, (h y (List.mem_cons_of_mem _ hy)).2⟩⟩
theorem okL_mono {n f g : Nat} (h : f ≤ g) : ∀ {l : List Nat}, okL n g l → okL n f l
  | [], _ => trivial
  | x :: r, ⟨h1, h2, h3⟩ => ⟨by omega, h2, h3⟩
theorem okL_len {n : Nat} : ∀ {l : List Nat} {f : Nat}, okL n f l → f + l.length ≤ n ∨ l = []
  | [], _, _ => Or.inr rfl
  | x :: r, f, ⟨h1, h2, h3⟩ => by
    left
    rcases okL_len h3 with h | rfl
    · simp only [List.length_cons]; omega
    · simp only [List.length_cons, List.length_nil]; omega
/-- How many sets of t numbers begin at one of the d places from v on. -/
def gap (n : Nat) : Nat → Nat → Nat → Nat
  | _, 0, _ => 0
  | v, d + 1, t => binom (n - v - 1) t + gap n (v + 1) d t
theorem gap_tel {n t : Nat} : ∀ {d v : Nat}, v + d ≤ n → gap n v d t + binom (n - v - d) (t + 1) = binom (n - v) (t + 1)
  | 0, v, _ => by simp [gap]
  | d + 1, v, h => by
    have ih := gap_tel (n := n) (t := t) (d := d) (v := v + 1) (by omega)
    obtain ⟨m, hm⟩ : ∃ m, n - v = m + 1 := ⟨n - v - 1, by omega⟩
    rw [gap, hm, binom_succ, show m + 1 - 1 = m from rfl]
    rw [show n - (v + 1) = m from by omega] at ih
    rw [show m + 1 - (d + 1) = m - d from by omega]
    omega
theorem gap_last {n t : Nat} : ∀ {d v : Nat}, gap n v (d + 1) t = gap n v d t + binom (n - (v + d) - 1) t
  | 0, v => by simp [gap]
  | d + 1, v => by
    have ih := gap_last (n := n) (t := t) (d := d) (v := v + 1)
    rw [gap, ih, gap, show v + 1 + d = v + (d + 1) from by omega]
    omega
/-- How many sets stand ahead of a list's. -/
def placeL (n : Nat) : Nat → List Nat → Nat
  | _, [] => 0
  | f, x :: r => gap n f (x - f) r.length + placeL n (x + 1) r
theorem placeL_lt {n : Nat} : ∀ {l : List Nat} {f : Nat}, okL n f l → placeL n f l < binom (n - f) l.length
  | [], f, _ => by simp [placeL, binom_zero]
  | x :: r, f, ⟨h1, h2, h3⟩ => by
    have ih := placeL_lt h3
    have ht := gap_tel (n := n) (t := r.length) (d := x - f) (v := f) (by omega)
    rw [show n - f - (x - f) = (n - (x + 1)) + 1 from by omega, binom_succ] at ht
    simp only [placeL, List.length_cons]
    omega
/-- The set at a place: m places are left; those of k numbers. -/
def atGo (n : Nat) : Nat → Nat → Nat → List Nat
  | 0, _, _ => []
  | m + 1, 0, _ => []
  | m + 1, k + 1, p => if binom m k ≤ p then atGo n m (k + 1) (p - binom m k) else (n - (m + 1)) :: atGo n m k p
theorem atGo_zero (n : Nat) : ∀ m p, atGo n m 0 p = []
  | 0, _ => rfl
  | _ + 1, _ => rfl
theorem atGo_placeL {n : Nat} : ∀ (m : Nat) {l : List Nat} {f : Nat}, f + m = n → okL n f l → atGo n m l.length (placeL n f l) = l
  | 0, [], _, _, _ => rfl
  | 0, x :: r, f, hf, ⟨h1, h2, _⟩ => by omega
  | m + 1, [], _, _, _ => rfl
  | m + 1, x :: r, f, hf, ⟨h1, h2, h3⟩ => by
    simp only [List.length_cons, atGo]
    by_cases hx : f = x
    · subst hx
      have hl := placeL_lt h3
      have e : placeL n f (f :: r) = placeL n (f + 1) r := by simp [placeL, gap]
      rw [e, if_neg (by rw [show n - (f + 1) = m from by omega] at hl; omega), show n - (m + 1) = f from by omega, atGo_placeL m (by omega) h3]
    · have hok : okL n (f + 1) (x :: r) := ⟨by omega, h2, h3⟩
      have e : placeL n f (x :: r) = binom m r.length + placeL n (f + 1) (x :: r) := by
        simp only [placeL]
        rw [show x - f = (x - (f + 1)) + 1 from by omega, gap, show n - f - 1 = m from by omega]
        omega
      rw [e, if_pos (by omega), Nat.add_sub_cancel_left]
      exact atGo_placeL m (by omega) hok
/-- The next list, number by number. -/
def nxt (n : Nat) : List Nat → Option (List Nat)
  | [] => none
  | x :: r => match nxt n r with
    | some r' => some (x :: r')
    | none => if x + (r.length + 1) < n then some (List.range' (x + 1) (r.length + 1)) else none
theorem nxt_length {n : Nat} : ∀ {l m : List Nat}, nxt n l = some m → m.length = l.length
  | [], m, h => by cases h
  | x :: r, m, h => by
    unfold nxt at h
    cases hr : nxt n r with
    | some r' =>
      rw [hr] at h
      injection h with h
      subst h
      simp [nxt_length hr]
    | none =>
      rw [hr] at h
      simp only at h
      split at h
      · injection h with h
        subst h
        simp
      · cases h
theorem placeL_run {n : Nat} : ∀ c y, placeL n y (List.range' y c) = 0
  | 0, y => rfl
  | c + 1, y => by
    rw [List.range'_succ]
    simp [placeL, gap, placeL_run c (y + 1)]
theorem nxt_none {n : Nat} : ∀ {l : List Nat} {f : Nat}, okL n f l → nxt n l = none → placeL n f l + 1 = binom (n - f) l.length
  | [], f, _, _ => by simp [placeL, binom_zero]
  | x :: r, f, ⟨h1, h2, h3⟩, h => by
    unfold nxt at h
    cases hr : nxt n r with
    | some r' => rw [hr] at h; cases h
    | none =>
      rw [hr] at h
      simp only at h
      split at h
      · cases h
      · rename_i hx
        have ih := nxt_none h3 hr
        have hlen : x + (r.length + 1) = n := by
          rcases okL_len h3 with h4 | rfl
          · omega
          · simp only [List.length_nil] at hx ⊢; omega
        have ht := gap_tel (n := n) (t := r.length) (d := x - f) (v := f) (by omega)
        rw [show n - f - (x - f) = r.length + 1 from by omega, binom_self] at ht
        rw [show n - (x + 1) = r.length from by omega, binom_self] at ih
        simp only [placeL, List.length_cons]
        omega
theorem nxt_some {n : Nat} : ∀ {l m : List Nat} {f : Nat}, okL n f l → nxt n l = some m → placeL n f m = placeL n f l + 1
  | [], _, _, _, h => by cases h
  | x :: r, m, f, ⟨h1, h2, h3⟩, h => by
    unfold nxt at h
    cases hr : nxt n r with
    | some r' =>
      rw [hr] at h
      injection h with h
      subst h
      have ih := nxt_some h3 hr
      simp only [placeL, nxt_length hr, ih]
      omega
    | none =>
      rw [hr] at h
      simp only at h
      split at h
      · injection h with h
        subst h
        have ih := nxt_none h3 hr
        rw [List.range'_succ]
        simp only [placeL, List.length_range']
        rw [placeL_run, show x + 1 - f = (x - f) + 1 from by omega, gap_last, show n - (f + (x - f)) - 1 = n - (x + 1) from by omega]
        omega
      · cases h
end Go.Proofs.YtagghjljbedfdaaDoor.M
