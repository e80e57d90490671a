/- How many sets of a size there are; how many stand ahead of one; plain. -/
import Derived.Test.YtagghjljbedfdaaDoorMFuel
namespace Go.Proofs.YtagghjljbedfdaaDoor.M
set_option linter.unusedVariables false
set_option linter.unusedSimpArgs false
open Go.RowKit

def binom : Nat → Nat → Nat
  | _, 0 => 1
  | 0, _ + 1 => 0
  | n + 1, k + 1 => binom n k + binom n (k + 1)
theorem binom_zero (n : Nat) : binom n 0 = 1 := by cases n <;> rfl
theorem binom_succ (n k : Nat) : binom (n + 1) (k + 1) = binom n k + binom n (k + 1) := rfl
theorem binom_lt : ∀ {n k : Nat}, n < k → binom n k = 0
  | 0, 0, h => by omega
  | 0, _ + 1, _ => rfl
  | n + 1, 0, h => by omega
  | n + 1, k + 1, h => by rw [binom_succ, binom_lt (show n < k by omega), binom_lt (show n < k + 1 by omega)]
theorem binom_self : ∀ n : Nat, binom n n = 1
  | 0 => rfl
  | n + 1 => by rw [binom_succ, binom_self n, binom_lt (by omega)]
/-- A row of Pascal's triangle. -/
def rowN : Nat → List Nat
  | 0 => [1]
  | n + 1 => List.zipWith (· + ·) (0 :: rowN n) (rowN n ++ [0])
theorem rowN_length : ∀ n, (rowN n).length = n + 1
  | 0 => rfl
  | n + 1 => by simp [rowN, rowN_length n]
theorem rowN_getD : ∀ n k, (rowN n).getD k 0 = binom n k
  | 0, 0 => rfl
  | 0, k + 1 => by simp [rowN, binom]
  | n + 1, k => by
    have hl := rowN_length n
    have ih := rowN_getD n
    have e : (rowN (n + 1)).getD k 0 = (0 :: rowN n).getD k 0 + (rowN n ++ [0]).getD k 0 := by
      simp only [rowN, List.getD_eq_getElem?_getD, List.getElem?_zipWith]
      by_cases h : k < n + 2
      · rw [List.getElem?_eq_getElem (show k < (0 :: rowN n).length by simp; omega), List.getElem?_eq_getElem (show k < (rowN n ++ [0]).length by simp; omega)]
        rfl
      · rw [List.getElem?_eq_none (show (0 :: rowN n).length ≤ k by simp; omega), List.getElem?_eq_none (show (rowN n ++ [0]).length ≤ k by simp; omega)]
        rfl
    have e2 : (rowN n ++ [0]).getD k 0 = (rowN n).getD k 0 := by
      simp only [List.getD_eq_getElem?_getD]
      by_cases h : k < n + 1
      · rw [List.getElem?_append_left (by omega)]
      · rw [List.getElem?_append_right (by omega), List.getElem?_eq_none (show (rowN n).length ≤ k by omega)]
        by_cases h2 : k = n + 1
        · subst h2
          simp [hl]
        · rw [List.getElem?_eq_none (by simp; omega)]
    rw [e, e2, ih]
    cases k with
    | zero => simp [binom_zero]
    | succ k =>
      rw [binom_succ]
      have := ih k
      simp only [List.getD_cons_succ]
      rw [this]
theorem rows_small : ((List.range 65).all fun n => (rowN n).all fun x => decide (x ≤ 1832624140942590534)) = true := by decide +kernel
theorem binom_le {n : Nat} (hn : n ≤ 64) (k : Nat) : binom n k ≤ 1832624140942590534 := by
  rw [← rowN_getD n k]
  have h := List.all_eq_true.1 rows_small n (by simp; omega)
  rw [List.getD_eq_getElem?_getD]
  by_cases hk : k < (rowN n).length
  · rw [List.getElem?_eq_getElem hk]
    have := List.all_eq_true.1 h _ (List.getElem_mem hk)
    simpa using this
  · rw [List.getElem?_eq_none (by omega)]
    simp
/-- The same of integers: 0 where there are none. -/
def bz (n k : Int) : Int := if 0 ≤ n ∧ 0 ≤ k then (binom n.toNat k.toNat : Nat) else 0
theorem bz_nat (n k : Nat) : bz n k = (binom n k : Nat) := by simp [bz]
theorem bz_bound {n : Int} (hn : n ≤ 64) (k : Int) : 0 ≤ bz n k ∧ bz n k ≤ 1832624140942590534 := by
  unfold bz
  split
  · have := binom_le (n := n.toNat) (by omega) k.toNat
    omega
  · omega
theorem bz_neg {n k : Int} (h : k < 0) : bz n k = 0 := by unfold bz; rw [if_neg (by omega)]
theorem bz_over {n k : Int} (h : n < k) : bz n k = 0 := by
  unfold bz
  split
  · rw [binom_lt (by omega)]; rfl
  · rfl
/-- Pascal's rule of integers. -/
theorem bz_succ {n : Int} (hn : 0 ≤ n) (k : Int) : bz (n + 1) k = bz n (k - 1) + bz n k := by
  rcases (show k < 0 ∨ 0 ≤ k by omega) with h | h
  · rw [bz_neg h, bz_neg h, bz_neg (show k - 1 < 0 by omega)]; rfl
  · obtain ⟨m, rfl⟩ := Int.eq_ofNat_of_zero_le hn
    obtain ⟨j, rfl⟩ := Int.eq_ofNat_of_zero_le h
    cases j with
    | zero =>
      rw [bz_neg (show ((0 : Nat) : Int) - 1 < 0 by omega)]
      have := bz_nat (m + 1) 0
      have h2 := bz_nat m 0
      rw [binom_zero] at this h2
      rw [h2]
      exact this
    | succ j =>
      rw [show ((j + 1 : Nat) : Int) - 1 = (j : Int) from by omega, show ((m : Nat) : Int) + 1 = ((m + 1 : Nat) : Int) from by omega, bz_nat, bz_nat, bz_nat, binom_succ]
      omega
/-- How many sets of n have fewer than d numbers. -/
def us (n : Nat) : Nat → Nat
  | 0 => 0
  | d + 1 => us n d + binom n d
theorem us_mono (n : Nat) {d e : Nat} (h : d ≤ e) : us n d ≤ us n e := by
  induction e with
  | zero => obtain rfl : d = 0 := by omega
            exact Nat.le_refl _
  | succ e ih =>
    rcases Nat.lt_or_ge d (e + 1) with h1 | h1
    · have := ih (by omega)
      simp only [us]
      omega
    · obtain rfl : d = e + 1 := by omega
      exact Nat.le_refl _
theorem us_succ (n : Nat) : ∀ d, us (n + 1) (d + 1) = us n d + us n (d + 1)
  | 0 => by simp [us, binom_zero]
  | d + 1 => by
    have ih := us_succ n d
    rw [us, ih, binom_succ]
    simp only [us]
    omega
theorem us_le : ∀ n d, us n d ≤ 2 ^ n
  | 0, 0 => by simp [us]
  | 0, d + 1 => by
    have : us 0 (d + 1) ≤ 1 := by
      induction d with
      | zero => simp [us, binom_zero]
      | succ d ih =>
        rw [us, binom_lt (by omega)]
        exact ih
    simpa using this
  | n + 1, 0 => by simp [us]
  | n + 1, d + 1 => by
    rw [us_succ, Nat.pow_succ]
    have := us_le n d
    have := us_le n (d + 1)
    omega
end Go.Proofs.YtagghjljbedfdaaDoor.M
