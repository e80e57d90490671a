/- What the printed functions of choose and Upto come to. -/
import Derived.Test.YtagghjljbedfdaaDoorMBinom
import Derived.Test.YtagghjljbedfdaaDoorQx4
import Derived.Test.YtagghjljbedfdaaDoorQx7
import Derived.Test.YtagghjljbedfdaaDoorQx6
import Derived.Test.YtagghjljbedfdaaDoorQx5
namespace Go.Proofs.YtagghjljbedfdaaDoor.M
set_option linter.unusedVariables false
set_option linter.unusedSimpArgs false
open Go.RowKit Go.Proofs.YtagghjljbedfdaaDoor.Q Go.Proofs.YtagghjljbedfdaaDoorW.PrintWords Go.Proofs.YtagghjljbedfdaaDoorW.PrintMore

/-- A row of L numbers behind i rounds, of which those above place j are one round further. -/
def rowAt (L i j : Nat) : List Int := (List.range L).map fun p => ((if p ≤ j then binom i p else binom (i + 1) p : Nat) : Int)
theorem rowAt_length (L i j : Nat) : (rowAt L i j).length = L := by simp [rowAt]
theorem rowAt_getD {L i j p : Nat} (h : p < L) : (rowAt L i j).getD p 0 = ((if p ≤ j then binom i p else binom (i + 1) p : Nat) : Int) := by
  rw [List.getD_eq_getElem?_getD, rowAt, List.getElem?_map, List.getElem?_range h]
  rfl
theorem rowAt_set {L i j : Nat} (h : j + 1 < L) : (rowAt L i (j + 1)).set (j + 1) ((binom i j + binom i (j + 1) : Nat) : Int) = rowAt L i j := by
  apply List.ext_getElem
  · simp [rowAt]
  · intro p h1 h2
    rw [List.getElem_set]
    simp only [rowAt, List.getElem_map, List.getElem_range]
    by_cases hp : j + 1 = p
    · subst hp
      rw [if_pos rfl, if_neg (by omega), binom_succ]
    · rw [if_neg hp]
      by_cases hq : p ≤ j
      · rw [if_pos (by omega), if_pos hq]
      · rw [if_neg (by omega), if_neg hq]
theorem rowAt_all {L i j : Nat} (h : L ≤ j + 1) : rowAt L i j = (List.range L).map fun p => ((binom i p : Nat) : Int) := by
  unfold rowAt
  apply List.map_congr_left
  intro p hp
  rw [List.mem_range] at hp
  rw [if_pos (by omega)]
theorem rowAt_zero (L i : Nat) : rowAt L i 0 = (List.range L).map fun p => ((binom (i + 1) p : Nat) : Int) := by
  unfold rowAt
  apply List.map_congr_left
  intro p _
  by_cases h : p ≤ 0
  · obtain rfl : p = 0 := by omega
    rw [if_pos h, binom_zero, binom_zero]
  · rw [if_neg h]
theorem rowAt_tip (L i : Nat) : rowAt L i (i + 1) = (List.range L).map fun p => ((binom i p : Nat) : Int) := by
  unfold rowAt
  apply List.map_congr_left
  intro p _
  by_cases h : p ≤ i + 1
  · rw [if_pos h]
  · rw [if_neg h, binom_lt (by omega), binom_lt (by omega)]
theorem binom_add_small {i : Nat} (hi : i ≤ 64) (a b : Nat) : wrap64 (((binom i a : Nat) : Int) + ((binom i b : Nat) : Int)) = ((binom i a + binom i b : Nat) : Int) := by
  have := binom_le hi a
  have := binom_le hi b
  rw [w64 (by omega) (by omega)]
  omega
theorem inner_eq {L i : Nat} (hi : i ≤ 64) : ∀ j, j < L → subset_choose.inner (rowAt L i j) j = rowAt L i 0
  | 0, _ => rfl
  | j + 1, h => by
    unfold subset_choose.inner
    rw [rowAt_getD h, rowAt_getD (show j < L by omega), if_pos (Nat.le_refl _), if_pos (by omega), Int.add_comm, binom_add_small hi, rowAt_set h]
    exact inner_eq hi j (by omega)
theorem rows_eq : ∀ i, i ≤ 64 → subset_choose.rows i = (List.range 65).map fun p => ((binom i p : Nat) : Int)
  | 0, _ => by decide +kernel
  | i + 1, h => by
    unfold subset_choose.rows
    rw [rows_eq i (by omega), ← rowAt_tip, inner_eq (by omega) (i + 1) (by omega), rowAt_zero]
theorem choose_eq {n : Int} (hn : n ≤ 64) (k : Int) : subset_choose.f n k = some (bz n k) := by
  unfold subset_choose.f
  by_cases h : k < 0
  · rw [if_pos h, bz_neg h]
  · rw [if_neg h]
    by_cases h2 : k > n
    · rw [if_pos h2, bz_over h2]
    · rw [if_neg h2, if_pos hn, rows_eq _ (by omega)]
      unfold bz
      rw [if_pos (by omega), List.getD_eq_getElem?_getD, List.getElem?_map, List.getElem?_range (by omega)]
      rfl
theorem may_eq (n : Int) : subset_may.f n = some (decide (0 ≤ n) && decide (n ≤ 64)) := by
  unfold subset_may.f
  by_cases h : 0 ≤ n
  · rw [if_pos h]; simp [h]
  · rw [if_neg h]; simp [h]
theorem Choose_eq (n k : Int) : subset_Choose.f n k = some (if 0 ≤ n ∧ n ≤ 64 then (bz n k, 0) else (0, 2)) := by
  unfold subset_Choose.f
  rw [may_eq, Option.bind_some]
  by_cases h : 0 ≤ n ∧ n ≤ 64
  · rw [if_pos (by simpa using h), choose_eq h.2, if_pos h]; rfl
  · rw [if_neg (by simpa using h), if_neg h]
/-! ### the reference's triangle -/
theorem pascal_l1 {n i : Nat} (hi : i ≤ 64) {r : List Int} (hr : Ends (fun k => recoupref06_pascal.l0 k (n : Int) (rowAt 66 i 0) ((i : Int) + 1)) r) :
    ∀ j, j ≤ 65 → Ends (fun k => recoupref06_pascal.l1 k (n : Int) (rowAt 66 i j) (i : Int) (j : Int)) r
  | 0, _ => by
    refine Ends.succ (fun k => by rw [recoupref06_pascal.l1]) ?_
    refine Ends.neg (by omega) ?_
    rw [show wrap64 ((i : Int) + 1) = (i : Int) + 1 from w64 (by omega) (by omega)]
    exact hr
  | j + 1, h => by
    have ih := pascal_l1 hi hr j (by omega)
    refine Ends.succ (fun k => by rw [recoupref06_pascal.l1]) ?_
    refine Ends.pos (by omega) (Ends.pos (by omega) (Ends.pos (by rw [rowAt_length]; omega) ?_))
    rw [show wrap64 (((j + 1 : Nat) : Int) - 1) = (j : Int) from by rw [w64 (by omega) (by omega)]; omega]
    refine Ends.pos (by omega) (Ends.pos (by rw [rowAt_length]; omega) ?_)
    rw [rd_nat, rd_nat, rowAt_getD (by omega), rowAt_getD (by omega), if_pos (Nat.le_refl _), if_pos (by omega), Int.add_comm, binom_add_small hi, Int.toNat_natCast, rowAt_set (by omega)]
    exact ih
theorem pascal_l0 {n : Nat} (hn : n ≤ 64) (d : Nat) : ∀ i, i + d = n → Ends (fun k => recoupref06_pascal.l0 k (n : Int) (rowAt 66 i 65) (i : Int)) (rowAt 66 n 65) := by
  induction d with
  | zero =>
    intro i hi
    obtain rfl : i = n := by omega
    refine Ends.succ (fun k => by rw [recoupref06_pascal.l0]) ?_
    exact Ends.neg (by omega) (Ends.const rfl)
  | succ d ih =>
    intro i hi
    refine Ends.succ (fun k => by rw [recoupref06_pascal.l0]) ?_
    refine Ends.pos (by omega) ?_
    refine pascal_l1 (by omega) ?_ 65 (by omega)
    have := ih (i + 1) (by omega)
    rw [rowAt_all (by omega)] at this
    rw [rowAt_zero]
    exact this
theorem pascal_eq {n : Nat} (hn : n ≤ 64) : Ends (fun k => recoupref06_pascal.f k (n : Int)) ((List.range 66).map fun p => ((binom n p : Nat) : Int)) := by
  have h := pascal_l0 hn n 0 (by omega)
  rw [rowAt_all (i := n) (by omega)] at h
  unfold recoupref06_pascal.f
  refine Ends.pos (by decide) ?_
  have e : ((List.replicate 66 0 : List Int).set (0 : Int).toNat 1) = rowAt 66 0 65 := by decide +kernel
  refine Ends.bind1 rfl (Ends.pos (by decide) ?_)
  rw [e]
  exact h
theorem refChoose_eq (n k : Int) : Ends (fun j => recoupref06_Choose.f j n k) (if 0 ≤ n ∧ n ≤ 64 then (bz n k, 0) else (0, 2)) := by
  unfold recoupref06_Choose.f
  by_cases h0 : n < 0
  · refine Ends.pos h0 (Ends.succ (fun j => by rw [recoupref06_Choose.j0]) (Ends.pos rfl (Ends.const ?_)))
    rw [if_neg (by omega)]
  · refine Ends.neg h0 ?_
    by_cases h1 : n > 64
    · refine Ends.succ (fun j => by rw [recoupref06_Choose.j0]) (Ends.pos (by simpa using h1) (Ends.const ?_))
      rw [if_neg (by omega)]
    · rw [if_pos (by omega)]
      refine Ends.succ (fun j => by rw [recoupref06_Choose.j0]) (Ends.neg (by simpa using h1) ?_)
      by_cases h2 : k < 0
      · refine Ends.pos h2 (Ends.const ?_)
        rw [bz_neg h2]
      · refine Ends.neg h2 ?_
        by_cases h3 : k > n
        · refine Ends.pos h3 (Ends.const ?_)
          rw [bz_over h3]
        · refine Ends.neg h3 ?_
          obtain ⟨m, rfl⟩ := Int.eq_ofNat_of_zero_le (show 0 ≤ n by omega)
          obtain ⟨p, rfl⟩ := Int.eq_ofNat_of_zero_le (show 0 ≤ k by omega)
          refine Ends.bind (pascal_eq (by omega)) (Ends.pos (by omega) (Ends.pos (by simp; omega) (Ends.const ?_)))
          rw [rd_nat, List.getD_eq_getElem?_getD, List.getElem?_map, List.getElem?_range (by omega), bz_nat]
          rfl
/-! ### Upto -/
/-- How many sizes are asked for. -/
def uptoD (n t : Int) : Nat := (mn n t + 1).toNat
def uptoV (n t : Int) : Int × Int := if 0 ≤ n ∧ n ≤ 64 then if 4611686018427387904 < us n.toNat (uptoD n t) then (0, 4) else (us n.toNat (uptoD n t), 0) else (0, 2)
theorem uptoD_lt {n : Nat} {t : Int} {j : Nat} : (j : Int) ≤ mn (n : Int) t ↔ j < uptoD n t := by unfold uptoD; omega
theorem uptoD_le {n : Nat} {t : Int} : uptoD n t ≤ n + 1 := by
  have hm : mn (n : Int) t ≤ n := by unfold mn; split <;> omega
  unfold uptoD
  omega
theorem mn_comm (a b : Int) : mn a b = mn b a := by unfold mn; split <;> split <;> omega
theorem us_wrap {n j : Nat} (hn : n ≤ 64) (hu : us n j ≤ 4611686018427387904) : wrap64 (((us n j : Nat) : Int) + ((binom n j : Nat) : Int)) = ((us n (j + 1) : Nat) : Int) := by
  have hb := binom_le hn j
  rw [w64 (by omega) (by omega), us]
  omega
theorem next_wrap {n j : Nat} (hn : n ≤ 64) (hj : j ≤ n) : wrap64 ((j : Int) + 1) = ((j + 1 : Nat) : Int) := by
  rw [w64 (by omega) (by omega)]
  omega
theorem upto_l0 {n : Nat} (hn : n ≤ 64) (t : Int) (d : Nat) : ∀ j, j + d = uptoD n t → us n j ≤ 4611686018427387904 → ∀ V : Int × Int, V = (if 4611686018427387904 < us n (uptoD n t) then (0, 4) else (((us n (uptoD n t) : Nat) : Int), 0)) →
    Ends (fun k => subset_Upto.l0 k (n : Int) t (us n j : Nat) (j : Int)) V := by
  induction d with
  | zero =>
    intro j hj hu V hV
    have hD : uptoD n t = j := by omega
    refine Ends.succ (fun k => by rw [subset_Upto.l0]) ?_
    refine Ends.neg (by rw [uptoD_lt]; omega) (Ends.const ?_)
    rw [hV, hD, if_neg (by omega)]
  | succ d ih =>
    intro j hj hu V hV
    have hD : j < uptoD n t := by omega
    have hjn : j ≤ n := by have := uptoD_le (n := n) (t := t); omega
    have hm2 := us_mono n (show j + 1 ≤ uptoD n t by omega)
    refine Ends.succ (fun k => by rw [subset_Upto.l0]) ?_
    refine Ends.pos (uptoD_lt.2 hD) ?_
    refine Ends.bind1 (choose_eq (by omega) _) ?_
    rw [bz_nat, us_wrap hn hu, next_wrap hn hjn]
    by_cases hx : 4611686018427387904 < us n (j + 1)
    · have h4 : 4611686018427387904 < us n (uptoD n t) := by omega
      rw [if_pos h4] at hV
      refine Ends.pos (by omega) (Ends.const (by rw [hV]))
    · refine Ends.neg (by omega) ?_
      exact ih (j + 1) (by omega) (by omega) V hV
theorem Upto_eq (n t : Int) : Ends (fun k => subset_Upto.f k n t) (uptoV n t) := by
  unfold subset_Upto.f uptoV
  rw [may_eq]
  refine Ends.bind1 rfl ?_
  by_cases h : 0 ≤ n ∧ n ≤ 64
  · refine Ends.pos (by simpa using h) ?_
    rw [if_pos h]
    obtain ⟨m, rfl⟩ := Int.eq_ofNat_of_zero_le h.1
    exact upto_l0 (by omega) t _ 0 (Nat.zero_add _) (by simp [us]) _ rfl
  · refine Ends.neg (by simpa using h) (Ends.const ?_)
    rw [if_neg h]
end Go.Proofs.YtagghjljbedfdaaDoor.M
