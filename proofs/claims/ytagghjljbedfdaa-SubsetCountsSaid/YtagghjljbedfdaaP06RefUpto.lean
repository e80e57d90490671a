/- What the reference's Upto comes to; the law SubsetCounts. -/
import Derived.Test.YtagghjljbedfdaaP06Choose
import Derived.Test.YtagghjljbedfdaaQx2
namespace Go.Proofs.Ytagghjljbedfdaa.M
set_option linter.unusedVariables false
set_option linter.unusedSimpArgs false
open Go.RowKit Go.Proofs.Ytagghjljbedfdaa.Q Go.Proofs.YtagghjljbedfdaaW.PrintWords Go.Proofs.YtagghjljbedfdaaW.PrintMore
theorem refUpto_l0 {n : Nat} (hn : n ≤ 64) (t : Int) (d : Nat) : ∀ j, j + d = uptoD n t → us n j ≤ 4611686018427387904 → ∀ V : Int × Int, V = (if 4611686018427387904 < us n (uptoD n t) then (0, 4) else (((us n (uptoD n t) : Nat) : Int), 0)) →
    Ends (fun k => recoupref06_Upto.l0 k (n : Int) t (us n j : Nat) (j : Int)) V := by
  induction d with
  | zero =>
    intro j hj hu V hV
    have hD : uptoD n t = j := by omega
    refine Ends.succ (fun k => by rw [recoupref06_Upto.l0]) ?_
    refine Ends.neg (by rw [mn_comm, uptoD_lt]; omega) (Ends.const ?_)
    rw [hV, hD, if_neg (by omega)]
  | succ d ih =>
    intro j hj hu V hV
    have hD : j < uptoD n t := by omega
    have hjn : j ≤ n := by have := uptoD_le (n := n) (t := t); omega
    have hm2 := us_mono n (show j + 1 ≤ uptoD n t by omega)
    refine Ends.succ (fun k => by rw [recoupref06_Upto.l0]) ?_
    refine Ends.pos (by rw [mn_comm]; exact uptoD_lt.2 hD) ?_
    have hc : (if 0 ≤ (n : Int) ∧ (n : Int) ≤ 64 then (bz (n : Int) (j : Int), (0 : Int)) else (0, 2)) = (((binom n j : Nat) : Int), 0) := by rw [if_pos ⟨by omega, by omega⟩, bz_nat]
    refine Ends.bind ((refChoose_eq _ _).eq hc) ?_
    clear hc
    have hus : us n (j + 1) = us n j + binom n j := rfl
    rw [show wrap64 (4611686018427387904 - ((us n j : Nat) : Int)) = 4611686018427387904 - ((us n j : Nat) : Int) from w64 (by omega) (by omega)]
    by_cases hx : 4611686018427387904 < us n (j + 1)
    · have h4 : 4611686018427387904 < us n (uptoD n t) := by omega
      rw [if_pos h4] at hV
      refine Ends.pos ?_ (Ends.const (by rw [hV]))
      simp only []
      omega
    · refine Ends.neg ?_ ?_
      · simp only []
        omega
      · simp only []
        rw [us_wrap hn hu, next_wrap hn hjn]
        exact ih (j + 1) (by omega) (by omega) V hV
theorem refUpto_eq (n t : Int) : Ends (fun k => recoupref06_Upto.f k n t) (uptoV n t) := by
  unfold recoupref06_Upto.f uptoV
  by_cases h0 : n < 0
  · refine Ends.pos h0 (Ends.succ (fun j => by rw [recoupref06_Upto.j0]) (Ends.pos rfl (Ends.const ?_)))
    rw [if_neg (by omega)]
  · refine Ends.neg h0 ?_
    by_cases h1 : n > 64
    · refine Ends.succ (fun j => by rw [recoupref06_Upto.j0]) (Ends.pos (by simpa using h1) (Ends.const ?_))
      rw [if_neg (by omega)]
    · rw [if_pos (by omega)]
      refine Ends.succ (fun j => by rw [recoupref06_Upto.j0]) (Ends.neg (by simpa using h1) ?_)
      obtain ⟨m, rfl⟩ := Int.eq_ofNat_of_zero_le (show 0 ≤ n by omega)
      exact refUpto_l0 (by omega) t _ 0 (Nat.zero_add _) (by simp [us]) _ rfl
end Go.Proofs.Ytagghjljbedfdaa.M
