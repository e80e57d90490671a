/- SubsetPascal: Choose by the two of one fewer, Upto by its sums: for every n below 64 and every k below 66. -/
import Derived.Test.YtagghjljbedfdaaDoorP06Place
import Derived.Test.YtagghjljbedfdaaDoorQx8
namespace Go.Proofs.YtagghjljbedfdaaDoor.M
open Go.RowKit Go.Proofs.YtagghjljbedfdaaDoor.Q Go.Proofs.YtagghjljbedfdaaDoorW.PrintWords Go.Proofs.YtagghjljbedfdaaDoorW.PrintMore
theorem uptoD_at {m j : Nat} : uptoD (m : Int) (j : Int) = (if j ≤ m then j + 1 else m + 1) := by
  unfold uptoD mn
  split <;> split <;> omega
theorem uptoD_pred {m j : Nat} : uptoD (m : Int) ((j : Int) - 1) = (if j ≤ m then j else m + 1) := by
  unfold uptoD mn
  split <;> split <;> omega
theorem pascal_case (m j : Nat) (hm : m ≤ 63) (hj : j ≤ 65) (A : Int) (B : Int) (hA : A = (m : Int)) (hB : B = (j : Int)) :
    Ends (fun k => (subset_Choose.f (wrap64 (A + 1)) B).bind fun a => (subset_Choose.f A (wrap64 (B - 1))).bind fun b => (subset_Choose.f A B).bind fun c =>
      (subset_Upto.f k A B).bind fun x => (subset_Upto.f k A (wrap64 (B - 1))).bind fun y =>
      (if x.2 = 0 then ((recouplaw06_anchored.f k).bind fun t => (if t = true then (if a.2 = 0 then (if b.2 = 0 then (if c.2 = 0 then (if y.2 = 0 then (if a.1 = (wrap64 (b.1 + c.1)) then (some (x.1 == (wrap64 (y.1 + c.1)))) else (some false)) else (some false)) else (some false)) else (some false)) else (some false)) else (some false)))
       else ((recouplaw06_anchored.f k).bind fun t => (if t = true then (if a.2 = 0 then (if b.2 = 0 then (if c.2 = 0 then (if a.1 = (wrap64 (b.1 + c.1)) then (some (A == 63)) else (some false)) else (some false)) else (some false)) else (some false)) else (some false))))) true := by
  subst hA hB
  have ec : ∀ n k : Int, 0 ≤ n → n ≤ 64 → subset_Choose.f n k = some (bz n k, 0) := fun n k h0 h1 => by rw [Choose_eq, if_pos ⟨h0, h1⟩]
  rw [show wrap64 ((m : Int) + 1) = (m : Int) + 1 from w64 (by omega) (by omega), show wrap64 ((j : Int) - 1) = (j : Int) - 1 from w64 (by omega) (by omega)]
  have hb1 := bz_bound (n := (m : Int)) (by omega) ((j : Int) - 1)
  have hb2 := bz_bound (n := (m : Int)) (by omega) (j : Int)
  have hp := bz_succ (n := (m : Int)) (by omega) (j : Int)
  have hw : wrap64 (bz (m : Int) ((j : Int) - 1) + bz (m : Int) (j : Int)) = bz ((m : Int) + 1) (j : Int) := by rw [hp, w64 (by omega) (by omega)]
  have hsum : us m (uptoD (m : Int) (j : Int)) = us m (uptoD (m : Int) ((j : Int) - 1)) + binom m j := by
    rw [uptoD_at, uptoD_pred]
    by_cases h : j ≤ m
    · rw [if_pos h, if_pos h]
      rfl
    · rw [if_neg h, if_neg h, binom_lt (by omega)]
      rfl
  have hbn : bz (m : Int) (j : Int) = ((binom m j : Nat) : Int) := bz_nat m j
  have hu : ∀ t : Int, uptoV (m : Int) t = if 4611686018427387904 < us m (uptoD (m : Int) t) then (0, 4) else (((us m (uptoD (m : Int) t) : Nat) : Int), 0) := by
    intro t
    unfold uptoV
    rw [if_pos ⟨by omega, by omega⟩, Int.toNat_natCast]
  have hu1 := hu (j : Int)
  have hu2 := hu ((j : Int) - 1)
  clear hu
  generalize us m (uptoD (m : Int) ((j : Int) - 1)) = y at hsum hu1 hu2
  have hle := us_le m (uptoD (m : Int) (j : Int))
  rw [hsum] at hle hu1
  have E1 := Upto_eq (m : Int) (j : Int)
  have E2 := Upto_eq (m : Int) ((j : Int) - 1)
  rw [hu1] at E1
  rw [hu2] at E2
  clear hu1 hu2
  refine Ends.bind1 (ec _ _ (by omega) (by omega)) (Ends.bind1 (ec _ _ (by omega) (by omega)) (Ends.bind1 (ec _ _ (by omega) (by omega)) ?_))
  by_cases hx : 4611686018427387904 < y + binom m j
  · rw [if_pos hx] at E1
    refine Ends.bind E1 (Ends.bind E2 ?_)
    refine Ends.neg (by decide) (Ends.bind anchored_eq (Ends.pos rfl (Ends.pos rfl (Ends.pos rfl (Ends.pos rfl (Ends.pos hw.symm (Ends.const ?_)))))))
    have : m = 63 := by
      apply Classical.byContradiction
      intro hne
      have h2 : 2 ^ m ≤ 2 ^ 62 := Nat.pow_le_pow_right (by decide) (by omega)
      have h3 : (2 : Nat) ^ 62 = 4611686018427387904 := by decide
      omega
    subst this
    rfl
  · have hy : ¬ 4611686018427387904 < y := by omega
    rw [if_neg hx] at E1
    rw [if_neg hy] at E2
    refine Ends.bind E1 (Ends.bind E2 ?_)
    refine Ends.pos rfl (Ends.bind anchored_eq (Ends.pos rfl (Ends.pos rfl (Ends.pos rfl (Ends.pos rfl (Ends.pos rfl (Ends.pos hw.symm (Ends.const ?_))))))))
    have h2 : binom m j ≤ 1832624140942590534 := binom_le (by omega) j
    have e : wrap64 ((y : Int) + bz (m : Int) (j : Int)) = ((y + binom m j : Nat) : Int) := by
      rw [hbn, w64 (by omega) (by omega)]
      omega
    simp only [e]
    simp
theorem tmod_nat {a b : Nat} : Int.tmod (a : Int) (b : Int) = ((a % b : Nat) : Int) := by
  rw [Int.tmod_eq_emod_of_nonneg (by omega)]
  rfl
theorem subsetPascal : recouplaw06_SubsetPascal.Pure := by
  intro a b ha hb
  have h1 := wf_u8 ha
  have h2 := wf_u8 hb
  obtain ⟨n, rfl⟩ := Int.eq_ofNat_of_zero_le h1.1
  obtain ⟨k, rfl⟩ := Int.eq_ofNat_of_zero_le h2.1
  have hn : n % 64 < 64 := Nat.mod_lt _ (by decide)
  have hk : k % 66 < 66 := Nat.mod_lt _ (by decide)
  have e1 : wrap64 (Int.tmod (n : Int) 64) = ((n % 64 : Nat) : Int) := by
    rw [show Int.tmod (n : Int) 64 = ((n % 64 : Nat) : Int) from tmod_nat (b := 64), w64 (by omega) (by omega)]
  have e2 : wrap64 (Int.tmod (k : Int) 66) = ((k % 66 : Nat) : Int) := by
    rw [show Int.tmod (k : Int) 66 = ((k % 66 : Nat) : Int) from tmod_nat (b := 66), w64 (by omega) (by omega)]
  have h : Ends (fun j => recouplaw06_SubsetPascal.f j (n : Int) (k : Int)) true := by
    have := pascal_case (n % 64) (k % 66) (by omega) (by omega) _ _ e1 e2
    unfold recouplaw06_SubsetPascal.f
    exact this
  exact h.exists
end Go.Proofs.YtagghjljbedfdaaDoor.M
namespace Go.Proofs.YtagghjljbedfdaaDoor.Pure
theorem SubsetPascal : Go.Proofs.YtagghjljbedfdaaDoor.Q.recouplaw06_SubsetPascal.Pure := Go.Proofs.YtagghjljbedfdaaDoor.M.subsetPascal
end Go.Proofs.YtagghjljbedfdaaDoor.Pure
