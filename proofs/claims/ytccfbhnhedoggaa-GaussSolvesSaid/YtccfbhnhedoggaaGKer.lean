import Derived.Test.YtccfbhnhedoggaaQx30
import Derived.Test.YtccfbhnhedoggaaQx26
import Derived.Test.YtccfbhnhedoggaaGSolve
namespace Go.Proofs.Ytccfbhnhedoggaa.M
open Go.RowKit Go.Proofs.YtccfbhnhedoggaaW.PrintWords Go.Proofs.YtccfbhnhedoggaaW.PrintLast Go.Proofs.YtccfbhnhedoggaaW.PrintMore Go.Proofs.Ytccfbhnhedoggaa.Q
set_option linter.unusedVariables false
/-! ### Kernel -/
/-- The kernel's vector of a column that is no pivot. -/
def kRow (P : List Int) (S : List (List Int)) (C j : Nat) : Nat → List Int
  | 0 => (List.replicate C 0).set j 1
  | i + 1 => (kRow P S C j i).set (P.getD i 0).toNat (entry S i j)
theorem kRow_length (P : List Int) (S : List (List Int)) (C j : Nat) : ∀ i, (kRow P S C j i).length = C
  | 0 => by simp [kRow]
  | i + 1 => by rw [kRow, List.length_set]; exact kRow_length P S C j i
/-- Columns to j are done: the next pivot's place, the vectors. -/
def kSt (P : List Int) (S : List (List Int)) (C : Nat) : Nat → Nat × List (List Int)
  | 0 => (0, [])
  | j + 1 => if (kSt P S C j).1 < P.length ∧ P.getD (kSt P S C j).1 0 = (j : Int) then ((kSt P S C j).1 + 1, (kSt P S C j).2) else ((kSt P S C j).1, (kSt P S C j).2 ++ [kRow P S C j P.length])
theorem kSt_le (P : List Int) (S : List (List Int)) (C : Nat) : ∀ j, (kSt P S C j).1 + (kSt P S C j).2.length = j
  | 0 => rfl
  | j + 1 => by
    have ih := kSt_le P S C j
    unfold kSt
    split
    · show (kSt P S C j).1 + 1 + (kSt P S C j).2.length = j + 1; omega
    · show (kSt P S C j).1 + ((kSt P S C j).2 ++ [_]).length = j + 1; rw [List.length_append, List.length_singleton]; omega
theorem kSt_U (P : List Int) (S : List (List Int)) (C : Nat) : ∀ j, U (kSt P S C j).2 C
  | 0 => fun r hr => by cases hr
  | j + 1 => by
    have ih := kSt_U P S C j
    unfold kSt
    split
    · exact ih
    · intro r hr
      rcases List.mem_append.1 hr with h | h
      · exact ih r h
      · rw [List.mem_singleton.1 h]; exact kRow_length P S C j _
abbrev KR := Int × Int × List Int × Int
section
variable {C : Nat} {S : List (List Int)} {P : List Int}
theorem kSt_flat (hC : C ≤ 64) {j : Nat} (hj : j ≤ 64) : (kSt P S C j).2.flatten.length ≤ 64 * 64 := by
  rw [flat_len (kSt_U P S C j)]
  have := kSt_le P S C j
  exact Nat.mul_le_mul (by omega) hC
theorem gKer_l1 (hS : U S C) (hm : S.length ≤ 64) (hC : C ≤ 64) (hP : P.length ≤ S.length) (hpv : ∀ i, i < P.length → ∃ p : Nat, P.getD i 0 = (p : Int) ∧ p < C) {j : Nat} (hj : j < C) (x8 : Int) (m2 : List Int) (rn : Nat) (D : List Int) (hrn : rn ≤ 64) (hDl : D.length ≤ 64 * 64) (a0 s0 s1 : Int) {R : KR}
    (hR : Ends (fun q => gauss_Kernel.l0 q P x8 (C : Int) ((j + 1 : Nat) : Int) a0 (C : Int) m2 s0 s1 S.flatten ((rn + 1 : Nat) : Int) (C : Int) (D ++ kRow P S C j P.length)) R) :
    ∀ n i : Nat, i + n = P.length → Ends (fun q => gauss_Kernel.l1 q P x8 (j : Int) (kRow P S C j i) (C : Int) (j : Int) P (P.length : Int) (i : Int) a0 (C : Int) m2 s0 s1 S.flatten (rn : Int) (C : Int) D) R
  | 0, i, hi => by
    obtain rfl : i = P.length := by omega
    have hj4 : j ≤ 4096 := by omega
    have hr4 : rn ≤ 4096 := by omega
    refine Ends.succ (fun k => by rw [gauss_Kernel.l1]) ?_
    refine Ends.neg (by omega) (Ends.pos (by rw [kRow_length]; omega) ?_)
    rw [i64_succ hj4, i64_succ hr4]
    exact hR
  | n + 1, i, hi => by
    have hiP : i < P.length := by omega
    have hi4 : i ≤ 4096 := by omega
    have hi64 : i ≤ 64 := by omega
    have hj64 : j ≤ 64 := by omega
    obtain ⟨p, hp, hpC⟩ := hpv i hiP
    have ih := gKer_l1 hS hm hC hP hpv hj x8 m2 rn D hrn hDl a0 s0 s1 hR n (i + 1) (by omega)
    rw [kRow, hp, Int.toNat_natCast] at ih
    have hiS : i < S.length := by omega
    have hix := idx_lt (c := C) hiS hj
    refine Ends.succ (fun k => by rw [gauss_Kernel.l1]) ?_
    refine Ends.pos (by omega) (Ends.pos (by omega) (Ends.pos (by omega) ?_))
    rw [(idx_small (i := i) (c := C) (j := j) hi64 hC hj64).2]
    refine Ends.pos (Int.natCast_nonneg _) (Ends.pos (by rw [flat_len hS]; exact Int.ofNat_lt.2 hix) ?_)
    rw [rd_nat, hp, rd_nat, flat_get hS hiS hj, Int.toNat_natCast, i64_succ hi4]
    refine Ends.pos (Int.natCast_nonneg _) (Ends.pos (by rw [kRow_length]; omega) ?_)
    exact ih
theorem rKer_l1 (hS : U S C) (hm : S.length ≤ 64) (hC : C ≤ 64) (hP : P.length ≤ S.length) (hpv : ∀ i, i < P.length → ∃ p : Nat, P.getD i 0 = (p : Int) ∧ p < C) {j : Nat} (hj : j < C) (x8 : Int) (m2 : List Int) (rn : Nat) (D : List Int) (hrn : rn ≤ 64) (hDl : D.length ≤ 64 * 64) (a0 s0 : Int) {R : KR}
    (hR : Ends (fun q => recoupref04_Kernel.l0 q P x8 ((j + 1 : Nat) : Int) a0 (C : Int) m2 s0 (C : Int) S.flatten ((rn + 1 : Nat) : Int) (C : Int) (D ++ kRow P S C j P.length)) R) :
    ∀ n i : Nat, i + n = P.length → Ends (fun q => recoupref04_Kernel.l1 q P x8 (j : Int) (kRow P S C j i) (i : Int) a0 (C : Int) m2 s0 (C : Int) S.flatten (rn : Int) (C : Int) D) R
  | 0, i, hi => by
    obtain rfl : i = P.length := by omega
    have hj4 : j ≤ 4096 := by omega
    have hr4 : rn ≤ 4096 := by omega
    refine Ends.succ (fun k => by rw [recoupref04_Kernel.l1]) ?_
    refine Ends.neg (by omega) (Ends.pos (by rw [kRow_length]; omega) ?_)
    rw [i64_succ hj4, i64_succ hr4]
    exact hR
  | n + 1, i, hi => by
    have hiP : i < P.length := by omega
    have hi4 : i ≤ 4096 := by omega
    obtain ⟨p, hp, hpC⟩ := hpv i hiP
    have ih := rKer_l1 hS hm hC hP hpv hj x8 m2 rn D hrn hDl a0 s0 hR n (i + 1) (by omega)
    rw [kRow, hp, Int.toNat_natCast] at ih
    have hiS : i < S.length := by omega
    refine Ends.succ (fun k => by rw [recoupref04_Kernel.l1]) ?_
    refine Ends.pos (by omega) (Ends.pos (by omega) ?_)
    refine Ends.bind1 (At_eq hS hm hC hiS hj _) ?_
    rw [rd_nat, hp, Int.toNat_natCast, i64_succ hi4]
    refine Ends.pos (Int.natCast_nonneg _) (Ends.pos (by rw [kRow_length]; omega) ?_)
    exact ih
theorem gKer_l0 (hS : U S C) (hm : S.length ≤ 64) (hC : C ≤ 64) (hP : P.length ≤ S.length) (hpv : ∀ i, i < P.length → ∃ p : Nat, P.getD i 0 = (p : Int) ∧ p < C) (m2 : List Int) (a0 s0 s1 : Int) :
    ∀ n j : Nat, j + n = C → Ends (fun q => gauss_Kernel.l0 q P ((kSt P S C j).1 : Int) (C : Int) (j : Int) a0 (C : Int) m2 s0 s1 S.flatten ((kSt P S C j).2.length : Int) (C : Int) (kSt P S C j).2.flatten) (((kSt P S C C).2.length : Int), (C : Int), (kSt P S C C).2.flatten, 0)
  | 0, j, hj => by
    obtain rfl : j = C := by omega
    refine Ends.succ (fun k => by rw [gauss_Kernel.l0]) ?_
    exact Ends.neg (by omega) (Ends.const rfl)
  | n + 1, j, hj => by
    have hjC : j < C := by omega
    have hj4 : j ≤ 4096 := by omega
    have hle := kSt_le P S C j
    have hfl := kSt_flat (P := P) (S := S) hC (j := j) (by omega)
    have ih := gKer_l0 hS hm hC hP hpv m2 a0 s0 s1 n (j + 1) (by omega)
    have key : ∀ z, z = decide ((kSt P S C j).1 < P.length ∧ P.getD (kSt P S C j).1 0 = (j : Int)) → Ends (fun q => gauss_Kernel.j1 q P ((kSt P S C j).1 : Int) (j : Int) (C : Int) (j : Int) z a0 (C : Int) m2 s0 s1 S.flatten ((kSt P S C j).2.length : Int) (C : Int) (kSt P S C j).2.flatten) (((kSt P S C C).2.length : Int), (C : Int), (kSt P S C C).2.flatten, 0) := fun z hz => by
      refine Ends.succ (fun k => by rw [gauss_Kernel.j1]) ?_
      by_cases hc : (kSt P S C j).1 < P.length ∧ P.getD (kSt P S C j).1 0 = (j : Int)
      · rw [kSt, if_pos hc] at ih
        refine Ends.pos (by rw [hz]; exact decide_eq_true hc) ?_
        have h4 : (kSt P S C j).1 ≤ 4096 := by omega
        rw [i64_succ h4, i64_succ hj4]
        exact ih
      · rw [kSt, if_neg hc] at ih
        refine Ends.neg (by rw [hz, decide_eq_true_eq]; exact hc) ?_
        refine Ends.pos (by omega) (Ends.pos (by rw [Int.toNat_natCast]; omega) ?_)
        refine Ends.bind1 rfl (Ends.pos (by omega) (Ends.pos (by rw [List.length_replicate, Int.toNat_natCast]; omega) ?_))
        rw [Int.toNat_natCast, Int.toNat_natCast]
        refine gKer_l1 hS hm hC hP hpv hjC _ m2 _ _ (by omega) hfl a0 s0 s1 ?_ P.length 0 (by omega)
        rw [List.length_append, List.length_singleton, List.flatten_append, List.flatten_singleton] at ih
        exact ih
    refine Ends.succ (fun k => by rw [gauss_Kernel.l0]) ?_
    refine Ends.pos (by omega) ?_
    by_cases h1 : (kSt P S C j).1 < P.length
    · refine Ends.pos (by omega) (Ends.pos (by omega) (key _ ?_))
      rw [rd_nat]
      simp only [h1, true_and]
      rfl
    · exact Ends.neg (by omega) (key _ (by simp [h1]))
theorem rKer_l0 (hS : U S C) (hm : S.length ≤ 64) (hC : C ≤ 64) (hP : P.length ≤ S.length) (hpv : ∀ i, i < P.length → ∃ p : Nat, P.getD i 0 = (p : Int) ∧ p < C) (m2 : List Int) (a0 s0 : Int) :
    ∀ n j : Nat, j + n = C → Ends (fun q => recoupref04_Kernel.l0 q P ((kSt P S C j).1 : Int) (j : Int) a0 (C : Int) m2 s0 (C : Int) S.flatten ((kSt P S C j).2.length : Int) (C : Int) (kSt P S C j).2.flatten) (((kSt P S C C).2.length : Int), (C : Int), (kSt P S C C).2.flatten, 0)
  | 0, j, hj => by
    obtain rfl : j = C := by omega
    refine Ends.succ (fun k => by rw [recoupref04_Kernel.l0]) ?_
    exact Ends.neg (by omega) (Ends.const rfl)
  | n + 1, j, hj => by
    have hjC : j < C := by omega
    have hj4 : j ≤ 4096 := by omega
    have hle := kSt_le P S C j
    have hfl := kSt_flat (P := P) (S := S) hC (j := j) (by omega)
    have ih := rKer_l0 hS hm hC hP hpv m2 a0 s0 n (j + 1) (by omega)
    have key : ∀ z, z = decide ((kSt P S C j).1 < P.length ∧ P.getD (kSt P S C j).1 0 = (j : Int)) → Ends (fun q => recoupref04_Kernel.j1 q P ((kSt P S C j).1 : Int) (j : Int) z a0 (C : Int) m2 s0 (C : Int) S.flatten ((kSt P S C j).2.length : Int) (C : Int) (kSt P S C j).2.flatten) (((kSt P S C C).2.length : Int), (C : Int), (kSt P S C C).2.flatten, 0) := fun z hz => by
      refine Ends.succ (fun k => by rw [recoupref04_Kernel.j1]) ?_
      by_cases hc : (kSt P S C j).1 < P.length ∧ P.getD (kSt P S C j).1 0 = (j : Int)
      · rw [kSt, if_pos hc] at ih
        refine Ends.pos (by rw [hz]; exact decide_eq_true hc) ?_
        have h4 : (kSt P S C j).1 ≤ 4096 := by omega
        rw [i64_succ h4, i64_succ hj4]
        exact ih
      · rw [kSt, if_neg hc] at ih
        refine Ends.neg (by rw [hz, decide_eq_true_eq]; exact hc) ?_
        refine Ends.pos (by omega) (Ends.pos (by rw [Int.toNat_natCast]; omega) ?_)
        refine Ends.bind1 rfl (Ends.pos (by omega) (Ends.pos (by rw [List.length_replicate, Int.toNat_natCast]; omega) ?_))
        rw [Int.toNat_natCast, Int.toNat_natCast]
        refine rKer_l1 hS hm hC hP hpv hjC _ m2 _ _ (by omega) hfl a0 s0 ?_ P.length 0 (by omega)
        rw [List.length_append, List.length_singleton, List.flatten_append, List.flatten_singleton] at ih
        exact ih
    refine Ends.succ (fun k => by rw [recoupref04_Kernel.l0]) ?_
    refine Ends.pos (by omega) ?_
    by_cases h1 : (kSt P S C j).1 < P.length
    · refine Ends.pos (by omega) (Ends.pos (by omega) (key _ ?_))
      rw [rd_nat]
      simp only [h1, true_and]
      rfl
    · exact Ends.neg (by omega) (key _ (by simp [h1]))
end
/-- The kernel's rows, of a right matrix. -/
def kerL (r c : Nat) (l : List Int) : List (List Int) := (kSt (redL r c l).2 (redL r c l).1.1 c c).2
theorem gKernel_ends {r c : Nat} {l : List Int} (hR : matrix_Right.f (r : Int) (c : Int) l = some true) (hr : r ≤ 64) (hc : c ≤ 64) (hl : l.length = r * c) (hb : bytesB l = true) : Ends (fun k => gauss_Kernel.f k (r : Int) (c : Int) l) (((kerL r c l).length : Int), (c : Int), (kerL r c l).flatten, 0) := by
  unfold gauss_Kernel.f
  refine Ends.bind1 (gReduce_eq hR hb) (Ends.pos rfl ?_)
  have hs := red_shp (shp_nil hb hl ⟨hr, hc⟩) c
  have hlen := rowsOf_length c r l
  exact gKer_l0 (P := (redL r c l).2) (S := (redL r c l).1.1) (U.of hs.1) hs.1.small.1 hc (by have := hs.2.2.1; rw [show (redL r c l).1.1.length = (rowsOf c r l).length from hs.2.1]; exact this) (fun i hi => red_piv_at hi) l (r : Int) (r : Int) (c : Int) c 0 (by omega)
theorem rKernel_ends {r c : Nat} {l : List Int} (hr : r ≤ 64) (hc : c ≤ 64) (hl : l.length = r * c) (hb : bytesB l = true) : Ends (fun k => recoupref04_Kernel.f k (r : Int) (c : Int) l) (((kerL r c l).length : Int), (c : Int), (kerL r c l).flatten, 0) := by
  unfold recoupref04_Kernel.f
  refine Ends.bind (Reduce_ends hr hc hl hb) (Ends.pos rfl ?_)
  have hs := red_shp (shp_nil hb hl ⟨hr, hc⟩) c
  have hlen := rowsOf_length c r l
  have hsl : (redL r c l).1.1.length = r := hs.2.1.trans hlen
  have h := rKer_l0 (P := (redL r c l).2) (S := (redL r c l).1.1) (U.of hs.1) hs.1.small.1 hc (by have := hs.2.2.1; rw [show (redL r c l).1.1.length = (rowsOf c r l).length from hs.2.1]; exact this) (fun i hi => red_piv_at hi) l (r : Int) (r : Int) c 0 (by omega)
  exact h
theorem gKernel_bad {a b : Int} {l : List Int} (h : matrix_Right.f a b l = some false) : Ends (fun k => gauss_Kernel.f k a b l) (0, 0, [], 3) := by
  unfold gauss_Kernel.f
  exact Ends.bind1 (gReduce_bad h) (Ends.neg (by decide) (Ends.const rfl))
theorem rKernel_bad {a b : Int} {l : List Int} (h : recoupref03_Right.f a b l = some false) : Ends (fun k => recoupref04_Kernel.f k a b l) (0, 0, [], 3) := by
  unfold recoupref04_Kernel.f
  exact Ends.bind (Reduce_bad h) (Ends.neg (by decide) (Ends.const rfl))
end Go.Proofs.Ytccfbhnhedoggaa.M
