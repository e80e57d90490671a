import Derived.Test.YtccfbhnhedoggaaQx13
import Derived.Test.YtccfbhnhedoggaaGRef2
namespace Go.Proofs.Ytccfbhnhedoggaa.M
open Go.RowKit Go.Proofs.YtccfbhnhedoggaaW.PrintWords Go.Proofs.YtccfbhnhedoggaaW.PrintLast Go.Proofs.YtccfbhnhedoggaaW.PrintMore Go.Proofs.Ytccfbhnhedoggaa.Q
set_option linter.unusedVariables false
theorem Red_l1 {C : Nat} {S : List (List Int)} (h : U S C) (hm : S.length ≤ 64) (hc : C ≤ 64) {j : Nat} (hj : j < C) (x6 : List Int) (top : Int) {R : Int × Int × List Int × List Int × Int} :
  ∀ n i : Nat, i + n = S.length → Ends (fun q => recoupref04_Reduce.j3 q x6 (j : Int) top (((seekCol S j n i).getD S.length : Nat) : Int) (S.length : Int) (C : Int) S.flatten) R →
   Ends (fun q => recoupref04_Reduce.l1 q x6 (j : Int) top (i : Int) (S.length : Int) (C : Int) S.flatten) R
 | 0, i, hi, hJ => by
  obtain rfl : i = S.length := by omega
  refine Ends.succ (fun k => by rw [recoupref04_Reduce.l1]) ?_
  exact Ends.neg (by omega) hJ
 | n + 1, i, hi, hJ => by
  refine Ends.succ (fun k => by rw [recoupref04_Reduce.l1]) (Ends.pos (by omega) ?_)
  refine Ends.bind1 (At_eq h hm hc (by omega) hj _) ?_
  unfold seekCol at hJ
  by_cases e : entry S i j = 0
  ·rw [if_neg (fun x => x e)] at hJ
   refine Ends.pos e ?_
   rw [i64_succ (by omega)]
   exact Red_l1 h hm hc hj x6 top n (i + 1) (by omega) hJ
  ·rw [if_pos e] at hJ
   exact Ends.neg e hJ
theorem red_done {M D : List (List Int)} {C wd : Nat} (h : Shp M D C wd) {j : Nat} (hf : M.length ≤ (redTo M D j).2.length) (n : Nat) : redTo M D (j + n) = redTo M D j :=
 red_skip n fun j' _ _ i' a b => by rw [(red_shp h j).2.1] at b; omega
theorem Red_l0 {C wd : Nat} {M D : List (List Int)} (h : Shp M D C wd) : ∀ n j : Nat, j + n = C →
  Ends (fun q => recoupref04_Reduce.l0 q (redTo M D j).2 (j : Int) (M.length : Int) (C : Int) (redTo M D j).1.1.flatten) ((M.length : Int), (C : Int), (redTo M D C).1.1.flatten, (redTo M D C).2, 0)
 | 0, j, hj => by
  obtain rfl : j = C := by omega
  refine Ends.succ (fun k => by rw [recoupref04_Reduce.l0]) (Ends.neg (by omega) ?_)
  exact Ends.succ (fun k => by rw [recoupref04_Reduce.j1]) (Ends.neg (by decide) (Ends.const rfl))
 | n + 1, j, hj => by
  have hs := red_shp h j
  have hm := h.small.1
  have hc := h.small.2.1
  have ih := Red_l0 h n (j + 1) (by omega)
  refine Ends.succ (fun k => by rw [recoupref04_Reduce.l0]) (Ends.pos (by omega) ?_)
  by_cases hf : M.length ≤ (redTo M D j).2.length
  ·refine Ends.succ (fun k => by rw [recoupref04_Reduce.j1]) (Ends.neg (by rw [decide_eq_true_eq]; omega) (Ends.const ?_))
   have := red_done h hf (n + 1)
   rw [hj] at this
   rw [this]
  ·refine Ends.succ (fun k => by rw [recoupref04_Reduce.j1]) (Ends.pos (by rw [decide_eq_true_eq]; omega) ?_)
   have hE : redTo M D (j + 1) = redStep j (redTo M D j) := rfl
   rw [hE] at ih
   obtain ⟨hS, hSl, _, hpj⟩ := hs
   generalize hT : redTo M D j = T at *
   have hU := U.of hS
   have hp64 : T.2.length ≤ 64 := by omega
   have h1 := Red_l1 hU (by omega) hc (j := j) (by omega) T.2 (T.2.length : Int) (R := ((M.length : Int), (C : Int), (redTo M D C).1.1.flatten, (redTo M D C).2, 0)) (T.1.1.length - T.2.length) T.2.length (by omega) ?_
   ·rw [hSl] at h1
    exact h1
   ·show Ends (fun q => recoupref04_Reduce.j3 q T.2 (j : Int) (T.2.length : Int) (((firstIn T.1.1 T.2.length j).getD T.1.1.length : Nat) : Int) (T.1.1.length : Int) (C : Int) T.1.1.flatten) _
    cases hfi : firstIn T.1.1 T.2.length j with
    | none =>
     rw [redStep_none hfi] at ih
     refine Ends.succ (fun k => by rw [recoupref04_Reduce.j3]) ?_
     refine Ends.pos (by rw [Option.getD_none]) ?_
     rw [i64_succ (by omega), hSl]
     exact ih
    | some i =>
     rw [redStep_some hfi] at ih
     obtain ⟨q1, q2, q3, _⟩ := seekCol_spec _ _ hfi
     refine Ends.succ (fun k => by rw [recoupref04_Reduce.j3]) (Ends.neg (by rw [Option.getD_some]; omega) ?_)
     refine Ends.pos (Int.natCast_nonneg _) (Ends.pos (by rw [Int.toNat_natCast]; omega) ?_)
     rw [Int.toNat_natCast, Option.getD_some]
     have h2 := Red_l2 hS (top := T.2.length) (i := i) (j := j) (by omega) (by omega) (by omega) q3 T.2 hp64 (R := ((M.length : Int), (C : Int), (redTo M D C).1.1.flatten, (redTo M D C).2, 0)) (by rw [hSl]; exact ih) T.1.1.length 0 (by omega)
     rw [List.take_zero, List.nil_append, List.drop_zero] at h2
     exact h2
/-- What is a right matrix of the reference. -/
theorem Right_eq {a b : Int} {l : List Int} (ha : -9223372036854775808 ≤ a ∧ a ≤ 9223372036854775807) : recoupref03_Right.f a b l = matrix_Right.f a b l := by
 unfold recoupref03_Right.f matrix_Right.f matrix_side.f
 by_cases h1 : a ≥ 0 <;> by_cases h2 : a ≤ 64 <;> by_cases h3 : b ≥ 0 <;> by_cases h4 : b ≤ 64 <;> simp only [h1, h2, h3, h4, if_true, if_false, Option.bind_some, decide_true, decide_false, Bool.false_eq_true]
theorem Right_cases (a b : Int) (l : List Int) : recoupref03_Right.f a b l = some true ∨ recoupref03_Right.f a b l = some false := by
 unfold recoupref03_Right.f
 split
 ·split
  ·split
   ·split
    ·by_cases h : ((l.length : Int) == wrap64 (a * b)) = true
     ·left; rw [h]
     ·right; rw [Bool.not_eq_true] at h; rw [h]
    ·exact .inr rfl
   ·exact .inr rfl
  ·exact .inr rfl
 ·exact .inr rfl
theorem bytesB_wf {l : List Int} (h : ∀ x ∈ l, (Lit.int .u8 x).wf = true) : bytesB l = true := by
 unfold bytesB
 rw [List.all_eq_true]
 intro x hx
 have := wf_u8 (h x hx)
 simp
 omega
theorem Copy_eq {a b : Int} {l : List Int} (h : l.length ≤ 4096) : recoupref03_Copy.f a b l = some (a, b, l) := by
 unfold recoupref03_Copy.f recoupref01_Copy.f
 rw [Option.bind_some, if_pos (by rw [List.length_nil]; omega)]
 rfl
/-- A right matrix, its rows and columns as numbers. -/
theorem right_nat {a b : Int} {l : List Int} (h : matrix_Right.f a b l = some true) : ∃ r c : Nat, a = (r : Int) ∧ b = (c : Int) ∧ r ≤ 64 ∧ c ≤ 64 ∧ l.length = r * c ∧ l.length ≤ 4096 := by
 obtain ⟨h1, h2, h3, h4, h5⟩ := right_true h
 obtain ⟨r, rfl⟩ := Int.eq_ofNat_of_zero_le h1
 obtain ⟨c, rfl⟩ := Int.eq_ofNat_of_zero_le h3
 rw [Int.toNat_natCast, Int.toNat_natCast] at h5
 have : r * c ≤ 64 * 64 := Nat.mul_le_mul (by omega) (by omega)
 exact ⟨r, c, rfl, rfl, by omega, by omega, h5, by omega⟩
/-- Reduced, of a matrix told by its numbers. -/
def redL (r c : Nat) (l : List Int) : (List (List Int) × List (List Int)) × List Int := redTo (rowsOf c r l) (List.replicate r []) c
theorem Reduce_ends {r c : Nat} {l : List Int} (hr : r ≤ 64) (hc : c ≤ 64) (hl : l.length = r * c) (hb : bytesB l = true) : Ends (fun k => recoupref04_Reduce.f k (r : Int) (c : Int) l) ((r : Int), (c : Int), (redL r c l).1.1.flatten, (redL r c l).2, 0) := by
 have hf := flat_rowsOf r l hl
 have hlen := rowsOf_length c r l
 have hm : r * c ≤ 64 * 64 := Nat.mul_le_mul hr hc
 unfold recoupref04_Reduce.f
 have h1 := Right_true hf.2 (by omega) hc
 rw [hf.1, hlen] at h1
 refine Ends.bind1 h1 (Ends.pos rfl ?_)
 refine Ends.bind1 (Copy_eq (by omega)) ?_
 have := Red_l0 (shp_nil hb hl ⟨hr, hc⟩) c 0 (by omega)
 rw [hlen] at this
 show Ends (fun k => recoupref04_Reduce.l0 k [] 0 (r : Int) (c : Int) l) _
 have e : (redTo (rowsOf c r l) (List.replicate r []) 0).1.1.flatten = l := hf.1
 rw [e] at this
 exact this
theorem gReduce_eq {r c : Nat} {l : List Int} (hR : matrix_Right.f (r : Int) (c : Int) l = some true) (hb : bytesB l = true) : gauss_Reduce.f (r : Int) (c : Int) l = some ((r : Int), (c : Int), (redL r c l).1.1.flatten, (redL r c l).2, 0) := by
 unfold gauss_Reduce.f
 rw [hR, Option.bind_some, if_pos rfl, if_pos hb]
 rfl
theorem gReduce_bad {a b : Int} {l : List Int} (hR : matrix_Right.f a b l = some false) : gauss_Reduce.f a b l = some (0, 0, [], [], 3) := by
 unfold gauss_Reduce.f
 rw [hR, Option.bind_some, if_neg (by decide)]
theorem Reduce_bad {a b : Int} {l : List Int} (hR : recoupref03_Right.f a b l = some false) : Ends (fun k => recoupref04_Reduce.f k a b l) (0, 0, [], [], 3) := by
 unfold recoupref04_Reduce.f
 exact Ends.bind1 hR (Ends.neg (by decide) (Ends.const rfl))
theorem Same_self (l : List Int) : recoupref01_Same.f l l = some true := by
 unfold recoupref01_Same.f
 rw [beq_self_eq_true]
theorem Like_self (a b : Int) (l : List Int) : recoupref03_Like.f a b l a b l = some true := by
 unfold recoupref03_Like.f
 rw [if_pos rfl, if_pos rfl, Same_self]
 rfl
end Go.Proofs.Ytccfbhnhedoggaa.M
