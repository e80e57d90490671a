import Derived.Test.YtccfbhnhedoggaaBGaussProduct
import Derived.Test.YtccfbhnhedoggaaQx106
import Derived.Test.YtccfbhnhedoggaaQx114
import Derived.Test.YtccfbhnhedoggaaQx116
import Derived.Test.YtccfbhnhedoggaaQx121
import Derived.Test.YtccfbhnhedoggaaQx126
import Derived.Test.YtccfbhnhedoggaaQx155
import Derived.Test.YtccfbhnhedoggaaQx159
namespace Go.Proofs.Ytccfbhnhedoggaa.Pure
open Go.RowKit Go.Proofs.Ytccfbhnhedoggaa.M Go.Proofs.Ytccfbhnhedoggaa.Q
set_option linter.unusedVariables false
theorem pRank_eq {r c : Nat} {l : List Int} (hr : r ≤ 64) (hc : c ≤ 64) (hl : l.length = r * c) (hb : bytesB l = true) : gauss_Rank.f (r : Int) (c : Int) l = some ((rk (rowsOf c r l) c : Int), 0) := by
 unfold gauss_Rank.f
 rw [gReduce_eq (right_of hr hc hl).1 hb, ← redL_rk]
 rfl
theorem sylv {kA kB kC m : Nat} (hA : kA ≤ 64) (hB : kB ≤ 64) (hm : m ≤ 64) (h : kA + kB ≤ kC + m) : decide ((kC : Int) ≥ wrap64 (wrap64 ((kA : Int) + (kB : Int)) - (m : Int))) = true := by
 rw [w64 (x := (kA : Int) + (kB : Int)) (by omega) (by omega), w64 (by omega) (by omega), decide_eq_true_eq]
 omega
/-- The rank of a product is not above that of either factor. -/
theorem GaussProduct : ∀ x0 : Q.S24, ((Lit.int .i64 x0.f0).wf = true ∧ ((Lit.int .i64 x0.f1).wf = true ∧ (x0.f2.length ≤ maxLen ∧ x0.f2.length * 1 ≤ 140737488351232 ∧ ∀ x5 ∈ x0.f2, (Lit.int .u8 x5).wf = true))) → ∀ x1 : Q.S24, ((Lit.int .i64 x1.f0).wf = true ∧ ((Lit.int .i64 x1.f1).wf = true ∧ (x1.f2.length ≤ maxLen ∧ x1.f2.length * 1 ≤ 140737488351232 ∧ ∀ x5 ∈ x1.f2, (Lit.int .u8 x5).wf = true))) → ∃ k, Q.recouplaw04_GaussProduct.f k x0.f0 x0.f1 x0.f2 x1.f0 x1.f1 x1.f2 = some true := by
 rintro ⟨a0, a1, l⟩ ⟨ha0, ha1, _, _, hl⟩ ⟨b0, b1, y⟩ ⟨hb0, hb1, _, _, hy⟩
 have hbl : bytesB l = true := bytesB_wf hl
 clear hl
 have hby : bytesB y = true := bytesB_wf hy
 clear hy
 have hR : recoupref03_Right.f a0 a1 l = matrix_Right.f a0 a1 l := Right_eq (wf_i64 ha0)
 have hR2 : recoupref03_Right.f b0 b1 y = matrix_Right.f b0 b1 y := Right_eq (wf_i64 hb0)
 show ∃ k, Q.recouplaw04_GaussProduct.f k a0 a1 l b0 b1 y = some true
 refine Ends.exists ?_
 have bad : M.Ends (fun k => recoupref03_Mul.f k a0 a1 l b0 b1 y) (0, 0, [], 3) → M.Ends (fun k => Q.recouplaw04_GaussProduct.f k a0 a1 l b0 b1 y) true := fun h => by
  unfold Q.recouplaw04_GaussProduct.f
  refine Ends.bind h (Ends.neg (by decide) ?_)
  exact Ends.bind1 anchored_ok (Ends.const rfl)
 have j0bad : ∀ z, z = true → M.Ends (fun k => recoupref03_Mul.j0 k z a0 a1 l b0 b1 y) (0, 0, [], 3) := fun z hz => by
  subst hz
  refine Ends.succ (fun k => by rw [recoupref03_Mul.j0]) ?_
  exact Ends.pos rfl (Ends.const rfl)
 rcases Right_cases a0 a1 l with h | h
 ·rcases Right_cases b0 b1 y with h2 | h2
  ·by_cases e : a1 = b0
   ·subst e
    obtain ⟨n, m, rfl, rfl, hn, hm, hlen, _⟩ := right_nat (hR ▸ h)
    obtain ⟨m', p, e2, rfl, _, hp, hlen2, _⟩ := right_nat (hR2 ▸ h2)
    obtain rfl : m = m' := by omega
    obtain ⟨q1, q2, q3⟩ := rank_prod hbl hlen hby hlen2 hn hm hp
    unfold Q.recouplaw04_GaussProduct.f
    refine Ends.bind (MulM_ends hn hm hp hlen hlen2 hbl hby) (Ends.pos rfl ?_)
    refine Ends.bind1 (pRank_eq hn hm hlen hbl) ?_
    refine Ends.bind1 (pRank_eq hm hp hlen2 hby) ?_
    have h3 := pRank_eq hn hp (mulL_len n m p l y) (mulL_bytes n m p l y)
    have e3 : rowsOf p n (mulL n m p l y).flatten = prod (rowsOf m n l) (rowsOf p m y) n m p := by
     have := rows_flat (prod_U (rowsOf m n l) (rowsOf p m y) n m p)
     rwa [prod_length] at this
    rw [e3] at h3
    refine Ends.bind1 h3 ?_
    have lA : rk (rowsOf m n l) m ≤ n := by have := (redA_rr (sh_rows hbl hlen hn hm)).tn; rwa [rowsOf_length] at this
    have lB : rk (rowsOf p m y) p ≤ m := by have := (redA_rr (sh_rows hby hlen2 hm hp)).tn; rwa [rowsOf_length] at this
    generalize rk (prod (rowsOf m n l) (rowsOf p m y) n m p) p = kC at *
    generalize rk (rowsOf m n l) m = kA at *
    generalize rk (rowsOf p m y) p = kB at *
    refine Ends.bind1 anchored_ok (Ends.pos rfl (Ends.pos rfl (Ends.pos rfl (Ends.pos rfl ?_))))
    refine Ends.pos (by show (kC : Int) ≤ (kA : Int); omega) (Ends.pos (by show (kC : Int) ≤ (kB : Int); omega) (Ends.const ?_))
    show some (decide ((kC : Int) ≥ wrap64 (wrap64 ((kA : Int) + (kB : Int)) - (m : Int)))) = some true
    rw [sylv (Nat.le_trans lA hn) (Nat.le_trans lB hm) hm q3]
   ·refine bad ?_
    unfold recoupref03_Mul.f
    refine Ends.bind1 h (Ends.pos rfl (Ends.bind1 h2 (Ends.pos rfl (j0bad _ ?_))))
    rw [bne_iff_ne]; exact e
  ·refine bad ?_
   unfold recoupref03_Mul.f
   exact Ends.bind1 h (Ends.pos rfl (Ends.bind1 h2 (Ends.neg (by decide) (j0bad _ rfl))))
 ·refine bad ?_
  unfold recoupref03_Mul.f
  exact Ends.bind1 h (Ends.neg (by decide) (j0bad _ rfl))
end Go.Proofs.Ytccfbhnhedoggaa.Pure
