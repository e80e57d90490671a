import Derived.Test.YtccfbhnhedoggaaBGaussBack
import Derived.Test.YtccfbhnhedoggaaQx107
import Derived.Test.YtccfbhnhedoggaaQx114
import Derived.Test.YtccfbhnhedoggaaQx121
import Derived.Test.YtccfbhnhedoggaaQx155
import Derived.Test.YtccfbhnhedoggaaQx159
namespace Go.Proofs.Ytccfbhnhedoggaa.Pure
open Go.RowKit Go.Proofs.Ytccfbhnhedoggaa.M Go.Proofs.Ytccfbhnhedoggaa.Q
set_option linter.unusedVariables false
/-- The product with the inverse, either way, is the identity; none is told of a matrix that sends something to nothing. -/
theorem GaussBack : ∀ x0 : Q.S24, ((Lit.int .i64 x0.f0).wf = true ∧ ((Lit.int .i64 x0.f1).wf = true ∧ (x0.f2.length ≤ maxLen ∧ x0.f2.length * 1 ≤ 140737488351232 ∧ ∀ x5 ∈ x0.f2, (Lit.int .u8 x5).wf = true))) → ∃ k, Q.recouplaw04_GaussBack.f k x0.f0 x0.f1 x0.f2 = some true := by
 rintro ⟨a, b, l⟩ ⟨ha, hb, _, _, hl⟩
 have hbl : bytesB l = true := bytesB_wf hl
 clear hl
 have hR : recoupref03_Right.f a b l = matrix_Right.f a b l := Right_eq (wf_i64 ha)
 show ∃ k, Q.recouplaw04_GaussBack.f k a b l = some true
 refine Ends.exists ?_
 unfold Q.recouplaw04_GaussBack.f
 have bad : ∀ (z : Bool) (u v : Int) (w : List Int), z = true → M.Ends (fun k => recouplaw04_GaussBack.j0 k 3 z a b l u v w) true := fun z u v w hz => by
  subst hz
  refine Ends.succ (fun k => by rw [recouplaw04_GaussBack.j0]) ?_
  exact Ends.pos rfl (Ends.bind1 anchored_ok (Ends.pos rfl (Ends.const rfl)))
 rcases Right_cases a b l with h | h
 ·by_cases e : a = b
  ·subst e
   obtain ⟨n, c, rfl, h2, hn, hc, hlen, _⟩ := right_nat (hR ▸ h)
   obtain rfl : n = c := by omega
   have hinv : invR n l = if (redL n n l).2.length < n then (0, 0, [], 6) else ((n : Int), (n : Int), (invD n l).flatten, 0) := rfl
   refine Ends.bind1 (gInverse_eq (hR ▸ h) hbl) (Ends.bind1 h (Ends.pos rfl ?_))
   refine Ends.succ (fun k => by rw [recouplaw04_GaussBack.j0]) ?_
   refine Ends.neg (by simp) ?_
   have hk := kerL_len hbl hlen hn hn
   by_cases hf : (redL n n l).2.length < n
   ·rw [if_pos hf] at hinv
    rw [hinv]
    refine Ends.neg (by decide) ?_
    refine Ends.bind (gKernel_ends (hR ▸ h) hn hn hlen hbl) ?_
    refine Ends.bind1 anchored_ok (Ends.pos rfl (Ends.pos rfl (Ends.pos rfl (Ends.const ?_))))
    show some (decide (((kerL n n l).length : Int) > 0)) = some true
    rw [decide_eq_true]
    omega
   ·rw [if_neg hf] at hinv
    rw [hinv]
    have hful : (redL n n l).2.length = n := by omega
    obtain ⟨hS, hDl⟩ := invD_sh hbl hlen hn
    have hdl : (invD n l).flatten.length = n * n := by rw [flat_len hS.u, hDl]
    have hdb := bytes_flat2 hS.b
    have hrows : rowsOf n n (invD n l).flatten = invD n l := by
     have := rows_flat hS.u
     rwa [hDl] at this
    have m1 := MulM_ends hn hn hn hlen hdl hbl hdb
    have m2 := MulM_ends hn hn hn hdl hlen hdb hbl
    have p1 : mulL n n n l (invD n l).flatten = idM n := by
     unfold mulL
     rw [hrows]
     exact prod_id fun i j hi hj => right_inv hbl hlen hn hful hi hj
    have p2 : mulL n n n (invD n l).flatten l = idM n := by
     unfold mulL
     rw [hrows]
     exact prod_id fun i j hi hj => left_inv hbl hlen hn hful hi hj
    rw [p1] at m1
    rw [p2] at m2
    refine Ends.pos rfl ?_
    refine Ends.bind m1 (Ends.bind m2 (Ends.bind (Ident_ends hn) ?_))
    refine Ends.bind1 anchored_ok (Ends.pos rfl (Ends.pos rfl (Ends.pos rfl ?_)))
    exact Ends.bind1 (Like_self _ _ _) (Ends.pos rfl (Ends.bind1 (Like_self _ _ _) (Ends.const rfl)))
  ·refine Ends.bind1 (gInverse_bad (.inr ⟨hR ▸ h, e⟩)) (Ends.bind1 h (Ends.pos rfl ?_))
   exact bad _ _ _ _ (by rw [bne_iff_ne]; exact e)
 ·refine Ends.bind1 (gInverse_bad (.inl (hR ▸ h))) (Ends.bind1 h (Ends.neg (by decide) ?_))
  exact bad _ _ _ _ rfl
end Go.Proofs.Ytccfbhnhedoggaa.Pure
