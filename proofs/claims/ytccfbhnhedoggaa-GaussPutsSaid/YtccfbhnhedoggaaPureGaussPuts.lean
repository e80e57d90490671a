import Derived.Test.YtccfbhnhedoggaaBGaussPuts
import Derived.Test.YtccfbhnhedoggaaQx112
import Derived.Test.YtccfbhnhedoggaaQx114
import Derived.Test.YtccfbhnhedoggaaQx121
import Derived.Test.YtccfbhnhedoggaaQx138
import Derived.Test.YtccfbhnhedoggaaQx153
import Derived.Test.YtccfbhnhedoggaaQx155
import Derived.Test.YtccfbhnhedoggaaQx159
namespace Go.Proofs.Ytccfbhnhedoggaa.Pure
open Go.RowKit Go.Proofs.Ytccfbhnhedoggaa.M Go.Proofs.Ytccfbhnhedoggaa.Q
set_option linter.unusedVariables false
/-- What Combine answers, put together, is y; it answers for each combination of the rows. -/
theorem GaussPuts : ∀ x0 : Q.S24, ((Lit.int .i64 x0.f0).wf = true ∧ ((Lit.int .i64 x0.f1).wf = true ∧ (x0.f2.length ≤ maxLen ∧ x0.f2.length * 1 ≤ 140737488351232 ∧ ∀ x5 ∈ x0.f2, (Lit.int .u8 x5).wf = true))) → ∀ x1 : List Int, (x1.length ≤ maxLen ∧ x1.length * 1 ≤ 140737488351232 ∧ ∀ x2 ∈ x1, (Lit.int .u8 x2).wf = true) → ∃ k, Q.recouplaw04_GaussPuts.f k x0.f0 x0.f1 x0.f2 x1 = some true := by
 rintro ⟨a, b, l⟩ ⟨ha, hb, _, _, hl⟩ x ⟨_, _, hx⟩
 have hbl : bytesB l = true := bytesB_wf hl
 clear hl
 have hbx : bytesB x = true := bytesB_wf hx
 clear hx
 have hR : recoupref03_Right.f a b l = matrix_Right.f a b l := Right_eq (wf_i64 ha)
 show ∃ k, Q.recouplaw04_GaussPuts.f k a b l x = some true
 refine Ends.exists ?_
 have bad : ∀ z, z = true → M.Ends (fun k => recouplaw04_GaussPuts.j0 k x z a b l) true := fun z hz => by
  subst hz
  refine Ends.succ (fun k => by rw [recouplaw04_GaussPuts.j0]) ?_
  refine Ends.pos rfl ?_
  have h1 : M.Ends (fun k => gauss_Combine.f k 1 0 [] [1]) ([], false, 3) := gComb_bad (.inr ⟨(right_of (r := 1) (c := 0) (l := []) (by decide) (by decide) rfl).1, by decide⟩)
  exact Ends.bind h1 (Ends.bind1 anchored_ok (Ends.pos rfl (Ends.const rfl)))
 unfold Q.recouplaw04_GaussPuts.f
 rcases Right_cases a b l with h | h
 ·obtain ⟨r, c, rfl, rfl, hr, hc, hlen, _⟩ := right_nat (hR ▸ h)
  refine Ends.bind1 h (Ends.pos rfl ?_)
  by_cases e : x.length = r
  ·have htb := trans_bytes (r := r) (c := c) hbl
   have htl := trans_length r c l
   have hly := appL_len c r (transL r c l) x
   have hby := appL_bytes c r (transL r c l) x
   have hyv : vv (appL c r (transL r c l) x) = lc (mv (rowsOf c r l) c) r (vv x) := by
    funext j
    by_cases hj : j < c
    ·rw [appL_at e hj, trans_dot hlen hj]
    ·rw [vv_out (by rw [hly]; exact Nat.le_of_not_lt hj)]
     exact (sm_zero fun i hi => by rw [mv_out hj, mul_zero]).symm
   obtain ⟨g1, g2, g3, g4⟩ := cmb_good hbl hlen hr hc hly hby ⟨_, hyv⟩
   refine Ends.succ (fun k => by rw [recouplaw04_GaussPuts.j0]) ?_
   refine Ends.neg (by simp [e]) ?_
   refine Ends.bind (Trans_ends hr hc hlen) ?_
   refine Ends.bind (Apply_ends htb htl hc hr e hbx) ?_
   refine Ends.bind (gComb_ends hbl hlen hr hc hly hby) ?_
   generalize cmbR r c l (appL c r (transL r c l) x) = s at *
   obtain ⟨s1, s2, s3⟩ := s
   obtain ⟨rfl, rfl⟩ := Prod.mk.inj g1
   refine Ends.pos rfl (Ends.pos rfl ?_)
   refine Ends.succ (fun k => by rw [recouplaw04_GaussPuts.j1]) ?_
   refine Ends.neg (by simp [g2]) ?_
   refine Ends.bind (Apply_ends htb htl hc hr g2 g3) ?_
   refine Ends.bind1 anchored_ok (Ends.pos rfl ?_)
   have heq : appL c r (transL r c l) s1 = appL c r (transL r c l) x := by
    refine bytes_ext (by rw [appL_len, appL_len]) (appL_bytes _ _ _ _) hby fun j hj => ?_
    rw [appL_len] at hj
    rw [appL_at g2 hj, trans_dot hlen hj]
    exact congrFun g4 j
   refine Ends.bind1 (by rw [heq]; exact Same_self _) (Ends.const rfl)
  ·exact bad _ (by rw [bne_iff_ne]; intro e2; exact e (by exact_mod_cast e2))
 ·exact Ends.bind1 h (Ends.neg (by decide) (bad _ rfl))
end Go.Proofs.Ytccfbhnhedoggaa.Pure
