import Derived.Test.YtccfbhnhedoggaaBGaussRanks
import Derived.Test.YtccfbhnhedoggaaQx110
import Derived.Test.YtccfbhnhedoggaaQx116
import Derived.Test.YtccfbhnhedoggaaQx121
import Derived.Test.YtccfbhnhedoggaaQx153
import Derived.Test.YtccfbhnhedoggaaQx155
import Derived.Test.YtccfbhnhedoggaaQx159
namespace Go.Proofs.Ytccfbhnhedoggaa.Pure
open Go.RowKit Go.Proofs.Ytccfbhnhedoggaa.M Go.Proofs.Ytccfbhnhedoggaa.Q
set_option linter.unusedVariables false
theorem gRank_eq {r c : Nat} {l : List Int} (hR : matrix_Right.f (r : Int) (c : Int) l = some true) (hb : bytesB l = true) : gauss_Rank.f (r : Int) (c : Int) l = some (((redL r c l).2.length : Int), 0) := by
 unfold gauss_Rank.f
 rw [gReduce_eq hR hb]
 rfl
/-- The rank is that of the matrix transposed, the number of pivots, of First's rows, and of columns less Kernel's rows. -/
theorem GaussRanks : ∀ x0 : Q.S24, ((Lit.int .i64 x0.f0).wf = true ∧ ((Lit.int .i64 x0.f1).wf = true ∧ (x0.f2.length ≤ maxLen ∧ x0.f2.length * 1 ≤ 140737488351232 ∧ ∀ x5 ∈ x0.f2, (Lit.int .u8 x5).wf = true))) → ∃ k, Q.recouplaw04_GaussRanks.f k x0.f0 x0.f1 x0.f2 = some true := by
 rintro ⟨a, b, l⟩ ⟨ha, hb, _, _, hl⟩
 have hbl : bytesB l = true := bytesB_wf hl
 clear hl
 have hR : recoupref03_Right.f a b l = matrix_Right.f a b l := Right_eq (wf_i64 ha)
 show ∃ k, Q.recouplaw04_GaussRanks.f k a b l = some true
 refine Ends.exists ?_
 unfold Q.recouplaw04_GaussRanks.f
 rcases Right_cases a b l with h | h
 ·obtain ⟨r, c, rfl, rfl, hr, hc, hlen, _⟩ := right_nat (hR ▸ h)
  have hRt := (right_of hc hr (trans_length r c l)).1
  refine Ends.bind1 (gRank_eq (hR ▸ h) hbl) ?_
  refine Ends.bind1 h (Ends.pos rfl ?_)
  refine Ends.bind (Trans_ends hr hc hlen) ?_
  refine Ends.bind1 (gRank_eq hRt (trans_bytes hbl)) ?_
  refine Ends.bind1 (gReduce_eq (hR ▸ h) hbl) ?_
  refine Ends.bind1 (gFirst_eq hbl hlen hr hc) ?_
  refine Ends.bind (gKernel_ends (hR ▸ h) hr hc hlen hbl) ?_
  refine Ends.bind1 anchored_ok (Ends.pos rfl ?_)
  have hk := kerL_len hbl hlen hr hc
  have hp := prefix_rk hbl hlen hr hc (i := r) (Nat.le_refl _)
  have ht : l.take (r * c) = l := List.take_of_length_le (Nat.le_of_eq hlen)
  rw [ht, below_all _ (trans_rr hbl hlen hr hc).lt] at hp
  have h2 : (redL c r (transL r c l)).2 = fstP r c l := fstP_red
  refine Ends.pos rfl (Ends.pos rfl (Ends.pos rfl (Ends.pos rfl (Ends.pos rfl ?_))))
  rw [h2]
  refine Ends.pos (by rw [hp]) (Ends.pos rfl (Ends.pos (by rw [hp]) (Ends.const ?_)))
  have e : wrap64 (((redL r c l).2.length : Int) + ((kerL r c l).length : Int)) = (c : Int) := by
   rw [w64 (by omega) (by omega)]
   omega
  show some (wrap64 (((redL r c l).2.length : Int) + ((kerL r c l).length : Int)) == (c : Int)) = some true
  rw [e]
  simp
 ·have hg : gauss_Rank.f a b l = some (0, 3) := by
   unfold gauss_Rank.f
   rw [gReduce_bad (hR ▸ h)]
   rfl
  refine Ends.bind1 hg (Ends.bind1 h (Ends.neg (by decide) ?_))
  exact Ends.bind1 anchored_ok (Ends.pos rfl (Ends.const rfl))
end Go.Proofs.Ytccfbhnhedoggaa.Pure
