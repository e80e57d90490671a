import Derived.Test.YtccfbhnhedoggaaQx7
import Derived.Test.YtccfbhnhedoggaaGInts
namespace Go.Proofs.Ytccfbhnhedoggaa.Pure
open Go.RowKit Go.Proofs.Ytccfbhnhedoggaa.M Go.Proofs.Ytccfbhnhedoggaa.Q

/-- The program's Reduce and Rank, and the reference's, answer the same. -/
theorem GaussReduces : ∀ x0 : Q.S24, ((Lit.int .i64 x0.f0).wf = true ∧ ((Lit.int .i64 x0.f1).wf = true ∧ (x0.f2.length ≤ maxLen ∧ x0.f2.length * 1 ≤ 140737488351232 ∧ ∀ x5 ∈ x0.f2, (Lit.int .u8 x5).wf = true))) → ∃ k, Q.recouplaw04_GaussReduces.f k x0.f0 x0.f1 x0.f2 = some true := by
  rintro ⟨a, b, l⟩ ⟨ha, hb, _, _, hl⟩
  have hbl := bytesB_wf hl
  have hR := Right_eq (b := b) (l := l) (wf_i64 ha)
  refine Ends.exists ?_
  unfold Q.recouplaw04_GaussReduces.f Q.gauss_Rank.f
  rcases Right_cases a b l with h | h
  · obtain ⟨r, c, rfl, rfl, hr, hc, hlen, _⟩ := right_nat (hR ▸ h)
    have hg := gReduce_eq (hR ▸ h) hbl
    refine Ends.bind1 hg ?_
    refine Ends.bind (Reduce_ends hr hc hlen hbl) ?_
    refine Ends.bind1 (by rw [hg]; rfl) (Ends.pos rfl ?_)
    refine Ends.bind1 (Like_self _ _ _) (Ends.pos rfl ?_)
    have hp := (red_shp (shp_nil hbl hlen ⟨hr, hc⟩) c).2.2.2
    refine Ends.bind (ints_self (Nat.le_trans hp (by omega))) (Ends.pos rfl (Ends.pos rfl (Ends.const rfl)))
  · have hg := gReduce_bad (hR ▸ h)
    refine Ends.bind1 hg ?_
    refine Ends.bind (Reduce_bad h) ?_
    refine Ends.bind1 (by rw [hg]; rfl) (Ends.pos rfl ?_)
    refine Ends.bind1 (Like_self _ _ _) (Ends.pos rfl ?_)
    exact Ends.bind (ints_self (by simp)) (Ends.pos rfl (Ends.pos rfl (Ends.const rfl)))
end Go.Proofs.Ytccfbhnhedoggaa.Pure
