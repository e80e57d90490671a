import Derived.Test.YtccfbhnhedoggaaQx21
import Derived.Test.YtccfbhnhedoggaaGInv
namespace Go.Proofs.Ytccfbhnhedoggaa.Pure
open Go.RowKit Go.Proofs.Ytccfbhnhedoggaa.M Go.Proofs.Ytccfbhnhedoggaa.Q
set_option linter.unusedVariables false
/-- The program's Inverse, and the reference's, answer the same. -/
theorem GaussInverts : ∀ x0 : Q.S24, ((Lit.int .i64 x0.f0).wf = true ∧ ((Lit.int .i64 x0.f1).wf = true ∧ (x0.f2.length ≤ maxLen ∧ x0.f2.length * 1 ≤ 140737488351232 ∧ ∀ x5 ∈ x0.f2, (Lit.int .u8 x5).wf = true))) → ∃ k, Q.recouplaw04_GaussInverts.f k x0.f0 x0.f1 x0.f2 = some true := by
  rintro ⟨a, b, l⟩ ⟨ha, hb, _, _, hl⟩
  have hbl := bytesB_wf hl
  have hR := Right_eq (b := b) (l := l) (wf_i64 ha)
  show ∃ k, Q.recouplaw04_GaussInverts.f k a b l = some true
  refine Ends.exists ?_
  unfold Q.recouplaw04_GaussInverts.f
  rcases Right_cases a b l with h | h
  · by_cases e : a = b
    · subst e
      obtain ⟨r, c, rfl, h2, hr, hc, hlen, _⟩ := right_nat (hR ▸ h)
      obtain rfl : r = c := by omega
      refine Ends.bind1 (gInverse_eq (hR ▸ h) hbl) ?_
      refine Ends.bind (Inverse_ends hr hlen hbl) (Ends.pos rfl ?_)
      exact Ends.bind1 (Like_self _ _ _) (Ends.const rfl)
    · refine Ends.bind1 (gInverse_bad (.inr ⟨hR ▸ h, e⟩)) ?_
      refine Ends.bind (Inverse_bad (.inr ⟨h, e⟩)) (Ends.pos rfl ?_)
      exact Ends.bind1 (Like_self _ _ _) (Ends.const rfl)
  · refine Ends.bind1 (gInverse_bad (.inl (hR ▸ h))) ?_
    refine Ends.bind (Inverse_bad (.inl h)) (Ends.pos rfl ?_)
    exact Ends.bind1 (Like_self _ _ _) (Ends.const rfl)
end Go.Proofs.Ytccfbhnhedoggaa.Pure
