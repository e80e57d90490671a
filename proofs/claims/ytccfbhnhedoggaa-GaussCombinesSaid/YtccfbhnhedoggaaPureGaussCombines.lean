import Derived.Test.YtccfbhnhedoggaaQx44
import Derived.Test.YtccfbhnhedoggaaGComb
import Derived.Test.YtccfbhnhedoggaaGInts
namespace Go.Proofs.Ytccfbhnhedoggaa.Pure
open Go.RowKit Go.Proofs.Ytccfbhnhedoggaa.M Go.Proofs.Ytccfbhnhedoggaa.Q
set_option linter.unusedVariables false
/-- The program's First and Combine, and the reference's, answer the same. -/
theorem GaussCombines : ∀ x0 : Q.S24, ((Lit.int .i64 x0.f0).wf = true ∧ ((Lit.int .i64 x0.f1).wf = true ∧ (x0.f2.length ≤ maxLen ∧ x0.f2.length * 1 ≤ 140737488351232 ∧ ∀ x5 ∈ x0.f2, (Lit.int .u8 x5).wf = true))) → ∀ x1 : List Int, (x1.length ≤ maxLen ∧ x1.length * 1 ≤ 140737488351232 ∧ ∀ x2 ∈ x1, (Lit.int .u8 x2).wf = true) → ∃ k, Q.recouplaw04_GaussCombines.f k x0.f0 x0.f1 x0.f2 x1 = some true := by
  rintro ⟨a, b, l⟩ ⟨ha, hb, _, _, hl⟩ y ⟨_, _, hy⟩
  have hbl := bytesB_wf hl
  have hby := bytesB_wf hy
  have hR := Right_eq (b := b) (l := l) (wf_i64 ha)
  have last : ∀ s : CR, (if s.2.2 = s.2.2 then (if (s.2.1 == s.2.1) = true then ((recoupref01_Same.f s.1 s.1).bind fun t521 => (some t521)) else (some false)) else (some false)) = some true := fun s => by
    rw [if_pos rfl, if_pos (by simp), Same_self]
    rfl
  show ∃ k, Q.recouplaw04_GaussCombines.f k a b l y = some true
  refine Ends.exists ?_
  unfold Q.recouplaw04_GaussCombines.f
  rcases Right_cases a b l with h | h
  · obtain ⟨r, c, rfl, rfl, hr, hc, hlen, _⟩ := right_nat (hR ▸ h)
    refine Ends.bind1 (gFirst_eq hbl hlen hr hc) ?_
    refine Ends.bind (First_ends hbl hlen hr hc) ?_
    have hi := ints_self (l := fstP r c l) (Nat.le_trans (fst_len hbl hlen hr hc) (by omega))
    by_cases e : y.length = c
    · refine Ends.bind (gComb_ends hbl hlen hr hc e hby) ?_
      refine Ends.bind (rComb_ends hbl hlen hr hc e hby) (Ends.pos rfl ?_)
      exact Ends.bind hi (Ends.pos rfl (Ends.const (last _)))
    · refine Ends.bind (gComb_bad (.inr ⟨hR ▸ h, by omega⟩)) ?_
      refine Ends.bind (rComb_bad (.inr ⟨h, by omega⟩)) (Ends.pos rfl ?_)
      exact Ends.bind hi (Ends.pos rfl (Ends.const (last _)))
  · refine Ends.bind1 (gFirst_bad (hR ▸ h)) ?_
    refine Ends.bind (First_bad h) ?_
    refine Ends.bind (gComb_bad (.inl (hR ▸ h))) ?_
    refine Ends.bind (rComb_bad (.inl h)) (Ends.pos rfl ?_)
    exact Ends.bind (ints_self (by simp)) (Ends.pos rfl (Ends.const (last _)))
end Go.Proofs.Ytccfbhnhedoggaa.Pure
