import Derived.Test.YthjncmdlhmppiaaDoorBMatroidRanks
import Derived.Test.YthjncmdlhmppiaaDoorQx103
import Derived.Test.YthjncmdlhmppiaaDoorQx168
namespace Go.Proofs.YthjncmdlhmppiaaDoor.Pure
open Go.RowKit Go.Proofs.YthjncmdlhmppiaaDoor.M Go.Proofs.YthjncmdlhmppiaaDoor.Q
set_option linter.unusedVariables false
/-- The program's Rank, Free and Covers, and the reference's, answer the same. -/
theorem MatroidRanks : ∀ x0 : Q.S24, ((Lit.int .i64 x0.f0).wf = true ∧ ((Lit.int .i64 x0.f1).wf = true ∧ (x0.f2.length ≤ maxLen ∧ x0.f2.length * 1 ≤ 140737488351232 ∧ ∀ x5 ∈ x0.f2, (Lit.int .u8 x5).wf = true))) → ∀ x1 : Int, (Lit.int .u64 x1).wf = true → ∃ k, Q.recouplaw07_MatroidRanks.f k x0.f0 x0.f1 x0.f2 x1 = some true := by
 rintro ⟨a, b, l⟩ ⟨ha, hb, _, _, hl⟩ x hx
 have hbl : bytesB l = true := bytesB_wf hl
 clear hl
 show ∃ k, Q.recouplaw07_MatroidRanks.f k a b l x = some true
 obtain ⟨s, hs, hs2⟩ := u64_nat hx
 obtain ⟨k0, h1, h2⟩ := both7 (b := b) ha hx hbl
 refine Ends.exists ?_
 unfold Q.recouplaw07_MatroidRanks.f
 refine Ends.bind h1 (Ends.bind h2 ?_)
 refine Ends.bind (Free7 hs2 hs h1) (Ends.bind (rFree7 hs2 hs h2) ?_)
 refine Ends.bind (Covers7 h1) (Ends.bind (rCovers7 h2) ?_)
 exact Ends.pos rfl (Ends.pos rfl (Ends.pos (by simp) (Ends.pos rfl (Ends.pos (by simp) (Ends.const (by simp))))))
end Go.Proofs.YthjncmdlhmppiaaDoor.Pure
