import Derived.Test.YthjncmdlhmppiaaDoorBMatroidSpans
import Derived.Test.YthjncmdlhmppiaaDoorQx104
import Derived.Test.YthjncmdlhmppiaaDoorQx118
import Derived.Test.YthjncmdlhmppiaaDoorQx119
import Derived.Test.YthjncmdlhmppiaaDoorQx120
import Derived.Test.YthjncmdlhmppiaaDoorQx121
import Derived.Test.YthjncmdlhmppiaaDoorQx122
import Derived.Test.YthjncmdlhmppiaaDoorQx123
import Derived.Test.YthjncmdlhmppiaaDoorQx168
namespace Go.Proofs.YthjncmdlhmppiaaDoor.Pure
open Go.RowKit Go.Proofs.YthjncmdlhmppiaaDoor.M Go.Proofs.YthjncmdlhmppiaaDoor.Q
set_option linter.unusedVariables false
/-- The program's Span, Basis and Needed, and the reference's, answer the same. -/
theorem MatroidSpans : ∀ x0 : Q.S24, ((Lit.int .i64 x0.f0).wf = true ∧ ((Lit.int .i64 x0.f1).wf = true ∧ (x0.f2.length ≤ maxLen ∧ x0.f2.length * 1 ≤ 140737488351232 ∧ ∀ x5 ∈ x0.f2, (Lit.int .u8 x5).wf = true))) → ∀ x1 : Int, (Lit.int .u64 x1).wf = true → ∃ k, Q.recouplaw07_MatroidSpans.f k x0.f0 x0.f1 x0.f2 x1 = some true := by
 rintro ⟨a, b, l⟩ ⟨ha, hb, _, _, hl⟩ x hx
 have hbl : bytesB l = true := bytesB_wf hl
 clear hl
 show ∃ k, Q.recouplaw07_MatroidSpans.f k a b l x = some true
 have key : ∃ p q n : Int × Int, (M.Ends (fun k => matroid_Span.f k a b l x) p ∧ M.Ends (fun k => recoupref07_Span.f k a b l x) p) ∧ (M.Ends (fun k => matroid_Basis.f k a b l x) q ∧ M.Ends (fun k => recoupref07_Basis.f k a b l x) q) ∧ (M.Ends (fun k => matroid_Needed.f k a b l x) n ∧ M.Ends (fun k => recoupref07_Needed.f k a b l x) n) := by
  rcases args7 (b := b) (l := l) ha hx with ⟨h1, h2⟩ | ⟨r, c, s, rfl, rfl, rfl, hr, hc, hl, hs⟩
  ·exact ⟨_, _, _, ⟨Span7_bad h2, rSpan7_bad h1⟩, ⟨Basis7_bad h2, rBasis7_bad h1⟩, ⟨Needed7_bad h2, rNeeded7_bad h1⟩⟩
  ·by_cases h : Val r s
   ·refine ⟨_, _, _, ⟨Span7 hbl hl hr hc hs h, rSpan7 hbl hl hr hc hs h⟩, ⟨Basis7 hbl hl hr hc hs h, ?_⟩, ⟨Needed7 hbl hl hr hc hs h, rNeeded7 hbl hl hr hc hs h⟩⟩
    rw [bas_grd hbl hl hr hc hs h]
    exact rBasis7 hbl hl hr hc hs h
   ·exact ⟨_, _, _, ⟨Span7_arg hl hr hc hs h, rSpan7_arg hl hr hc hs h⟩, ⟨Basis7_arg hl hr hc hs h, rBasis7_arg hl hr hc hs h⟩, ⟨Needed7_arg hl hr hc hs h, rNeeded7_arg hl hr hc hs h⟩⟩
 obtain ⟨p, q, n, ⟨h1, h2⟩, ⟨h3, h4⟩, ⟨h5, h6⟩⟩ := key
 refine M.Ends.exists ?_
 unfold Q.recouplaw07_MatroidSpans.f
 refine M.Ends.bind h1 (M.Ends.bind h2 (M.Ends.bind h3 (M.Ends.bind h4 (M.Ends.bind h5 (M.Ends.bind h6 ?_)))))
 exact M.Ends.pos rfl (M.Ends.pos rfl (M.Ends.pos rfl (M.Ends.pos rfl (M.Ends.pos rfl (M.Ends.const (by simp))))))
end Go.Proofs.YthjncmdlhmppiaaDoor.Pure
