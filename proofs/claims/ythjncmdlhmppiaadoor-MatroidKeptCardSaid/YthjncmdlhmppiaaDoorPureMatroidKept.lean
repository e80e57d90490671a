import Derived.Test.YthjncmdlhmppiaaDoorBMatroidKept
import Derived.Test.YthjncmdlhmppiaaDoorQx111
import Derived.Test.YthjncmdlhmppiaaDoorQx118
import Derived.Test.YthjncmdlhmppiaaDoorQx120
import Derived.Test.YthjncmdlhmppiaaDoorQx122
import Derived.Test.YthjncmdlhmppiaaDoorQx124
import Derived.Test.YthjncmdlhmppiaaDoorQx132
import Derived.Test.YthjncmdlhmppiaaDoorQx134
import Derived.Test.YthjncmdlhmppiaaDoorQx144
import Derived.Test.YthjncmdlhmppiaaDoorQx168
namespace Go.Proofs.YthjncmdlhmppiaaDoor.Pure
open Go.RowKit Go.Proofs.YthjncmdlhmppiaaDoor.M Go.Proofs.YthjncmdlhmppiaaDoor.Q
set_option linter.unusedVariables false
/-- What is handed in stays as it is. -/
theorem MatroidKept : ∀ x0 : Q.S24, ((Lit.int .i64 x0.f0).wf = true ∧ ((Lit.int .i64 x0.f1).wf = true ∧ (x0.f2.length ≤ maxLen ∧ x0.f2.length * 1 ≤ 140737488351232 ∧ ∀ x5 ∈ x0.f2, (Lit.int .u8 x5).wf = true))) → ∀ x1 : Int, (Lit.int .i64 x1).wf = true → ∀ x2 : Int, (Lit.int .u64 x2).wf = true → ∃ k, Q.recouplaw07_MatroidKept.f k x0.f0 x0.f1 x0.f2 x1 x2 = some true := by
 rintro ⟨a, b, l⟩ ⟨ha, hb, _, hlen, hl⟩ n hn x hx
 have hbl : bytesB l = true := bytesB_wf hl
 clear hl
 show ∃ k, Q.recouplaw07_MatroidKept.f k a b l n x = some true
 have hlen : l.length * 1 ≤ 140737488351232 := hlen
 have key : ∃ (o p q m : Int × Int) (z : Int × Bool × Int), M.Ends (fun k => matroid_Rank.f k a b l x) o ∧ M.Ends (fun k => matroid_Span.f k a b l x) p ∧ M.Ends (fun k => matroid_Basis.f k a b l x) q ∧ M.Ends (fun k => matroid_Needed.f k a b l x) m ∧ M.Ends (fun k => matroid_Circuit.f k a b l n x) z := by
  rcases args7 (b := b) (l := l) ha hx with ⟨h1, h2⟩ | ⟨r, c, s, rfl, rfl, rfl, hr, hc, hl, hs⟩
  ·exact ⟨_, _, _, _, _, Rank7_bad h2, Span7_bad h2, Basis7_bad h2, Needed7_bad h2, Circuit7_bad hx h2⟩
  ·by_cases h : Val r s
   ·exact ⟨_, _, _, _, _, Rank7 hbl hl hr hc hs h, Span7 hbl hl hr hc hs h, Basis7 hbl hl hr hc hs h, Needed7 hbl hl hr hc hs h, Circuit7 hbl hl hr hc hs h n⟩
   ·exact ⟨_, _, _, _, _, Rank7_arg hl hr hc hs h, Span7_arg hl hr hc hs h, Basis7_arg hl hr hc hs h, Needed7_arg hl hr hc hs h, Circuit7_arg hl hr hc hs h n⟩
 obtain ⟨o, p, q, m, z, h1, h2, h3, h4, h5⟩ := key
 refine M.Ends.exists ?_
 unfold Q.recouplaw07_MatroidKept.f
 have hcopy : recoupref03_Copy.f a b l = some (a, b, l) := by
  unfold recoupref03_Copy.f recoupref01_Copy.f
  rw [Option.bind_some, if_pos (by simp; omega)]
  rfl
 have hsame : recoupref01_Same.f l l = some true := by unfold recoupref01_Same.f; simp
 have hlike : recoupref03_Like.f a b l a b l = some true := by
  unfold recoupref03_Like.f
  rw [if_pos rfl, if_pos rfl, hsame]
  rfl
 refine M.Ends.bind1 hcopy (M.Ends.bind h1 (M.Ends.bind h2 (M.Ends.bind h3 (M.Ends.bind h4 (M.Ends.bind h5 (M.Ends.bind anch7 (M.Ends.pos rfl ?_)))))))
 exact M.Ends.bind1 hlike (M.Ends.pos rfl (M.Ends.bind1 hsame (M.Ends.const rfl)))
end Go.Proofs.YthjncmdlhmppiaaDoor.Pure
