import Derived.Test.YthjncmdlhmppiaaDoorBMatroidCircuits
import Derived.Test.YthjncmdlhmppiaaDoorQx105
import Derived.Test.YthjncmdlhmppiaaDoorQx124
import Derived.Test.YthjncmdlhmppiaaDoorQx125
import Derived.Test.YthjncmdlhmppiaaDoorQx168
namespace Go.Proofs.YthjncmdlhmppiaaDoor.Pure
open Go.RowKit Go.Proofs.YthjncmdlhmppiaaDoor.M Go.Proofs.YthjncmdlhmppiaaDoor.Q
set_option linter.unusedVariables false
/-- The program's Circuit and the reference's answer the same. -/
theorem MatroidCircuits : ∀ x0 : Q.S24, ((Lit.int .i64 x0.f0).wf = true ∧ ((Lit.int .i64 x0.f1).wf = true ∧ (x0.f2.length ≤ maxLen ∧ x0.f2.length * 1 ≤ 140737488351232 ∧ ∀ x5 ∈ x0.f2, (Lit.int .u8 x5).wf = true))) → ∀ x1 : Int, (Lit.int .i64 x1).wf = true → ∀ x2 : Int, (Lit.int .u64 x2).wf = true → ∃ k, Q.recouplaw07_MatroidCircuits.f k x0.f0 x0.f1 x0.f2 x1 x2 = some true := by
 rintro ⟨a, b, l⟩ ⟨ha, hb, _, _, hl⟩ n hn x hx
 have hbl : bytesB l = true := bytesB_wf hl
 clear hl
 show ∃ k, Q.recouplaw07_MatroidCircuits.f k a b l n x = some true
 have key : ∃ p, M.Ends (fun k => matroid_Circuit.f k a b l n x) p ∧ M.Ends (fun k => recoupref07_Circuit.f k a b l n x) p := by
  rcases args7 (b := b) (l := l) ha hx with ⟨h1, h2⟩ | ⟨r, c, s, rfl, rfl, rfl, hr, hc, hl, hs⟩
  ·exact ⟨_, Circuit7_bad hx h2, rCircuit7_bad h1⟩
  ·by_cases h : Val r s
   ·exact ⟨_, Circuit7 hbl hl hr hc hs h n, rCircuit7 hbl hl hr hc hs h n⟩
   ·exact ⟨_, Circuit7_arg hl hr hc hs h n, rCircuit7_arg hl hr hc hs h n⟩
 obtain ⟨p, h1, h2⟩ := key
 refine M.Ends.exists ?_
 unfold Q.recouplaw07_MatroidCircuits.f
 exact M.Ends.bind h1 (M.Ends.bind h2 (M.Ends.pos rfl (M.Ends.pos (by simp) (M.Ends.const (by simp)))))
end Go.Proofs.YthjncmdlhmppiaaDoor.Pure
