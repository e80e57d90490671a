import Derived.Test.YtkagobkedifhkaaDoorBVerdictSays
import Derived.Test.YtkagobkedifhkaaDoorQx103
import Derived.Test.YtkagobkedifhkaaDoorQx109
import Derived.Test.YtkagobkedifhkaaDoorQx111
import Derived.Test.YtkagobkedifhkaaDoorQx112
import Derived.Test.YtkagobkedifhkaaDoorQx133
import Derived.Test.YtkagobkedifhkaaDoorQx193
namespace Go.Proofs.YtkagobkedifhkaaDoor.Pure
open Go.RowKit Go.Proofs.YtkagobkedifhkaaDoor.M Go.Proofs.YtkagobkedifhkaaDoor.Q
set_option linter.unusedVariables false
/-- The program's Recovers and Sources, and the reference's, answer the same. -/
theorem VerdictSays : ∀ x0 : Q.S24, ((Lit.int .i64 x0.f0).wf = true ∧ ((Lit.int .i64 x0.f1).wf = true ∧ (x0.f2.length ≤ maxLen ∧ x0.f2.length * 1 ≤ 140737488351232 ∧ ∀ x5 ∈ x0.f2, (Lit.int .u8 x5).wf = true))) → ∀ x1 : Int, (Lit.int .u64 x1).wf = true → ∃ k, Q.recouplaw18_VerdictSays.f k x0.f0 x0.f1 x0.f2 x1 = some true := by
 rintro ⟨a, b, l⟩ ⟨ha, hb, _, _, hl⟩ x hx
 have hbl : bytesB l = true := bytesB_wf hl
 clear hl
 show ∃ k, Q.recouplaw18_VerdictSays.f k a b l x = some true
 have key : ∃ (p : Bool × Int) (q : Int × Bool × Int), (M.Ends (fun k => verdict_Recovers.f k a b l x) p ∧ M.Ends (fun k => recoupref18_Recovers.f k a b l x) p) ∧ (M.Ends (fun k => verdict_Sources.f k a b l x) q ∧ M.Ends (fun k => recoupref18_Sources.f k a b l x) q) := by
  rcases args18 hbl ha hx (b := b) with ⟨e, he, h1, h2⟩ | ⟨r, c, s, rfl, rfl, rfl, hr, hc, hl, hs, hg, hv⟩
  ·exact ⟨_, _, ⟨Rec18 h1, rrec_no he h2⟩, ⟨Src18 h1, rsrc_no he h2⟩⟩
  ·have h1 := rec_eq hbl hl hr hc hs hg hv
   have h2 := rrec_eq hbl hl hr hc hs hg hv
   have h3 := rsrc_eq hbl hl hr hc hs hg hv
   by_cases e : rho c l (lft r s) = c
   ·rw [if_pos e] at h1 h3
    rw [decide_eq_true e] at h2
    exact ⟨_, _, ⟨Rec18 h1, h2⟩, ⟨Src18 h1, h3⟩⟩
   ·rw [if_neg e] at h1 h3
    rw [decide_eq_false e] at h2
    exact ⟨_, _, ⟨Rec18 h1, h2⟩, ⟨Src18 h1, h3⟩⟩
 obtain ⟨p, q, ⟨h1, h2⟩, ⟨h3, h4⟩⟩ := key
 refine M.Ends.exists ?_
 unfold Q.recouplaw18_VerdictSays.f
 exact M.Ends.bind h1 (M.Ends.bind h2 (M.Ends.bind h3 (M.Ends.bind h4 (M.Ends.pos (by simp) (M.Ends.pos rfl (M.Ends.pos rfl (M.Ends.pos (by simp) (M.Ends.const (by simp)))))))))
end Go.Proofs.YtkagobkedifhkaaDoor.Pure
