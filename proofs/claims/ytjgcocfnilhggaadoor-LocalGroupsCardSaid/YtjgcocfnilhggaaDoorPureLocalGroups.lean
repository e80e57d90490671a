import Derived.Test.YtjgcocfnilhggaaDoorBLocalGroups
import Derived.Test.YtjgcocfnilhggaaDoorQx103
import Derived.Test.YtjgcocfnilhggaaDoorQx208
namespace Go.Proofs.YtjgcocfnilhggaaDoor.M
open Go.RowKit Go.Proofs.YtjgcocfnilhggaaDoor.Q
theorem groups_ends {a b : Int} {l L : List Int} (ha : (Lit.int .i64 a).wf = true) (hb : bytesB l = true) (hL : ∀ x ∈ L, (Lit.int .u64 x).wf = true) (hlen : L.length * 8 ≤ 140737488351232) (x : Int) :
  Ends (fun k => recouplaw19_LocalGroups.f k a b l L x) true := by
 obtain ⟨t, h1, h2⟩ := both_group (b := b) ha hb hL hlen x
 unfold recouplaw19_LocalGroups.f
 refine Ends.bind h1 (Ends.bind h2 (Ends.pos rfl (Ends.pos (by simp) (Ends.const (by simp)))))
end Go.Proofs.YtjgcocfnilhggaaDoor.M
namespace Go.Proofs.YtjgcocfnilhggaaDoor.Pure
open Go.RowKit Go.Proofs.YtjgcocfnilhggaaDoor.M

theorem LocalGroups : ∀ x0 : Q.S27, (((Lit.int .i64 x0.f0.f0).wf = true ∧ ((Lit.int .i64 x0.f0.f1).wf = true ∧ (x0.f0.f2.length ≤ maxLen ∧ x0.f0.f2.length * 1 ≤ 140737488351232 ∧ ∀ x8 ∈ x0.f0.f2, (Lit.int .u8 x8).wf = true))) ∧ (x0.f1.length ≤ maxLen ∧ x0.f1.length * 8 ≤ 140737488351232 ∧ ∀ x5 ∈ x0.f1, (Lit.int .u64 x5).wf = true)) → ∀ x1 : Int, (Lit.int .i64 x1).wf = true → ∃ k, Q.recouplaw19_LocalGroups.f k x0.f0.f0 x0.f0.f1 x0.f0.f2 x0.f1 x1 = some true := by
 rintro ⟨⟨a, b, l⟩, L⟩ ⟨⟨ha, _, _, _, hl⟩, _, hlen, hL⟩ x hx
 exact Ends.exists (groups_ends (b := b) ha (bytesB_wf hl) hL hlen x)

end Go.Proofs.YtjgcocfnilhggaaDoor.Pure
