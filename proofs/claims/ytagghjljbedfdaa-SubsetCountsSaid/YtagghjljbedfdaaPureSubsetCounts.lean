/- SubsetCounts: every Choose and Upto of the program is the reference's, or its error: for every n and every k. -/
import Derived.Test.YtagghjljbedfdaaP06RefUpto
namespace Go.Proofs.Ytagghjljbedfdaa.M
open Go.RowKit Go.Proofs.Ytagghjljbedfdaa.Q
theorem subsetCounts : recouplaw06_SubsetCounts.Pure := by
  intro n k _ _
  have h : Ends (fun j => recouplaw06_SubsetCounts.f j n k) true := by
    unfold recouplaw06_SubsetCounts.f
    refine Ends.bind1 (Choose_eq n k) (Ends.bind (refChoose_eq n k) (Ends.bind (Upto_eq n k) (Ends.bind (refUpto_eq n k) ?_)))
    refine Ends.pos rfl (Ends.pos rfl (Ends.pos rfl (Ends.const ?_)))
    simp
  exact h.exists
end Go.Proofs.Ytagghjljbedfdaa.M
namespace Go.Proofs.Ytagghjljbedfdaa.Pure
theorem SubsetCounts : Go.Proofs.Ytagghjljbedfdaa.Q.recouplaw06_SubsetCounts.Pure := Go.Proofs.Ytagghjljbedfdaa.M.subsetCounts
end Go.Proofs.Ytagghjljbedfdaa.Pure
