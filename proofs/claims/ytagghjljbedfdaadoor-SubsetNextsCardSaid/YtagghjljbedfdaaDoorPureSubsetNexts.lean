/- SubsetNexts: every Next of the program is the reference's: for every n and every set. -/
import Derived.Test.YtagghjljbedfdaaDoorP06Sets
import Derived.Test.YtagghjljbedfdaaDoorQx3
namespace Go.Proofs.YtagghjljbedfdaaDoor.M
open Go.RowKit Go.Proofs.YtagghjljbedfdaaDoor.Q Go.Proofs.YtagghjljbedfdaaDoorW.PrintWords Go.Proofs.YtagghjljbedfdaaDoorW.PrintLast
theorem subsetNexts : recouplaw06_SubsetNexts.Pure := by
  intro n s _ hs
  obtain ⟨m, rfl, hm⟩ := u64_nat hs
  have h : Ends (fun j => recouplaw06_SubsetNexts.f j n (m : Int)) true := by
    unfold recouplaw06_SubsetNexts.f
    refine Ends.bind (Next_eq n hm) (Ends.bind (refNext_eq n hm) (Ends.pos rfl (Ends.const ?_)))
    simp
  exact h.exists
end Go.Proofs.YtagghjljbedfdaaDoor.M
namespace Go.Proofs.YtagghjljbedfdaaDoor.Pure
theorem SubsetNexts : Go.Proofs.YtagghjljbedfdaaDoor.Q.recouplaw06_SubsetNexts.Pure := Go.Proofs.YtagghjljbedfdaaDoor.M.subsetNexts
end Go.Proofs.YtagghjljbedfdaaDoor.Pure
