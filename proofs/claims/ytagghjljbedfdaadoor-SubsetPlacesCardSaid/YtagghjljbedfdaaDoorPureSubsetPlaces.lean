/- SubsetPlaces: every Place and At of the program is the reference's, or its error: for every n, every k and every set. -/
import Derived.Test.YtagghjljbedfdaaDoorP06Place
import Derived.Test.YtagghjljbedfdaaDoorQx7
namespace Go.Proofs.YtagghjljbedfdaaDoor.M
open Go.RowKit Go.Proofs.YtagghjljbedfdaaDoor.Q Go.Proofs.YtagghjljbedfdaaDoorW.PrintWords Go.Proofs.YtagghjljbedfdaaDoorW.PrintLast
theorem placed_eq (n k p : Int) : Ends (fun j => recouplaw06_placed.f j n k p) true := by
  unfold recouplaw06_placed.f
  refine Ends.bind (At_eq n k p) (Ends.bind (refAt_eq n k p) (Ends.pos rfl (Ends.const (by simp))))
theorem subsetPlaces : recouplaw06_SubsetPlaces.Pure := by
  intro n k s _ _ hs
  obtain ⟨m, rfl, hm⟩ := u64_nat hs
  have h : Ends (fun j => recouplaw06_SubsetPlaces.f j n k (m : Int)) true := by
    unfold recouplaw06_SubsetPlaces.f
    refine Ends.bind (Place_eq n hm) (Ends.bind (refPlace_eq n hm) (Ends.pos rfl (Ends.pos rfl ?_)))
    refine Ends.bind (placed_eq _ _ _) (Ends.pos rfl (Ends.bind (placed_eq _ _ _) (Ends.pos rfl (Ends.bind1 (Count_eq hm) (Ends.bind (placed_eq _ _ _) (Ends.const rfl))))))
  exact h.exists
end Go.Proofs.YtagghjljbedfdaaDoor.M
namespace Go.Proofs.YtagghjljbedfdaaDoor.Pure
theorem SubsetPlaces : Go.Proofs.YtagghjljbedfdaaDoor.Q.recouplaw06_SubsetPlaces.Pure := Go.Proofs.YtagghjljbedfdaaDoor.M.subsetPlaces
end Go.Proofs.YtagghjljbedfdaaDoor.Pure
