/- SubsetLists: every Of, List, Count, Has and Full of the program is the reference's, or its error: for every list of ints, every set and every int. -/
import Derived.Test.YtagghjljbedfdaaDoorP06More
import Derived.Test.YtagghjljbedfdaaDoorQx4
namespace Go.Proofs.YtagghjljbedfdaaDoor.M
open Go.RowKit Go.Proofs.YtagghjljbedfdaaDoor.Q Go.Proofs.YtagghjljbedfdaaDoorW.PrintWords Go.Proofs.YtagghjljbedfdaaDoorW.PrintLast
theorem subsetLists : recouplaw06_SubsetLists.Pure := by
  intro l s i _ hl _ hs _
  obtain ⟨m, rfl, hm⟩ := u64_nat hs
  have hlen := setL_length m
  have h : Ends (fun j => recouplaw06_SubsetLists.f j l (m : Int) i) true := by
    unfold recouplaw06_SubsetLists.f
    refine Ends.bind (Of_eq l (by omega)) (Ends.bind (refOfAny_eq l (by omega)) (Ends.bind1 (Full_eq i) (Ends.bind (refFull_eq i) (Ends.bind (refList_eq hm) ?_))))
    refine Ends.pos rfl (Ends.pos rfl (Ends.bind (List_eq hm) (Ends.bind (ints_eq _ _ (by rw [ints_length]; omega)) ?_)))
    refine Ends.pos (by simp) (Ends.bind1 (Count_eq hm) (Ends.pos (by rw [ints_length]) (Ends.bind1 (Has_eq hm i) (Ends.bind1 (has_eq hm i) ?_))))
    exact Ends.pos (by simp) (Ends.pos rfl (Ends.const (by simp)))
  exact h.exists
end Go.Proofs.YtagghjljbedfdaaDoor.M
namespace Go.Proofs.YtagghjljbedfdaaDoor.Pure
theorem SubsetLists : Go.Proofs.YtagghjljbedfdaaDoor.Q.recouplaw06_SubsetLists.Pure := Go.Proofs.YtagghjljbedfdaaDoor.M.subsetLists
end Go.Proofs.YtagghjljbedfdaaDoor.Pure
