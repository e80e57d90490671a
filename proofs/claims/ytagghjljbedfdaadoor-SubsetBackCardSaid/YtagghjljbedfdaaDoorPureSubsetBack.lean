/- SubsetBack: At of Place is the set; its Next is At the next place: for every set. -/
import Derived.Test.YtagghjljbedfdaaDoorP06Place
import Derived.Test.YtagghjljbedfdaaDoorQx9
namespace Go.Proofs.YtagghjljbedfdaaDoor.M
open Go.RowKit Go.Proofs.YtagghjljbedfdaaDoor.Q Go.Proofs.YtagghjljbedfdaaDoorW.PrintWords Go.Proofs.YtagghjljbedfdaaDoorW.PrintMore
theorem setOk64 (s : Nat) : setOk 64 s := ⟨by decide, by decide, fun i hi => by have := (mem_setL.1 hi).1; omega⟩
theorem subsetBack : recouplaw06_SubsetBack.Pure := by
  intro s hs
  obtain ⟨m, rfl, hm⟩ := u64_nat hs
  have hok : okL 64 0 (setL m) := okL_set (n := 64) (setOk64 m)
  have hlt := placeL_lt hok
  have hle := binom_le (n := 64) (by omega) (setL m).length
  rw [Nat.sub_zero] at hlt
  have hp : Ends (fun j => subset_Place.f j 64 (m : Int)) (((placeL 64 0 (setL m) : Nat) : Int), 0) := by
    refine (Place_eq 64 hm).eq ?_
    unfold placeV
    rw [if_pos (setOk64 m)]
    rfl
  have hat : Ends (fun j => subset_At.f j 64 (((setL m).length : Nat) : Int) ((placeL 64 0 (setL m) : Nat) : Int)) ((m : Int), 0) := by
    refine (At_eq 64 _ _).eq ?_
    unfold atV
    rw [if_pos, Int.toNat_natCast, Int.toNat_natCast, show (64 : Int).toNat = 64 from rfl, atGo_placeL 64 rfl hok, ofL_setL hm]
    refine ⟨by decide, by decide, by omega, ?_⟩
    have := bz_nat 64 (setL m).length
    rw [show ((64 : Nat) : Int) = 64 from rfl] at this
    rw [this]
    omega
  have hch : subset_Choose.f 64 (((setL m).length : Nat) : Int) = some (((binom 64 (setL m).length : Nat) : Int), 0) := by
    rw [Choose_eq, if_pos (by decide)]
    have := bz_nat 64 (setL m).length
    rw [show ((64 : Nat) : Int) = 64 from rfl] at this
    rw [this]
  have h : Ends (fun j => recouplaw06_SubsetBack.f j (m : Int)) true := by
    unfold recouplaw06_SubsetBack.f
    refine Ends.bind hp (Ends.bind1 (Count_eq hm) (Ends.bind hat (Ends.pos rfl (Ends.pos rfl ?_))))
    refine Ends.succ (fun k => by rw [recouplaw06_SubsetBack.j0]) (Ends.neg (by simp) (Ends.bind (Next_eq 64 hm) (Ends.bind1 hch (Ends.pos rfl ?_))))
    have hw : wrap64 (((placeL 64 0 (setL m) : Nat) : Int) + 1) = ((placeL 64 0 (setL m) + 1 : Nat) : Int) := by
      rw [w64 (by omega) (by omega)]
      omega
    rw [hw]
    unfold nextV
    rw [if_pos (setOk64 m), show (64 : Int).toNat = 64 from rfl]
    cases hn : nextL 64 (setL m) with
    | none =>
      rw [nextL_nxt] at hn
      have h1 := nxt_none hok hn
      rw [Nat.sub_zero] at h1
      refine Ends.succ (fun k => by rw [recouplaw06_SubsetBack.j1]) (Ends.neg ?_ (Ends.neg (by decide) (Ends.bind anchored_eq (Ends.const rfl))))
      have : ¬ ((placeL 64 0 (setL m) + 1 : Nat) : Int) < ((binom 64 (setL m).length : Nat) : Int) := by omega
      simp only [this, decide_false]
      decide
    | some u =>
      obtain ⟨h2, h3, h4⟩ := nextL_ok (by decide) (setL_sorted m) (fun x hx => (mem_setL.1 hx).1) hn
      rw [nextL_nxt] at hn
      have h1 := nxt_some hok hn
      have hu : ofL u < 2 ^ 64 := ofL_lt u h3
      have hsu : setL (ofL u) = u := setL_ofL h2 h3
      have hlt2 := placeL_lt (okL_of (n := 64) (f := 0) h2 fun x hx => ⟨Nat.zero_le _, h3 x hx⟩)
      rw [h4, h1, Nat.sub_zero] at hlt2
      have hp2 : Ends (fun j => subset_Place.f j 64 ((ofL u : Nat) : Int)) (((placeL 64 0 (setL m) + 1 : Nat) : Int), 0) := by
        refine (Place_eq 64 hu).eq ?_
        unfold placeV
        rw [if_pos (setOk64 _), hsu, show (64 : Int).toNat = 64 from rfl, h1]
      refine Ends.succ (fun k => by rw [recouplaw06_SubsetBack.j1]) (Ends.neg ?_ (Ends.pos rfl (Ends.bind hp2 (Ends.bind anchored_eq (Ends.pos rfl (Ends.pos rfl (Ends.pos ?_ (Ends.bind1 (Count_eq hu) (Ends.const ?_)))))))))
      · have : ((placeL 64 0 (setL m) + 1 : Nat) : Int) < ((binom 64 (setL m).length : Nat) : Int) := by omega
        simp only [this, decide_true]
        decide
      · exact hw.symm
      · rw [hsu, h4]
        simp
  exact h.exists
end Go.Proofs.YtagghjljbedfdaaDoor.M
namespace Go.Proofs.YtagghjljbedfdaaDoor.Pure
theorem SubsetBack : Go.Proofs.YtagghjljbedfdaaDoor.Q.recouplaw06_SubsetBack.Pure := Go.Proofs.YtagghjljbedfdaaDoor.M.subsetBack
end Go.Proofs.YtagghjljbedfdaaDoor.Pure
