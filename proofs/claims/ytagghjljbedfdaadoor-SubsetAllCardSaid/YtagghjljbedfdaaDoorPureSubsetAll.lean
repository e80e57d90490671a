/- SubsetAll: the sets that All tells are the reference's, in order: for every n, k and number of them. -/
import Derived.Test.YtagghjljbedfdaaDoorEallLaw
namespace Go.Proofs.YtagghjljbedfdaaDoor.M
open Go.RowKit Go.Proofs.YtagghjljbedfdaaDoor.Q Go.Proofs.YtagghjljbedfdaaDoorW.PrintWords Go.Proofs.YtagghjljbedfdaaDoorW.PrintMore
theorem chain_ex {n : Nat} (hn : n ≤ 64) : ∀ (d s : Nat), s < 2 ^ 64 → setOk (n : Int) s → binom n (setL s).length ≤ placeL n 0 (setL s) + d → ∃ xs, subset_All.chain (n : Int) s xs
  | 0, s, hs, hok, hd => by
    have := placeL_lt (okL_set hok)
    rw [Nat.sub_zero] at this
    omega
  | d + 1, s, hs, hok, hd => by
    have hokL := okL_set hok
    cases hx : nextL n (setL s) with
    | none =>
      refine ⟨[s], ?_⟩
      unfold subset_All.chain
      refine ⟨rfl, hs, ?_⟩
      unfold nextV
      rw [if_pos hok, Int.toNat_natCast, hx]
    | some u =>
      obtain ⟨h2, h3, h4⟩ := nextL_ok hn (setL_sorted s) (fun x hx => by have := hok.2.2 x hx; omega) hx
      have hu : ofL u < 2 ^ 64 := ofL_lt u fun i hi => by have := h3 i hi; omega
      have hsu : setL (ofL u) = u := setL_ofL h2 fun i hi => by have := h3 i hi; omega
      have hoku : setOk (n : Int) (ofL u) := ⟨by omega, by omega, fun i hi => by rw [hsu] at hi; have := h3 i hi; omega⟩
      have hx2 := hx
      rw [nextL_nxt] at hx
      have h1 := nxt_some hokL hx
      obtain ⟨xs, hxs⟩ := chain_ex hn d (ofL u) hu hoku (by rw [hsu, h4, h1]; omega)
      refine ⟨s :: xs, ?_⟩
      unfold subset_All.chain
      refine ⟨rfl, hs, ?_⟩
      unfold nextV
      rw [if_pos hok, Int.toNat_natCast, hx2]
      simpa using hxs
theorem refAll_l0 {n : Int} {M : Nat} (hM : M ≤ 65536) : ∀ (rest pre : List Nat) (s : Nat), subset_All.chain n s rest → pre.length ≤ M →
    Ends (fun k => recoupref06_All.l0 k n (M : Int) (ints pre) (s : Int) true) (ints (pre ++ rest.take (M - pre.length)))
  | [], pre, s, hc, _ => absurd hc (by simp [subset_All.chain])
  | x :: rest, pre, s, hc, hp => by
    unfold subset_All.chain at hc
    obtain ⟨rfl, hs, hc⟩ := hc
    by_cases hlt : pre.length < M
    · obtain ⟨t, b, ht⟩ : ∃ t b, nextV n x = (t, b) := ⟨_, _, rfl⟩
      rw [ht] at hc
      have htn := subset_All.next_nat n x
      rw [ht] at htn
      have e1 : M - pre.length = (M - (pre ++ [x]).length) + 1 := by simp; omega
      refine Ends.succ (fun k => by rw [recoupref06_All.l0]) ?_
      refine Ends.pos rfl (Ends.pos (by rw [ints_length]; omega) (Ends.pos (by rw [ints_length]; omega) (Ends.bind ((refNext_eq n hs).eq ht) ?_)))
      rw [show ints pre ++ [(x : Int)] = ints (pre ++ [x]) from by simp [ints]]
      cases b with
      | true =>
        rw [← htn]
        refine (refAll_l0 hM rest (pre ++ [x]) t.toNat hc (by simp; omega)).eq ?_
        rw [e1, List.take_succ_cons, List.append_assoc]
        rfl
      | false =>
        simp only at hc
        subst hc
        refine Ends.succ (fun k => by rw [recoupref06_All.l0]) ?_
        refine Ends.neg (by simp) (Ends.const ?_)
        rw [e1, List.take_succ_cons, List.take_nil]
    · refine Ends.succ (fun k => by rw [recoupref06_All.l0]) ?_
      refine Ends.pos rfl (Ends.neg (by rw [ints_length]; omega) (Ends.const ?_))
      rw [show M - pre.length = 0 from by omega]
      simp
theorem low_set {n k : Nat} (hk : k ≤ n) (hn : n ≤ 64) : setOk (n : Int) (2 ^ k - 1) := by
  refine ⟨by omega, by omega, fun i hi => ?_⟩
  have := (mem_setL.1 hi).2
  rw [testBit_low] at this
  have := of_decide_eq_true this
  omega
theorem all_ex (n k : Int) (M : Nat) (hM : M ≤ 65536) : ∃ xs, subset_All.good n k xs ∧ Ends (fun j => recoupref06_All.f j n k (M : Int)) (ints (xs.take M)) := by
  by_cases h : 0 ≤ n ∧ n ≤ 64 ∧ 0 ≤ k ∧ k ≤ n
  · obtain ⟨n', rfl⟩ := Int.eq_ofNat_of_zero_le h.1
    obtain ⟨k', rfl⟩ := Int.eq_ofNat_of_zero_le h.2.2.1
    have hok := low_set (n := n') (k := k') (by omega) (by omega)
    obtain ⟨xs, hxs⟩ := chain_ex (n := n') (by omega) _ (2 ^ k' - 1) (low_lt (by omega)) hok (Nat.le_add_left _ _)
    refine ⟨xs, by unfold subset_All.good; rw [if_pos h]; simpa using hxs, ?_⟩
    unfold recoupref06_All.f
    refine Ends.neg (by omega) (Ends.neg (by omega) (Ends.neg (by omega) ?_))
    refine Ends.succ (fun j => by rw [recoupref06_All.j0]) ?_
    refine Ends.neg (by simp; omega) (Ends.bind (x := ((2 ^ k' - 1 : Nat) : Int)) ?_ ?_)
    · unfold recoupref06_First.f
      refine Ends.bind (refFull_eq (k' : Int)) (Ends.const ?_)
      unfold fullV
      rw [if_pos (by omega), Int.toNat_natCast]
    · have := refAll_l0 (n := (n' : Int)) hM xs [] (2 ^ k' - 1) hxs (Nat.zero_le _)
      simpa [ints] using this
  · refine ⟨[], by unfold subset_All.good; rw [if_neg h], ?_⟩
    have hj : ∀ c, c = true → Ends (fun j => recoupref06_All.j0 j n k (M : Int) ([] : List Int) c) (ints (([] : List Nat).take M)) := by
      rintro c rfl
      refine Ends.succ (fun j => by rw [recoupref06_All.j0]) ?_
      refine Ends.pos rfl (Ends.const ?_)
      simp [ints]
    unfold recoupref06_All.f
    by_cases h1 : n < 0
    · exact Ends.pos h1 (hj _ rfl)
    · refine Ends.neg h1 ?_
      by_cases h2 : n > 64
      · exact Ends.pos h2 (hj _ rfl)
      · refine Ends.neg h2 ?_
        by_cases h3 : k < 0
        · exact Ends.pos h3 (hj _ rfl)
        · exact Ends.neg h3 (hj _ (decide_eq_true (by omega)))
end Go.Proofs.YtagghjljbedfdaaDoor.M
namespace Go.Proofs.YtagghjljbedfdaaDoor.Q
open Go.RowKit Go.Proofs.YtagghjljbedfdaaDoorW.PrintWords Go.Proofs.YtagghjljbedfdaaDoorW.PrintMore
theorem recouplaw06_SubsetAll.walk (n k m : Int) (w : World) (hm : (Lit.int .u16 m).wf = true) (hT : TabAt 0 Lib.deBruijn64tab w) :
    Calls Tryd.prog 7 #[.int .i64 n, .int .i64 k, .int .u16 m] w fun e w' => e = .returned (.bool true) ∧ Below w.heap.size w w' := by
  have hm2 : 0 ≤ m ∧ m < 65536 := by
    simp [Lit.wf, IntKind.min, IntKind.max, IntKind.signed, IntKind.bits] at hm
    omega
  obtain ⟨xs, hg, ⟨K1, h1⟩⟩ := M.all_ex n k (m.toNat + 1) (by omega)
  obtain ⟨K2, h2⟩ := M.anchored_eq
  have h0 : 0 < w.heap.size := World.block_lt_of_cell? _ _ (hT 0 (by decide))
  refine recouplaw06_SubsetAll.calls (max K1 K2) n k m xs (xs.take (m.toNat + 1)) w hm2.1 hm2.2 hg rfl (h2 _ (Nat.le_max_right _ _)) ?_ hT h0
  have := h1 (max K1 K2) (Nat.le_max_left _ _)
  rwa [show ((m.toNat + 1 : Nat) : Int) = m + 1 from by omega] at this
end Go.Proofs.YtagghjljbedfdaaDoor.Q
