import Derived.Test.YtnfemjnajfdepaaBShareBest
import Derived.Test.YtnfemjnajfdepaaQx103
import Derived.Test.YtnfemjnajfdepaaQx110
import Derived.Test.YtnfemjnajfdepaaQx111
import Derived.Test.YtnfemjnajfdepaaQx112
import Derived.Test.YtnfemjnajfdepaaQx125
namespace Go.Proofs.Ytnfemjnajfdepaa.M
open Go.RowKit Go.Proofs.YtnfemjnajfdepaaW.PrintWords Go.Proofs.YtnfemjnajfdepaaW.PrintLast Go.Proofs.YtnfemjnajfdepaaW.PrintMore Go.Proofs.Ytnfemjnajfdepaa.Q

/-! ### how many terms -/
def sumL : List (List S61) → Nat
 | [] => 0
 | l :: L => l.length + sumL L
theorem sumL_le {m : Nat} : ∀ {L : List (List S61)}, (∀ l ∈ L, l.length ≤ m) → sumL L ≤ L.length * m
 | [], _ => Nat.zero_le _
 | l :: L, h => by
  have h1 := h l List.mem_cons_self
  have h2 := sumL_le (fun x hx => h x (List.mem_cons_of_mem _ hx))
  unfold sumL
  rw [List.length_cons, Nat.succ_mul]
  omega
theorem sumL_snoc : ∀ (L : List (List S61)) (l : List S61), sumL (L ++ [l]) = sumL L + l.length
 | [], l => by simp [sumL]
 | x :: L, l => by
  show x.length + sumL (L ++ [l]) = x.length + sumL L + l.length
  rw [sumL_snoc L l, Nat.add_assoc]
theorem pairsF_length (t : S61) (l : List S61) : (pairsF t l).length = l.length := List.length_map _
theorem keysN_length : ∀ l : List S61, (keysN l).length ≤ l.length * l.length
 | [] => Nat.zero_le _
 | t :: r => by
  unfold keysN
  have := keysN_length r
  rw [List.length_append, pairsF_length, List.length_cons, Nat.succ_mul, Nat.mul_succ]
  omega
theorem keysL_length : ∀ L : List (List S61), (keysL L).length ≤ sumL L * sumL L
 | [] => Nat.zero_le _
 | l :: L => by
  have e : keysL (l :: L) = keysN l ++ keysL L := rfl
  have h1 := keysN_length l
  have h2 := keysL_length L
  unfold sumL
  rw [e, List.length_append, Nat.add_mul, Nat.mul_add, Nat.mul_add]
  omega
theorem totT_eq {L : List (List S61)} (hL : L.length < 4096) (hl : ∀ l ∈ L, l.length ≤ 140737488355328) : ∀ i, i ≤ L.length → totT L i = ((sumL (L.take i) : Nat) : Int)
 | 0, _ => rfl
 | i + 1, h => by
  have hi : i < L.length := by omega
  have hle := sumL_le (L := L.take (i + 1)) fun l hx => hl l (List.mem_of_mem_take hx)
  have h2 : (L.take (i + 1)).length ≤ 4096 := by rw [List.length_take]; omega
  have h3 : sumL (L.take (i + 1)) ≤ 4096 * 140737488355328 := Nat.le_trans hle (Nat.mul_le_mul_right _ h2)
  rw [List.take_succ_eq_append_getElem hi, sumL_snoc] at h3 ⊢
  unfold totT
  rw [totT_eq hL hl i (by omega), rdL_at hi, w64 (by omega) (by omega)]
  omega

/-! ### the document's answer -/
theorem best_j1 {ins outs : List Int} {L : List (List S61)} (hN : ∀ l ∈ L, okN l) {b : Bool} (hb : b = false → L.length < 4096) :
  Ends (fun k => recoupref22_Best.j1 k b ins L outs) (if b = true then (0, 0, 0, 0, false, 0) else ansB (bestQ (keysL L))) := by
 refine Ends.succ (fun k => by rw [recoupref22_Best.j1]) ?_
 cases b
 ·refine Ends.neg (by decide) ?_
  rw [if_neg (by decide)]
  have h := best_l1 (ins := ins) (outs := outs) (hb rfl) hN _ 0 (Nat.zero_add _) ((0, 0, 0), 0) (.inl rfl)
  rw [List.drop_zero] at h
  exact h
 ·exact Ends.pos rfl (Ends.const rfl)
theorem best_l0 {ins outs : List Int} {L : List (List S61)} (hN : ∀ l ∈ L, okN l) (hL : L.length ≤ 4096) : ∀ n i : Nat, i + n = L.length → Ends (fun k => recoupref22_Best.l0 k (totT L i) (i : Int) ins L outs) (if totT L L.length > 512 ∨ 4096 ≤ L.length then (0, 0, 0, 0, false, 0) else ansB (bestQ (keysL L)))
 | 0, i, h => by
  obtain rfl : i = L.length := by omega
  refine Ends.succ (fun k => by rw [recoupref22_Best.l0]) ?_
  refine Ends.neg (by omega) ?_
  by_cases h1 : totT L L.length > 512
  ·rw [if_pos (.inl h1)]
   refine Ends.pos h1 ?_
   exact best_j1 hN (b := true) (fun e => nomatch e)
  ·refine Ends.neg h1 ?_
   by_cases h2 : 4096 ≤ L.length
   ·rw [if_pos (.inr h2), decide_eq_true (by omega : (L.length : Int) ≥ 4096)]
    exact best_j1 hN (b := true) (fun e => nomatch e)
   ·rw [if_neg (fun h => h.elim h1 h2), decide_eq_false (by omega : ¬ (L.length : Int) ≥ 4096)]
    exact best_j1 hN (b := false) (fun _ => by omega)
 | n + 1, i, h => by
  have hi : i < L.length := by omega
  refine Ends.succ (fun k => by rw [recoupref22_Best.l0]) ?_
  refine Ends.pos (by omega) (Ends.pos (by omega) ?_)
  rw [step64 (by omega)]
  have ih := best_l0 (ins := ins) (outs := outs) hN hL n (i + 1) (by omega)
  conv at ih => lhs; intro k; unfold totT
  exact ih
theorem best_same {ins outs : List Int} {L : List (List S61)} (hi : ins.length ≤ 140737488355328) (ho : outs.length ≤ 140737488355328) (hL : L.length ≤ 140737488355328) (hl : ∀ l ∈ L, l.length ≤ 140737488355328) (hw : ∀ l ∈ L, ∀ t ∈ l, okT t = true) : ∃ r, Ends (fun k => share_Best.f k ins L outs) r ∧ Ends (fun k => recoupref22_Best.f k ins L outs) r := by
 cases e : mayB ins L outs
 ·refine ⟨(0, 0, 0, 0, false, 2), ?_, ?_⟩
  ·refine Ends.bind (flow_May_ends hi ho hl) ?_
   rw [e]
   exact Ends.neg (by decide) (Ends.const rfl)
  ·refine Ends.bind (ref_May_ends hi ho hl) ?_
   rw [e]
   exact Ends.neg (by decide) (Ends.const rfl)
 ·have h := e
  unfold mayB sizeOk at h
  simp only [Bool.and_eq_true, decide_eq_true_eq] at h
  obtain ⟨_, ⟨hsz, _⟩, hnd, _⟩ := h
  have hN := nodes_ok hnd hl fun l hx t ht => (okT_wf (hw l hx t ht)).2
  refine ⟨if totT L L.length > 512 ∨ 4096 ≤ L.length then (0, 0, 0, 0, false, 0) else ansB (bestQ (keysL L)), ?_, ?_⟩
  ·refine Ends.bind (flow_May_ends hi ho hl) ?_
   rw [e]
   refine Ends.pos rfl (Ends.pos hL ?_)
   unfold share_best.f
   by_cases h1 : totT L L.length > 512 ∨ 4096 ≤ L.length
   ·rw [if_pos h1, if_pos h1]
    exact Ends.const rfl
   ·have hlt : L.length < 4096 := by omega
    have hs := totT_eq hlt hl L.length (Nat.le_refl _)
    rw [List.take_length] at hs
    have hs2 : sumL L ≤ 512 := by omega
    have hk := keysL_length L
    have hk2 : sumL L * sumL L ≤ 512 * 512 := Nat.mul_le_mul hs2 hs2
    have hok : okB L = true := by
     unfold okB
     rw [Bool.and_eq_true]
     exact ⟨List.all_eq_true.2 fun l hx => List.all_eq_true.2 fun t ht => hw l hx t ht, decide_eq_true (by omega)⟩
    rw [if_neg h1, if_neg h1, if_pos hok]
    refine Ends.const (congrArg some ?_)
    unfold ansB
    rcases bestQ_is (keysL L) with ⟨h2, _⟩ | ⟨_, h2, h3, _⟩
    ·rw [h2]
     rfl
    ·rw [← h2] at h3
     rw [if_pos h3, decide_eq_true h3]
  ·refine Ends.bind (ref_May_ends hi ho hl) ?_
   rw [e]
   exact Ends.pos rfl (best_l0 hN hsz _ 0 (Nat.zero_add _))
theorem Ends.of_mono {α : Type} {f : Nat → Option α} {r : α} (hm : ∀ k, LeO (f k) (f (k + 1))) {K : Nat} (h : f K = some r) : Ends f r := by
 refine ⟨K, fun k hk => ?_⟩
 obtain ⟨d, rfl⟩ := Nat.exists_eq_add_of_le hk
 induction d with
 | zero => exact h
 | succ d ih => exact hm (K + d) r (ih (by omega))
theorem Best_run (k : Nat) {ins outs : List Int} {L : List (List S61)} {r : Int × Int × Int × Int × Bool × Int} (h : share_Best.f k ins L outs = some r) : Ends (fun k => share_Best.f k ins L outs) r :=
 Ends.of_mono (K := k) (fun k => share_Best.mono ins L outs k) h
theorem anch22 : Ends (fun k => recouplaw22_anchored.f k) true := by
 have h : share_Best.f 40 [0, 1] [[⟨0, 1⟩, ⟨1, 2⟩], [⟨0, 3⟩, ⟨1, 6⟩]] [2, 3] = some (0, 1, 2, 2, true, 0) := by kernel_rfl
 exact Ends.bind (Best_run 40 h) (Ends.const rfl)
end Go.Proofs.Ytnfemjnajfdepaa.M
namespace Go.Proofs.Ytnfemjnajfdepaa.Pure
open Go.RowKit Go.Proofs.YtnfemjnajfdepaaW.PrintWords Go.Proofs.YtnfemjnajfdepaaW.PrintLast Go.Proofs.YtnfemjnajfdepaaW.PrintMore Go.Proofs.Ytnfemjnajfdepaa.Q
theorem ShareBest : ∀ x0 : Q.S25, ((x0.f0.length ≤ maxLen ∧ x0.f0.length * 8 ≤ 140737488351232 ∧ ∀ x5 ∈ x0.f0, (Lit.int .i64 x5).wf = true) ∧ ((x0.f1.length ≤ maxLen ∧ x0.f1.length * 24 ≤ 140737488351232 ∧ ∀ x5 ∈ x0.f1, (x5.length ≤ maxLen ∧ x5.length * 16 ≤ 140737488351232 ∧ ∀ x2 ∈ x5, ((Lit.int .i64 x2.f0).wf = true ∧ (Lit.int .u8 x2.f1).wf = true))) ∧ (x0.f2.length ≤ maxLen ∧ x0.f2.length * 8 ≤ 140737488351232 ∧ ∀ x5 ∈ x0.f2, (Lit.int .i64 x5).wf = true))) → ∃ k, Q.recouplaw22_ShareBest.f k x0.f0 x0.f1 x0.f2 = some true := by
 rintro ⟨ins, L, outs⟩ ⟨⟨_, h1, _⟩, ⟨_, h2, h3⟩, ⟨_, h4, _⟩⟩
 dsimp only at h1 h2 h3 h4 ⊢
 obtain ⟨r, ha, hb⟩ := M.best_same (ins := ins) (outs := outs) (L := L) (by omega) (by omega) (by omega) (fun l hl => by have := (h3 l hl).2.1; omega) (fun l hl t ht => by
  obtain ⟨w1, w2⟩ := (h3 l hl).2.2 t ht
  unfold okT
  rw [w1, w2]
  rfl)
 refine M.Ends.exists (g := fun k => recouplaw22_ShareBest.f k ins L outs) ?_
 unfold recouplaw22_ShareBest.f
 refine M.Ends.bind ha (M.Ends.bind hb ?_)
 refine M.Ends.pos rfl (M.Ends.pos rfl (M.Ends.pos rfl (M.Ends.pos rfl (M.Ends.pos (beq_self_eq_true _) (M.Ends.pos rfl ?_)))))
 exact M.Ends.bind M.anch22 (M.Ends.const rfl)
end Go.Proofs.Ytnfemjnajfdepaa.Pure
