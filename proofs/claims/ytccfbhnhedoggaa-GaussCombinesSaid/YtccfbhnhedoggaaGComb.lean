import Derived.Test.YtccfbhnhedoggaaQx40
import Derived.Test.YtccfbhnhedoggaaQx38
import Derived.Test.YtccfbhnhedoggaaQx43
import Derived.Test.YtccfbhnhedoggaaQx42
import Derived.Test.YtccfbhnhedoggaaQx41
import Derived.Test.YtccfbhnhedoggaaGRank
import Derived.Test.YtccfbhnhedoggaaGTrans
namespace Go.Proofs.Ytccfbhnhedoggaa.M
open Go.RowKit Go.Proofs.YtccfbhnhedoggaaW.PrintWords Go.Proofs.YtccfbhnhedoggaaW.PrintLast Go.Proofs.YtccfbhnhedoggaaW.PrintMore Go.Proofs.Ytccfbhnhedoggaa.Q
set_option linter.unusedVariables false
/-! ### First -/
theorem fstP_red {r c : Nat} {l : List Int} : (redL c r (transL r c l)).2 = fstP r c l := (Prod.mk.inj (red_fst (rowsOf r c (transL r c l)) (List.replicate c []) r)).2
theorem gFirst_eq {r c : Nat} {l : List Int} (hb : bytesB l = true) (hl : l.length = r * c) (hr : r ≤ 64) (hc : c ≤ 64) : gauss_First.f (r : Int) (c : Int) l = some (fstP r c l, 0) := by
 unfold gauss_First.f
 rw [gTrans_eq (right_of hr hc hl).1, Option.bind_some, if_pos rfl, gReduce_eq (right_of hc hr (trans_length r c l)).1 (trans_bytes hb), Option.bind_some, fstP_red]
theorem gFirst_bad {a b : Int} {l : List Int} (h : matrix_Right.f a b l = some false) : gauss_First.f a b l = some ([], 3) := by
 unfold gauss_First.f
 rw [gTrans_bad h, Option.bind_some, if_neg (by decide)]
section
variable {r c : Nat} {l : List Int}
theorem fst_mono (hb : bytesB l = true) (hl : l.length = r * c) (hr : r ≤ 64) (hc : c ≤ 64) : ∀ i k, i < k → k < (fstP r c l).length → pv (fstP r c l) i < pv (fstP r c l) k := (trans_rr hb hl hr hc).mono
theorem fst_len (hb : bytesB l = true) (hl : l.length = r * c) (hr : r ≤ 64) (hc : c ≤ 64) : (fstP r c l).length ≤ c := by
 have := (trans_rr hb hl hr hc).tn
 rwa [rowsOf_length] at this
theorem First_l0 (hb : bytesB l = true) (hl : l.length = r * c) (hr : r ≤ 64) (hc : c ≤ 64) : ∀ n i : Nat, i + n = r →
  Ends (fun q => recoupref04_First.l0 q ((fstP r c l).take (below (pv (fstP r c l)) i (fstP r c l).length)) ((below (pv (fstP r c l)) i (fstP r c l).length : Nat) : Int) (i : Int) (r : Int) (c : Int) l) (fstP r c l, 0)
 | 0, i, hi => by
  obtain rfl : i = r := by omega
  refine Ends.succ (fun k => by rw [recoupref04_First.l0]) ?_
  refine Ends.neg (by omega) ?_
  rw [below_all _ (trans_rr hb hl hr hc).lt, List.take_length]
  exact Ends.const rfl
 | n + 1, i, hi => by
  have hir : i < r := by omega
  have hi4 : i ≤ 4096 := by omega
  have hi64 : i + 1 ≤ 64 := by omega
  have hic : (i + 1) * c ≤ r * c := Nat.mul_le_mul_right _ hir
  have ih := First_l0 hb hl hr hc n (i + 1) (by omega)
  have hst := below_step (i := i) (fst_mono hb hl hr hc)
  have hle := below_le (pv (fstP r c l)) i (fstP r c l).length
  have hPl := fst_len hb hl hr hc
  have hnat := (trans_rr hb hl hr hc).nat
  have hrk := prefix_rk hb hl hr hc (i := i + 1) hir
  have hl2 : (l.take ((i + 1) * c)).length = (i + 1) * c := by rw [List.length_take]; omega
  have hR := Rank_ends hi64 hc hl2 (bytesB_take hb _)
  rw [hrk] at hR
  generalize fstP r c l = P at *
  refine Ends.succ (fun k => by rw [recoupref04_First.l0]) ?_
  refine Ends.pos (by omega) ?_
  rw [i64_succ hi4, (idx_small (i := i + 1) (c := c) (j := 0) hi64 hc (by decide)).1]
  refine Ends.pos (Int.natCast_nonneg _) (Ends.pos (by rw [hl]; exact Int.ofNat_le.2 hic) ?_)
  rw [Int.toNat_natCast]
  refine Ends.bind hR ?_
  generalize below (pv P) i P.length = s at *
  rw [hst] at ih ⊢
  by_cases e : s < P.length ∧ pv P s = i
  ·rw [if_pos e] at ih ⊢
   refine Ends.pos (by show ((s + 1 : Nat) : Int) > (s : Int); omega) ?_
   refine Ends.pos (by rw [List.length_take]; omega) ?_
   have e2 : P.take s ++ [(i : Int)] = P.take (s + 1) := by
    rw [List.take_succ_eq_append_getElem e.1]
    have := hnat s e.1
    rw [e.2, List.getD_eq_getElem?_getD, List.getElem?_eq_getElem e.1, Option.getD_some] at this
    rw [this]
   rw [e2]
   exact ih
  ·rw [if_neg e] at ih ⊢
   exact Ends.neg (by show ¬ ((s : Nat) : Int) > (s : Int); omega) ih
theorem First_ends (hb : bytesB l = true) (hl : l.length = r * c) (hr : r ≤ 64) (hc : c ≤ 64) : Ends (fun k => recoupref04_First.f k (r : Int) (c : Int) l) (fstP r c l, 0) := by
 unfold recoupref04_First.f
 refine Ends.bind1 (right_of hr hc hl).2 (Ends.pos rfl ?_)
 have := First_l0 hb hl hr hc r 0 (by omega)
 have e : below (pv (fstP r c l)) 0 (fstP r c l).length = 0 := by
  have h2 := below_iff (b := 0) (fst_mono hb hl hr hc)
  have h3 := below_le (pv (fstP r c l)) 0 (fstP r c l).length
  rcases Nat.eq_zero_or_pos (below (pv (fstP r c l)) 0 (fstP r c l).length) with h | h
  ·exact h
  ·have := (h2 0 (by omega)).1 h; omega
 rw [e, List.take_zero] at this
 exact this
theorem First_bad {a b : Int} {l : List Int} (h : recoupref03_Right.f a b l = some false) : Ends (fun k => recoupref04_First.f k a b l) ([], 3) := by
 unfold recoupref04_First.f
 exact Ends.bind1 h (Ends.neg (by decide) (Ends.const rfl))
/-! ### Combine -/
theorem fst_in (hb : bytesB l = true) (hl : l.length = r * c) (hr : r ≤ 64) (hc : c ≤ 64) : ∀ x ∈ fstP r c l, 0 ≤ x ∧ x < (r : Int) := fun x hx => by
 obtain ⟨i, hi, rfl⟩ := List.getElem_of_mem hx
 have h1 := (trans_rr hb hl hr hc).nat i hi
 have h2 := (trans_rr hb hl hr hc).lt i hi
 rw [List.getD_eq_getElem?_getD, List.getElem?_eq_getElem hi, Option.getD_some] at h1
 omega
theorem inB_of {L : List Int} (h : ∀ x ∈ L, 0 ≤ x ∧ x < (r : Int)) : inB (r : Int) L = true := by
 unfold inB
 rw [List.all_eq_true]
 intro x hx
 rw [Bool.and_eq_true, decide_eq_true_eq, decide_eq_true_eq]
 exact h x hx
theorem seg_row (hl : l.length = r * c) {x : Int} (h : 0 ≤ x ∧ x < (r : Int)) : segP c l x = (rowsOf c r l).getD x.toNat [] := by
 have hx : x.toNat < r := by omega
 unfold segP
 rw [List.getD_eq_getElem?_getD, List.getElem?_eq_getElem (by rw [rowsOf_length]; exact hx), Option.getD_some, rowsOf_elem]
theorem pick_rows (hl : l.length = r * c) {L : List Int} (h : ∀ x ∈ L, 0 ≤ x ∧ x < (r : Int)) : pickL c l L = (L.map fun x => (rowsOf c r l).getD x.toNat []).flatten := by
 unfold pickL
 congr 1
 exact List.map_congr_left fun x hx => seg_row hl (h x hx)
theorem pick_len (hl : l.length = r * c) {L : List Int} (h : ∀ x ∈ L, 0 ≤ x ∧ x < (r : Int)) : (pickL c l L).length = L.length * c := by
 have hU := (flat_rowsOf r l hl).2
 rw [pick_rows hl h, flat_len (M := L.map fun x => (rowsOf c r l).getD x.toNat []) (c := c) (fun y hy => by
  obtain ⟨x, hx, rfl⟩ := List.mem_map.1 hy
  exact hU.at (by rw [rowsOf_length]; have := h x hx; omega)), List.length_map]
theorem bytes_flat {M : List (List Int)} (h : rowsB M = true) : bytesB M.flatten = true := by
 unfold rowsB at h
 unfold bytesB
 rw [List.all_eq_true] at h ⊢
 intro x hx
 obtain ⟨y, hy, hxy⟩ := List.mem_flatten.1 hx
 have := h y hy
 unfold bytesB at this
 rw [List.all_eq_true] at this
 exact this x hxy
theorem pick_bytes (hb : bytesB l = true) (L : List Int) : bytesB (pickL c l L) = true := by
 unfold pickL
 refine bytes_flat ?_
 rw [rowsB, List.all_eq_true]
 intro y hy
 obtain ⟨x, _, rfl⟩ := List.mem_map.1 hy
 exact bytesB_sub hb _ _
theorem gPick_eq (hl : l.length = r * c) (hr : r ≤ 64) (hc : c ≤ 64) {L : List Int} (h : ∀ x ∈ L, 0 ≤ x ∧ x < (r : Int)) (hL : L.length ≤ 64) : matrix_Pick.f (r : Int) (c : Int) l L = some ((L.length : Int), (c : Int), pickL c l L, 0) := by
 unfold matrix_Pick.f
 rw [(right_of hr hc hl).1, Option.bind_some, if_pos rfl, if_pos (inB_of h), if_pos hL]
 rfl
theorem rPick_ends (hl : l.length = r * c) (hr : r ≤ 64) (hc : c ≤ 64) {L : List Int} (h : ∀ x ∈ L, 0 ≤ x ∧ x < (r : Int)) (hL : L.length ≤ 64) : Ends (fun k => recoupref03_Pick.f k (r : Int) (c : Int) l L) ((L.length : Int), (c : Int), pickL c l L, 0) := by
 have hf := flat_rowsOf r l hl
 have hlen := rowsOf_length c r l
 have := Pick_ends hf.2 (by omega) hc (L := L) (fun x hx => by have := h x hx; omega) hL
 rw [hf.1, hlen, ← pick_rows hl h] at this
 exact this
/-- What is solved, put to the rows' places. -/
def putC (P x : List Int) (n : Nat) : Nat → List Int
 | 0 => List.replicate n 0
 | i + 1 => (putC P x n i).set (P.getD i 0).toNat (x.getD i 0)
theorem putC_length (P x : List Int) (n : Nat) : ∀ i, (putC P x n i).length = n
 | 0 => by simp [putC]
 | i + 1 => by rw [putC, List.length_set]; exact putC_length P x n i
abbrev CR := List Int × Bool × Int
theorem gComb_l0 {P x : List Int} {n : Nat} (hP : P.length ≤ 64) (hx : P.length ≤ x.length) (h : ∀ y ∈ P, 0 ≤ y ∧ y < (n : Int)) : ∀ m i : Nat, i + m = P.length → Ends (fun k => gauss_Combine.l0 k (putC P x n i) x P (P.length : Int) (i : Int)) (putC P x n P.length, true, 0)
 | 0, i, hi => by
  obtain rfl : i = P.length := by omega
  refine Ends.succ (fun k => by rw [gauss_Combine.l0]) ?_
  exact Ends.neg (by omega) (Ends.const rfl)
 | m + 1, i, hi => by
  have hiP : i < P.length := by omega
  have hi4 : i ≤ 4096 := by omega
  have hy : 0 ≤ P.getD i 0 ∧ P.getD i 0 < (n : Int) := by
   rw [List.getD_eq_getElem?_getD, List.getElem?_eq_getElem hiP, Option.getD_some]
   exact h _ (List.getElem_mem hiP)
  refine Ends.succ (fun k => by rw [gauss_Combine.l0]) ?_
  refine Ends.pos (by omega) (Ends.pos (by omega) (Ends.pos (by omega) (Ends.pos (by omega) ?_)))
  rw [rd_nat, rd_nat, i64_succ hi4]
  refine Ends.pos hy.1 (Ends.pos (by rw [putC_length]; exact hy.2) ?_)
  exact gComb_l0 hP hx h m (i + 1) (by omega)
theorem rComb_l0 {P x : List Int} {n : Nat} (hP : P.length ≤ 64) (hx : P.length ≤ x.length) (h : ∀ y ∈ P, 0 ≤ y ∧ y < (n : Int)) : ∀ m i : Nat, i + m = P.length → Ends (fun k => recoupref04_Combine.l0 k P x (putC P x n i) (i : Int)) (putC P x n P.length, true, 0)
 | 0, i, hi => by
  obtain rfl : i = P.length := by omega
  refine Ends.succ (fun k => by rw [recoupref04_Combine.l0]) ?_
  exact Ends.neg (by omega) (Ends.const rfl)
 | m + 1, i, hi => by
  have hiP : i < P.length := by omega
  have hi4 : i ≤ 4096 := by omega
  have hy : 0 ≤ P.getD i 0 ∧ P.getD i 0 < (n : Int) := by
   rw [List.getD_eq_getElem?_getD, List.getElem?_eq_getElem hiP, Option.getD_some]
   exact h _ (List.getElem_mem hiP)
  refine Ends.succ (fun k => by rw [recoupref04_Combine.l0]) ?_
  refine Ends.pos (by omega) (Ends.pos (by omega) (Ends.pos (by omega) ?_))
  rw [rd_nat, rd_nat, i64_succ hi4]
  refine Ends.pos hy.1 (Ends.pos (by rw [putC_length]; exact hy.2) ?_)
  exact rComb_l0 hP hx h m (i + 1) (by omega)
/-- What is solved for Combine: over the rows that First names, turned over. -/
def cmbS (r c : Nat) (l y : List Int) : SR := solR c (fstP r c l).length (transL (fstP r c l).length c (pickL c l (fstP r c l))) y
def cmbR (r c : Nat) (l y : List Int) : CR := if (cmbS r c l y).2.1 = true then (putC (fstP r c l) (cmbS r c l y).1 r (fstP r c l).length, true, 0) else ([], false, 0)
theorem gComb_ends (hb : bytesB l = true) (hl : l.length = r * c) (hr : r ≤ 64) (hc : c ≤ 64) {y : List Int} (hy : y.length = c) (hyb : bytesB y = true) : Ends (fun k => gauss_Combine.f k (r : Int) (c : Int) l y) (cmbR r c l y) := by
 have hPl := fst_len hb hl hr hc
 have hin := fst_in hb hl hr hc
 have hpl := pick_len hl hin
 have hpb := pick_bytes (c := c) hb (fstP r c l)
 have hP64 : (fstP r c l).length ≤ 64 := by omega
 unfold gauss_Combine.f
 refine Ends.bind1 (right_of hr hc hl).1 (Ends.pos rfl ?_)
 refine Ends.succ (fun k => by rw [gauss_Combine.j0]) ?_
 refine Ends.neg (by simp [hy]) ?_
 refine Ends.bind1 (gFirst_eq hb hl hr hc) (Ends.pos rfl ?_)
 refine Ends.bind1 (gPick_eq hl hr hc hin hP64) (Ends.pos rfl ?_)
 refine Ends.bind1 (gTrans_eq (right_of hP64 hc hpl).1) (Ends.pos rfl ?_)
 have hs := gSolve_eq (right_of hc hP64 (trans_length (fstP r c l).length c (pickL c l (fstP r c l)))).1 (trans_bytes hpb) hy hyb
 refine Ends.bind1 hs ?_
 have he := solR_err c (fstP r c l).length (transL (fstP r c l).length c (pickL c l (fstP r c l))) y
 have hlen := solR_len c (fstP r c l).length (transL (fstP r c l).length c (pickL c l (fstP r c l))) y
 unfold cmbR cmbS
 generalize solR c (fstP r c l).length (transL (fstP r c l).length c (pickL c l (fstP r c l))) y = s at *
 refine Ends.pos he ?_
 refine Ends.succ (fun k => by rw [gauss_Combine.j1]) ?_
 by_cases e : s.2.1 = true
 ·rw [if_pos e]
  refine Ends.neg (by rw [e]; decide) ?_
  refine Ends.pos (by omega) (Ends.pos (by rw [Int.toNat_natCast]; omega) ?_)
  rw [Int.toNat_natCast]
  exact gComb_l0 hP64 (by rw [hlen e]; exact Nat.le_refl _) hin (fstP r c l).length 0 (by omega)
 ·rw [if_neg e]
  rw [Bool.not_eq_true] at e
  refine Ends.pos (by rw [e]; rfl) (Ends.const ?_)
  rw [he]
theorem rComb_ends (hb : bytesB l = true) (hl : l.length = r * c) (hr : r ≤ 64) (hc : c ≤ 64) {y : List Int} (hy : y.length = c) (hyb : bytesB y = true) : Ends (fun k => recoupref04_Combine.f k (r : Int) (c : Int) l y) (cmbR r c l y) := by
 have hPl := fst_len hb hl hr hc
 have hin := fst_in hb hl hr hc
 have hpl := pick_len hl hin
 have hpb := pick_bytes (c := c) hb (fstP r c l)
 have hP64 : (fstP r c l).length ≤ 64 := by omega
 unfold recoupref04_Combine.f
 refine Ends.bind1 (right_of hr hc hl).2 (Ends.pos rfl ?_)
 refine Ends.succ (fun k => by rw [recoupref04_Combine.j0]) ?_
 refine Ends.neg (by simp [hy]) ?_
 refine Ends.bind (First_ends hb hl hr hc) ?_
 refine Ends.bind (rPick_ends hl hr hc hin hP64) ?_
 refine Ends.bind (Trans_ends hP64 hc hpl) ?_
 have hs := Solve_ends hc hP64 (trans_length (fstP r c l).length c (pickL c l (fstP r c l))) (trans_bytes hpb) hy hyb
 refine Ends.bind hs ?_
 have he := solR_err c (fstP r c l).length (transL (fstP r c l).length c (pickL c l (fstP r c l))) y
 have hlen := solR_len c (fstP r c l).length (transL (fstP r c l).length c (pickL c l (fstP r c l))) y
 unfold cmbR cmbS
 generalize solR c (fstP r c l).length (transL (fstP r c l).length c (pickL c l (fstP r c l))) y = s at *
 by_cases e : s.2.1 = true
 ·rw [if_pos e]
  refine Ends.pos e ?_
  refine Ends.pos (by omega) (Ends.pos (by rw [Int.toNat_natCast]; omega) ?_)
  rw [Int.toNat_natCast]
  exact rComb_l0 hP64 (by rw [hlen e]; exact Nat.le_refl _) hin (fstP r c l).length 0 (by omega)
 ·rw [if_neg e]
  exact Ends.neg e (Ends.const rfl)
end
theorem gComb_bad {a b : Int} {l y : List Int} (h : matrix_Right.f a b l = some false ∨ (matrix_Right.f a b l = some true ∧ (y.length : Int) ≠ b)) : Ends (fun k => gauss_Combine.f k a b l y) ([], false, 3) := by
 unfold gauss_Combine.f
 have key : ∀ z, z = true → Ends (fun k => gauss_Combine.j0 k y z a b l) ([], false, 3) := fun z hz => by
  subst hz
  refine Ends.succ (fun k => by rw [gauss_Combine.j0]) ?_
  exact Ends.pos rfl (Ends.const rfl)
 rcases h with h | ⟨h, h2⟩
 ·exact Ends.bind1 h (Ends.neg (by decide) (key _ rfl))
 ·exact Ends.bind1 h (Ends.pos rfl (key _ (by simpa using h2)))
theorem rComb_bad {a b : Int} {l y : List Int} (h : recoupref03_Right.f a b l = some false ∨ (recoupref03_Right.f a b l = some true ∧ (y.length : Int) ≠ b)) : Ends (fun k => recoupref04_Combine.f k a b l y) ([], false, 3) := by
 unfold recoupref04_Combine.f
 have key : ∀ z, z = true → Ends (fun k => recoupref04_Combine.j0 k y z a b l) ([], false, 3) := fun z hz => by
  subst hz
  refine Ends.succ (fun k => by rw [recoupref04_Combine.j0]) ?_
  exact Ends.pos rfl (Ends.const rfl)
 rcases h with h | ⟨h, h2⟩
 ·exact Ends.bind1 h (Ends.neg (by decide) (key _ rfl))
 ·exact Ends.bind1 h (Ends.pos rfl (key _ (by simpa using h2)))
end Go.Proofs.Ytccfbhnhedoggaa.M
