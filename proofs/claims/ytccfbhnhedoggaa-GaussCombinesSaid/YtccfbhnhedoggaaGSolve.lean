import Derived.Test.YtccfbhnhedoggaaQx18
import Derived.Test.YtccfbhnhedoggaaQx31
import Derived.Test.YtccfbhnhedoggaaGWide
namespace Go.Proofs.Ytccfbhnhedoggaa.M
open Go.RowKit Go.Proofs.YtccfbhnhedoggaaW.PrintWords Go.Proofs.YtccfbhnhedoggaaW.PrintLast Go.Proofs.YtccfbhnhedoggaaW.PrintMore Go.Proofs.Ytccfbhnhedoggaa.Q
set_option linter.unusedVariables false
/-! ### pivots -/
theorem red_piv {M D : List (List Int)} : ∀ j, ∀ x ∈ (redTo M D j).2, ∃ p : Nat, x = (p : Int) ∧ p < j
  | 0, x, hx => by cases hx
  | j + 1, x, hx => by
    have hx2 : x ∈ (redStep j (redTo M D j)).2 := hx
    have ih := red_piv (M := M) (D := D) j x
    generalize redTo M D j = T at *
    cases hf : firstIn T.1.1 T.2.length j with
    | none =>
      rw [redStep_none hf] at hx2
      obtain ⟨p, e, h⟩ := ih hx2
      exact ⟨p, e, by omega⟩
    | some i =>
      rw [redStep_some hf] at hx2
      rcases List.mem_append.1 hx2 with h | h
      · obtain ⟨p, e, h⟩ := ih h
        exact ⟨p, e, by omega⟩
      · exact ⟨j, by simpa using h, by omega⟩
theorem red_piv_at {M D : List (List Int)} {j i : Nat} (hi : i < (redTo M D j).2.length) : ∃ p : Nat, (redTo M D j).2.getD i 0 = (p : Int) ∧ p < j := by
  refine red_piv (M := M) (D := D) j _ ?_
  rw [List.getD_eq_getElem?_getD, List.getElem?_eq_getElem hi]
  exact List.getElem_mem hi
/-! ### what stands beside -/
theorem fill_length (f : Nat → List Int) (n i : Nat) : (fillTo f n i).length = n := by simp [fillTo]
theorem fill_get {f : Nat → List Int} {n k : Nat} (hk : k < n) : (fillTo f n n).getD k [] = f k := by
  unfold fillTo
  rw [List.getD_eq_getElem?_getD, List.getElem?_map, List.getElem?_range hk]
  simp [hk]
def Ycol (y : List Int) (r : Nat) : List (List Int) := fillTo (colRow y) r r
theorem shp_Y {r c : Nat} {l y : List Int} (hb : bytesB l = true) (hyb : bytesB y = true) (hl : l.length = r * c) (hr : r ≤ 64) (hc : c ≤ 64) (hy : y.length = r) : Shp (rowsOf c r l) (Ycol y r) c 1 := by
  refine shp_of hb hl ⟨hr, hc⟩ (fill_length _ _ _) ?_ (fun i hi => by show ((fillTo (colRow y) r r).getD i []).length = 1; rw [fill_get hi]; rfl) (by decide)
  rw [rowsB, List.all_eq_true]
  intro x hx
  obtain ⟨i, hi, rfl⟩ := List.getElem_of_mem hx
  have hir : i < r := by rw [show (fillTo (colRow y) r r).length = r from fill_length _ _ _] at hi; exact hi
  have := fill_get (f := colRow y) hir
  rw [List.getD_eq_getElem?_getD, List.getElem?_eq_getElem (by rw [fill_length]; exact hir), Option.getD_some] at this
  rw [this]
  have hb := bytesB_at hyb (i := i) (by omega)
  unfold colRow bytesB
  rw [List.all_cons, List.all_nil, Bool.and_true, Bool.and_eq_true, decide_eq_true_eq, decide_eq_true_eq]
  exact hb
theorem take_flat_succ {M : List (List Int)} {i : Nat} (hi : i < M.length) : (M.take (i + 1)).flatten = (M.take i).flatten ++ M.getD i [] := by
  rw [List.take_succ_eq_append_getElem hi, List.flatten_append, List.getD_eq_getElem?_getD, List.getElem?_eq_getElem hi]
  simp
abbrev SR := List Int × Bool × Int
theorem Solve_l0 {r c : Nat} {M : List (List Int)} {y : List Int} (h : Shp M (Ycol y r) c 1) (hMr : M.length = r) (hy : y.length = r) {R : SR}
    (hR : Ends (fun q => (recoupref04_wide.f q (r : Int) ((c + 1 : Nat) : Int) (aug M (Ycol y r)).flatten).bind fun bt269 => (if 0 ≤ (c : Int) then (if ((c : Int) : Int).toNat ≤ 281474976710656 then (recoupref04_Solve.l1 q bt269.2.2.2 (List.replicate ((c : Int) : Int).toNat 0) 0 (r : Int) (c : Int) M.flatten bt269.1 bt269.2.1 bt269.2.2.1) else (none)) else (none))) R) :
    ∀ n i : Nat, i + n = r → Ends (fun q => recoupref04_Solve.l0 q y (i : Int) (r : Int) (c : Int) M.flatten (r : Int) ((c + 1 : Nat) : Int) ((aug M (Ycol y r)).take i).flatten) R
  | 0, i, hi => by
    obtain rfl : i = r := by omega
    refine Ends.succ (fun k => by rw [recoupref04_Solve.l0]) ?_
    refine Ends.neg (by omega) ?_
    rw [List.take_of_length_le (by rw [aug_length h.len]; omega)]
    exact hR
  | n + 1, i, hi => by
    have hir : i < r := by omega
    have hm := h.small.1
    have hc := h.small.2.1
    have hi4 : i ≤ 4096 := by omega
    have hal := aug_length h.len
    refine Ends.succ (fun k => by rw [recoupref04_Solve.l0]) ?_
    refine Ends.pos (by omega) ?_
    have hrow := Row_ends (U.of h) (by omega) hc (i := i) (by omega)
    rw [hMr] at hrow
    refine Ends.bind hrow ?_
    have htl : ((aug M (Ycol y r)).take i).flatten.length = i * (c + 1) := by
      have hu : U ((aug M (Ycol y r)).take i) (c + 1) := fun x hx => aug_U h x (List.mem_of_mem_take hx)
      rw [flat_len hu, List.length_take, Nat.min_eq_left (by omega)]
    have hic : i * (c + 1) ≤ 64 * 65 := Nat.mul_le_mul (by omega) (by omega)
    have hrl := h.eM i (by omega)
    refine Ends.pos (by rw [htl, hrl]; omega) ?_
    refine Ends.bind1 rfl ?_
    refine Ends.pos (by omega) ?_
    refine Ends.pos (by omega) ?_
    refine Ends.bind1 rfl ?_
    refine Ends.pos (by rw [List.length_append, htl, hrl, List.length_singleton]; omega) ?_
    have e1 : ((aug M (Ycol y r)).take i).flatten ++ M.getD i [] ++ [rd y (i : Int)] = ((aug M (Ycol y r)).take (i + 1)).flatten := by
      rw [take_flat_succ (by omega), aug_get h.len, List.append_assoc]
      congr 2
      unfold Ycol
      rw [fill_get hir, rd_nat]
      rfl
    rw [e1, i64_succ hi4]
    exact Solve_l0 h hMr hy hR n (i + 1) (by omega)
theorem bad_iff {P : List Int} {D : List (List Int)} : ∀ f i, badFrom P D f i = true ↔ ∃ i', i ≤ i' ∧ i' < i + f ∧ P.length ≤ i' ∧ entry D i' 0 ≠ 0
  | 0, i => by
    constructor
    · intro h; cases h
    · rintro ⟨i', h1, h2, _⟩; omega
  | f + 1, i => by
    unfold badFrom
    by_cases h : P.length ≤ i ∧ entry D i 0 ≠ 0
    · rw [if_pos h]
      exact ⟨fun _ => ⟨i, Nat.le_refl _, by omega, h.1, h.2⟩, fun _ => rfl⟩
    · rw [if_neg h, bad_iff f (i + 1)]
      constructor
      · rintro ⟨i', h1, h2, h3, h4⟩; exact ⟨i', by omega, by omega, h3, h4⟩
      · rintro ⟨i', h1, h2, h3, h4⟩
        by_cases e : i' = i
        · subst e; exact absurd ⟨h3, h4⟩ h
        · exact ⟨i', by omega, by omega, h3, h4⟩
theorem seek_zero {M : List (List Int)} {j : Nat} : ∀ f i, seekCol M j f i = none → ∀ i', i ≤ i' → i' < i + f → entry M i' j = 0
  | 0, i, _, i', a, b => by omega
  | f + 1, i, h, i', a, b => by
    unfold seekCol at h
    by_cases e : entry M i j = 0
    · rw [if_neg (fun x => x e)] at h
      by_cases e2 : i' = i
      · rw [e2]; exact e
      · exact seek_zero f (i + 1) h i' (by omega) (by omega)
    · rw [if_pos e] at h; cases h
theorem solveTo_length (P : List Int) (D : List (List Int)) (c : Nat) : ∀ i, (solveTo P D c i).length = c
  | 0 => by simp [solveTo]
  | i + 1 => by
    unfold solveTo
    split
    · rw [List.length_set]; exact solveTo_length P D c i
    · exact solveTo_length P D c i
theorem solveTo_more {P : List Int} {D : List (List Int)} {c i : Nat} (h : P.length ≤ i) : solveTo P D c i = solveTo P D c P.length := by
  obtain ⟨d, rfl⟩ : ∃ d, i = P.length + d := ⟨i - P.length, by omega⟩
  clear h
  induction d with
  | zero => rfl
  | succ d ih =>
    rw [show P.length + (d + 1) = (P.length + d) + 1 from rfl, solveTo, if_neg (by omega)]
    exact ih
/-- The loop over the pivots, where b has none. -/
theorem Solve_l1 {c : Nat} {T D A : List (List Int)} {P : List Int} (hA : Sh A (c + 1)) (hP : P.length ≤ A.length) (hpv : ∀ i, i < P.length → ∃ p : Nat, P.getD i 0 = (p : Int) ∧ p < c) (hD : ∀ i, i < A.length → entry A i c = entry D i 0) (a : Int) (L : List Int) :
    ∀ n i : Nat, i + n = P.length → Ends (fun q => recoupref04_Solve.l1 q P (solveTo P D c i) (i : Int) a (c : Int) L (A.length : Int) ((c + 1 : Nat) : Int) A.flatten) (solveTo P D c P.length, true, 0)
  | 0, i, hi => by
    obtain rfl : i = P.length := by omega
    refine Ends.succ (fun k => by rw [recoupref04_Solve.l1]) ?_
    exact Ends.neg (by omega) (Ends.const rfl)
  | n + 1, i, hi => by
    have hiP : i < P.length := by omega
    have hm := hA.m
    have hi4 : i ≤ 4096 := by omega
    obtain ⟨p, hp, hpc⟩ := hpv i hiP
    have ih := Solve_l1 (T := T) hA hP hpv hD a L n (i + 1) (by omega)
    rw [solveTo, if_pos hiP, hp, Int.toNat_natCast] at ih
    refine Ends.succ (fun k => by rw [recoupref04_Solve.l1]) ?_
    refine Ends.pos (by omega) (Ends.pos (by omega) ?_)
    rw [rd_nat, hp]
    refine Ends.neg (by omega) ?_
    have ha := At65 hA (i := i) (j := c) (by omega) (by omega) (A.length : Int)
    refine Ends.bind1 ha ?_
    refine Ends.pos (by omega) (Ends.pos (by rw [solveTo_length]; omega) ?_)
    rw [hD i (by omega), i64_succ hi4, Int.toNat_natCast]
    exact ih
/-- The loop over the pivots, where b has one. -/
theorem Solve_l1_bad {c : Nat} {A : List (List Int)} {P : List Int} (hA : Sh A (c + 1)) (hP : P.length < A.length) (hpv : ∀ i, i < P.length → ∃ p : Nat, P.getD i 0 = (p : Int) ∧ p < c) (a : Int) (L : List Int) :
    ∀ (n i : Nat) (out : List Int), i + n = P.length → out.length = c → Ends (fun q => recoupref04_Solve.l1 q (P ++ [(c : Int)]) out (i : Int) a (c : Int) L (A.length : Int) ((c + 1 : Nat) : Int) A.flatten) ([], false, 0)
  | 0, i, out, hi, ho => by
    obtain rfl : i = P.length := by omega
    have e : rd (P ++ [(c : Int)]) (P.length : Int) = (c : Int) := by rw [rd_nat, List.getD_eq_getElem?_getD, List.getElem?_append_right (Nat.le_refl _), Nat.sub_self]; rfl
    refine Ends.succ (fun k => by rw [recoupref04_Solve.l1]) ?_
    refine Ends.pos (by rw [List.length_append, List.length_singleton]; omega) (Ends.pos (by omega) ?_)
    rw [e]
    exact Ends.pos rfl (Ends.const rfl)
  | n + 1, i, out, hi, ho => by
    have hiP : i < P.length := by omega
    have hm := hA.m
    have hi4 : i ≤ 4096 := by omega
    obtain ⟨p, hp, hpc⟩ := hpv i hiP
    have e : rd (P ++ [(c : Int)]) (i : Int) = (p : Int) := by rw [rd_nat, List.getD_eq_getElem?_getD, List.getElem?_append_left hiP, ← List.getD_eq_getElem?_getD, hp]
    refine Ends.succ (fun k => by rw [recoupref04_Solve.l1]) ?_
    refine Ends.pos (by rw [List.length_append, List.length_singleton]; omega) (Ends.pos (by omega) ?_)
    rw [e]
    refine Ends.neg (by omega) ?_
    have ha := At65 hA (i := i) (j := c) (by omega) (by omega) (A.length : Int)
    refine Ends.bind1 ha ?_
    refine Ends.pos (by omega) (Ends.pos (by omega) ?_)
    rw [i64_succ hi4]
    exact Solve_l1_bad hA hP hpv a L n (i + 1) _ (by omega) (by rw [List.length_set]; exact ho)
/-- What both answer for a right matrix and a b as long as its rows. -/
def solR (r c : Nat) (l y : List Int) : SR := let T := redTo (rowsOf c r l) (Ycol y r) c
  if badFrom T.2 T.1.2 r 0 = true then ([], false, 0) else (solveTo T.2 T.1.2 c r, true, 0)
theorem Sh.aug {M D : List (List Int)} {C : Nat} (h : Shp M D C 1) : Sh (aug M D) (C + 1) := ⟨aug_U h, aug_bytes h, by rw [aug_length h.len]; exact h.small.1, by have := h.small.2.1; omega⟩
theorem Solve_ends {r c : Nat} {l y : List Int} (hr : r ≤ 64) (hc : c ≤ 64) (hl : l.length = r * c) (hb : bytesB l = true) (hy : y.length = r) (hyb : bytesB y = true) : Ends (fun k => recoupref04_Solve.f k (r : Int) (c : Int) l y) (solR r c l y) := by
  have hf := flat_rowsOf r l hl
  have hlen := rowsOf_length c r l
  have hS := shp_Y hb hyb hl hr hc hy
  have h1 := Right_true hf.2 (by omega) hc
  rw [hf.1, hlen] at h1
  unfold recoupref04_Solve.f
  refine Ends.bind1 h1 (Ends.pos rfl ?_)
  refine Ends.succ (fun k => by rw [recoupref04_Solve.j0]) ?_
  refine Ends.neg (by simp [hy]) ?_
  have hc4 : c ≤ 4096 := by omega
  rw [i64_succ hc4]
  have h0 := Solve_l0 hS hlen hy (R := solR r c l y) ?_ r 0 (by omega)
  · rw [List.take_zero, hf.1] at h0
    exact h0
  · have hW := wide_ends (Sh.aug hS)
    have hal := aug_length hS.len
    rw [hal, hlen] at hW
    refine Ends.bind hW ?_
    refine Ends.pos (by omega) (Ends.pos (by rw [Int.toNat_natCast]; omega) ?_)
    rw [Int.toNat_natCast]
    have hglue := red_aug hS c (Nat.le_refl _)
    have hT := red_shp hS c
    have hpv : ∀ i, i < (redTo (rowsOf c r l) (Ycol y r) c).2.length → ∃ p : Nat, (redTo (rowsOf c r l) (Ycol y r) c).2.getD i 0 = (p : Int) ∧ p < c := fun i hi => red_piv_at hi
    have hE : redA (aug (rowsOf c r l) (Ycol y r)) (c + 1) = stepA c (redA (aug (rowsOf c r l) (Ycol y r)) c) := rfl
    have hred := (Sh.aug hS).red (c + 1) (Nat.le_refl _)
    rw [hE, hglue] at hred ⊢
    unfold solR
    generalize redTo (rowsOf c r l) (Ycol y r) c = T at *
    obtain ⟨hTs, hTl, hTp, _⟩ := hT
    have hal2 := aug_length hTs.len
    have hent : ∀ i, i < T.1.1.length → entry (aug T.1.1 T.1.2) i c = entry T.1.2 i 0 := fun i hi => by
      have := aug_entry_right (j := 0) hTs.len (hTs.eM i hi)
      rwa [Nat.add_zero] at this
    cases hfi : firstIn (aug T.1.1 T.1.2) T.2.length c with
    | none =>
      rw [stepA_none (s := (aug T.1.1 T.1.2, T.2)) hfi] at hred ⊢
      have hz := seek_zero _ _ hfi
      have hbad : ¬ badFrom T.2 T.1.2 r 0 = true := by
        rw [bad_iff]
        rintro ⟨i', _, h2, h3, h4⟩
        refine h4 ?_
        rw [← hent i' (by omega)]
        exact hz i' h3 (by omega)
      simp only []
      rw [if_neg hbad, solveTo_more (i := r) (by omega)]
      have h2 := Solve_l1 (T := []) (D := T.1.2) hred.1 (P := T.2) (by show _ ≤ (aug T.1.1 T.1.2).length; omega) hpv (fun i hi => hent i (by have hi' : i < (aug T.1.1 T.1.2).length := hi; omega)) (r : Int) (rowsOf c r l).flatten T.2.length 0 (by omega)
      have e1 : ((aug T.1.1 T.1.2).length : Int) = (r : Int) := by omega
      rw [show solveTo T.2 T.1.2 c 0 = List.replicate c 0 from rfl] at h2
      have h3 : (((aug T.1.1 T.1.2, T.2) : List (List Int) × List Int).1.length : Int) = (r : Int) := e1
      rw [h3] at h2
      exact h2
    | some i =>
      obtain ⟨q1, q2, q3, _⟩ := seekCol_spec _ _ hfi
      rw [stepA_some (s := (aug T.1.1 T.1.2, T.2)) hfi] at hred ⊢
      have hbad : badFrom T.2 T.1.2 r 0 = true := by
        rw [bad_iff]
        refine ⟨i, by omega, by omega, q1, ?_⟩
        rw [← hent i (by omega)]
        exact q3
      simp only []
      rw [if_pos hbad]
      have e1 := hred.2.1
      have h2 := Solve_l1_bad hred.1 (P := T.2) (by rw [e1]; omega) hpv (r : Int) (rowsOf c r l).flatten T.2.length 0 (List.replicate c 0) (by omega) (by simp)
      rw [e1, hal, hlen] at h2
      exact h2
theorem gSolve_eq {r c : Nat} {l y : List Int} (hR : matrix_Right.f (r : Int) (c : Int) l = some true) (hb : bytesB l = true) (hy : y.length = r) (hyb : bytesB y = true) : gauss_Solve.f (r : Int) (c : Int) l y = some (solR r c l y) := by
  unfold gauss_Solve.f
  rw [hR, Option.bind_some, if_pos rfl, if_pos (by omega), if_pos ⟨hb, hyb⟩]
  unfold solR gauss_Solve.st Ycol
  simp only [Int.toNat_natCast]
  split <;> rfl
theorem gSolve_bad {a b : Int} {l y : List Int} (h : matrix_Right.f a b l = some false ∨ (matrix_Right.f a b l = some true ∧ (y.length : Int) ≠ a)) : gauss_Solve.f a b l y = some ([], false, 3) := by
  unfold gauss_Solve.f
  rcases h with h | ⟨h, h2⟩
  · rw [h, Option.bind_some, if_neg (by decide)]
  · rw [h, Option.bind_some, if_pos rfl, if_neg h2]
theorem Solve_bad {a b : Int} {l y : List Int} (h : recoupref03_Right.f a b l = some false ∨ (recoupref03_Right.f a b l = some true ∧ (y.length : Int) ≠ a)) : Ends (fun k => recoupref04_Solve.f k a b l y) ([], false, 3) := by
  unfold recoupref04_Solve.f
  have key : ∀ z, z = true → Ends (fun k => recoupref04_Solve.j0 k y z a b l) ([], false, 3) := fun z hz => by
    subst hz
    refine Ends.succ (fun k => by rw [recoupref04_Solve.j0]) ?_
    exact Ends.pos rfl (Ends.const rfl)
  rcases h with h | ⟨h, h2⟩
  · exact Ends.bind1 h (Ends.neg (by decide) (key _ rfl))
  · exact Ends.bind1 h (Ends.pos rfl (key _ (by simpa using h2)))
theorem solR_err (r c : Nat) (l y : List Int) : (solR r c l y).2.2 = 0 := by
  unfold solR
  simp only []
  split <;> rfl
theorem solR_len (r c : Nat) (l y : List Int) (h : (solR r c l y).2.1 = true) : (solR r c l y).1.length = c := by
  unfold solR at h ⊢
  simp only [] at h ⊢
  split
  · rename_i e
    rw [if_pos e] at h; cases h
  · exact solveTo_length _ _ _ _
end Go.Proofs.Ytccfbhnhedoggaa.M
