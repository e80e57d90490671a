import Derived.Test.YtccfbhnhedoggaaGSolve
namespace Go.Proofs.Ytccfbhnhedoggaa.M
open Go.RowKit Go.Proofs.YtccfbhnhedoggaaW.PrintWords Go.Proofs.YtccfbhnhedoggaaW.PrintLast Go.Proofs.YtccfbhnhedoggaaW.PrintMore Go.Proofs.Ytccfbhnhedoggaa.Q
set_option linter.unusedVariables false
/-! ### a step, entry by entry -/
theorem entry_set {A : List (List Int)} {i a b : Nat} {r : List Int} (hi : i < A.length) : entry (A.set i r) a b = if a = i then r.getD b 0 else entry A a b := by
  unfold entry
  by_cases e : a = i
  · subst e
    rw [if_pos rfl, getD_set_self hi]
  · rw [if_neg e, getD_set_ne (fun x => e x.symm)]
theorem xor_getD {r s : List Int} {b : Nat} (h1 : b < r.length) (h2 : b < s.length) : (xorL r s).getD b 0 = Go.bits .xor .u8 (r.getD b 0) (s.getD b 0) := by
  unfold xorL
  rw [List.getD_eq_getElem?_getD, List.getD_eq_getElem?_getD, List.getD_eq_getElem?_getD, List.getElem?_zipWith, List.getElem?_eq_getElem h1, List.getElem?_eq_getElem h2]
  rfl
theorem entry_swap {A : List (List Int)} {W top i a b : Nat} {o : Int} (h : Sh A W) (ht : top < A.length) (hi : i < A.length) (hb : b < W) : entry (swapS o A top i) a b = if a = top then mulT o (entry A i b) else if a = i then entry A top b else entry A a b := by
  unfold swapS
  have h2 := h.u.at hi
  rw [entry_set (by simpa using ht), map_getD (by omega), entry_set (by simpa using ht), entry_set hi]
  by_cases e : a = top
  · rw [if_pos e, if_pos e]; rfl
  · rw [if_neg e, if_neg e, if_neg e]; rfl
theorem entry_mac {A : List (List Int)} {W top k a b : Nat} {c : Int} (h : Sh A W) (ht : top < A.length) (hk : k < A.length) (hb : b < W) : entry (macS A k top c) a b = if a = k then Go.bits .xor .u8 (mulT c (entry A top b)) (entry A k b) else entry A a b := by
  unfold macS
  have h1 := h.u.at ht
  have h2 := h.u.at hk
  rw [entry_set hk, xor_getD (by rw [List.length_map]; omega) (by omega), map_getD (by omega)]
  rfl
theorem Sh.of1 {M D : List (List Int)} {C wd : Nat} (h : Shp M D C wd) : Sh M C := ⟨U.of h, h.bM, h.small.1, by have := h.small.2.1; omega⟩
theorem Sh.of2 {M D : List (List Int)} {C wd : Nat} (h : Shp M D C wd) : Sh D wd := ⟨fun r hr => by
  obtain ⟨i, hi, rfl⟩ := List.getElem_of_mem hr
  have := h.eD i (by rw [← h.len]; exact hi)
  rwa [List.getD_eq_getElem?_getD, List.getElem?_eq_getElem hi, Option.getD_some] at this, h.bD, by rw [h.len]; exact h.small.1, by have := h.small.2.2; omega⟩
/-! ### what stands beside does not change what is reduced -/
theorem elim_fst (col top : Nat) (M D : List (List Int)) : ∀ k, (elimTo col top k (M, D)).1 = el1 col top k M
  | 0 => rfl
  | k + 1 => by
    have ih := elim_fst col top M D k
    show (if k ≠ top ∧ entry (elimTo col top k (M, D)).1 k col ≠ 0 then (macS (elimTo col top k (M, D)).1 k top (entry (elimTo col top k (M, D)).1 k col), macS (elimTo col top k (M, D)).2 k top (entry (elimTo col top k (M, D)).1 k col)) else elimTo col top k (M, D)).1 = (if k ≠ top ∧ entry (el1 col top k M) k col ≠ 0 then macS (el1 col top k M) k top (entry (el1 col top k M) k col) else el1 col top k M)
    rw [← ih]
    split <;> rfl
theorem red_fst (M D : List (List Int)) : ∀ j, ((redTo M D j).1.1, (redTo M D j).2) = redA M j
  | 0 => rfl
  | j + 1 => by
    have ih := red_fst M D j
    show ((redStep j (redTo M D j)).1.1, (redStep j (redTo M D j)).2) = stepA j (redA M j)
    rw [← ih]
    generalize redTo M D j = T
    cases hf : firstIn T.1.1 T.2.length j with
    | none => rw [redStep_none hf, stepA_none (s := (T.1.1, T.2)) hf]
    | some i =>
      rw [redStep_some hf, stepA_some (s := (T.1.1, T.2)) hf]
      show ((elimTo j T.2.length T.1.1.length (_, _)).1, _) = _
      rw [elim_fst]
theorem red_same (M D E : List (List Int)) (j : Nat) : (redTo M D j).1.1 = (redTo M E j).1.1 ∧ (redTo M D j).2 = (redTo M E j).2 := by
  have h := (red_fst M D j).trans (red_fst M E j).symm
  exact ⟨(Prod.mk.inj h).1, (Prod.mk.inj h).2⟩
/-! ### one column of what stands beside -/
theorem elim_col {M D Y : List (List Int)} {C wd q col top : Nat} (hD : Shp M D C wd) (hY : Shp M Y C 1) (hq : q < wd) (ht : top < M.length) (h : ∀ i, i < M.length → entry D i q = entry Y i 0) : ∀ k, k ≤ M.length → ∀ i, i < M.length → entry (elimTo col top k (M, D)).2 i q = entry (elimTo col top k (M, Y)).2 i 0
  | 0, _, i, hi => h i hi
  | k + 1, hk, i, hi => by
    have ih := elim_col (col := col) hD hY hq ht h k (by omega)
    obtain ⟨a1, a2⟩ := elim_shp (col := col) hD ht k (by omega)
    obtain ⟨b1, b2⟩ := elim_shp (col := col) hY ht k (by omega)
    have e := (elim_fst col top M D k).trans (elim_fst col top M Y k).symm
    show entry (if k ≠ top ∧ entry (elimTo col top k (M, D)).1 k col ≠ 0 then (macS (elimTo col top k (M, D)).1 k top (entry (elimTo col top k (M, D)).1 k col), macS (elimTo col top k (M, D)).2 k top (entry (elimTo col top k (M, D)).1 k col)) else elimTo col top k (M, D)).2 i q = entry (if k ≠ top ∧ entry (elimTo col top k (M, Y)).1 k col ≠ 0 then (macS (elimTo col top k (M, Y)).1 k top (entry (elimTo col top k (M, Y)).1 k col), macS (elimTo col top k (M, Y)).2 k top (entry (elimTo col top k (M, Y)).1 k col)) else elimTo col top k (M, Y)).2 i 0
    rw [e]
    have l1 := a1.len
    have l2 := b1.len
    split
    · show entry (macS (elimTo col top k (M, D)).2 k top _) i q = entry (macS (elimTo col top k (M, Y)).2 k top _) i 0
      rw [entry_mac (Sh.of2 a1) (by omega) (by omega) hq, entry_mac (Sh.of2 b1) (by omega) (by omega) (by omega), ih top ht, ih k (by omega), ih i hi]
    · exact ih i hi
theorem red_col {M D Y : List (List Int)} {C wd q : Nat} (hD : Shp M D C wd) (hY : Shp M Y C 1) (hq : q < wd) (h : ∀ i, i < M.length → entry D i q = entry Y i 0) : ∀ j, ∀ i, i < M.length → entry (redTo M D j).1.2 i q = entry (redTo M Y j).1.2 i 0
  | 0, i, hi => h i hi
  | j + 1, i, hi => by
    have ih := red_col hD hY hq h j
    obtain ⟨a1, a2, a3, _⟩ := red_shp hD j
    obtain ⟨b1, b2, _, _⟩ := red_shp hY j
    obtain ⟨e1, e2⟩ := red_same M D Y j
    show entry (redStep j (redTo M D j)).1.2 i q = entry (redStep j (redTo M Y j)).1.2 i 0
    generalize redTo M D j = T at *
    generalize redTo M Y j = T' at *
    cases hf : firstIn T.1.1 T.2.length j with
    | none =>
      have hf' := hf
      rw [e1, e2] at hf'
      rw [redStep_none hf, redStep_none hf']
      exact ih i hi
    | some x =>
      have hf' := hf
      rw [e1, e2] at hf'
      obtain ⟨q1, q2, q3, _⟩ := seekCol_spec _ _ hf
      rw [redStep_some hf, redStep_some hf']
      have ht : T.2.length < T.1.1.length := by omega
      have hx : x < T.1.1.length := by omega
      have s1 := a1.swap (o := invT (entry T.1.1 x j)) ht hx
      have s2 := b1.swap (o := invT (entry T'.1.1 x j)) (top := T'.2.length) (i := x) (by rw [← e1, ← e2]; exact ht) (by rw [← e1]; exact hx)
      have hl : (swapS (invT (entry T.1.1 x j)) T.1.1 T.2.length x).length = T.1.1.length := by simp [swapS]
      show entry (elimTo j T.2.length T.1.1.length (_, _)).2 i q = entry (elimTo j T'.2.length T'.1.1.length (_, _)).2 i 0
      rw [← e1, ← e2] at s2 ⊢
      refine elim_col s1 s2 hq (by omega) (fun p hp => ?_) _ (by omega) i (by omega)
      have l1 := a1.len
      have l2 := b1.len
      rw [entry_swap (Sh.of2 a1) (by omega) (by omega) hq, entry_swap (Sh.of2 b1) (by omega) (by omega) (by omega), ih x (by omega), ih _ (by omega), ih p (by omega)]
/-! ### as many pivots as columns -/
theorem red_len_succ (M D : List (List Int)) (j : Nat) : (redTo M D (j + 1)).2.length ≤ (redTo M D j).2.length + 1 := by
  show (redStep j (redTo M D j)).2.length ≤ _
  generalize redTo M D j = T
  cases hf : firstIn T.1.1 T.2.length j with
  | none => rw [redStep_none hf]; omega
  | some x => rw [redStep_some hf, List.length_append]; exact Nat.le_refl _
theorem red_len_le (M D : List (List Int)) : ∀ n j, (redTo M D (j + n)).2.length ≤ (redTo M D j).2.length + n
  | 0, j => Nat.le_refl _
  | n + 1, j => by
    have h1 := red_len_le M D n j
    have h2 := red_len_succ M D (j + n)
    rw [show j + (n + 1) = j + n + 1 from rfl]
    omega
theorem red_full {M D : List (List Int)} {C wd : Nat} (h : Shp M D C wd) (hf : (redTo M D C).2.length = C) : ∀ j, j ≤ C → (redTo M D j).2 = (List.range j).map fun (x : Nat) => (x : Int)
  | 0, _ => rfl
  | j + 1, hj => by
    have ih := red_full h hf j (by omega)
    have h1 := red_len_le M D (C - (j + 1)) (j + 1)
    rw [show j + 1 + (C - (j + 1)) = C from by omega, hf] at h1
    have h2 := (red_shp h j).2.2.2
    have hE : redTo M D (j + 1) = redStep j (redTo M D j) := rfl
    rw [hE] at h1 ⊢
    generalize redTo M D j = T at *
    cases hf : firstIn T.1.1 T.2.length j with
    | none => rw [redStep_none hf] at h1; omega
    | some x =>
      rw [redStep_some hf]
      show T.2 ++ [(j : Int)] = _
      rw [ih, List.range_succ, List.map_append]
      rfl
end Go.Proofs.Ytccfbhnhedoggaa.M
