import Derived.Test.YtccfbhnhedoggaaGRef3
namespace Go.Proofs.Ytccfbhnhedoggaa.M
open Go.RowKit Go.Proofs.YtccfbhnhedoggaaW.PrintWords Go.Proofs.YtccfbhnhedoggaaW.PrintLast Go.Proofs.YtccfbhnhedoggaaW.PrintMore Go.Proofs.Ytccfbhnhedoggaa.Q
set_option linter.unusedVariables false
/-! ### rows beside rows -/
def aug (M D : List (List Int)) : List (List Int) := List.zipWith (· ++ ·) M D
theorem aug_length {M D : List (List Int)} (h : D.length = M.length) : (aug M D).length = M.length := by unfold aug; rw [List.length_zipWith]; omega
theorem aug_get {M D : List (List Int)} (h : D.length = M.length) (i : Nat) : (aug M D).getD i [] = M.getD i [] ++ D.getD i [] := by
 unfold aug
 rw [List.getD_eq_getElem?_getD, List.getD_eq_getElem?_getD, List.getD_eq_getElem?_getD, List.getElem?_zipWith]
 by_cases hi : i < M.length
 ·rw [List.getElem?_eq_getElem hi, List.getElem?_eq_getElem (by omega)]
  rfl
 ·rw [List.getElem?_eq_none (by omega), List.getElem?_eq_none (by omega)]
  rfl
theorem aug_set {M D : List (List Int)} (h : D.length = M.length) (i : Nat) (r s : List Int) : aug (M.set i r) (D.set i s) = (aug M D).set i (r ++ s) := by
 unfold aug
 refine List.ext_getElem (by simp) fun p h1 h2 => ?_
 rw [List.getElem_zipWith, List.getElem_set, List.getElem_set, List.getElem_set, List.getElem_zipWith]
 split <;> rfl
theorem aug_entry {M D : List (List Int)} {C i j : Nat} (h : D.length = M.length) (hr : (M.getD i []).length = C) (hj : j < C) : entry (aug M D) i j = entry M i j := by
 unfold entry
 rw [aug_get h, List.getD_eq_getElem?_getD, List.getD_eq_getElem?_getD (l := M.getD i []), List.getElem?_append_left (by omega)]
theorem aug_entry_right {M D : List (List Int)} {C i j : Nat} (h : D.length = M.length) (hr : (M.getD i []).length = C) : entry (aug M D) i (C + j) = entry D i j := by
 unfold entry
 rw [aug_get h, List.getD_eq_getElem?_getD, List.getD_eq_getElem?_getD (l := D.getD i []), List.getElem?_append_right (by omega), hr, Nat.add_sub_cancel_left]
theorem aug_U {M D : List (List Int)} {C wd : Nat} (h : Shp M D C wd) : U (aug M D) (C + wd) := fun r hr => by
 obtain ⟨i, hi, rfl⟩ := List.getElem_of_mem hr
 have hl := aug_length h.len
 have := aug_get h.len i
 rw [List.getD_eq_getElem?_getD, List.getElem?_eq_getElem hi, Option.getD_some] at this
 rw [this, List.length_append, h.eM i (by omega), h.eD i (by omega)]
theorem aug_bytes {M D : List (List Int)} {C wd : Nat} (h : Shp M D C wd) : rowsB (aug M D) = true := by
 rw [rowsB, List.all_eq_true]
 intro r hr
 obtain ⟨i, hi, rfl⟩ := List.getElem_of_mem hr
 have := aug_get h.len i
 rw [List.getD_eq_getElem?_getD, List.getElem?_eq_getElem hi, Option.getD_some] at this
 rw [this]
 have h1 := rows_bytes h.bM i
 have h2 := rows_bytes h.bD i
 unfold bytesB at h1 h2 ⊢
 rw [List.all_append, h1, h2]
 rfl
theorem swap_aug {M D : List (List Int)} (h : D.length = M.length) (o : Int) (top i : Nat) : aug (swapS o M top i) (swapS o D top i) = swapS o (aug M D) top i := by
 unfold swapS
 rw [aug_set (by simp [h]), aug_set (by simp [h]), aug_set h, aug_get h, aug_get h, List.map_append]
theorem xorL_append {a b c d : List Int} (h : a.length = c.length) : xorL (a ++ b) (c ++ d) = xorL a c ++ xorL b d := by
 unfold xorL
 rw [List.zipWith_append h]
theorem mac_aug {M D : List (List Int)} {C wd : Nat} (h : Shp M D C wd) {k top : Nat} (hk : k < M.length) (ht : top < M.length) (c : Int) : aug (macS M k top c) (macS D k top c) = macS (aug M D) k top c := by
 unfold macS
 rw [aug_set h.len, aug_get h.len, aug_get h.len, List.map_append, xorL_append (by rw [List.length_map, h.eM top ht, h.eM k hk])]
/-- Of one matrix alone: rows to k have had row top taken off. -/
def el1 (col top : Nat) : Nat → List (List Int) → List (List Int)
 | 0, A => A
 | k + 1, A => let t := el1 col top k A; if k ≠ top ∧ entry t k col ≠ 0 then macS t k top (entry t k col) else t
theorem el1_aug {M D : List (List Int)} {C wd col top : Nat} (h : Shp M D C wd) (ht : top < M.length) (hc : col < C) : ∀ k, k ≤ M.length → el1 col top k (aug M D) = aug (elimTo col top k (M, D)).1 (elimTo col top k (M, D)).2
 | 0, _ => rfl
 | k + 1, hk => by
  obtain ⟨hT, hTl⟩ := elim_shp (col := col) h ht k (by omega)
  have ih := el1_aug h ht hc k (by omega)
  have e1 : el1 col top (k + 1) (aug M D) = (if k ≠ top ∧ entry (el1 col top k (aug M D)) k col ≠ 0 then macS (el1 col top k (aug M D)) k top (entry (el1 col top k (aug M D)) k col) else el1 col top k (aug M D)) := rfl
  have e2 : elimTo col top (k + 1) (M, D) = (if k ≠ top ∧ entry (elimTo col top k (M, D)).1 k col ≠ 0 then (macS (elimTo col top k (M, D)).1 k top (entry (elimTo col top k (M, D)).1 k col), macS (elimTo col top k (M, D)).2 k top (entry (elimTo col top k (M, D)).1 k col)) else elimTo col top k (M, D)) := rfl
  rw [e1, e2, ih]
  generalize elimTo col top k (M, D) = T at *
  rw [aug_entry hT.len (hT.eM k (by omega)) hc]
  split
  ·rw [← mac_aug hT (by omega) (by omega)]
  ·rfl
theorem seek_aug {M D : List (List Int)} {C wd j : Nat} (h : Shp M D C wd) (hj : j < C) : ∀ f i, i + f ≤ M.length → seekCol (aug M D) j f i = seekCol M j f i
 | 0, _, _ => rfl
 | f + 1, i, hi => by
  unfold seekCol
  rw [aug_entry h.len (h.eM i (by omega)) hj, seek_aug h hj f (i + 1) (by omega)]
def stepA (j : Nat) (s : List (List Int) × List Int) : List (List Int) × List Int := match firstIn s.1 s.2.length j with
 | none => s
 | some i => (el1 j s.2.length s.1.length (swapS (invT (entry s.1 i j)) s.1 s.2.length i), s.2 ++ [(j : Int)])
def redA (A : List (List Int)) : Nat → List (List Int) × List Int
 | 0 => (A, [])
 | j + 1 => stepA j (redA A j)
theorem stepA_none {j : Nat} {s : List (List Int) × List Int} (h : firstIn s.1 s.2.length j = none) : stepA j s = s := by unfold stepA; rw [h]
theorem stepA_some {j i : Nat} {s : List (List Int) × List Int} (h : firstIn s.1 s.2.length j = some i) : stepA j s = (el1 j s.2.length s.1.length (swapS (invT (entry s.1 i j)) s.1 s.2.length i), s.2 ++ [(j : Int)]) := by unfold stepA; rw [h]
theorem red_aug {M D : List (List Int)} {C wd : Nat} (h : Shp M D C wd) : ∀ j, j ≤ C → redA (aug M D) j = (aug (redTo M D j).1.1 (redTo M D j).1.2, (redTo M D j).2)
 | 0, _ => rfl
 | j + 1, hj => by
  have hs := red_shp h j
  have ih := red_aug h j (by omega)
  show stepA j (redA (aug M D) j) = (aug (redStep j (redTo M D j)).1.1 (redStep j (redTo M D j)).1.2, (redStep j (redTo M D j)).2)
  rw [ih]
  generalize redTo M D j = T at *
  obtain ⟨hS, hSl, hp, _⟩ := hs
  have hal := aug_length hS.len
  have hfi : firstIn (aug T.1.1 T.1.2) T.2.length j = firstIn T.1.1 T.2.length j := by
   unfold firstIn
   rw [hal, seek_aug hS (by omega) _ _ (by omega)]
  cases hf : firstIn T.1.1 T.2.length j with
  | none => rw [redStep_none hf, stepA_none (hfi.trans hf)]
  | some i =>
   obtain ⟨q1, q2, q3, _⟩ := seekCol_spec _ _ hf
   rw [redStep_some hf, stepA_some (s := (aug T.1.1 T.1.2, T.2)) (hfi.trans hf)]
   show (el1 j T.2.length (aug T.1.1 T.1.2).length (swapS (invT (entry (aug T.1.1 T.1.2) i j)) (aug T.1.1 T.1.2) T.2.length i), T.2 ++ [(j : Int)]) = _
   have hsh := hS.swap (o := invT (entry T.1.1 i j)) (by omega : T.2.length < _) (by omega : i < _)
   have hsl : (swapS (invT (entry T.1.1 i j)) T.1.1 T.2.length i).length = T.1.1.length := by simp [swapS]
   rw [hal, aug_entry hS.len (hS.eM i (by omega)) (by omega), ← swap_aug hS.len, el1_aug hsh (by omega) (by omega) _ (by omega)]
   rfl
/-- One matrix's shape. -/
structure Sh (A : List (List Int)) (W : Nat) : Prop where
 u : U A W
 b : rowsB A = true
 m : A.length ≤ 64
 w : W ≤ 65
theorem Sh.set {A : List (List Int)} {W k : Nat} {r : List Int} (h : Sh A W) (hr : r.length = W) (hb : bytesB r = true) : Sh (A.set k r) W := by
 refine ⟨h.u.set hr, ?_, by rw [List.length_set]; exact h.m, h.w⟩
 have := h.b
 rw [rowsB, List.all_eq_true] at this ⊢
 intro x hx
 rcases List.mem_or_eq_of_mem_set hx with hx | rfl
 ·exact this x hx
 ·exact hb
theorem scale_bytes {o : Int} (ho : 0 ≤ o ∧ o < 256) {r : List Int} (h : bytesB r = true) : bytesB (r.map (mulT o)) = true := by
 unfold bytesB
 rw [List.all_eq_true]
 intro x hx
 obtain ⟨y, hy, rfl⟩ := List.mem_map.1 hx
 unfold bytesB at h
 rw [List.all_eq_true] at h
 have hy2 := h y hy
 simp only [Bool.and_eq_true, decide_eq_true_eq] at hy2
 have := mulT_range ho hy2
 simp
 omega
theorem xorL_bytes {r s : List Int} : bytesB (xorL r s) = true := by
 unfold bytesB xorL
 rw [List.all_eq_true]
 intro x hx
 obtain ⟨i, hi, rfl⟩ := List.getElem_of_mem hx
 rw [List.getElem_zipWith]
 have := xor_range (r[i]'(by simp at hi; omega)) (s[i]'(by simp at hi; omega))
 simp
 omega
theorem Sh.byte {A : List (List Int)} {W i j : Nat} (h : Sh A W) (hi : i < A.length) (hj : j < W) : 0 ≤ entry A i j ∧ entry A i j < 256 := bytesB_at (rows_bytes h.b i) (by rw [h.u.at hi]; exact hj)
theorem Sh.swap {A : List (List Int)} {W top i : Nat} {o : Int} (h : Sh A W) (ho : 0 ≤ o ∧ o < 256) (ht : top < A.length) (hi : i < A.length) : Sh (swapS o A top i) W := by
 unfold swapS
 exact ((h.set (h.u.at ht) (rows_bytes h.b top)).set (h.u.at hi) (rows_bytes h.b i)).set (by rw [List.length_map]; exact h.u.at hi) (scale_bytes ho (rows_bytes h.b i))
theorem Sh.mac {A : List (List Int)} {W k top : Nat} (h : Sh A W) (hk : k < A.length) (ht : top < A.length) (c : Int) : Sh (macS A k top c) W := by
 unfold macS
 refine h.set ?_ xorL_bytes
 unfold xorL
 rw [List.length_zipWith, List.length_map, h.u.at ht, h.u.at hk]
 omega
theorem Sh.el {A : List (List Int)} {W col top : Nat} (h : Sh A W) (ht : top < A.length) : ∀ k, k ≤ A.length → Sh (el1 col top k A) W ∧ (el1 col top k A).length = A.length
 | 0, _ => ⟨h, rfl⟩
 | k + 1, hk => by
  obtain ⟨ih, il⟩ := Sh.el (col := col) h ht k (by omega)
  show Sh (if k ≠ top ∧ entry (el1 col top k A) k col ≠ 0 then macS (el1 col top k A) k top (entry (el1 col top k A) k col) else el1 col top k A) W ∧ (if k ≠ top ∧ entry (el1 col top k A) k col ≠ 0 then macS (el1 col top k A) k top (entry (el1 col top k A) k col) else el1 col top k A).length = A.length
  split
  ·exact ⟨ih.mac (by omega) (by omega) _, by simp [macS, il]⟩
  ·exact ⟨ih, il⟩
theorem Sh.red {A : List (List Int)} {W : Nat} (h : Sh A W) : ∀ j, j ≤ W → Sh (redA A j).1 W ∧ (redA A j).1.length = A.length ∧ (redA A j).2.length ≤ A.length ∧ (redA A j).2.length ≤ j
 | 0, _ => ⟨h, rfl, Nat.zero_le _, Nat.zero_le _⟩
 | j + 1, hj => by
  obtain ⟨a, b, c, d⟩ := h.red j (by omega)
  show Sh (stepA j (redA A j)).1 W ∧ (stepA j (redA A j)).1.length = A.length ∧ (stepA j (redA A j)).2.length ≤ A.length ∧ (stepA j (redA A j)).2.length ≤ j + 1
  generalize redA A j = T at *
  cases hf : firstIn T.1 T.2.length j with
  | none => rw [stepA_none hf]; exact ⟨a, b, c, by omega⟩
  | some i =>
   rw [stepA_some hf]
   obtain ⟨h1, h2, h3, _⟩ := seekCol_spec _ _ hf
   have hi : i < T.1.length := by omega
   have ht : T.2.length < T.1.length := by omega
   have hb := a.byte hi (by omega : j < W)
   have hs := a.swap (invT_range hb h3) ht hi
   have hsl : (swapS (invT (entry T.1 i j)) T.1 T.2.length i).length = T.1.length := by simp [swapS]
   have he := hs.el (col := j) (top := T.2.length) (by omega) T.1.length (by omega)
   exact ⟨he.1, by show (el1 _ _ _ _).length = _; rw [he.2, hsl, b], by rw [List.length_append]; simp; omega, by rw [List.length_append]; simp; omega⟩
end Go.Proofs.Ytccfbhnhedoggaa.M
