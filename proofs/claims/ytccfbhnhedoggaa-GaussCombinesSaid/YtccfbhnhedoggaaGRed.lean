import Derived.Test.YtccfbhnhedoggaaGEnt
import Derived.Test.YtccfbhnhedoggaaMRed
namespace Go.Proofs.Ytccfbhnhedoggaa.M
open Go.RowKit Go.Proofs.YtccfbhnhedoggaaW.PrintWords Go.Proofs.YtccfbhnhedoggaaW.PrintLast Go.Proofs.YtccfbhnhedoggaaW.PrintMore Go.Proofs.Ytccfbhnhedoggaa.Q
set_option linter.unusedVariables false
/-! ### rows of bytes as vectors -/
def mv (A : List (List Int)) (W : Nat) : Nat → Vec := fun i j => if j < W then toE (entry A i j) else 0
theorem mv_at {A : List (List Int)} {W i j : Nat} (h : j < W) : mv A W i j = toE (entry A i j) := if_pos h
theorem mv_out {A : List (List Int)} {W i j : Nat} (h : ¬ j < W) : mv A W i j = 0 := if_neg h
theorem invT_mul {a : Int} (h : 0 ≤ a ∧ a < 256) (h0 : a ≠ 0) : toE (invT a) * toE a = 1 := by rw [invT_el h h0, inv_mul (toE_ne h h0)]
theorem invT_ne {a : Int} (h : 0 ≤ a ∧ a < 256) (h0 : a ≠ 0) : toE (invT a) ≠ 0 := by rw [invT_el h h0]; exact inv_ne (toE_ne h h0)
theorem mv_swap {A : List (List Int)} {W top i : Nat} {o : Int} (h : Sh A W) (ho : 0 ≤ o ∧ o < 256) (ht : top < A.length) (hi : i < A.length) (a : Nat) : mv (swapS o A top i) W a = if a = top then (fun b => toE o * mv A W i b) else if a = i then mv A W top else mv A W a := by
  funext b
  by_cases hb : b < W
  · rw [mv_at hb, entry_swap h ht hi hb]
    by_cases e1 : a = top
    · rw [if_pos e1, if_pos e1, mv_at hb, mulT_el ho (h.byte hi hb)]
    · rw [if_neg e1, if_neg e1]
      by_cases e2 : a = i
      · rw [if_pos e2, if_pos e2, mv_at hb]
      · rw [if_neg e2, if_neg e2, mv_at hb]
  · rw [mv_out hb]
    by_cases e1 : a = top
    · rw [if_pos e1, mv_out hb, mul_zero]
    · rw [if_neg e1]
      by_cases e2 : a = i
      · rw [if_pos e2, mv_out hb]
      · rw [if_neg e2, mv_out hb]
theorem mv_mac {A : List (List Int)} {W top k : Nat} {c : Int} (h : Sh A W) (hc : 0 ≤ c ∧ c < 256) (ht : top < A.length) (hk : k < A.length) (a : Nat) : mv (macS A k top c) W a = if a = k then (fun b => toE c * mv A W top b + mv A W k b) else mv A W a := by
  funext b
  by_cases hb : b < W
  · rw [mv_at hb, entry_mac h ht hk hb]
    by_cases e1 : a = k
    · rw [if_pos e1, if_pos e1, mv_at hb, mv_at hb, xor_el, mulT_el hc (h.byte ht hb)]
    · rw [if_neg e1, if_neg e1, mv_at hb]
  · rw [mv_out hb]
    by_cases e1 : a = k
    · rw [if_pos e1, mv_out hb, mv_out hb, mul_zero, add_zero]
    · rw [if_neg e1, mv_out hb]
theorem mv_el {A : List (List Int)} {W top col : Nat} (h : Sh A W) (ht : top < A.length) (hc : col < W) : ∀ k, k ≤ A.length → ∀ a, mv (el1 col top k A) W a = if a < k ∧ a ≠ top then (fun b => mv A W a col * mv A W top b + mv A W a b) else mv A W a
  | 0, _, a => by rw [if_neg (by omega)]; rfl
  | k + 1, hk, a => by
    have ih := mv_el h ht hc k (by omega)
    obtain ⟨hT, hTl⟩ := h.el (col := col) ht k (by omega)
    have hE : el1 col top (k + 1) A = (if k ≠ top ∧ entry (el1 col top k A) k col ≠ 0 then macS (el1 col top k A) k top (entry (el1 col top k A) k col) else el1 col top k A) := rfl
    have hk2 : mv (el1 col top k A) W k = mv A W k := by rw [ih, if_neg (by omega)]
    have ht2 : mv (el1 col top k A) W top = mv A W top := by rw [ih, if_neg (by omega)]
    have hkc : toE (entry (el1 col top k A) k col) = mv A W k col := by rw [← hk2, mv_at hc]
    rw [hE]
    generalize el1 col top k A = T at *
    by_cases e : k ≠ top ∧ entry T k col ≠ 0
    · rw [if_pos e, mv_mac hT (hT.byte (by omega) hc) (by omega) (by omega)]
      by_cases e2 : a = k
      · subst e2
        rw [if_pos rfl, if_pos ⟨by omega, e.1⟩, hkc, ht2, hk2]
      · rw [if_neg e2, ih]
        by_cases e3 : a < k ∧ a ≠ top
        · rw [if_pos e3, if_pos ⟨by omega, e3.2⟩]
        · rw [if_neg e3, if_neg (by omega)]
    · rw [if_neg e, ih]
      by_cases e3 : a < k ∧ a ≠ top
      · rw [if_pos e3, if_pos ⟨by omega, e3.2⟩]
      · rw [if_neg e3]
        by_cases e4 : a < k + 1 ∧ a ≠ top
        · rw [if_pos e4]
          obtain rfl : a = k := by omega
          have h0 : entry T a col = 0 := Classical.byContradiction fun hn => e ⟨e4.2, hn⟩
          rw [h0, toE_zero] at hkc
          funext b
          rw [← hkc, zero_mul, zero_add]
        · rw [if_neg e4]
theorem span_iff {b c : Nat → Vec} {n : Nat} (h1 : ∀ i, i < n → Span b n (c i)) (h2 : ∀ i, i < n → Span c n (b i)) (v : Vec) : Span c n v ↔ Span b n v := ⟨span_trans h1, span_trans h2⟩
theorem span_swap {A : List (List Int)} {W top i : Nat} {o : Int} (h : Sh A W) (ho : 0 ≤ o ∧ o < 256) (h0 : toE o ≠ 0) (ht : top < A.length) (hi : i < A.length) (v : Vec) : Span (mv (swapS o A top i) W) A.length v ↔ Span (mv A W) A.length v := by
  have hm := mv_swap h ho ht hi
  refine span_iff (fun a ha => ?_) (fun a ha => ?_) v
  · rw [hm]
    split
    · exact span_mul _ (span_mem _ hi)
    · split
      · exact span_mem _ ht
      · exact span_mem _ ha
  · by_cases e1 : a = i
    · subst e1
      have : mv A W a = fun b => (toE o).inv * mv (swapS o A top a) W top b := by
        funext b
        rw [hm, if_pos rfl, ← mul_assoc, inv_mul h0, one_mul]
      rw [this]
      exact span_mul _ (span_mem _ ht)
    · by_cases e2 : a = top
      · subst e2
        have : mv A W a = mv (swapS o A a i) W i := by rw [hm, if_neg (fun e => e1 e.symm), if_pos rfl]
        rw [this]
        exact span_mem _ hi
      · have : mv A W a = mv (swapS o A top i) W a := by rw [hm, if_neg e2, if_neg e1]
        rw [this]
        exact span_mem _ ha
theorem span_el {A : List (List Int)} {W top col : Nat} (h : Sh A W) (ht : top < A.length) (hc : col < W) (v : Vec) : Span (mv (el1 col top A.length A) W) A.length v ↔ Span (mv A W) A.length v := by
  have hm := mv_el h ht hc A.length (Nat.le_refl _)
  refine span_iff (fun a ha => ?_) (fun a ha => ?_) v
  · rw [hm]
    split
    · exact span_add (span_mul _ (span_mem _ ht)) (span_mem _ ha)
    · exact span_mem _ ha
  · by_cases e : a = top
    · subst e
      have : mv A W a = mv (el1 col a A.length A) W a := by rw [hm, if_neg (fun hh => hh.2 rfl)]
      rw [this]
      exact span_mem _ ha
    · have : mv A W a = fun b => mv A W a col * mv (el1 col top A.length A) W top b + mv (el1 col top A.length A) W a b := by
        funext b
        rw [hm, hm, if_neg (fun hh => hh.2 rfl), if_pos ⟨ha, e⟩, ← add_assoc, add_self, zero_add]
      rw [this]
      exact span_add (span_mul _ (span_mem _ ht)) (span_mem _ ha)
def pv (P : List Int) (i : Nat) : Nat := (P.getD i 0).toNat
theorem pv_last (P : List Int) (j : Nat) : pv (P ++ [(j : Int)]) P.length = j := by
  unfold pv
  rw [List.getD_eq_getElem?_getD, List.getElem?_append_right (Nat.le_refl _), Nat.sub_self]
  rfl
theorem pv_init {P : List Int} {j i : Nat} (hi : i < P.length) : pv (P ++ [(j : Int)]) i = pv P i := by
  unfold pv
  rw [List.getD_eq_getElem?_getD, List.getElem?_append_left hi, ← List.getD_eq_getElem?_getD]
/-- Columns to j are reduced. -/
structure RI (A S : List (List Int)) (W j : Nat) (P : List Int) : Prop where
  sh : Sh S W
  len : S.length = A.length
  tn : P.length ≤ A.length
  nat : ∀ i, i < P.length → P.getD i 0 = (pv P i : Int)
  lt : ∀ i, i < P.length → pv P i < j
  mono : ∀ i k, i < k → k < P.length → pv P i < pv P k
  one : ∀ i, i < P.length → ∀ a, a < A.length → mv S W a (pv P i) = if a = i then 1 else 0
  low : ∀ a, P.length ≤ a → a < A.length → ∀ b, b < j → mv S W a b = 0
  lead : ∀ i, i < P.length → ∀ b, b < pv P i → mv S W i b = 0
  span : ∀ v, Span (mv S W) A.length v ↔ Span (mv A W) A.length v
theorem RI.step {A S : List (List Int)} {W j : Nat} {P : List Int} (h : RI A S W j P) (hj : j < W) {x : Nat} (hx : P.length ≤ x) (hxn : x < A.length) (h0 : entry S x j ≠ 0) :
    RI A (el1 j P.length S.length (swapS (invT (entry S x j)) S P.length x)) W (j + 1) (P ++ [(j : Int)]) := by
  have hlen := h.len
  have hb := h.sh.byte (i := x) (j := j) (by omega) hj
  have ho := invT_range hb h0
  have hxl : x < S.length := by omega
  have htl : P.length < S.length := by omega
  have hsw := h.sh.swap ho htl hxl
  have hsl : (swapS (invT (entry S x j)) S P.length x).length = S.length := by simp [swapS]
  have hB := mv_swap h.sh ho htl hxl
  have hel := hsw.el (col := j) (top := P.length) (by omega) S.length (by omega)
  have hmE := mv_el hsw (top := P.length) (col := j) (by omega) hj S.length (by omega)
  have hsp1 := span_swap h.sh ho (invT_ne hb h0) htl hxl
  have hsp2 := span_el hsw (top := P.length) (col := j) (by omega) hj
  have hp1 : toE (invT (entry S x j)) * mv S W x j = 1 := by rw [mv_at hj]; exact invT_mul hb h0
  rw [hsl] at hsp2
  generalize swapS (invT (entry S x j)) S P.length x = B at *
  generalize toE (invT (entry S x j)) = o at *
  -- the row that has come up
  have hT : ∀ b, b < j → mv B W P.length b = 0 := fun b hbj => by
    rw [hB, if_pos rfl]
    show o * mv S W x b = 0
    rw [h.low x hx hxn b hbj, mul_zero]
  have hTj : mv B W P.length j = 1 := by rw [hB, if_pos rfl]; exact hp1
  have hlow : ∀ a, P.length < a → a < A.length → ∀ b, b < j → mv B W a b = 0 := fun a h1 h2 b hbj => by
    rw [hB, if_neg (by omega)]
    split
    · exact h.low _ (Nat.le_refl _) (by omega) b hbj
    · exact h.low a (by omega) h2 b hbj
  have htop : ∀ a, a < P.length → mv B W a = mv S W a := fun a ha => by rw [hB, if_neg (by omega), if_neg (by omega)]
  have hcol : ∀ i, i < P.length → ∀ a, a < A.length → mv B W a (pv P i) = if a = i then 1 else 0 := fun i hi a ha => by
    have hpj := h.lt i hi
    by_cases e : a < P.length
    · rw [htop a e]; exact h.one i hi a ha
    · rw [if_neg (by omega)]
      by_cases e2 : a = P.length
      · subst e2; exact hT _ hpj
      · exact hlow a (by omega) ha _ hpj
  have hE : ∀ a, a < A.length → mv (el1 j P.length S.length B) W a = if a ≠ P.length then (fun b => mv B W a j * mv B W P.length b + mv B W a b) else mv B W a := fun a ha => by
    rw [hmE]
    by_cases e : a = P.length
    · rw [if_neg (fun hh => hh.2 e), if_neg (fun hh => hh e)]
    · rw [if_pos ⟨by omega, e⟩, if_pos e]
  have hEj : ∀ a, a < A.length → mv (el1 j P.length S.length B) W a j = if a = P.length then 1 else 0 := fun a ha => by
    rw [hE a ha]
    by_cases e : a = P.length
    · subst e
      rw [if_neg (fun hh => hh rfl), if_pos rfl, hTj]
    · rw [if_pos e, if_neg e]
      show mv B W a j * mv B W P.length j + mv B W a j = 0
      rw [hTj, mul_one, add_self]
  have hElo : ∀ a, a < A.length → ∀ b, b < j → mv (el1 j P.length S.length B) W a b = mv B W a b := fun a ha b hb => by
    rw [hE a ha]
    split
    · show mv B W a j * mv B W P.length b + mv B W a b = _
      rw [hT b hb, mul_zero, zero_add]
    · rfl
  have hL : (P ++ [(j : Int)]).length = P.length + 1 := by simp
  refine ⟨hel.1, by omega, by omega, fun i hi => ?_, fun i hi => ?_, fun i k hik hk => ?_, fun i hi a ha => ?_, fun a h1 h2 b hbj => ?_, fun i hi b hbi => ?_, fun v => ?_⟩
  · rw [hL] at hi
    by_cases e : i = P.length
    · subst e
      rw [pv_last, List.getD_eq_getElem?_getD, List.getElem?_append_right (Nat.le_refl _), Nat.sub_self]
      rfl
    · rw [pv_init (by omega), ← h.nat i (by omega), List.getD_eq_getElem?_getD, List.getElem?_append_left (by omega), ← List.getD_eq_getElem?_getD]
  · rw [hL] at hi
    by_cases e : i = P.length
    · subst e; rw [pv_last]; omega
    · rw [pv_init (by omega)]; have := h.lt i (by omega); omega
  · rw [hL] at hk
    by_cases e : k = P.length
    · subst e; rw [pv_last, pv_init hik]; exact h.lt i hik
    · rw [pv_init (by omega), pv_init (by omega)]; exact h.mono i k hik (by omega)
  · rw [hL] at hi
    by_cases e : i = P.length
    · subst e; rw [pv_last]; exact hEj a ha
    · rw [pv_init (by omega), hElo a ha _ (h.lt i (by omega))]
      exact hcol i (by omega) a ha
  · rw [hL] at h1
    by_cases e : b = j
    · subst e
      rw [hEj a h2, if_neg (by omega)]
    · rw [hElo a h2 b (by omega)]
      exact hlow a (by omega) h2 b (by omega)
  · rw [hL] at hi
    by_cases e : i = P.length
    · subst e
      rw [pv_last] at hbi
      rw [hElo _ (by omega) b hbi]
      exact hT b hbi
    · rw [pv_init (by omega)] at hbi
      have hlt := h.lt i (by omega)
      rw [hElo i (by omega) b (by omega), htop i (by omega)]
      exact h.lead i (by omega) b hbi
  · rw [← h.span, ← hlen, hsp2 v]
    exact hsp1 v
theorem redA_inv {A : List (List Int)} {W : Nat} (h : Sh A W) : ∀ j, j ≤ W → RI A (redA A j).1 W j (redA A j).2
  | 0, _ => ⟨h, rfl, Nat.zero_le _, fun i hi => absurd hi (Nat.not_lt_zero _), fun i hi => absurd hi (Nat.not_lt_zero _), fun i k _ hk => absurd hk (Nat.not_lt_zero _), fun i hi => absurd hi (Nat.not_lt_zero _), fun a _ _ b hb => absurd hb (Nat.not_lt_zero _), fun i hi => absurd hi (Nat.not_lt_zero _), fun v => Iff.rfl⟩
  | j + 1, hj => by
    have ih := redA_inv h j (by omega)
    show RI A (stepA j (redA A j)).1 W (j + 1) (stepA j (redA A j)).2
    generalize redA A j = T at *
    cases hf : firstIn T.1 T.2.length j with
    | none =>
      rw [stepA_none hf]
      have hz := seek_zero _ _ hf
      have hlen := ih.len
      exact ⟨ih.sh, ih.len, ih.tn, ih.nat, fun i hi => Nat.lt_succ_of_lt (ih.lt i hi), ih.mono, ih.one, fun a h1 h2 b hb => by
        by_cases e : b = j
        · subst e
          rw [mv_at (by omega), hz a h1 (by have := ih.tn; omega), toE_zero]
        · exact ih.low a h1 h2 b (by omega), ih.lead, ih.span⟩
    | some x =>
      obtain ⟨q1, q2, q3, _⟩ := seekCol_spec _ _ hf
      have hlen := ih.len
      have htn := ih.tn
      rw [stepA_some hf]
      exact ih.step (by omega) q1 (by omega) q3
theorem RI.rr {A S : List (List Int)} {W : Nat} {P : List Int} (h : RI A S W W P) : RR A.length W P.length (mv S W) (pv P) :=
  ⟨h.tn, h.lt, h.mono, h.one, fun a h1 h2 => funext fun b => by
    by_cases e : b < W
    · exact h.low a h1 h2 b e
    · exact mv_out e, h.lead, fun a _ b hb => mv_out (by omega)⟩
/-- The rank. -/
def rk (A : List (List Int)) (W : Nat) : Nat := (redA A W).2.length
theorem redA_rr {A : List (List Int)} {W : Nat} (h : Sh A W) : RR A.length W (rk A W) (mv (redA A W).1 W) (pv (redA A W).2) := (redA_inv h W (Nat.le_refl _)).rr
theorem redA_span {A : List (List Int)} {W : Nat} (h : Sh A W) (v : Vec) : Span (mv (redA A W).1 W) A.length v ↔ Span (mv A W) A.length v := (redA_inv h W (Nat.le_refl _)).span v
theorem rk_dim {A : List (List Int)} {W : Nat} (h : Sh A W) : Dim (Span (mv A W) A.length) (rk A W) := dim_congr (redA_span h) (redA_rr h).dim
end Go.Proofs.Ytccfbhnhedoggaa.M
