import Derived.Test.YtccfbhnhedoggaaQx35
import Derived.Test.YtccfbhnhedoggaaQx37
import Derived.Test.YtccfbhnhedoggaaGRed
namespace Go.Proofs.Ytccfbhnhedoggaa.M
open Go.RowKit Go.Proofs.YtccfbhnhedoggaaW.PrintWords Go.Proofs.YtccfbhnhedoggaaW.PrintLast Go.Proofs.YtccfbhnhedoggaaW.PrintMore Go.Proofs.Ytccfbhnhedoggaa.Q
set_option linter.unusedVariables false
/-! ### Transpose -/
theorem right_of {r c : Nat} {l : List Int} (hr : r ≤ 64) (hc : c ≤ 64) (hl : l.length = r * c) : matrix_Right.f (r : Int) (c : Int) l = some true ∧ recoupref03_Right.f (r : Int) (c : Int) l = some true := by
 have hf := flat_rowsOf r l hl
 have hlen := rowsOf_length c r l
 have h1 := Right_true hf.2 (by omega) hc
 rw [hf.1, hlen] at h1
 exact ⟨(Right_eq (a := (r : Int)) (b := (c : Int)) (l := l) (by omega)) ▸ h1, h1⟩
theorem trans_length (r c : Nat) (l : List Int) : (transL r c l).length = c * r := by simp [transL]
theorem trans_getD {r c i j : Nat} {l : List Int} (hi : i < c) (hj : j < r) : (transL r c l).getD (i * r + j) 0 = l.getD (j * c + i) 0 := by
 have hq := idx_lt (c := r) hi hj
 unfold transL
 rw [List.getD_eq_getElem?_getD, List.getElem?_map, List.getElem?_range hq]
 show l.getD ((i * r + j) % r * c + (i * r + j) / r) 0 = _
 have e1 : (i * r + j) % r = j := by rw [Nat.mul_comm, Nat.mul_add_mod, Nat.mod_eq_of_lt hj]
 have e2 : (i * r + j) / r = i := by
  rw [Nat.mul_comm, Nat.mul_add_div (by omega), Nat.div_eq_of_lt hj, Nat.add_zero]
 rw [e1, e2]
theorem rows_entry {r c i j : Nat} {l : List Int} (hl : l.length = r * c) (hi : i < r) (hj : j < c) : entry (rowsOf c r l) i j = l.getD (i * c + j) 0 := by
 have hf := flat_rowsOf r l hl
 have := flat_get hf.2 (by rw [rowsOf_length]; exact hi) hj
 rw [hf.1] at this
 exact this.symm
theorem trans_entry {r c i j : Nat} {l : List Int} (hl : l.length = r * c) (hi : i < c) (hj : j < r) : entry (rowsOf r c (transL r c l)) i j = entry (rowsOf c r l) j i := by
 rw [rows_entry (trans_length r c l) hi hj, rows_entry hl hj hi, trans_getD hi hj]
theorem getD_bytes {l : List Int} (h : bytesB l = true) (q : Nat) : 0 ≤ l.getD q 0 ∧ l.getD q 0 < 256 := by
 by_cases e : q < l.length
 ·exact bytesB_at h e
 ·rw [List.getD_eq_getElem?_getD, List.getElem?_eq_none (by omega)]
  exact ⟨by decide, by decide⟩
theorem trans_bytes {r c : Nat} {l : List Int} (h : bytesB l = true) : bytesB (transL r c l) = true := by
 unfold bytesB
 rw [List.all_eq_true]
 intro x hx
 unfold transL at hx
 obtain ⟨q, _, rfl⟩ := List.mem_map.1 hx
 have := getD_bytes h (q % r * c + q / r)
 rw [Bool.and_eq_true, decide_eq_true_eq, decide_eq_true_eq]
 exact this
theorem gTrans_eq {r c : Nat} {l : List Int} (h : matrix_Right.f (r : Int) (c : Int) l = some true) : matrix_Transpose.f (r : Int) (c : Int) l = some ((c : Int), (r : Int), transL r c l, 0) := by
 unfold matrix_Transpose.f
 rw [h, Option.bind_some, if_pos rfl]
 rfl
theorem gTrans_bad {a b : Int} {l : List Int} (h : matrix_Right.f a b l = some false) : matrix_Transpose.f a b l = some (0, 0, [], 3) := by
 unfold matrix_Transpose.f
 rw [h, Option.bind_some, if_neg (by decide)]
abbrev TR := Int × Int × List Int × Int
theorem Trans_l1 {r c : Nat} {l : List Int} (hr : r ≤ 64) (hc : c ≤ 64) (hl : l.length = r * c) {i : Nat} (hi : i < c) (a b : Int) {R : TR}
  (hR : Ends (fun q => recoupref03_Transpose.l0 q ((i + 1 : Nat) : Int) (r : Int) (c : Int) l a b ((transL r c l).take ((i + 1) * r))) R) :
  ∀ n j : Nat, j + n = r → Ends (fun q => recoupref03_Transpose.l1 q (i : Int) (j : Int) (r : Int) (c : Int) l a b ((transL r c l).take (i * r + j))) R
 | 0, j, hj => by
  obtain rfl : j = r := by omega
  have hi4 : i ≤ 4096 := by omega
  refine Ends.succ (fun k => by rw [recoupref03_Transpose.l1]) ?_
  refine Ends.neg (by omega) ?_
  rw [i64_succ hi4, ← Nat.succ_mul]
  exact hR
 | n + 1, j, hj => by
  have hjr : j < r := by omega
  have hj4 : j ≤ 4096 := by omega
  have hf := flat_rowsOf r l hl
  have hlen := rowsOf_length c r l
  have ha := At_eq hf.2 (by omega) hc (i := j) (j := i) (by omega) hi (r : Int)
  rw [hf.1] at ha
  have hq := idx_lt (c := r) hi hjr
  have htl := trans_length r c l
  have hcr : c * r ≤ 64 * 64 := Nat.mul_le_mul hc hr
  refine Ends.succ (fun k => by rw [recoupref03_Transpose.l1]) ?_
  refine Ends.pos (by omega) ?_
  refine Ends.bind1 ha ?_
  refine Ends.pos (by rw [List.length_take, htl]; omega) ?_
  have e : (transL r c l).take (i * r + j) ++ [entry (rowsOf c r l) j i] = (transL r c l).take (i * r + (j + 1)) := by
   rw [← Nat.add_assoc, List.take_succ_eq_append_getElem (by omega)]
   congr 2
   rw [rows_entry hl hjr hi, ← trans_getD hi hjr, List.getD_eq_getElem?_getD, List.getElem?_eq_getElem (by omega)]
   rfl
  rw [e, i64_succ hj4]
  exact Trans_l1 hr hc hl hi a b hR n (j + 1) (by omega)
theorem Trans_l0 {r c : Nat} {l : List Int} (hr : r ≤ 64) (hc : c ≤ 64) (hl : l.length = r * c) (a b : Int) : ∀ n i : Nat, i + n = c → Ends (fun q => recoupref03_Transpose.l0 q (i : Int) (r : Int) (c : Int) l a b ((transL r c l).take (i * r))) (a, b, transL r c l, 0)
 | 0, i, hi => by
  obtain rfl : i = c := by omega
  refine Ends.succ (fun k => by rw [recoupref03_Transpose.l0]) ?_
  refine Ends.neg (by omega) ?_
  rw [List.take_of_length_le (by rw [trans_length]; exact Nat.le_refl _)]
  exact Ends.const rfl
 | n + 1, i, hi => by
  refine Ends.succ (fun k => by rw [recoupref03_Transpose.l0]) ?_
  refine Ends.pos (by omega) ?_
  exact Trans_l1 hr hc hl (by omega) a b (Trans_l0 hr hc hl a b n (i + 1) (by omega)) r 0 (by omega)
theorem Trans_ends {r c : Nat} {l : List Int} (hr : r ≤ 64) (hc : c ≤ 64) (hl : l.length = r * c) : Ends (fun k => recoupref03_Transpose.f k (r : Int) (c : Int) l) ((c : Int), (r : Int), transL r c l, 0) := by
 unfold recoupref03_Transpose.f
 refine Ends.bind1 (right_of hr hc hl).2 (Ends.pos rfl ?_)
 have := Trans_l0 hr hc hl (c : Int) (r : Int) c 0 (by omega)
 rw [Nat.zero_mul, List.take_zero] at this
 exact this
theorem sh_rows {r c : Nat} {l : List Int} (hb : bytesB l = true) (hl : l.length = r * c) (hr : r ≤ 64) (hc : c ≤ 64) : Sh (rowsOf c r l) c := Sh.of1 (shp_nil hb hl ⟨hr, hc⟩)
/-- The columns of the matrix turned over are its rows. -/
theorem col_trans {r c b : Nat} {l : List Int} (hl : l.length = r * c) (hb : b < r) : col c (mv (rowsOf r c (transL r c l)) r) b = mv (rowsOf c r l) c b := by
 funext a
 unfold col mv
 by_cases ha : a < c
 ·rw [if_pos ha, if_pos hb, if_pos ha, trans_entry hl ha hb]
 ·rw [if_neg ha, if_neg ha]
theorem span_congr {b c : Nat → Vec} {n : Nat} (h : ∀ i, i < n → b i = c i) (v : Vec) : Span b n v ↔ Span c n v :=
 ⟨fun ⟨x, e⟩ => ⟨x, e.trans (lc_congr h fun _ _ => rfl)⟩, fun ⟨x, e⟩ => ⟨x, e.trans (lc_congr (fun i hi => (h i hi).symm) fun _ _ => rfl)⟩⟩
/-- The pivots of the matrix turned over. -/
def fstP (r c : Nat) (l : List Int) : List Int := (redA (rowsOf r c (transL r c l)) r).2
theorem trans_rr {r c : Nat} {l : List Int} (hb : bytesB l = true) (hl : l.length = r * c) (hr : r ≤ 64) (hc : c ≤ 64) :
  RI (rowsOf r c (transL r c l)) (redA (rowsOf r c (transL r c l)) r).1 r r (fstP r c l) := redA_inv (sh_rows (trans_bytes hb) (trans_length r c l) hc hr) r (Nat.le_refl _)
/-- The rank of the first rows is the number of pivots below. -/
theorem prefix_dim {r c i : Nat} {l : List Int} (hb : bytesB l = true) (hl : l.length = r * c) (hr : r ≤ 64) (hc : c ≤ 64) (hi : i ≤ r) :
  Dim (Span (mv (rowsOf c r l) c) i) (below (pv (fstP r c l)) i (fstP r c l).length) := by
 have h := trans_rr hb hl hr hc
 have hd := h.rr.col_dim (N := mv (rowsOf r c (transL r c l)) r) (fun v => (h.span v).symm) hi
 have hn := rowsOf_length r c (transL r c l)
 rw [hn] at hd
 exact dim_congr (span_congr fun b hb' => col_trans hl (by omega)) hd
theorem rowsOf_elem {r c p : Nat} {l : List Int} (h : p < (rowsOf c r l).length) : (rowsOf c r l)[p] = (l.drop (p * c)).take c := by simp [rowsOf]
theorem prefix_rows {r c i : Nat} {l : List Int} (hl : l.length = r * c) (hi : i ≤ r) : rowsOf c i (l.take (i * c)) = (rowsOf c r l).take i := by
 have hic : i * c ≤ r * c := Nat.mul_le_mul_right _ hi
 refine List.ext_getElem (by rw [rowsOf_length, List.length_take, rowsOf_length]; omega) fun p h1 h2 => ?_
 rw [List.getElem_take, rowsOf_elem, rowsOf_elem, List.drop_take, List.take_take]
 rw [rowsOf_length] at h1
 have : (p + 1) * c ≤ i * c := Nat.mul_le_mul_right _ h1
 rw [Nat.succ_mul] at this
 rw [Nat.min_eq_left (by omega)]
theorem prefix_rk {r c i : Nat} {l : List Int} (hb : bytesB l = true) (hl : l.length = r * c) (hr : r ≤ 64) (hc : c ≤ 64) (hi : i ≤ r) : (redL i c (l.take (i * c))).2.length = below (pv (fstP r c l)) i (fstP r c l).length := by
 have hic : i * c ≤ r * c := Nat.mul_le_mul_right _ hi
 have hl2 : (l.take (i * c)).length = i * c := by rw [List.length_take]; omega
 have hsh := sh_rows (bytesB_take hb (i * c)) hl2 (by omega : i ≤ 64) hc
 have hd := rk_dim hsh
 have e : (redL i c (l.take (i * c))).2 = (redA (rowsOf c i (l.take (i * c))) c).2 := (Prod.mk.inj (red_fst (rowsOf c i (l.take (i * c))) (List.replicate i []) c)).2
 rw [e]
 show rk (rowsOf c i (l.take (i * c))) c = _
 rw [rowsOf_length] at hd
 refine dim_unique hd (dim_congr (span_congr fun a ha => ?_) (prefix_dim hb hl hr hc hi))
 funext b
 unfold mv
 by_cases hbc : b < c
 ·rw [if_pos hbc, if_pos hbc, prefix_rows hl hi]
  unfold entry
  rw [List.getD_eq_getElem?_getD, List.getD_eq_getElem?_getD (l := (rowsOf c r l).take i), List.getElem?_take_of_lt ha]
  rfl
 ·rw [if_neg hbc, if_neg hbc]
theorem below_step {p : Nat → Nat} {t i : Nat} (m : ∀ i k, i < k → k < t → p i < p k) : below p (i + 1) t = if below p i t < t ∧ p (below p i t) = i then below p i t + 1 else below p i t := by
 have l1 := below_le p i t
 have l2 := below_le p (i + 1) t
 have b1 := below_iff (b := i) m
 have b2 := below_iff (b := i + 1) m
 have key : ∀ s' s : Nat, s ≤ t → s' ≤ t → (∀ k, k < t → (k < s ↔ k < s')) → s = s' := fun s' s h1 h2 h => by
  rcases Nat.lt_trichotomy s s' with h3 | h3 | h3
  ·have := (h s (by omega)).2 h3; omega
  ·exact h3
  ·have := (h s' (by omega)).1 h3; omega
 by_cases e : below p i t < t ∧ p (below p i t) = i
 ·rw [if_pos e]
  refine key _ _ l2 (by omega) fun k hk => ?_
  rw [b2 k hk]
  constructor
  ·intro h
   by_cases h1 : k < below p i t
   ·omega
   ·by_cases h2 : k = below p i t
    ·omega
    ·have := m (below p i t) k (by omega) hk; omega
  ·intro h
   by_cases h1 : k < below p i t
   ·have := (b1 k hk).1 h1; omega
   ·have : k = below p i t := by omega
    rw [this, e.2]; omega
 ·rw [if_neg e]
  refine key _ _ l2 l1 fun k hk => ?_
  rw [b2 k hk, b1 k hk]
  constructor
  ·intro h
   by_cases h1 : p k = i
   ·exfalso
    refine e ?_
    have h2 : ¬ k < below p i t := fun h3 => by have := (b1 k hk).1 h3; omega
    have h4 : below p i t = k := by
     rcases Nat.lt_or_ge (below p i t) k with h5 | h5
     ·have h6 := m _ k h5 hk
      have := (b1 (below p i t) (by omega)).2 (by omega)
      omega
     ·omega
    rw [h4]
    exact ⟨hk, h1⟩
   ·omega
  ·intro h; omega
theorem below_all {p : Nat → Nat} {b : Nat} : ∀ t, (∀ i, i < t → p i < b) → below p b t = t
 | 0, _ => rfl
 | t + 1, h => by
  have := below_all t fun i hi => h i (by omega)
  unfold below
  rw [if_pos (h t (by omega)), this]
end Go.Proofs.Ytccfbhnhedoggaa.M
