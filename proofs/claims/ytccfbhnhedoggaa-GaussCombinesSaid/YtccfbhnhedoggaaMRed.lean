/- Reduced rows: what a reduced form tells of the span, the kernel and the columns. Plain: no program in sight. -/
import Derived.Test.YtccfbhnhedoggaaMLin
namespace Go.Proofs.Ytccfbhnhedoggaa.M
set_option linter.unusedVariables false
/-- n rows, of which the first t have their first entry, a 1, at rising places, alone in their columns; the others are nothing. -/
structure RR (n W t : Nat) (S : Nat → Vec) (p : Nat → Nat) : Prop where
 tn : t ≤ n
 lt : ∀ i, i < t → p i < W
 mono : ∀ i k, i < k → k < t → p i < p k
 one : ∀ i, i < t → ∀ a, a < n → S a (p i) = if a = i then 1 else 0
 low : ∀ a, t ≤ a → a < n → S a = zv
 lead : ∀ i, i < t → ∀ b, b < p i → S i b = 0
 sup : ∀ a, a < n → ∀ b, W ≤ b → S a b = 0
section
variable {n W t : Nat} {S : Nat → Vec} {p : Nat → Nat}
theorem lc_low (hl : ∀ a, t ≤ a → a < n → S a = zv) (ht : t ≤ n) (x : Nat → El) : lc S n x = lc S t x := by
 funext j
 exact sm_take ht fun i h1 h2 => by rw [hl i h1 h2]; exact mul_zero _
theorem RR.at_piv (h : RR n W t S p) (x : Nat → El) {i : Nat} (hi : i < t) : lc S n x (p i) = x i := by
 have htn := h.tn
 show sm n (fun a => x a * S a (p i)) = x i
 rw [sm_one (k := i) (by omega) fun a ha hne => by rw [h.one i hi a ha, if_neg hne, mul_zero]]
 rw [h.one i hi i (by omega), if_pos rfl, mul_one]
theorem RR.coord (h : RR n W t S p) {v : Vec} (hv : Span S n v) : v = lc S t (fun i => v (p i)) := by
 obtain ⟨x, rfl⟩ := hv
 have : lc S n x = lc S t x := lc_low h.low h.tn x
 rw [this]
 refine lc_congr (fun _ _ => rfl) fun i hi => ?_
 rw [← this]
 exact (h.at_piv x hi).symm
theorem RR.indep (h : RR n W t S p) : Indep S t := by
 intro x hx i hi
 have e : lc S n (fun a => if a < t then x a else 0) = zv := by
  rw [lc_low h.low h.tn, ← hx]
  exact lc_congr (fun _ _ => rfl) fun a ha => if_pos ha
 have := h.at_piv (fun a => if a < t then x a else 0) hi
 rw [e, if_pos hi] at this
 exact this.symm
theorem RR.dim (h : RR n W t S p) : Dim (Span S n) t := ⟨S, h.indep, fun i hi => span_mem S (by have := h.tn; omega), fun v hv => ⟨_, h.coord hv⟩⟩
theorem RR.sup_span (h : RR n W t S p) {v : Vec} (hv : Span S n v) {b : Nat} (hb : W ≤ b) : v b = 0 := by
 obtain ⟨x, rfl⟩ := hv
 exact sm_zero fun i hi => by rw [h.sup i hi b hb, mul_zero]
/-- The first entry of what is in the span stands at a pivot. -/
theorem RR.first (h : RR n W t S p) {v : Vec} (hv : Span S n v) (hne : v ≠ zv) : ∃ i, i < t ∧ v (p i) ≠ 0 ∧ ∀ b, b < p i → v b = 0 := by
 have hc := h.coord hv
 have hex : ∃ i, i < t ∧ v (p i) ≠ 0 := Classical.byContradiction fun hn => hne (by
  rw [hc]
  rw [← lc_zero S t]
  exact lc_congr (fun _ _ => rfl) fun i hi => Classical.byContradiction fun h2 => hn ⟨i, hi, h2⟩)
 have hle : ∀ m, (∃ i, i < m ∧ i < t ∧ v (p i) ≠ 0) → ∃ i, i < t ∧ v (p i) ≠ 0 ∧ ∀ k, k < i → v (p k) = 0 := by
  intro m
  induction m with
  | zero => rintro ⟨i, hi, _⟩; omega
  | succ m ih =>
   rintro ⟨i, him, hi⟩
   by_cases e : ∃ i, i < m ∧ i < t ∧ v (p i) ≠ 0
   ·exact ih e
   ·refine ⟨i, hi.1, hi.2, fun k hk => Classical.byContradiction fun h2 => e ⟨k, by omega, by omega, h2⟩⟩
 obtain ⟨i, h1, h2, h3⟩ := hle t (by obtain ⟨i, a, b⟩ := hex; exact ⟨i, a, a, b⟩)
 refine ⟨i, h1, h2, fun b hb => ?_⟩
 rw [hc]
 refine sm_zero fun k hk => ?_
 show v (p k) * S k b = 0
 by_cases e : k < i
 ·rw [h3 k e, zero_mul]
 ·have : b < p k := by
   by_cases e2 : k = i
   ·rw [e2]; exact hb
   ·have := h.mono i k (by omega) hk; omega
  rw [h.lead k hk b this, mul_zero]
theorem RR.piv_iff (h : RR n W t S p) (q : Nat) : (∃ v, Span S n v ∧ v q ≠ 0 ∧ ∀ b, b < q → v b = 0) ↔ ∃ i, i < t ∧ p i = q := by
 constructor
 ·rintro ⟨v, hv, h1, h2⟩
  obtain ⟨i, hi, h3, h4⟩ := h.first hv (fun e => h1 (by rw [e]; rfl))
  refine ⟨i, hi, ?_⟩
  rcases Nat.lt_trichotomy (p i) q with h5 | h5 | h5
  ·exact absurd (h2 _ h5) h3
  ·exact h5
  ·exact absurd (h4 _ h5) h1
 ·rintro ⟨i, hi, rfl⟩
  have htn := h.tn
  refine ⟨S i, span_mem S (by omega), ?_, h.lead i hi⟩
  rw [h.one i hi i (by omega), if_pos rfl]
  exact one_ne_zero
/-- Rising places are told by what they hold. -/
theorem rise_eq {t t' : Nat} {p p' : Nat → Nat} (m : ∀ i k, i < k → k < t → p i < p k) (m' : ∀ i k, i < k → k < t' → p' i < p' k) (h : ∀ q, (∃ i, i < t ∧ p i = q) ↔ ∃ i, i < t' ∧ p' i = q) : t = t' ∧ ∀ i, i < t → p i = p' i := by
 have key : ∀ i, (i < t → i < t' ∧ p i = p' i) ∧ (i < t' → i < t ∧ p i = p' i) := by
  intro i
  induction i using Nat.strongRecOn with
  | _ i ih =>
   have a1 : i < t → ∃ k, k < t' ∧ p' k = p i ∧ i ≤ k := fun hi => by
    obtain ⟨k, hk, e⟩ := (h (p i)).1 ⟨i, hi, rfl⟩
    refine ⟨k, hk, e, Nat.le_of_not_lt fun hlt => ?_⟩
    have := ((ih k hlt).2 hk)
    have := m k i hlt hi
    omega
   have a2 : i < t' → ∃ k, k < t ∧ p k = p' i ∧ i ≤ k := fun hi => by
    obtain ⟨k, hk, e⟩ := (h (p' i)).2 ⟨i, hi, rfl⟩
    refine ⟨k, hk, e, Nat.le_of_not_lt fun hlt => ?_⟩
    have := ((ih k hlt).1 hk)
    have := m' k i hlt hi
    omega
   have fin : i < t → i < t' → p i = p' i := fun hi hi' => by
    obtain ⟨k, hk, e, hle⟩ := a1 hi
    obtain ⟨k', hk', e', hle'⟩ := a2 hi'
    have x1 : p' i ≤ p' k := by
     by_cases z : i = k
     ·rw [z]; exact Nat.le_refl _
     ·exact Nat.le_of_lt (m' i k (by omega) hk)
    have x2 : p i ≤ p k' := by
     by_cases z : i = k'
     ·rw [z]; exact Nat.le_refl _
     ·exact Nat.le_of_lt (m i k' (by omega) hk')
    omega
   refine ⟨fun hi => ?_, fun hi => ?_⟩
   ·obtain ⟨k, hk, _, hle⟩ := a1 hi
    exact ⟨by omega, fin hi (by omega)⟩
   ·obtain ⟨k, hk, _, hle⟩ := a2 hi
    exact ⟨by omega, fin (by omega) hi⟩
 refine ⟨?_, fun i hi => ((key i).1 hi).2⟩
 rcases Nat.lt_trichotomy t t' with h1 | h1 | h1
 ·have := ((key t).2 h1).1; omega
 ·exact h1
 ·have := ((key t').1 h1).1; omega
/-- The reduced form is told by the span. -/
theorem RR.unique {n' t' : Nat} {S' : Nat → Vec} {p' : Nat → Nat} (h : RR n W t S p) (h' : RR n' W t' S' p') (hs : ∀ v, Span S n v ↔ Span S' n' v) : t = t' ∧ (∀ i, i < t → p i = p' i) ∧ ∀ i, i < t → S i = S' i := by
 have hp := rise_eq h.mono h'.mono fun q => by
  rw [← h.piv_iff q, ← h'.piv_iff q]
  exact ⟨fun ⟨v, a, b⟩ => ⟨v, (hs v).1 a, b⟩, fun ⟨v, a, b⟩ => ⟨v, (hs v).2 a, b⟩⟩
 obtain ⟨rfl, hp⟩ := hp
 refine ⟨rfl, hp, fun i hi => ?_⟩
 have htn := h.tn
 have htn' := h'.tn
 have h1 := h'.coord ((hs _).1 (span_mem S (n := n) (k := i) (by omega)))
 rw [h1, ← lc_unit S' hi]
 refine lc_congr (fun _ _ => rfl) fun k hk => ?_
 show S i (p' k) = _
 rw [← hp k hk, h.one k hk i (by omega)]
 by_cases e : k = i
 ·rw [if_pos e.symm, if_pos e]
 ·rw [if_neg (fun x => e x.symm), if_neg e]
end
/-! ### what rows send to nothing -/
def dot (W : Nat) (r x : Vec) : El := sm W (fun b => r b * x b)
theorem dot_lc (W : Nat) (b : Nat → Vec) (n : Nat) (y : Nat → El) (x : Vec) : dot W (lc b n y) x = sm n (fun i => y i * dot W (b i) x) := by
 unfold dot lc
 have e : sm W (fun j => sm n (fun i => y i * b i j) * x j) = sm W (fun j => sm n (fun i => y i * (b i j * x j))) := sm_congr fun j _ => by
  rw [← sm_mul_right]
  exact sm_congr fun i _ => mul_assoc _ _ _
 rw [e, ← sm_swap]
 exact sm_congr fun i _ => by rw [sm_mul]
theorem dot_comm (W : Nat) (r x : Vec) : dot W r x = dot W x r := sm_congr fun _ _ => mul_comm _ _
theorem dot_add (W : Nat) (r x y : Vec) : dot W r (fun j => x j + y j) = dot W r x + dot W r y := by
 unfold dot
 rw [← sm_add]
 exact sm_congr fun _ _ => mul_add _ _ _
theorem dot_mul (W : Nat) (r x : Vec) (a : El) : dot W r (fun j => a * x j) = a * dot W r x := by
 unfold dot
 rw [← sm_mul]
 exact sm_congr fun _ _ => mul_left_comm _ _ _
/-- Sent to nothing. -/
def Ker (W n : Nat) (b : Nat → Vec) (x : Vec) : Prop := ∀ i, i < n → dot W (b i) x = 0
theorem ker_span {W n m : Nat} {b c : Nat → Vec} {x : Vec} (h : ∀ i, i < m → Span b n (c i)) (k : Ker W n b x) : Ker W m c x := fun i hi => by
 obtain ⟨y, e⟩ := h i hi
 rw [e, dot_lc]
 exact sm_zero fun a ha => by rw [k a ha, mul_zero]
theorem ker_same {W n m : Nat} {b c : Nat → Vec} {x : Vec} (h : ∀ v, Span b n v ↔ Span c m v) : Ker W n b x ↔ Ker W m c x :=
 ⟨ker_span fun i hi => (h _).2 (span_mem c hi), ker_span fun i hi => (h _).1 (span_mem b hi)⟩
section
variable {n W t : Nat} {S : Nat → Vec} {p : Nat → Nat}
/-- Column b's entries at the pivots' places, and a 1 at b. -/
def RR.kv (S : Nat → Vec) (p : Nat → Nat) (t b : Nat) : Vec := fun j => (if j = b then 1 else 0) + sm t (fun i => if j = p i then S i b else 0)
theorem RR.dot_piv (h : RR n W t S p) {x : Vec} (hx : ∀ j, j < W → (∀ i, i < t → j ≠ p i) → x j = 0) {a : Nat} (ha : a < t) : dot W (S a) x = x (p a) := by
 have htn := h.tn
 unfold dot
 rw [sm_one (k := p a) (h.lt a ha) fun j hj hne => ?_]
 ·rw [h.one a ha a (by omega), if_pos rfl, one_mul]
 ·by_cases e : ∃ i, i < t ∧ j = p i
  ·obtain ⟨i, hi, rfl⟩ := e
   rw [h.one i hi a (by omega), if_neg (fun e => hne (by rw [e])), zero_mul]
  ·rw [hx j hj fun i hi e2 => e ⟨i, hi, e2⟩, mul_zero]
theorem RR.inj (h : RR n W t S p) {i k : Nat} (hi : i < t) (hk : k < t) (e : p i = p k) : i = k := by
 rcases Nat.lt_trichotomy i k with h1 | h1 | h1
 ·have := h.mono i k h1 hk; omega
 ·exact h1
 ·have := h.mono k i h1 hi; omega
theorem RR.kv_piv (h : RR n W t S p) {b : Nat} (hb : ∀ i, i < t → b ≠ p i) {i : Nat} (hi : i < t) : RR.kv S p t b (p i) = S i b := by
 unfold RR.kv
 rw [if_neg (fun e => hb i hi e.symm), zero_add, sm_one (k := i) hi fun k hk hne => if_neg fun e => hne (h.inj hi hk e).symm, if_pos rfl]
theorem RR.kv_other {b j : Nat} (hj : ∀ i, i < t → j ≠ p i) : RR.kv S p t b j = if j = b then 1 else 0 := by
 unfold RR.kv
 rw [sm_zero fun i hi => if_neg (hj i hi), add_zero]
theorem RR.kv_ker (h : RR n W t S p) {b : Nat} (hbW : b < W) (hb : ∀ i, i < t → b ≠ p i) : Ker W n S (RR.kv S p t b) := fun a ha => by
 by_cases hat : a < t
 ·have e : RR.kv S p t b = fun j => (if j = b then 1 else 0) + sm t (fun i => if j = p i then S i b else 0) := rfl
  rw [e, dot_add]
  have e1 : dot W (S a) (fun j => if j = b then 1 else 0) = S a b := by
   show sm W (fun j => S a j * (if j = b then 1 else 0)) = S a b
   rw [sm_one (k := b) hbW fun j hj hne => by rw [if_neg hne, mul_zero], if_pos rfl, mul_one]
  have e2 := h.dot_piv (x := fun j => sm t (fun i => if j = p i then S i b else 0)) (fun j hj hn => sm_zero fun i hi => if_neg (hn i hi)) hat
  rw [e1, e2]
  show S a b + sm t (fun i => if p a = p i then S i b else 0) = 0
  rw [sm_one (k := a) hat fun k hk hne => if_neg fun e => hne (h.inj hat hk e).symm, if_pos rfl, add_self]
 ·rw [h.low a (by omega) ha]
  exact sm_zero fun j _ => zero_mul _
/-- What is sent to nothing is told by its entries that are at no pivot. -/
theorem RR.ker_at (h : RR n W t S p) {x : Vec} (hx : Ker W n S x) {a : Nat} (ha : a < t) : x (p a) = sm W (fun j => if ∃ i, i < t ∧ j = p i then 0 else S a j * x j) := by
 have htn := h.tn
 have e := hx a (by omega)
 unfold dot at e
 have e1 : sm W (fun b => S a b * x b) = sm W (fun j => (if ∃ i, i < t ∧ j = p i then S a j * x j else 0) + (if ∃ i, i < t ∧ j = p i then 0 else S a j * x j)) := sm_congr fun j _ => by
  split
  ·rw [add_zero]
  ·rw [zero_add]
 rw [e1, sm_add] at e
 have e2 : sm W (fun j => if ∃ i, i < t ∧ j = p i then S a j * x j else 0) = x (p a) := by
  rw [sm_one (k := p a) (h.lt a ha) fun j hj hne => ?_]
  ·rw [if_pos ⟨a, ha, rfl⟩, h.one a ha a (by omega), if_pos rfl, one_mul]
  ·split
   ·rename_i hh
    obtain ⟨i, hi, rfl⟩ := hh
    rw [h.one i hi a (by omega), if_neg (fun e => hne (by rw [e])), zero_mul]
   ·rfl
 rw [e2] at e
 exact add_cancel e
theorem RR.ker_zero (h : RR n W t S p) {x : Vec} (hx : Ker W n S x) (h0 : ∀ j, j < W → (∀ i, i < t → j ≠ p i) → x j = 0) : ∀ j, j < W → x j = 0 := fun j hj => by
 by_cases e : ∃ i, i < t ∧ j = p i
 ·obtain ⟨i, hi, rfl⟩ := e
  rw [h.ker_at hx hi]
  refine sm_zero fun k hk => ?_
  split
  ·rfl
  ·rename_i hh
   rw [h0 k hk fun i hi e => hh ⟨i, hi, e⟩, mul_zero]
 ·exact h0 j hj fun i hi e2 => e ⟨i, hi, e2⟩
end
/-! ### columns -/
/-- Column b of n rows. -/
def col (n : Nat) (N : Nat → Vec) (b : Nat) : Vec := fun a => if a < n then N a b else 0
theorem lc_col {n W : Nat} {N : Nat → Vec} {x : Nat → El} : lc (col n N) W x = fun a => if a < n then dot W (N a) x else 0 := by
 funext a
 unfold lc col dot
 split
 ·exact sm_congr fun i _ => mul_comm _ _
 ·exact sm_zero fun i _ => mul_zero _
theorem col_zero {n W : Nat} {N : Nat → Vec} {x : Nat → El} : lc (col n N) W x = zv ↔ Ker W n N x := by
 rw [lc_col]
 constructor
 ·intro h a ha
  have := congrFun h a
  rwa [if_pos ha] at this
 ·intro h
  funext a
  split
  ·rename_i ha; exact h a ha
  ·rfl
section
variable {n W t : Nat} {S N : Nat → Vec} {p : Nat → Nat}
/-- The pivots' columns are independent. -/
theorem RR.col_indep (h : RR n W t S p) (hs : ∀ v, Span N n v ↔ Span S n v) {k : Nat} (hk : k ≤ t) : Indep (fun i => col n N (p i)) k := by
 intro x hx i hi
 have e : lc (col n N) W (fun j => sm k (fun i => if j = p i then x i else 0)) = lc (fun i => col n N (p i)) k x := by
  rw [show (fun j => sm k (fun i => if j = p i then x i else 0)) = fun j => sm k (fun i => x i * (if j = p i then 1 else 0)) from funext fun j => sm_congr fun i _ => by split <;> simp only [mul_one, mul_zero]]
  refine (lc_lc (col n N) (fun i => col n N (p i)) W k x (fun i j => if j = p i then 1 else 0) fun i hi => (lc_unit (col n N) (h.lt i (by omega))).symm).symm
 rw [hx, col_zero, ker_same hs] at e
 have h0 := h.ker_zero e (fun j hj hn => sm_zero fun i hi => if_neg (hn i (by omega)))
 have hit : i < t := by omega
 have h1 := e i (by have := h.tn; omega)
 have h2 := h.dot_piv (x := fun j => sm k (fun i => if j = p i then x i else 0)) (fun j hj hn => sm_zero fun i hi => if_neg (hn i (by omega))) hit
 rw [h1] at h2
 have h3 : sm k (fun i' => if p i = p i' then x i' else 0) = x i := by
  rw [sm_one (k := i) hi fun k' hk' hne => if_neg fun e => hne (h.inj hit (by omega) e).symm, if_pos rfl]
 rw [← h3]
 exact h2.symm
/-- How many pivots stand below b. -/
def below (p : Nat → Nat) (b : Nat) : Nat → Nat
 | 0 => 0
 | t + 1 => below p b t + if p t < b then 1 else 0
theorem below_le (p : Nat → Nat) (b : Nat) : ∀ t, below p b t ≤ t
 | 0 => Nat.le_refl _
 | t + 1 => by
  have := below_le p b t
  unfold below
  split <;> omega
theorem below_iff {p : Nat → Nat} {b t : Nat} (m : ∀ i k, i < k → k < t → p i < p k) : ∀ i, i < t → (i < below p b t ↔ p i < b) := by
 induction t with
 | zero => intro i hi; omega
 | succ t ih =>
  have ih := ih fun i k a c => m i k a (by omega)
  intro i hi
  have hle := below_le p b t
  unfold below
  by_cases e : i = t
  ·subst e
   by_cases h : p i < b
   ·rw [if_pos h]
    have : below p b i = i := by
     rcases Nat.lt_or_ge (below p b i) i with h1 | h1
     ·have h2 := (ih (below p b i) h1)
      have h3 := m (below p b i) i h1 (by omega)
      have := h2.2 (by omega)
      omega
     ·omega
    exact ⟨fun _ => h, fun _ => by omega⟩
   ·rw [if_neg h]
    exact ⟨fun x => absurd x (by omega), fun x => absurd x h⟩
  ·have h1 := ih i (by omega)
   by_cases h : p t < b
   ·rw [if_pos h]
    have h3 := m i t (by omega) (by omega)
    have := h1.2 (by omega)
    exact ⟨fun _ => by omega, fun _ => by omega⟩
   ·rw [if_neg h, Nat.add_zero]
    exact h1
/-- Each column is a combination of the pivots' that are not behind it. -/
theorem RR.col_span (h : RR n W t S p) (hs : ∀ v, Span N n v ↔ Span S n v) {b c : Nat} (hb : b < W) (hbc : b < c) : Span (fun i => col n N (p i)) (below p c t) (col n N b) := by
 by_cases e : ∃ i, i < t ∧ b = p i
 ·obtain ⟨i, hi, rfl⟩ := e
  exact span_mem (fun i => col n N (p i)) ((below_iff h.mono i hi).2 hbc)
 ·have hb2 : ∀ i, i < t → b ≠ p i := fun i hi e2 => e ⟨i, hi, e2⟩
  have hk : lc (col n N) W (RR.kv S p t b) = zv := by rw [col_zero, ker_same hs]; exact h.kv_ker hb hb2
  have e1 : RR.kv S p t b = fun j => (if j = b then 1 else 0) + sm t (fun i => if j = p i then S i b else 0) := rfl
  rw [e1, lc_add] at hk
  refine ⟨fun i => S i b, ?_⟩
  have e2 : lc (col n N) W (fun j => sm t (fun i => if j = p i then S i b else 0)) = lc (fun i => col n N (p i)) t (fun i => S i b) := by
   rw [show (fun j => sm t (fun i => if j = p i then S i b else 0)) = fun j => sm t (fun i => S i b * (if j = p i then 1 else 0)) from funext fun j => sm_congr fun i _ => by split <;> simp only [mul_one, mul_zero]]
   exact (lc_lc (col n N) (fun i => col n N (p i)) W t (fun i => S i b) (fun i j => if j = p i then 1 else 0) fun i hi => (lc_unit (col n N) (h.lt i hi)).symm).symm
  have e3 : lc (fun i => col n N (p i)) t (fun i => S i b) = lc (fun i => col n N (p i)) (below p c t) (fun i => S i b) := by
   funext a
   refine sm_take (below_le p c t) fun i h1 h2 => ?_
   have : ¬ p i < c := fun h3 => by have := (below_iff h.mono i h2).2 h3; omega
   show S i b * _ = 0
   rw [h.lead i h2 b (by omega), zero_mul]
  funext a
  have e4 := congrFun hk a
  rw [lc_unit (col n N) hb, e2, e3] at e4
  exact add_cancel e4
/-- The span of the first columns has as many as pivots stand among them. -/
theorem RR.col_dim (h : RR n W t S p) (hs : ∀ v, Span N n v ↔ Span S n v) {c : Nat} (hc : c ≤ W) : Dim (Span (col n N) c) (below p c t) := by
 refine ⟨fun i => col n N (p i), h.col_indep hs (below_le p c t), fun i hi => ?_, fun v hv => span_trans (fun b hb => h.col_span hs (by omega) hb) hv⟩
 have hit : i < t := Nat.lt_of_lt_of_le hi (below_le p c t)
 exact span_mem (col n N) ((below_iff h.mono i hit).1 hi)
end
end Go.Proofs.Ytccfbhnhedoggaa.M
