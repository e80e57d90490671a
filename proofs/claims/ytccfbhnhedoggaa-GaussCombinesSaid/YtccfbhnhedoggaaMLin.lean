/- Vectors over the field of 256 elements: combinations, independence, the exchange, bases, dimensions. Plain: no program in sight. -/
import Derived.Test.YtccfbhnhedoggaaMField
namespace Go.Proofs.Ytccfbhnhedoggaa.M
set_option linter.unusedVariables false
abbrev Vec := Nat → El
def zv : Vec := fun _ => 0
/-- The combination of the first n of some vectors. -/
def lc (b : Nat → Vec) (n : Nat) (x : Nat → El) : Vec := fun j => sm n (fun i => x i * b i j)
def Span (b : Nat → Vec) (n : Nat) (v : Vec) : Prop := ∃ x : Nat → El, v = lc b n x
def Indep (b : Nat → Vec) (n : Nat) : Prop := ∀ x : Nat → El, lc b n x = zv → ∀ i, i < n → x i = 0
theorem lc_congr {b c : Nat → Vec} {n : Nat} {x y : Nat → El} (h : ∀ i, i < n → b i = c i) (k : ∀ i, i < n → x i = y i) : lc b n x = lc c n y :=
 funext fun j => sm_congr fun i hi => by rw [h i hi, k i hi]
theorem lc_add (b : Nat → Vec) (n : Nat) (x y : Nat → El) : lc b n (fun i => x i + y i) = fun j => lc b n x j + lc b n y j := by
 funext j
 unfold lc
 rw [← sm_add]
 exact sm_congr fun i _ => add_mul _ _ _
theorem lc_mul (b : Nat → Vec) (n : Nat) (a : El) (x : Nat → El) : lc b n (fun i => a * x i) = fun j => a * lc b n x j := by
 funext j
 unfold lc
 rw [← sm_mul]
 exact sm_congr fun i _ => mul_assoc _ _ _
theorem lc_zero (b : Nat → Vec) (n : Nat) : lc b n (fun _ => 0) = zv := funext fun j => sm_zero fun i _ => zero_mul _
theorem lc_unit (b : Nat → Vec) {n k : Nat} (hk : k < n) : lc b n (fun i => if i = k then 1 else 0) = b k := by
 funext j
 show sm n (fun i => (if i = k then 1 else 0) * b i j) = b k j
 rw [sm_one hk (fun i _ hne => by rw [if_neg hne, zero_mul]), if_pos rfl, one_mul]
/-- A combination of combinations. -/
theorem lc_lc (b u : Nat → Vec) (n m : Nat) (x : Nat → El) (a : Nat → Nat → El) (h : ∀ i, i < m → u i = lc b n (a i)) : lc u m x = lc b n (fun k => sm m (fun i => x i * a i k)) := by
 funext j
 unfold lc
 have e : sm m (fun i => x i * u i j) = sm m (fun i => sm n (fun k => x i * a i k * b k j)) := sm_congr fun i hi => by
  rw [h i hi]
  unfold lc
  rw [← sm_mul]
  exact sm_congr fun k _ => (mul_assoc _ _ _).symm
 rw [e, sm_swap]
 exact sm_congr fun k _ => sm_mul_right _ _ _
theorem span_mem (b : Nat → Vec) {n k : Nat} (hk : k < n) : Span b n (b k) := ⟨_, (lc_unit b hk).symm⟩
theorem span_zero (b : Nat → Vec) (n : Nat) : Span b n zv := ⟨_, (lc_zero b n).symm⟩
theorem span_add {b : Nat → Vec} {n : Nat} {u v : Vec} (h : Span b n u) (k : Span b n v) : Span b n (fun j => u j + v j) := by
 obtain ⟨x, rfl⟩ := h
 obtain ⟨y, rfl⟩ := k
 exact ⟨_, (lc_add b n x y).symm⟩
theorem span_mul {b : Nat → Vec} {n : Nat} {u : Vec} (a : El) (h : Span b n u) : Span b n (fun j => a * u j) := by
 obtain ⟨x, rfl⟩ := h
 exact ⟨_, (lc_mul b n a x).symm⟩
theorem span_lc {b u : Nat → Vec} {n m : Nat} (h : ∀ i, i < m → Span b n (u i)) (x : Nat → El) : Span b n (lc u m x) := by
 have h' : ∀ i, ∃ a : Nat → El, i < m → u i = lc b n a := fun i => by
  by_cases hi : i < m
  ·obtain ⟨a, ha⟩ := h i hi
   exact ⟨a, fun _ => ha⟩
  ·exact ⟨fun _ => 0, fun e => absurd e hi⟩
 obtain ⟨a, ha⟩ := Classical.axiomOfChoice h'
 exact ⟨_, lc_lc b u n m x a ha⟩
theorem span_trans {b u : Nat → Vec} {n m : Nat} {v : Vec} (h : ∀ i, i < m → Span b n (u i)) (k : Span u m v) : Span b n v := by
 obtain ⟨x, rfl⟩ := k
 exact span_lc h x
theorem span_le {b : Nat → Vec} {n m : Nat} (h : n ≤ m) {v : Vec} (k : Span b n v) : Span b m v := span_trans (fun i hi => span_mem b (by omega)) k
/-- The numbers but one. -/
def skip (p i : Nat) : Nat := if i < p then i else i + 1
theorem unskip (p i : Nat) : (if skip p i < p then skip p i else skip p i - 1) = i := by
 unfold skip
 by_cases h : i < p
 ·rw [if_pos h, if_pos h]
 ·rw [if_neg h, if_neg (by omega)]
  omega
theorem sm_succ_left (f : Nat → El) (n : Nat) : sm (n + 1) f = f 0 + sm n (fun i => f (i + 1)) := by
 rw [Nat.add_comm n 1, sm_split]
 have : sm 1 f = f 0 := zero_add _
 rw [this]
 congr 1
 exact sm_congr fun i _ => by rw [Nat.add_comm]
theorem sm_skip (f : Nat → El) (n p : Nat) (h : p ≤ n) : sm (n + 1) f = f p + sm n (fun i => f (skip p i)) := by
 obtain ⟨d, rfl⟩ : ∃ d, n = p + d := ⟨n - p, by omega⟩
 rw [show p + d + 1 = p + (d + 1) from by omega, sm_split f p (d + 1), sm_split (fun i => f (skip p i)) p d, sm_succ_left (fun i => f (p + i)) d]
 have e1 : sm p (fun i => f (skip p i)) = sm p f := sm_congr fun i hi => by unfold skip; rw [if_pos hi]
 have e2 : sm d (fun i => f (skip p (p + i))) = sm d (fun i => f (p + (i + 1))) := sm_congr fun i _ => by unfold skip; rw [if_neg (by omega)]; rfl
 rw [e1, e2, Nat.add_zero]
 ac_rfl
/-- More unknowns than equations: something that is not nothing solves them. -/
theorem hom : ∀ (n m : Nat), n < m → ∀ a : Nat → Nat → El, ∃ x : Nat → El, (∃ i, i < m ∧ x i ≠ 0) ∧ ∀ k, k < n → sm m (fun i => x i * a i k) = 0
 | 0, m, h, a => ⟨fun _ => 1, ⟨0, h, one_ne_zero⟩, fun k hk => by omega⟩
 | n + 1, m, h, a => by
  by_cases hz : ∀ i, i < m → a i n = 0
  ·obtain ⟨x, hx, he⟩ := hom n m (by omega) a
   refine ⟨x, hx, fun k hk => ?_⟩
   by_cases e : k = n
   ·subst e
    exact sm_zero fun i hi => by rw [hz i hi, mul_zero]
   ·exact he k (by omega)
  ·obtain ⟨p, hp, hpn⟩ : ∃ p, p < m ∧ a p n ≠ 0 := Classical.byContradiction fun hc => hz fun i hi => Classical.byContradiction fun hne => hc ⟨i, hi, hne⟩
   obtain ⟨m', rfl⟩ : ∃ m', m = m' + 1 := ⟨m - 1, by omega⟩
   obtain ⟨x, ⟨i0, hi0, hx0⟩, he⟩ := hom n m' (by omega) (fun i k => a (skip p i) k + a (skip p i) n * ((a p n).inv * a p k))
   have hsk : ∀ i, skip p i ≠ p := fun i => by unfold skip; split <;> omega
   refine ⟨fun j => if j = p then (a p n).inv * sm m' (fun i => x i * a (skip p i) n) else x (if j < p then j else j - 1), ⟨skip p i0, by unfold skip; split <;> omega, ?_⟩, fun k hk => ?_⟩
   ·show (if skip p i0 = p then _ else _) ≠ 0
    rw [if_neg (hsk i0)]
    have : (if skip p i0 < p then skip p i0 else skip p i0 - 1) = i0 := unskip p i0
    rw [this]
    exact hx0
   ·rw [sm_skip _ m' p (by omega)]
    have e1 : sm m' (fun i => (if skip p i = p then (a p n).inv * sm m' (fun i => x i * a (skip p i) n) else x (if skip p i < p then skip p i else skip p i - 1)) * a (skip p i) k) = sm m' (fun i => x i * a (skip p i) k) := sm_congr fun i _ => by
     have : (if skip p i < p then skip p i else skip p i - 1) = i := unskip p i
     rw [if_neg (hsk i), this]
    rw [e1]
    show (if p = p then (a p n).inv * sm m' (fun i => x i * a (skip p i) n) else _) * a p k + _ = 0
    rw [if_pos rfl]
    by_cases e : k = n
    ·subst e
     rw [mul_comm, ← mul_assoc, mul_inv hpn, one_mul, add_self]
    ·have h2 := he k (by omega)
     have e2 : sm m' (fun i => x i * (a (skip p i) k + a (skip p i) n * ((a p n).inv * a p k))) = sm m' (fun i => x i * a (skip p i) k) + sm m' (fun i => x i * a (skip p i) n) * ((a p n).inv * a p k) := by
      rw [← sm_mul_right, ← sm_add]
      exact sm_congr fun i _ => by rw [mul_add, mul_assoc]
     rw [e2] at h2
     rw [← h2, add_comm]
     congr 1
     ac_rfl
/-- Independent vectors in the span of some are no more than these. -/
theorem steinitz {v u : Nat → Vec} {m n : Nat} (hi : Indep v m) (hs : ∀ i, i < m → Span u n (v i)) : m ≤ n := by
 apply Classical.byContradiction
 intro hlt
 have h' : ∀ i, ∃ a : Nat → El, i < m → v i = lc u n a := fun i => by
  by_cases h : i < m
  ·obtain ⟨a, ha⟩ := hs i h
   exact ⟨a, fun _ => ha⟩
  ·exact ⟨fun _ => 0, fun e => absurd e h⟩
 obtain ⟨a, ha⟩ := Classical.axiomOfChoice h'
 obtain ⟨x, ⟨i, him, hx⟩, he⟩ := hom n m (by omega) a
 refine hx (hi x ?_ i him)
 rw [lc_lc u v n m x a ha, ← lc_zero u n]
 exact lc_congr (fun _ _ => rfl) he
/-- One vector more. -/
def snoc (b : Nat → Vec) (n : Nat) (v : Vec) : Nat → Vec := fun i => if i < n then b i else v
theorem snoc_lt {b : Nat → Vec} {n : Nat} {v : Vec} {i : Nat} (h : i < n) : snoc b n v i = b i := if_pos h
theorem snoc_at (b : Nat → Vec) (n : Nat) (v : Vec) : snoc b n v n = v := if_neg (Nat.lt_irrefl n)
theorem lc_snoc (b : Nat → Vec) (n : Nat) (v : Vec) (x : Nat → El) : lc (snoc b n v) (n + 1) x = fun j => lc b n x j + x n * v j := by
 funext j
 show sm n (fun i => x i * snoc b n v i j) + x n * snoc b n v n j = _
 rw [snoc_at]
 congr 1
 exact sm_congr fun i hi => by rw [snoc_lt hi]
theorem indep_snoc {b : Nat → Vec} {n : Nat} {v : Vec} (h : Indep b n) (hv : ¬ Span b n v) : Indep (snoc b n v) (n + 1) := by
 intro x hx i hi
 rw [lc_snoc] at hx
 have hn : x n = 0 := by
  apply Classical.byContradiction
  intro hne
  apply hv
  refine ⟨fun i => (x n).inv * x i, ?_⟩
  rw [lc_mul]
  funext j
  have := congrFun hx j
  have e : x n * v j = lc b n x j := by
   have h2 : lc b n x j + x n * v j = 0 := this
   rw [add_comm] at h2
   exact add_cancel h2
  show v j = (x n).inv * lc b n x j
  rw [← e, ← mul_assoc, inv_mul hne, one_mul]
 by_cases e : i = n
 ·rw [e, hn]
 ·refine h x ?_ i (by omega)
  rw [← hx]
  funext j
  show _ = lc b n x j + x n * v j
  rw [hn, zero_mul, add_zero]
theorem indep_zero (b : Nat → Vec) : Indep b 0 := fun x _ i hi => by omega
theorem indep_le {b : Nat → Vec} {m n : Nat} (h : Indep b n) (hm : m ≤ n) : Indep b m := by
 intro x hx i hi
 have := h (fun i => if i < m then x i else 0) (by
  rw [← hx]
  funext j
  show sm n (fun i => (if i < m then x i else 0) * b i j) = sm m _
  rw [sm_take hm (fun i h1 _ => by rw [if_neg (by omega), zero_mul])]
  exact sm_congr fun i hi => by rw [if_pos hi]) i (by omega)
 rwa [if_pos hi] at this
theorem indep_congr {b c : Nat → Vec} {n : Nat} (h : ∀ i, i < n → b i = c i) (hb : Indep b n) : Indep c n := fun x hx => hb x (by rw [← hx]; exact lc_congr h fun _ _ => rfl)
/-- A basis of what is in P, which begins with some independent ones. -/
theorem extend {P : Vec → Prop} {u : Nat → Vec} {m : Nat} (hP : ∀ v, P v → Span u m v) : ∀ (d : Nat) (b : Nat → Vec) (n : Nat), m - n ≤ d → Indep b n → (∀ i, i < n → P (b i)) →
  ∃ b' n', n ≤ n' ∧ (∀ i, i < n → b' i = b i) ∧ Indep b' n' ∧ (∀ i, i < n' → P (b' i)) ∧ ∀ v, P v → Span b' n' v
 | d, b, n, hd, hi, hb => by
  by_cases hall : ∀ v, P v → Span b n v
  ·exact ⟨b, n, Nat.le_refl _, fun _ _ => rfl, hi, hb, hall⟩
  ·obtain ⟨v, hv, hns⟩ : ∃ v, P v ∧ ¬ Span b n v := Classical.byContradiction fun hc => hall fun v hv => Classical.byContradiction fun hne => hc ⟨v, hv, hne⟩
   have hi2 := indep_snoc hi hns
   have hb2 : ∀ i, i < n + 1 → P (snoc b n v i) := fun i h => by
    by_cases e : i < n
    ·rw [snoc_lt e]; exact hb i e
    ·obtain rfl : i = n := by omega
     rw [snoc_at]; exact hv
   have hle := steinitz hi2 fun i h => hP _ (hb2 i h)
   match d with
   | 0 => omega
   | d + 1 =>
    obtain ⟨b', n', h1, h2, h3⟩ := extend hP d (snoc b n v) (n + 1) (by omega) hi2 hb2
    exact ⟨b', n', by omega, fun i h => by rw [h2 i (by omega), snoc_lt h], h3⟩
/-- n vectors of P, independent, of which all of P are combinations. -/
def Dim (P : Vec → Prop) (n : Nat) : Prop := ∃ b, Indep b n ∧ (∀ i, i < n → P (b i)) ∧ ∀ v, P v → Span b n v
theorem dim_le {P Q : Vec → Prop} {m n : Nat} (hP : Dim P m) (hQ : Dim Q n) (h : ∀ v, P v → Q v) : m ≤ n := by
 obtain ⟨b, b1, b2, b3⟩ := hP
 obtain ⟨c, c1, c2, c3⟩ := hQ
 exact steinitz b1 fun i hi => c3 _ (h _ (b2 i hi))
theorem dim_unique {P : Vec → Prop} {m n : Nat} (h : Dim P m) (k : Dim P n) : m = n := Nat.le_antisymm (dim_le h k fun _ h => h) (dim_le k h fun _ h => h)
theorem dim_exists {P : Vec → Prop} {u : Nat → Vec} {m : Nat} (hP : ∀ v, P v → Span u m v) : ∃ n, n ≤ m ∧ Dim P n := by
 obtain ⟨b, n, _, _, h3, h4, h5⟩ := extend hP m (fun _ => zv) 0 (by omega) (indep_zero _) (fun i h => by omega)
 exact ⟨n, steinitz h3 fun i h => hP _ (h4 i h), b, h3, h4, h5⟩
theorem dim_congr {P Q : Vec → Prop} {n : Nat} (h : ∀ v, P v ↔ Q v) (k : Dim P n) : Dim Q n := by
 obtain ⟨b, b1, b2, b3⟩ := k
 exact ⟨b, b1, fun i hi => (h _).1 (b2 i hi), fun v hv => b3 v ((h v).2 hv)⟩
/-- As many vectors of P as its dimension, if independent, tell all of P. -/
theorem dim_full {P : Vec → Prop} {n : Nat} (h : Dim P n) {b : Nat → Vec} (hi : Indep b n) (hb : ∀ i, i < n → P (b i)) : ∀ v, P v → Span b n v := by
 intro v hv
 apply Classical.byContradiction
 intro hns
 obtain ⟨c, c1, c2, c3⟩ := h
 have := steinitz (indep_snoc hi hns) (u := c) (n := n) fun i hlt => by
  by_cases e : i < n
  ·rw [snoc_lt e]; exact c3 _ (hb i e)
  ·obtain rfl : i = n := by omega
   rw [snoc_at]; exact c3 _ hv
 omega
theorem dim_span {b : Nat → Vec} {n : Nat} (h : Indep b n) : Dim (Span b n) n := ⟨b, h, fun i hi => span_mem b hi, fun _ hv => hv⟩
theorem dim_full_le {P Q : Vec → Prop} {n : Nat} (hP : Dim P n) (hQ : Dim Q n) (h : ∀ v, P v → Q v) : ∀ v, Q v → P v ∨ ∃ b, (∀ i, i < n → P (b i)) ∧ Span b n v := by
 obtain ⟨b, b1, b2, b3⟩ := hP
 exact fun v hv => .inr ⟨b, b2, dim_full hQ b1 (fun i hi => h _ (b2 i hi)) v hv⟩
/-- The first m of some, then others. -/
def app (b : Nat → Vec) (m : Nat) (c : Nat → Vec) : Nat → Vec := fun i => if i < m then b i else c (i - m)
theorem span_app_left {b c : Nat → Vec} {m n : Nat} {v : Vec} (h : Span b m v) : Span (app b m c) (m + n) v :=
 span_trans (fun i hi => by
  have := span_mem (app b m c) (n := m + n) (k := i) (by omega)
  rwa [show app b m c i = b i from if_pos hi] at this) h
theorem span_app_right {b c : Nat → Vec} {m n : Nat} {v : Vec} (h : Span c n v) : Span (app b m c) (m + n) v :=
 span_trans (fun i hi => by
  have := span_mem (app b m c) (n := m + n) (k := m + i) (by omega)
  rwa [show app b m c (m + i) = c i from by unfold app; rw [if_neg (by omega), Nat.add_sub_cancel_left]] at this) h
end Go.Proofs.Ytccfbhnhedoggaa.M
