/- The word's count of set bits, as math/bits reckons it: by sums of digits; plain. -/
import Derived.Test.YtagghjljbedfdaaDoorMFuel
namespace Go.Proofs.YtagghjljbedfdaaDoor.M
set_option linter.unusedVariables false
open Go.RowKit Go.Proofs.YtagghjljbedfdaaDoorW.PrintWords Go.Proofs.YtagghjljbedfdaaDoorW.PrintMore

/-- The number with these digits, the lowest first. -/
def ofD (B : Nat) : List Nat → Nat
  | [] => 0
  | c :: r => c + B * ofD B r
def evens : List Nat → List Nat
  | a :: _ :: r => a :: evens r
  | _ => []
def pairs : List Nat → List Nat
  | a :: b :: r => (a + b) :: pairs r
  | _ => []
/-- A mask: so many digits of base B * B, each B - 1. -/
def maskD (B : Nat) (n : Nat) : Nat := ofD (B * B) (List.replicate n (B - 1))
theorem ofD_lt {B : Nat} (hB : 0 < B) : ∀ {l : List Nat}, (∀ c ∈ l, c < B) → ofD B l < B ^ l.length
  | [], _ => by simp [ofD]
  | c :: r, h => by
    have h1 := ofD_lt hB (l := r) fun x hx => h x (List.mem_cons_of_mem _ hx)
    have h2 := h c List.mem_cons_self
    have h3 : B * (ofD B r + 1) ≤ B * B ^ r.length := Nat.mul_le_mul_left _ h1
    rw [List.length_cons, Nat.pow_succ, Nat.mul_comm (B ^ r.length)]
    simp only [ofD]
    rw [Nat.mul_add] at h3
    omega
theorem and_split {k a x c y : Nat} (ha : a < 2 ^ k) (hc : c < 2 ^ k) : (a + 2 ^ k * x) &&& (c + 2 ^ k * y) = (a &&& c) + 2 ^ k * (x &&& y) := by
  apply Nat.eq_of_testBit_eq
  intro i
  rw [Nat.add_comm a, Nat.add_comm c, Nat.add_comm (a &&& c), Nat.testBit_and, Nat.testBit_two_pow_mul_add _ ha, Nat.testBit_two_pow_mul_add _ hc, Nat.testBit_two_pow_mul_add _ (Nat.lt_of_le_of_lt Nat.and_le_left ha)]
  by_cases h : i < k
  · simp [h]
  · simp [h]
theorem mask_evens {w : Nat} : ∀ (n : Nat) (l : List Nat), l.length = 2 * n → (∀ c ∈ l, c < 2 ^ w) → ofD (2 ^ w) l &&& maskD (2 ^ w) n = ofD (2 ^ w * 2 ^ w) (evens l)
  | 0, [], _, _ => by simp [ofD, maskD, evens]
  | 0, _ :: _, h, _ => by simp at h
  | n + 1, [], h, _ => by simp at h
  | n + 1, [_], h, _ => by simp at h; omega
  | n + 1, a :: b :: r, h, hl => by
    have ih := mask_evens n r (by simp at h; omega) fun x hx => hl x (List.mem_cons_of_mem _ (List.mem_cons_of_mem _ hx))
    have ha := hl a List.mem_cons_self
    have hb := hl b (List.mem_cons_of_mem _ List.mem_cons_self)
    have hp : 0 < 2 ^ w := Nat.pow_pos (by decide)
    have e1 : ofD (2 ^ w) (a :: b :: r) = (a + 2 ^ w * b) + 2 ^ (w + w) * ofD (2 ^ w) r := by
      simp only [ofD]
      rw [Nat.mul_add, Nat.pow_add, Nat.mul_assoc]
      omega
    have e2 : maskD (2 ^ w) (n + 1) = (2 ^ w - 1) + 2 ^ (w + w) * maskD (2 ^ w) n := by
      unfold maskD
      rw [List.replicate_succ, ofD, Nat.pow_add]
    have hab : a + 2 ^ w * b < 2 ^ (w + w) := by
      have : 2 ^ w * (b + 1) ≤ 2 ^ w * 2 ^ w := Nat.mul_le_mul_left _ hb
      rw [Nat.mul_add] at this
      rw [Nat.pow_add]
      omega
    have hm : 2 ^ w - 1 < 2 ^ (w + w) := by
      have : 2 ^ w * 1 ≤ 2 ^ w * 2 ^ w := Nat.mul_le_mul_left _ hp
      rw [Nat.pow_add]
      omega
    rw [e1, e2, and_split hab hm, ih, Nat.and_two_pow_sub_one_eq_mod, Nat.add_mul_mod_self_left, Nat.mod_eq_of_lt ha, evens, ofD, Nat.pow_add]
/-- One digit further. -/
theorem ofD_shift {w : Nat} {c : Nat} {r : List Nat} (hc : c < 2 ^ w) : ofD (2 ^ w) (c :: r) / 2 ^ w = ofD (2 ^ w) r := by
  simp only [ofD]
  rw [Nat.add_mul_div_left _ _ (Nat.pow_pos (by decide)), Nat.div_eq_of_lt hc, Nat.zero_add]
theorem ofD_snoc_zero (B : Nat) : ∀ l : List Nat, ofD B (l ++ [0]) = ofD B l
  | [] => by simp [ofD]
  | c :: r => by simp only [List.cons_append, ofD, ofD_snoc_zero B r]
theorem pairs_sum : ∀ (n : Nat) (l : List Nat), l.length = 2 * n → (pairs l).sum = l.sum ∧ (pairs l).length = n
  | 0, [], _ => by simp [pairs]
  | 0, _ :: _, h => by simp at h
  | n + 1, [], h => by simp at h
  | n + 1, [_], h => by simp at h; omega
  | n + 1, a :: b :: r, h => by
    have ih := pairs_sum n r (by simp at h; omega)
    exact ⟨by simp only [pairs, List.sum_cons, ih.1, Nat.add_assoc], by simp only [pairs, List.length_cons, ih.2]⟩
theorem pairs_le {B : Nat} : ∀ (l : List Nat), (∀ c ∈ l, c ≤ B) → ∀ c ∈ pairs l, c ≤ 2 * B
  | [], _, c, hc => by simp [pairs] at hc
  | [_], _, c, hc => by simp [pairs] at hc
  | a :: b :: r, h, c, hc => by
    simp only [pairs, List.mem_cons] at hc
    have ha := h a List.mem_cons_self
    have hb := h b (List.mem_cons_of_mem _ List.mem_cons_self)
    rcases hc with rfl | hc
    · omega
    · exact pairs_le r (fun x hx => h x (List.mem_cons_of_mem _ (List.mem_cons_of_mem _ hx))) c hc
/-- Even and odd digits put together: the pairs. -/
theorem evens_odds (B : Nat) : ∀ (n : Nat) (l : List Nat), l.length = 2 * n → ofD B (evens (l.tail ++ [0])) + ofD B (evens l) = ofD B (pairs l)
  | 0, [], _ => by simp [evens, pairs, ofD]
  | 0, _ :: _, h => by simp at h
  | n + 1, [], h => by simp at h
  | n + 1, [_], h => by simp at h; omega
  | n + 1, [a, b], _ => by simp [evens, pairs, ofD]; omega
  | n + 1, a :: b :: c :: r, h => by
    have ih := evens_odds B n (c :: r) (by simp at h ⊢; omega)
    simp only [List.tail_cons, List.cons_append, evens, pairs, ofD] at ih ⊢
    rw [← ih, Nat.mul_add]
    omega
/-- Fields of w bits: each second one, and those between, added up. -/
theorem fields_add {w n : Nat} {l : List Nat} (hl : l.length = 2 * n) (h : ∀ c ∈ l, c < 2 ^ w) :
    ((ofD (2 ^ w) l / 2 ^ w) &&& maskD (2 ^ w) n) + (ofD (2 ^ w) l &&& maskD (2 ^ w) n) = ofD (2 ^ w * 2 ^ w) (pairs l) := by
  cases l with
  | nil =>
    obtain rfl : n = 0 := by simp at hl; omega
    simp [ofD, maskD, pairs]
  | cons c r =>
    rw [ofD_shift (h c List.mem_cons_self), ← ofD_snoc_zero, mask_evens n (r ++ [0]) (by simp at hl ⊢; omega), mask_evens n (c :: r) hl h, ← evens_odds _ n _ hl, List.tail_cons]
    intro x hx
    rw [List.mem_append] at hx
    rcases hx with hx | hx
    · exact h x (List.mem_cons_of_mem _ hx)
    · simp at hx
      subst hx
      exact Nat.pow_pos (by decide)
/-- The bits of a word as digits. -/
def bitsD (n : Nat) (i : Nat) : Nat → List Nat
  | 0 => []
  | c + 1 => (if n.testBit i then 1 else 0) :: bitsD n (i + 1) c
theorem ofD_bitsD (n : Nat) : ∀ (c i : Nat), ofD 2 (bitsD n i c) = n / 2 ^ i % 2 ^ c
  | 0, i => by simp [bitsD, ofD, Nat.mod_one]
  | c + 1, i => by
    simp only [bitsD, ofD]
    rw [ofD_bitsD n c (i + 1), Nat.testBit_eq_decide_div_mod_eq, Nat.pow_succ 2 i, ← Nat.div_div_eq_div_mul]
    have h := Nat.mod_mul (a := 2) (b := 2 ^ c) (x := n / 2 ^ i)
    rw [Nat.pow_succ, Nat.mul_comm (2 ^ c) 2, h]
    have : n / 2 ^ i % 2 < 2 := Nat.mod_lt _ (by decide)
    by_cases h1 : n / 2 ^ i % 2 = 1
    · simp [h1]
    · have : n / 2 ^ i % 2 = 0 := by omega
      simp [this]
theorem bitsD_length (n : Nat) : ∀ c i, (bitsD n i c).length = c
  | 0, _ => rfl
  | c + 1, i => by simp [bitsD, bitsD_length n c (i + 1)]
theorem bitsD_le (n : Nat) : ∀ c i, ∀ x ∈ bitsD n i c, x ≤ 1
  | 0, _, x, hx => by simp [bitsD] at hx
  | c + 1, i, x, hx => by
    simp only [bitsD, List.mem_cons] at hx
    rcases hx with rfl | hx
    · split <;> omega
    · exact bitsD_le n c (i + 1) x hx
theorem bitsD_sum (n : Nat) : ∀ c i, (bitsD n i c).sum = ((List.range' i c).filter fun j => n.testBit j).length
  | 0, i => by simp [bitsD]
  | c + 1, i => by
    simp only [bitsD, List.sum_cons, bitsD_sum n c (i + 1), List.range'_succ, List.filter_cons]
    split <;> simp <;> omega
theorem sum_le {B : Nat} : ∀ (l : List Nat), (∀ c ∈ l, c ≤ B) → l.sum ≤ l.length * B
  | [], _ => by simp
  | a :: l, h => by
    have := sum_le l fun x hx => h x (List.mem_cons_of_mem _ hx)
    have := h a List.mem_cons_self
    simp only [List.sum_cons, List.length_cons, Nat.add_mul]
    omega
/-- The reckoning of math/bits, in natural numbers. -/
def popN (x : Nat) : Nat :=
  let a := (x / 2 &&& 6148914691236517205) + (x &&& 6148914691236517205)
  let b := (a / 4 &&& 3689348814741910323) + (a &&& 3689348814741910323)
  let c := (b / 16 + b) &&& 1085102592571150095
  let d := c + c / 256
  let e := d + d / 65536
  (e + e / 4294967296) % 128
theorem pow2_2 : (2 : Nat) ^ 1 = 2 := rfl
theorem mask1 : maskD (2 ^ 1) 32 = 6148914691236517205 := by decide
theorem mask2 : maskD (2 ^ 2) 16 = 3689348814741910323 := by decide
theorem mask4 : maskD (2 ^ 4) 8 = 1085102592571150095 := by decide
theorem ofD_zip {B : Nat} : ∀ (a b : List Nat), a.length = b.length → ofD B (List.zipWith (· + ·) a b) = ofD B a + ofD B b
  | [], [], _ => rfl
  | [], _ :: _, h => by simp at h
  | _ :: _, [], h => by simp at h
  | x :: a, y :: b, h => by
    have ih := ofD_zip (B := B) a b (by simpa using h)
    simp only [List.zipWith_cons_cons, ofD, ih, Nat.mul_add]
    omega
theorem zip_le {A B : Nat} : ∀ (a b : List Nat), (∀ c ∈ a, c ≤ A) → (∀ c ∈ b, c ≤ B) → ∀ c ∈ List.zipWith (· + ·) a b, c ≤ A + B
  | [], _, _, _, c, hc => by simp at hc
  | _ :: _, [], _, _, c, hc => by simp at hc
  | x :: a, y :: b, ha, hb, c, hc => by
    simp only [List.zipWith_cons_cons, List.mem_cons] at hc
    have h1 := ha x List.mem_cons_self
    have h2 := hb y List.mem_cons_self
    rcases hc with rfl | hc
    · omega
    · exact zip_le a b (fun z hz => ha z (List.mem_cons_of_mem _ hz)) (fun z hz => hb z (List.mem_cons_of_mem _ hz)) c hc
theorem evens_zip : ∀ (n : Nat) (m : List Nat), m.length = 2 * n → evens (List.zipWith (· + ·) (m.tail ++ [0]) m) = pairs m
  | 0, [], _ => rfl
  | 0, _ :: _, h => by simp at h
  | n + 1, [], h => by simp at h
  | n + 1, [_], h => by simp at h; omega
  | n + 1, [a, b], _ => by simp [evens, pairs, Nat.add_comm]
  | n + 1, a :: b :: c :: r, h => by
    have ih := evens_zip n (c :: r) (by simp at h ⊢; omega)
    simp only [List.tail_cons, List.cons_append, List.zipWith_cons_cons, evens, pairs] at ih ⊢
    rw [ih, Nat.add_comm a b]
theorem steps (x : Nat) (hx : x < 2 ^ 64) : ∃ l1 l2 l3 : List Nat, l1.length = 32 ∧ (∀ c ∈ l1, c ≤ 2) ∧ l2.length = 16 ∧ (∀ c ∈ l2, c ≤ 4) ∧ l3.length = 8 ∧ (∀ c ∈ l3, c ≤ 8) ∧ l3.sum = (setL x).length ∧
    (x / 2 &&& 6148914691236517205) + (x &&& 6148914691236517205) = ofD 4 l1 ∧ (ofD 4 l1 / 4 &&& 3689348814741910323) + (ofD 4 l1 &&& 3689348814741910323) = ofD 16 l2 ∧
    (ofD 16 l2 / 16 + ofD 16 l2) &&& 1085102592571150095 = ofD 256 l3 := by
  have hb := ofD_bitsD x 64 0
  rw [Nat.pow_zero, Nat.div_one, Nat.mod_eq_of_lt hx] at hb
  have hl := bitsD_length x 64 0
  have hs := bitsD_sum x 64 0
  have hle := bitsD_le x 64 0
  generalize bitsD x 0 64 = l at hb hl hs hle
  have p1 := pairs_sum 32 l hl
  have q1 := pairs_le (B := 1) l hle
  have p2 := pairs_sum 16 (pairs l) p1.2
  have q2 := pairs_le (B := 2) (pairs l) q1
  have p3 := pairs_sum 8 (pairs (pairs l)) p2.2
  have q3 := pairs_le (B := 4) (pairs (pairs l)) q2
  refine ⟨pairs l, pairs (pairs l), pairs (pairs (pairs l)), p1.2, q1, p2.2, q2, p3.2, q3, ?_, ?_, ?_, ?_⟩
  · rw [p3.1, p2.1, p1.1, hs, setL, List.range_eq_range']
  · have := fields_add (w := 1) (n := 32) hl (fun c hc => by have := hle c hc; omega)
    rw [mask1, show (2 : Nat) ^ 1 = 2 from rfl, hb] at this
    exact this
  · have := fields_add (w := 2) (n := 16) p1.2 (fun c hc => by have := q1 c hc; omega)
    rw [mask2] at this
    exact this
  · -- the sums of neighbours have room in their fields
    have hm := fields_add (w := 4) (n := 8) p2.2 (fun c hc => by have := q2 c hc; omega)
    have hlen : (pairs (pairs l)).length = 16 := p2.2
    generalize pairs (pairs l) = m at hm hlen q2
    have hz : ofD 16 m / 16 + ofD 16 m = ofD 16 (List.zipWith (· + ·) (m.tail ++ [0]) m) ∧ (∀ c ∈ List.zipWith (· + ·) (m.tail ++ [0]) m, c < 16) ∧ evens (List.zipWith (· + ·) (m.tail ++ [0]) m) = pairs m := by
      refine ⟨?_, ?_, evens_zip 8 m hlen⟩
      · cases m with
        | nil => simp at hlen
        | cons c r =>
          have h := ofD_shift (w := 4) (c := c) (r := r) (by have := q2 c List.mem_cons_self; omega)
          rw [show (2 : Nat) ^ 4 = 16 from rfl] at h
          rw [h, ofD_zip _ _ (by simp), List.tail_cons, ofD_snoc_zero]
      · intro c hc
        have := zip_le (A := 4) (B := 4) (m.tail ++ [0]) m (fun x hx => by
          rw [List.mem_append] at hx
          rcases hx with hx | hx
          · exact q2 x (List.mem_of_mem_tail hx)
          · simp at hx
            omega) q2 c hc
        omega
    rw [hz.1]
    have := mask_evens (w := 4) 8 (List.zipWith (· + ·) (m.tail ++ [0]) m) (by simp [hlen]) hz.2.1
    rw [mask4] at this
    rw [show (16 : Nat) = 2 ^ 4 from rfl, this, hz.2.2]
theorem t1 (c0 c1 c2 c3 c4 c5 c6 c7 X Y : Nat) (hY : Y = c1 + 256 * c2 + 65536 * c3 + 16777216 * c4 + 4294967296 * c5 + 1099511627776 * c6 + 281474976710656 * c7) (hX : X = c0 + 256 * c1 + 65536 * c2 + 16777216 * c3 + 4294967296 * c4 + 1099511627776 * c5 + 281474976710656 * c6 + 72057594037927936 * c7) : X = c0 + 256 * Y := by omega
theorem t2 (c0 c1 c2 c3 c4 c5 c6 c7 X Y Z : Nat) (hY : Y = c1 + 256 * c2 + 65536 * c3 + 16777216 * c4 + 4294967296 * c5 + 1099511627776 * c6 + 281474976710656 * c7) (hX : X = c0 + 256 * c1 + 65536 * c2 + 16777216 * c3 + 4294967296 * c4 + 1099511627776 * c5 + 281474976710656 * c6 + 72057594037927936 * c7) (hZ : Z = (c2 + c3) + 256 * (c3 + c4) + 65536 * (c4 + c5) + 16777216 * (c5 + c6) + 4294967296 * (c6 + c7) + 1099511627776 * c7) : X + Y = ((c0 + c1) + 256 * (c1 + c2)) + 65536 * Z := by omega
theorem t3 (c0 c1 c2 c3 c4 c5 c6 c7 X Y Z V : Nat) (hY : Y = c1 + 256 * c2 + 65536 * c3 + 16777216 * c4 + 4294967296 * c5 + 1099511627776 * c6 + 281474976710656 * c7) (hX : X = c0 + 256 * c1 + 65536 * c2 + 16777216 * c3 + 4294967296 * c4 + 1099511627776 * c5 + 281474976710656 * c6 + 72057594037927936 * c7) (hZ : Z = (c2 + c3) + 256 * (c3 + c4) + 65536 * (c4 + c5) + 16777216 * (c5 + c6) + 4294967296 * (c6 + c7) + 1099511627776 * c7)
  (hV : V = (c4 + c5 + c6 + c7) + 256 * (c5 + c6 + c7) + 65536 * (c6 + c7) + 16777216 * c7) : X + Y + Z = ((c0 + c1 + c2 + c3) + 256 * (c1 + c2 + c3 + c4) + 65536 * (c2 + c3 + c4 + c5) + 16777216 * (c3 + c4 + c5 + c6)) + 4294967296 * V := by omega
theorem t4 (c0 c1 c2 c3 c4 c5 c6 c7 X Y Z V : Nat) (hV : V = (c4 + c5 + c6 + c7) + 256 * (c5 + c6 + c7) + 65536 * (c6 + c7) + 16777216 * c7) (h : X + Y + Z = ((c0 + c1 + c2 + c3) + 256 * (c1 + c2 + c3 + c4) + 65536 * (c2 + c3 + c4 + c5) + 16777216 * (c3 + c4 + c5 + c6)) + 4294967296 * V) : X + Y + Z + V = (c0 + c1 + c2 + c3 + c4 + c5 + c6 + c7) + 128 * (2 * ((c1 + c2 + c3 + c4) + 256 * (c2 + c3 + c4 + c5) + 65536 * (c3 + c4 + c5 + c6) + 16777216 * V + ((c5 + c6 + c7) + 256 * (c6 + c7) + 65536 * c7))) := by omega
theorem t5 (c0 c1 c2 c3 c4 c5 c6 c7 X : Nat) (h0 : c0 ≤ 8) (h1 : c1 ≤ 8) (h2 : c2 ≤ 8) (h3 : c3 ≤ 8)(h4 : c4 ≤ 8)(h5 : c5 ≤ 8)(h6 : c6 ≤ 8)(h7 : c7 ≤ 8) (hX : X = c0 + 256 * c1 + 65536 * c2 + 16777216 * c3 + 4294967296 * c4 + 1099511627776 * c5 + 281474976710656 * c6 + 72057594037927936 * c7) : X < 578721382704613385 := by omega
theorem t6 (c2 c3 c4 c5 c6 c7 Z : Nat) (h2 : c2 ≤ 8) (h3 : c3 ≤ 8)(h4 : c4 ≤ 8)(h5 : c5 ≤ 8)(h6 : c6 ≤ 8)(h7 : c7 ≤ 8) (hZ : Z = (c2 + c3) + 256 * (c3 + c4) + 65536 * (c4 + c5) + 16777216 * (c5 + c6) + 4294967296 * (c6 + c7) + 1099511627776 * c7) : Z ≤ 9000000000000 := by omega
theorem t0 (c0 c1 c2 c3 c4 c5 c6 c7 : Nat) : ofD 256 [c0, c1, c2, c3, c4, c5, c6, c7] = c0 + 256 * c1 + 65536 * c2 + 16777216 * c3 + 4294967296 * c4 + 1099511627776 * c5 + 281474976710656 * c6 + 72057594037927936 * c7 := by
  simp only [ofD, Nat.mul_zero, Nat.add_zero]
  omega
theorem t7 (c1 c2 c3 c4 c5 c6 c7 Y : Nat) (h1 : c1 ≤ 8) (h2 : c2 ≤ 8) (h3 : c3 ≤ 8) (h4 : c4 ≤ 8) (h5 : c5 ≤ 8) (h6 : c6 ≤ 8) (h7 : c7 ≤ 8) (hY : Y = c1 + 256 * c2 + 65536 * c3 + 16777216 * c4 + 4294967296 * c5 + 1099511627776 * c6 + 281474976710656 * c7) : Y ≤ 3000000000000000 := by omega
theorem last (l : List Nat) (hl : l.length = 8) (h : ∀ c ∈ l, c ≤ 8) : ofD 256 l < 578721382704613385 ∧ (ofD 256 l + ofD 256 l / 256) + (ofD 256 l + ofD 256 l / 256) / 65536 < 2 ^ 63 ∧
    ((ofD 256 l + ofD 256 l / 256) + (ofD 256 l + ofD 256 l / 256) / 65536 + ((ofD 256 l + ofD 256 l / 256) + (ofD 256 l + ofD 256 l / 256) / 65536) / 4294967296) % 128 = l.sum := by
  match l, hl with
  | [c0, c1, c2, c3, c4, c5, c6, c7], _ =>
    simp only [List.mem_cons, List.not_mem_nil, or_false, forall_eq_or_imp, forall_eq] at h
    obtain ⟨h0, h1, h2, h3, h4, h5, h6, h7⟩ := h
    have hs : [c0, c1, c2, c3, c4, c5, c6, c7].sum = c0 + c1 + c2 + c3 + c4 + c5 + c6 + c7 := by
      simp only [List.sum_cons, List.sum_nil]
      omega
    rw [hs, t0]
    generalize hX : c0 + 256 * c1 + 65536 * c2 + 16777216 * c3 + 4294967296 * c4 + 1099511627776 * c5 + 281474976710656 * c6 + 72057594037927936 * c7 = X
    obtain ⟨Y, hY⟩ : ∃ Y, Y = c1 + 256 * c2 + 65536 * c3 + 16777216 * c4 + 4294967296 * c5 + 1099511627776 * c6 + 281474976710656 * c7 := ⟨_, rfl⟩
    obtain ⟨Z, hZ⟩ : ∃ Z, Z = (c2 + c3) + 256 * (c3 + c4) + 65536 * (c4 + c5) + 16777216 * (c5 + c6) + 4294967296 * (c6 + c7) + 1099511627776 * c7 := ⟨_, rfl⟩
    obtain ⟨V, hV⟩ : ∃ V, V = (c4 + c5 + c6 + c7) + 256 * (c5 + c6 + c7) + 65536 * (c6 + c7) + 16777216 * c7 := ⟨_, rfl⟩
    have b1 := t5 c0 c1 c2 c3 c4 c5 c6 c7 X h0 h1 h2 h3 h4 h5 h6 h7 hX.symm
    have b2 := t7 c1 c2 c3 c4 c5 c6 c7 Y h1 h2 h3 h4 h5 h6 h7 hY
    have b3 := t6 c2 c3 c4 c5 c6 c7 Z h2 h3 h4 h5 h6 h7 hZ
    have e1 := t1 c0 c1 c2 c3 c4 c5 c6 c7 X Y hY hX.symm
    have e2 := t2 c0 c1 c2 c3 c4 c5 c6 c7 X Y Z hY hX.symm hZ
    have e3 := t3 c0 c1 c2 c3 c4 c5 c6 c7 X Y Z V hY hX.symm hZ hV
    have e4 := t4 c0 c1 c2 c3 c4 c5 c6 c7 X Y Z V hV e3
    clear hX hY hZ hV
    have d1 : X / 256 = Y := by
      rw [e1, Nat.add_mul_div_left _ _ (by decide), Nat.div_eq_of_lt (by omega), Nat.zero_add]
    have d2 : (X + Y) / 65536 = Z := by
      rw [e2, Nat.add_mul_div_left _ _ (by decide), Nat.div_eq_of_lt (by omega), Nat.zero_add]
    have d3 : (X + Y + Z) / 4294967296 = V := by
      rw [e3, Nat.add_mul_div_left _ _ (by decide), Nat.div_eq_of_lt (by omega), Nat.zero_add]
    clear e1 e2 e3
    rw [d1, d2, d3, e4, Nat.add_mul_mod_self_left, Nat.mod_eq_of_lt (by omega)]
    exact ⟨b1, by omega, rfl⟩
theorem last16 (l : List Nat) (hl : l.length = 16) (h : ∀ c ∈ l, c ≤ 4) : ofD 16 l ≤ 4919131752989213764 := by
  match l, hl with
  | [c0, c1, c2, c3, c4, c5, c6, c7, c8, c9, c10, c11, c12, c13, c14, c15], _ =>
    simp only [List.mem_cons, List.not_mem_nil, or_false, forall_eq_or_imp, forall_eq] at h
    simp only [ofD, Nat.mul_zero, Nat.add_zero]
    omega
theorem popN_eq (x : Nat) (hx : x < 2 ^ 64) : popN x = (setL x).length := by
  obtain ⟨l1, l2, l3, _, _, _, _, h5, h6, h7, e1, e2, e3⟩ := steps x hx
  unfold popN
  simp only [e1, e2, e3]
  rw [(last l3 h5 h6).2.2, h7]
end Go.Proofs.YtagghjljbedfdaaDoor.M
