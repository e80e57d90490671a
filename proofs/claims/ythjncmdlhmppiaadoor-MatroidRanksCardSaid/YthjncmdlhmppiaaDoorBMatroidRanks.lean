/- Plain facts behind the law MatroidRanks: what its printed functions answer, as lists of whole numbers and as vectors over the field of 256 elements. -/
import Derived.Test.YthjncmdlhmppiaaDoorV
import Derived.Laws.Bits64
import Derived.Laws.Bits64b
import Derived.RowKit
import GoSem.Claim
import Derived.Lib.TrailingZeros
import Derived.Test.YthjncmdlhmppiaaDoorQx113
import Derived.Test.YthjncmdlhmppiaaDoorQx133
import Derived.Test.YthjncmdlhmppiaaDoorQx134
import Derived.Test.YthjncmdlhmppiaaDoorQx135
import Derived.Test.YthjncmdlhmppiaaDoorQx136
import Derived.Test.YthjncmdlhmppiaaDoorQx137
import Derived.Test.YthjncmdlhmppiaaDoorQx144
import Derived.Test.YthjncmdlhmppiaaDoorQx146
import Derived.Test.YthjncmdlhmppiaaDoorQx147
import Derived.Test.YthjncmdlhmppiaaDoorQx150
import Derived.Test.YthjncmdlhmppiaaDoorQx151
import Derived.Test.YthjncmdlhmppiaaDoorQx152
import Derived.Test.YthjncmdlhmppiaaDoorQx154
import Derived.Test.YthjncmdlhmppiaaDoorQx163
import Derived.Test.YthjncmdlhmppiaaDoorQx164
import Derived.Test.YthjncmdlhmppiaaDoorQx168
import Derived.Test.YthjncmdlhmppiaaDoorQx175
import Derived.Test.YthjncmdlhmppiaaDoorQx177
import Derived.Test.YthjncmdlhmppiaaDoorQx178
namespace Go.Proofs.YthjncmdlhmppiaaDoor.M
set_option linter.unusedVariables false
set_option linter.unusedSimpArgs false
open Go.RowKit Go.Proofs.YthjncmdlhmppiaaDoorW.PrintWords Go.Proofs.YthjncmdlhmppiaaDoorW.PrintMore
def Ends {α : Type} (g : Nat → Option α) (r : α) : Prop := ∃ K, ∀ k, K ≤ k → g k = some r
theorem Ends.of {α : Type} {g : Nat → Option α} {r : α} (h : ∀ k, g k = some r) : Ends g r := ⟨0, fun k _ => h k⟩
theorem Ends.const {α : Type} {x : Option α} {r : α} (h : x = some r) : Ends (fun _ => x) r := ⟨0, fun _ _ => h⟩
theorem Ends.exists {α : Type} {g : Nat → Option α} {r : α} (h : Ends g r) : ∃ k, g k = some r := by
 obtain ⟨K, h⟩ := h
 exact ⟨K, h K (Nat.le_refl _)⟩
theorem Ends.bind {α β : Type} {f : Nat → Option α} {h : Nat → α → Option β} {x : α} {r : β} (hf : Ends f x) (hh : Ends (fun k => h k x) r) : Ends (fun k => (f k).bind (h k)) r := by
 obtain ⟨K, hf⟩ := hf
 obtain ⟨L, hh⟩ := hh
 refine ⟨max K L, fun k hk => ?_⟩
 show (f k).bind (h k) = some r
 rw [hf k (by omega)]
 exact hh k (by omega)
theorem Ends.bind1 {α β : Type} {x : Option α} {h : Nat → α → Option β} {a : α} {r : β} (hx : x = some a) (hh : Ends (fun k => h k a) r) : Ends (fun k => x.bind (h k)) r := by
 subst hx
 exact hh
theorem Ends.pos {α : Type} {f g : Nat → Option α} {c : Prop} [Decidable c] {r : α} (hc : c) (hf : Ends f r) : Ends (fun k => if c then f k else g k) r := by
 simp only [if_pos hc]
 exact hf
theorem Ends.neg {α : Type} {f g : Nat → Option α} {c : Prop} [Decidable c] {r : α} (hc : ¬ c) (hg : Ends g r) : Ends (fun k => if c then f k else g k) r := by
 simp only [if_neg hc]
 exact hg
theorem Ends.succ {α : Type} {l body : Nat → Option α} {r : α} (hs : ∀ k, l (k + 1) = body k) (hb : Ends body r) : Ends l r := by
 obtain ⟨K, hb⟩ := hb
 refine ⟨K + 1, fun k hk => ?_⟩
 obtain ⟨j, rfl⟩ : ∃ j, k = j + 1 := ⟨k - 1, by omega⟩
 rw [hs]
 exact hb j (by omega)
theorem Ends.eq {α : Type} {g : Nat → Option α} {r r' : α} (h : Ends g r) (e : r = r') : Ends g r' := e ▸ h
theorem w64 {x : Int} (h0 : -9223372036854775808 ≤ x) (h1 : x ≤ 9223372036854775807) : wrap64 x = x := by unfold wrap64; omega
theorem wu64 {x : Int} (h0 : 0 ≤ x) (h1 : x < 18446744073709551616) : IntKind.u64.wrap x = x := by rw [IntKind.wrap_u64]; omega
theorem wuN {y : Nat} (h : y < 2 ^ 64) : IntKind.u64.wrap (y : Int) = (y : Int) := by
 have h1 : (y : Int) < 18446744073709551616 := by omega
 exact wu64 (by omega) h1
theorem rd_nat (l : List Int) (i : Nat) : rd l (i : Int) = l.getD i 0 := by simp [rd]
theorem wf_u64 {n : Int} (h : (Lit.int .u64 n).wf = true) : 0 ≤ n ∧ n ≤ 18446744073709551615 := by
 simp [Lit.wf, IntKind.min, IntKind.max, IntKind.signed, IntKind.bits] at h
 omega
theorem wf_i64 {n : Int} (h : (Lit.int .i64 n).wf = true) : -9223372036854775808 ≤ n ∧ n ≤ 9223372036854775807 := by
 simp [Lit.wf, IntKind.min, IntKind.max, IntKind.signed, IntKind.bits] at h
 omega
theorem wf_u8 {n : Int} (h : (Lit.int .u8 n).wf = true) : 0 ≤ n ∧ n ≤ 255 := by
 simp [Lit.wf, IntKind.min, IntKind.max, IntKind.signed, IntKind.bits] at h
 omega
theorem u64_nat {s : Int} (h : (Lit.int .u64 s).wf = true) : ∃ m : Nat, s = (m : Int) ∧ m < 2 ^ 64 := by
 have h2 := wf_u64 h
 obtain ⟨m, rfl⟩ := Int.eq_ofNat_of_zero_le h2.1
 exact ⟨m, rfl, by omega⟩
theorem lt_and {a b : Nat} (ha : a < 2 ^ 64) : a &&& b < 2 ^ 64 := Nat.lt_of_le_of_lt Nat.and_le_left ha
theorem band {a b : Nat} (ha : a < 2 ^ 64) (hb : b < 2 ^ 64) : Go.bits .and .u64 (a : Int) (b : Int) = ((a &&& b : Nat) : Int) := bits_and_u64_nat a b (by omega) (by omega)
theorem bor {a b : Nat} (ha : a < 2 ^ 64) (hb : b < 2 ^ 64) : Go.bits .or .u64 (a : Int) (b : Int) = ((a ||| b : Nat) : Int) := bits_or_u64_nat a b (by omega) (by omega)
theorem bandNot {a b : Nat} (ha : a < 2 ^ 64) (hb : b < 2 ^ 64) : Go.bits .andNot .u64 (a : Int) (b : Int) = ((a &&& (2 ^ 64 - 1 - b) : Nat) : Int) := by
 have h1 : (BitVec.ofInt 64 (a : Int)).toNat = a := by
  rw [BitVec.ofInt_natCast, BitVec.toNat_ofNat]; exact Nat.mod_eq_of_lt ha
 have h2 : (BitVec.ofInt 64 (b : Int)).toNat = b := by
  rw [BitVec.ofInt_natCast, BitVec.toNat_ofNat]; exact Nat.mod_eq_of_lt hb
 show IntKind.u64.wrap ((BitVec.ofInt 64 (a : Int) &&& ~~~ BitVec.ofInt 64 (b : Int)).toNat : Int) = _
 rw [BitVec.toNat_and, BitVec.toNat_not, h1, h2]
 exact wu64 (by omega) (by have := lt_and (b := 2 ^ 64 - 1 - b) ha; omega)
theorem testBit_compl {b : Nat} (hb : b < 2 ^ 64) (i : Nat) : (2 ^ 64 - 1 - b).testBit i = (decide (i < 64) && !b.testBit i) := by
 rw [show 2 ^ 64 - 1 - b = 2 ^ 64 - (b + 1) from by omega, Nat.testBit_two_pow_sub_succ hb]
theorem testBit_andNot {a b : Nat} (ha : a < 2 ^ 64) (hb : b < 2 ^ 64) (i : Nat) : (a &&& (2 ^ 64 - 1 - b)).testBit i = (a.testBit i && !b.testBit i) := by
 rw [Nat.testBit_and, testBit_compl hb]
 by_cases h : i < 64
 ·simp [h]
 ·have : a.testBit i = false := Nat.testBit_lt_two_pow (Nat.lt_of_lt_of_le ha (Nat.pow_le_pow_right (by decide) (by omega)))
  simp [this]
theorem testBit_big {a : Nat} (ha : a < 2 ^ 64) {i : Nat} (hi : 64 ≤ i) : a.testBit i = false :=
 Nat.testBit_lt_two_pow (Nat.lt_of_lt_of_le ha (Nat.pow_le_pow_right (by decide) hi))
theorem shl_one {i : Nat} (hi : i < 64) : shl .u64 1 (i : Int) = ((2 ^ i : Nat) : Int) := by
 unfold shl
 have e : min (i : Int).toNat IntKind.u64.bits = i := by simp [IntKind.bits]; omega
 rw [e, Int.one_mul]
 have h : (2 : Nat) ^ i < 2 ^ 64 := Nat.pow_lt_pow_right (by decide) hi
 rw [show ((2 : Int) ^ i) = ((2 ^ i : Nat) : Int) from by simp]
 exact wu64 (Int.natCast_nonneg _) (Int.ofNat_lt.mpr h)
theorem pow_lt {i : Nat} (hi : i < 64) : 2 ^ i < 2 ^ 64 := Nat.pow_lt_pow_right (by decide) hi
theorem shr_nat {n i : Nat} (hi : i ≤ 64) : shr .u64 (n : Int) (i : Int) = ((n >>> i : Nat) : Int) := by
 unfold shr
 have e : min (i : Int).toNat IntKind.u64.bits = i := by simp [IntKind.bits]; omega
 rw [e, Nat.shiftRight_eq_div_pow]
 simp
theorem bit_asked {n i : Nat} (hn : n < 2 ^ 64) (hi : i ≤ 64) : (Go.bits .and .u64 (shr .u64 (n : Int) (i : Int)) 1 == 1) = n.testBit i := by
 rw [shr_nat hi]
 have h1 : n >>> i < 2 ^ 64 := by
  rw [Nat.shiftRight_eq_div_pow]
  exact Nat.lt_of_le_of_lt (Nat.div_le_self _ _) hn
 have e := band h1 (show 1 < 2 ^ 64 by decide)
 simp only [Int.natCast_one] at e
 rw [e, Nat.and_one_is_mod, Bool.eq_iff_iff, beq_iff_eq, Nat.testBit_eq_decide_div_mod_eq, Nat.shiftRight_eq_div_pow, decide_eq_true_eq]
 omega
theorem sorted_ext : ∀ {l m : List Nat}, l.Pairwise (· < ·) → m.Pairwise (· < ·) → (∀ x, x ∈ l ↔ x ∈ m) → l = m
 | [], [], _, _, _ => rfl
 | [], b :: m, _, _, h => absurd ((h b).2 List.mem_cons_self) (by simp)
 | a :: l, [], _, _, h => absurd ((h a).1 List.mem_cons_self) (by simp)
 | a :: l, b :: m, hl, hm, h => by
  rw [List.pairwise_cons] at hl hm
  have hab : a = b := by
   have h1 := (h a).1 List.mem_cons_self
   have h2 := (h b).2 List.mem_cons_self
   rw [List.mem_cons] at h1 h2
   rcases h1 with h1 | h1
   ·exact h1
   ·rcases h2 with h2 | h2
    ·exact h2.symm
    ·have := hm.1 a h1
     have := hl.1 b h2
     omega
  subst hab
  congr 1
  refine sorted_ext hl.2 hm.2 fun x => ?_
  have hx := h x
  rw [List.mem_cons, List.mem_cons] at hx
  constructor
  ·intro hxl
   rcases hx.1 (Or.inr hxl) with rfl | h1
   ·have := hl.1 _ hxl
    omega
   ·exact h1
  ·intro hxm
   rcases hx.2 (Or.inr hxm) with rfl | h1
   ·have := hm.1 _ hxm
    omega
   ·exact h1
def setL (n : Nat) : List Nat := (List.range 64).filter fun i => n.testBit i
theorem setL_sorted (n : Nat) : (setL n).Pairwise (· < ·) := List.Pairwise.filter _ List.pairwise_lt_range
theorem mem_setL {n i : Nat} : i ∈ setL n ↔ i < 64 ∧ n.testBit i = true := by simp [setL]
theorem mem_setL' {n i : Nat} (hn : n < 2 ^ 64) : i ∈ setL n ↔ n.testBit i = true := by
 rw [mem_setL]
 constructor
 ·exact fun h => h.2
 ·intro h
  refine ⟨?_, h⟩
  rcases Nat.lt_or_ge i 64 with h1 | h1
  ·exact h1
  ·rw [testBit_big hn h1] at h
   cases h
theorem setL_length (n : Nat) : (setL n).length ≤ 64 := by
 have := List.length_filter_le (fun i => n.testBit i) (List.range 64)
 simpa [setL] using this
theorem setL_zero : setL 0 = [] := by simp [setL]
theorem lowest {n : Nat} (h0 : n ≠ 0) (hn : n < 2 ^ 64) : Lib.ctz 64 n < 64 ∧ n.testBit (Lib.ctz 64 n) = true ∧ (∀ i, i < Lib.ctz 64 n → n.testBit i = false) ∧ ∀ i, (n &&& (n - 1)).testBit i = (n.testBit i && decide (i ≠ Lib.ctz 64 n)) := by
 have hc : Lib.ctz 64 n = Lib.ctzFrom 64 n := by unfold Lib.ctz; rw [if_neg h0]
 obtain ⟨m, hm, hlt⟩ := Lib.ctzFrom_spec 64 n (by omega) hn
 rw [hc]
 generalize Lib.ctzFrom 64 n = c at hm hlt
 have hp : 0 < 2 ^ c := Nat.pow_pos (by decide)
 have e1 : n - 1 = 2 ^ c * (2 * m) + (2 ^ c - 1) := by rw [hm, Nat.mul_add]; omega
 have b1 : ∀ i, n.testBit i = if i < c then false else (2 * m + 1).testBit (i - c) := by
  intro i
  rw [hm, Nat.testBit_two_pow_mul]
  by_cases h : i < c
  ·rw [if_pos h]
   simp; omega
  ·rw [if_neg h]
   simp; omega
 have b2 : ∀ i, (n - 1).testBit i = if i < c then true else (2 * m).testBit (i - c) := by
  intro i
  rw [e1, Nat.testBit_two_pow_mul_add _ (by omega)]
  by_cases h : i < c
  ·rw [if_pos h, if_pos h, Nat.testBit_two_pow_sub_one]
   simp [h]
  ·rw [if_neg h, if_neg h]
 refine ⟨hlt, ?_, ?_, ?_⟩
 ·rw [b1, if_neg (by omega), Nat.sub_self, Nat.testBit_zero]
  simp
 ·intro i hi
  rw [b1, if_pos hi]
 ·intro i
  rw [Nat.testBit_and, b1, b2]
  by_cases h : i < c
  ·rw [if_pos h]; simp
  ·rw [if_neg h, if_neg h]
   by_cases h2 : i = c
   ·subst h2
    rw [Nat.sub_self, Nat.testBit_zero, Nat.testBit_zero]
    simp
   ·obtain ⟨j, hj⟩ : ∃ j, i - c = j + 1 := ⟨i - c - 1, by omega⟩
    rw [hj, Nat.testBit_succ, Nat.testBit_succ, show (2 * m + 1) / 2 = m from by omega, show 2 * m / 2 = m from by omega]
    simp [h2]
theorem setL_step {n : Nat} (h0 : n ≠ 0) (hn : n < 2 ^ 64) : setL n = Lib.ctz 64 n :: setL (n &&& (n - 1)) := by
 obtain ⟨h1, h2, h3, h4⟩ := lowest h0 hn
 have hn' : n &&& (n - 1) < 2 ^ 64 := lt_and hn
 refine sorted_ext (setL_sorted _) ?_ fun x => ?_
 ·rw [List.pairwise_cons]
  refine ⟨fun x hx => ?_, setL_sorted _⟩
  rw [mem_setL' hn', h4] at hx
  simp only [Bool.and_eq_true, decide_eq_true_eq] at hx
  rcases Nat.lt_or_ge x (Lib.ctz 64 n) with h | h
  ·rw [h3 x h] at hx
   exact absurd hx.1 (by simp)
  ·omega
 ·rw [List.mem_cons, mem_setL' hn, mem_setL' hn', h4]
  simp only [Bool.and_eq_true, decide_eq_true_eq]
  by_cases hx : x = Lib.ctz 64 n
  ·subst hx
   simp [h2]
  ·simp [hx]
def ints (l : List Nat) : List Int := l.map fun (x : Nat) => (x : Int)
theorem ints_length (l : List Nat) : (ints l).length = l.length := List.length_map _
theorem ints_append (a b : List Nat) : ints (a ++ b) = ints a ++ ints b := List.map_append
end Go.Proofs.YthjncmdlhmppiaaDoor.M
namespace Go.Proofs.YthjncmdlhmppiaaDoor.M
set_option linter.unusedVariables false
open Go.RowKit Go.Proofs.YthjncmdlhmppiaaDoorW.PrintWords Go.Proofs.YthjncmdlhmppiaaDoorW.PrintMore
def ofD (B : Nat) : List Nat → Nat
  | [] => 0
  | c :: r => c + B * ofD B r
def evens : List Nat → List Nat
  | a :: _ :: r => a :: evens r
  | _ => []
def pairs : List Nat → List Nat
  | a :: b :: r => (a + b) :: pairs r
  | _ => []
def maskD (B : Nat) (n : Nat) : Nat := ofD (B * B) (List.replicate n (B - 1))
theorem ofD_lt {B : Nat} (hB : 0 < B) : ∀ {l : List Nat}, (∀ c ∈ l, c < B) → ofD B l < B ^ l.length
  | [], _ => by simp [ofD]
  | c :: r, h => by
    have h1 := ofD_lt hB (l := r) fun x hx => h x (List.mem_cons_of_mem _ hx)
    have h2 := h c List.mem_cons_self
    have h3 : B * (ofD B r + 1) ≤ B * B ^ r.length := Nat.mul_le_mul_left _ h1
    rw [List.length_cons, Nat.pow_succ, Nat.mul_comm (B ^ r.length)]
    simp only [ofD]
    rw [Nat.mul_add] at h3
    omega
theorem and_split {k a x c y : Nat} (ha : a < 2 ^ k) (hc : c < 2 ^ k) : (a + 2 ^ k * x) &&& (c + 2 ^ k * y) = (a &&& c) + 2 ^ k * (x &&& y) := by
  apply Nat.eq_of_testBit_eq
  intro i
  rw [Nat.add_comm a, Nat.add_comm c, Nat.add_comm (a &&& c), Nat.testBit_and, Nat.testBit_two_pow_mul_add _ ha, Nat.testBit_two_pow_mul_add _ hc, Nat.testBit_two_pow_mul_add _ (Nat.lt_of_le_of_lt Nat.and_le_left ha)]
  by_cases h : i < k
  · simp [h]
  · simp [h]
theorem mask_evens {w : Nat} : ∀ (n : Nat) (l : List Nat), l.length = 2 * n → (∀ c ∈ l, c < 2 ^ w) → ofD (2 ^ w) l &&& maskD (2 ^ w) n = ofD (2 ^ w * 2 ^ w) (evens l)
  | 0, [], _, _ => by simp [ofD, maskD, evens]
  | 0, _ :: _, h, _ => by simp at h
  | n + 1, [], h, _ => by simp at h
  | n + 1, [_], h, _ => by simp at h; omega
  | n + 1, a :: b :: r, h, hl => by
    have ih := mask_evens n r (by simp at h; omega) fun x hx => hl x (List.mem_cons_of_mem _ (List.mem_cons_of_mem _ hx))
    have ha := hl a List.mem_cons_self
    have hb := hl b (List.mem_cons_of_mem _ List.mem_cons_self)
    have hp : 0 < 2 ^ w := Nat.pow_pos (by decide)
    have e1 : ofD (2 ^ w) (a :: b :: r) = (a + 2 ^ w * b) + 2 ^ (w + w) * ofD (2 ^ w) r := by
      simp only [ofD]
      rw [Nat.mul_add, Nat.pow_add, Nat.mul_assoc]
      omega
    have e2 : maskD (2 ^ w) (n + 1) = (2 ^ w - 1) + 2 ^ (w + w) * maskD (2 ^ w) n := by
      unfold maskD
      rw [List.replicate_succ, ofD, Nat.pow_add]
    have hab : a + 2 ^ w * b < 2 ^ (w + w) := by
      have : 2 ^ w * (b + 1) ≤ 2 ^ w * 2 ^ w := Nat.mul_le_mul_left _ hb
      rw [Nat.mul_add] at this
      rw [Nat.pow_add]
      omega
    have hm : 2 ^ w - 1 < 2 ^ (w + w) := by
      have : 2 ^ w * 1 ≤ 2 ^ w * 2 ^ w := Nat.mul_le_mul_left _ hp
      rw [Nat.pow_add]
      omega
    rw [e1, e2, and_split hab hm, ih, Nat.and_two_pow_sub_one_eq_mod, Nat.add_mul_mod_self_left, Nat.mod_eq_of_lt ha, evens, ofD, Nat.pow_add]
theorem ofD_shift {w : Nat} {c : Nat} {r : List Nat} (hc : c < 2 ^ w) : ofD (2 ^ w) (c :: r) / 2 ^ w = ofD (2 ^ w) r := by
  simp only [ofD]
  rw [Nat.add_mul_div_left _ _ (Nat.pow_pos (by decide)), Nat.div_eq_of_lt hc, Nat.zero_add]
theorem ofD_snoc_zero (B : Nat) : ∀ l : List Nat, ofD B (l ++ [0]) = ofD B l
  | [] => by simp [ofD]
  | c :: r => by simp only [List.cons_append, ofD, ofD_snoc_zero B r]
theorem pairs_sum : ∀ (n : Nat) (l : List Nat), l.length = 2 * n → (pairs l).sum = l.sum ∧ (pairs l).length = n
  | 0, [], _ => by simp [pairs]
  | 0, _ :: _, h => by simp at h
  | n + 1, [], h => by simp at h
  | n + 1, [_], h => by simp at h; omega
  | n + 1, a :: b :: r, h => by
    have ih := pairs_sum n r (by simp at h; omega)
    exact ⟨by simp only [pairs, List.sum_cons, ih.1, Nat.add_assoc], by simp only [pairs, List.length_cons, ih.2]⟩
theorem pairs_le {B : Nat} : ∀ (l : List Nat), (∀ c ∈ l, c ≤ B) → ∀ c ∈ pairs l, c ≤ 2 * B
  | [], _, c, hc => by simp [pairs] at hc
  | [_], _, c, hc => by simp [pairs] at hc
  | a :: b :: r, h, c, hc => by
    simp only [pairs, List.mem_cons] at hc
    have ha := h a List.mem_cons_self
    have hb := h b (List.mem_cons_of_mem _ List.mem_cons_self)
    rcases hc with rfl | hc
    · omega
    · exact pairs_le r (fun x hx => h x (List.mem_cons_of_mem _ (List.mem_cons_of_mem _ hx))) c hc
theorem evens_odds (B : Nat) : ∀ (n : Nat) (l : List Nat), l.length = 2 * n → ofD B (evens (l.tail ++ [0])) + ofD B (evens l) = ofD B (pairs l)
  | 0, [], _ => by simp [evens, pairs, ofD]
  | 0, _ :: _, h => by simp at h
  | n + 1, [], h => by simp at h
  | n + 1, [_], h => by simp at h; omega
  | n + 1, [a, b], _ => by simp [evens, pairs, ofD]; omega
  | n + 1, a :: b :: c :: r, h => by
    have ih := evens_odds B n (c :: r) (by simp at h ⊢; omega)
    simp only [List.tail_cons, List.cons_append, evens, pairs, ofD] at ih ⊢
    rw [← ih, Nat.mul_add]
    omega
theorem fields_add {w n : Nat} {l : List Nat} (hl : l.length = 2 * n) (h : ∀ c ∈ l, c < 2 ^ w) :
    ((ofD (2 ^ w) l / 2 ^ w) &&& maskD (2 ^ w) n) + (ofD (2 ^ w) l &&& maskD (2 ^ w) n) = ofD (2 ^ w * 2 ^ w) (pairs l) := by
  cases l with
  | nil =>
    obtain rfl : n = 0 := by simp at hl; omega
    simp [ofD, maskD, pairs]
  | cons c r =>
    rw [ofD_shift (h c List.mem_cons_self), ← ofD_snoc_zero, mask_evens n (r ++ [0]) (by simp at hl ⊢; omega), mask_evens n (c :: r) hl h, ← evens_odds _ n _ hl, List.tail_cons]
    intro x hx
    rw [List.mem_append] at hx
    rcases hx with hx | hx
    · exact h x (List.mem_cons_of_mem _ hx)
    · simp at hx
      subst hx
      exact Nat.pow_pos (by decide)
def bitsD (n : Nat) (i : Nat) : Nat → List Nat
  | 0 => []
  | c + 1 => (if n.testBit i then 1 else 0) :: bitsD n (i + 1) c
theorem ofD_bitsD (n : Nat) : ∀ (c i : Nat), ofD 2 (bitsD n i c) = n / 2 ^ i % 2 ^ c
  | 0, i => by simp [bitsD, ofD, Nat.mod_one]
  | c + 1, i => by
    simp only [bitsD, ofD]
    rw [ofD_bitsD n c (i + 1), Nat.testBit_eq_decide_div_mod_eq, Nat.pow_succ 2 i, ← Nat.div_div_eq_div_mul]
    have h := Nat.mod_mul (a := 2) (b := 2 ^ c) (x := n / 2 ^ i)
    rw [Nat.pow_succ, Nat.mul_comm (2 ^ c) 2, h]
    have : n / 2 ^ i % 2 < 2 := Nat.mod_lt _ (by decide)
    by_cases h1 : n / 2 ^ i % 2 = 1
    · simp [h1]
    · have : n / 2 ^ i % 2 = 0 := by omega
      simp [this]
theorem bitsD_length (n : Nat) : ∀ c i, (bitsD n i c).length = c
  | 0, _ => rfl
  | c + 1, i => by simp [bitsD, bitsD_length n c (i + 1)]
theorem bitsD_le (n : Nat) : ∀ c i, ∀ x ∈ bitsD n i c, x ≤ 1
  | 0, _, x, hx => by simp [bitsD] at hx
  | c + 1, i, x, hx => by
    simp only [bitsD, List.mem_cons] at hx
    rcases hx with rfl | hx
    · split <;> omega
    · exact bitsD_le n c (i + 1) x hx
theorem bitsD_sum (n : Nat) : ∀ c i, (bitsD n i c).sum = ((List.range' i c).filter fun j => n.testBit j).length
  | 0, i => by simp [bitsD]
  | c + 1, i => by
    simp only [bitsD, List.sum_cons, bitsD_sum n c (i + 1), List.range'_succ, List.filter_cons]
    split <;> simp <;> omega
theorem mask1 : maskD (2 ^ 1) 32 = 6148914691236517205 := by decide
theorem mask2 : maskD (2 ^ 2) 16 = 3689348814741910323 := by decide
theorem mask4 : maskD (2 ^ 4) 8 = 1085102592571150095 := by decide
theorem ofD_zip {B : Nat} : ∀ (a b : List Nat), a.length = b.length → ofD B (List.zipWith (· + ·) a b) = ofD B a + ofD B b
  | [], [], _ => rfl
  | [], _ :: _, h => by simp at h
  | _ :: _, [], h => by simp at h
  | x :: a, y :: b, h => by
    have ih := ofD_zip (B := B) a b (by simpa using h)
    simp only [List.zipWith_cons_cons, ofD, ih, Nat.mul_add]
    omega
theorem zip_le {A B : Nat} : ∀ (a b : List Nat), (∀ c ∈ a, c ≤ A) → (∀ c ∈ b, c ≤ B) → ∀ c ∈ List.zipWith (· + ·) a b, c ≤ A + B
  | [], _, _, _, c, hc => by simp at hc
  | _ :: _, [], _, _, c, hc => by simp at hc
  | x :: a, y :: b, ha, hb, c, hc => by
    simp only [List.zipWith_cons_cons, List.mem_cons] at hc
    have h1 := ha x List.mem_cons_self
    have h2 := hb y List.mem_cons_self
    rcases hc with rfl | hc
    · omega
    · exact zip_le a b (fun z hz => ha z (List.mem_cons_of_mem _ hz)) (fun z hz => hb z (List.mem_cons_of_mem _ hz)) c hc
theorem evens_zip : ∀ (n : Nat) (m : List Nat), m.length = 2 * n → evens (List.zipWith (· + ·) (m.tail ++ [0]) m) = pairs m
  | 0, [], _ => rfl
  | 0, _ :: _, h => by simp at h
  | n + 1, [], h => by simp at h
  | n + 1, [_], h => by simp at h; omega
  | n + 1, [a, b], _ => by simp [evens, pairs, Nat.add_comm]
  | n + 1, a :: b :: c :: r, h => by
    have ih := evens_zip n (c :: r) (by simp at h ⊢; omega)
    simp only [List.tail_cons, List.cons_append, List.zipWith_cons_cons, evens, pairs] at ih ⊢
    rw [ih, Nat.add_comm a b]
theorem steps (x : Nat) (hx : x < 2 ^ 64) : ∃ l1 l2 l3 : List Nat, l1.length = 32 ∧ (∀ c ∈ l1, c ≤ 2) ∧ l2.length = 16 ∧ (∀ c ∈ l2, c ≤ 4) ∧ l3.length = 8 ∧ (∀ c ∈ l3, c ≤ 8) ∧ l3.sum = (setL x).length ∧
    (x / 2 &&& 6148914691236517205) + (x &&& 6148914691236517205) = ofD 4 l1 ∧ (ofD 4 l1 / 4 &&& 3689348814741910323) + (ofD 4 l1 &&& 3689348814741910323) = ofD 16 l2 ∧
    (ofD 16 l2 / 16 + ofD 16 l2) &&& 1085102592571150095 = ofD 256 l3 := by
  have hb := ofD_bitsD x 64 0
  rw [Nat.pow_zero, Nat.div_one, Nat.mod_eq_of_lt hx] at hb
  have hl := bitsD_length x 64 0
  have hs := bitsD_sum x 64 0
  have hle := bitsD_le x 64 0
  generalize bitsD x 0 64 = l at hb hl hs hle
  have p1 := pairs_sum 32 l hl
  have q1 := pairs_le (B := 1) l hle
  have p2 := pairs_sum 16 (pairs l) p1.2
  have q2 := pairs_le (B := 2) (pairs l) q1
  have p3 := pairs_sum 8 (pairs (pairs l)) p2.2
  have q3 := pairs_le (B := 4) (pairs (pairs l)) q2
  refine ⟨pairs l, pairs (pairs l), pairs (pairs (pairs l)), p1.2, q1, p2.2, q2, p3.2, q3, ?_, ?_, ?_, ?_⟩
  · rw [p3.1, p2.1, p1.1, hs, setL, List.range_eq_range']
  · have := fields_add (w := 1) (n := 32) hl (fun c hc => by have := hle c hc; omega)
    rw [mask1, show (2 : Nat) ^ 1 = 2 from rfl, hb] at this
    exact this
  · have := fields_add (w := 2) (n := 16) p1.2 (fun c hc => by have := q1 c hc; omega)
    rw [mask2] at this
    exact this
  · -- the sums of neighbours have room in their fields
    have hm := fields_add (w := 4) (n := 8) p2.2 (fun c hc => by have := q2 c hc; omega)
    have hlen : (pairs (pairs l)).length = 16 := p2.2
    generalize pairs (pairs l) = m at hm hlen q2
    have hz : ofD 16 m / 16 + ofD 16 m = ofD 16 (List.zipWith (· + ·) (m.tail ++ [0]) m) ∧ (∀ c ∈ List.zipWith (· + ·) (m.tail ++ [0]) m, c < 16) ∧ evens (List.zipWith (· + ·) (m.tail ++ [0]) m) = pairs m := by
      refine ⟨?_, ?_, evens_zip 8 m hlen⟩
      · cases m with
        | nil => simp at hlen
        | cons c r =>
          have h := ofD_shift (w := 4) (c := c) (r := r) (by have := q2 c List.mem_cons_self; omega)
          rw [show (2 : Nat) ^ 4 = 16 from rfl] at h
          rw [h, ofD_zip _ _ (by simp), List.tail_cons, ofD_snoc_zero]
      · intro c hc
        have := zip_le (A := 4) (B := 4) (m.tail ++ [0]) m (fun x hx => by
          rw [List.mem_append] at hx
          rcases hx with hx | hx
          · exact q2 x (List.mem_of_mem_tail hx)
          · simp at hx
            omega) q2 c hc
        omega
    rw [hz.1]
    have := mask_evens (w := 4) 8 (List.zipWith (· + ·) (m.tail ++ [0]) m) (by simp [hlen]) hz.2.1
    rw [mask4] at this
    rw [show (16 : Nat) = 2 ^ 4 from rfl, this, hz.2.2]
theorem t1 (c0 c1 c2 c3 c4 c5 c6 c7 X Y : Nat) (hY : Y = c1 + 256 * c2 + 65536 * c3 + 16777216 * c4 + 4294967296 * c5 + 1099511627776 * c6 + 281474976710656 * c7) (hX : X = c0 + 256 * c1 + 65536 * c2 + 16777216 * c3 + 4294967296 * c4 + 1099511627776 * c5 + 281474976710656 * c6 + 72057594037927936 * c7) : X = c0 + 256 * Y := by omega
theorem t2 (c0 c1 c2 c3 c4 c5 c6 c7 X Y Z : Nat) (hY : Y = c1 + 256 * c2 + 65536 * c3 + 16777216 * c4 + 4294967296 * c5 + 1099511627776 * c6 + 281474976710656 * c7) (hX : X = c0 + 256 * c1 + 65536 * c2 + 16777216 * c3 + 4294967296 * c4 + 1099511627776 * c5 + 281474976710656 * c6 + 72057594037927936 * c7) (hZ : Z = (c2 + c3) + 256 * (c3 + c4) + 65536 * (c4 + c5) + 16777216 * (c5 + c6) + 4294967296 * (c6 + c7) + 1099511627776 * c7) : X + Y = ((c0 + c1) + 256 * (c1 + c2)) + 65536 * Z := by omega
theorem t3 (c0 c1 c2 c3 c4 c5 c6 c7 X Y Z V : Nat) (hY : Y = c1 + 256 * c2 + 65536 * c3 + 16777216 * c4 + 4294967296 * c5 + 1099511627776 * c6 + 281474976710656 * c7) (hX : X = c0 + 256 * c1 + 65536 * c2 + 16777216 * c3 + 4294967296 * c4 + 1099511627776 * c5 + 281474976710656 * c6 + 72057594037927936 * c7) (hZ : Z = (c2 + c3) + 256 * (c3 + c4) + 65536 * (c4 + c5) + 16777216 * (c5 + c6) + 4294967296 * (c6 + c7) + 1099511627776 * c7)
  (hV : V = (c4 + c5 + c6 + c7) + 256 * (c5 + c6 + c7) + 65536 * (c6 + c7) + 16777216 * c7) : X + Y + Z = ((c0 + c1 + c2 + c3) + 256 * (c1 + c2 + c3 + c4) + 65536 * (c2 + c3 + c4 + c5) + 16777216 * (c3 + c4 + c5 + c6)) + 4294967296 * V := by omega
theorem t4 (c0 c1 c2 c3 c4 c5 c6 c7 X Y Z V : Nat) (hV : V = (c4 + c5 + c6 + c7) + 256 * (c5 + c6 + c7) + 65536 * (c6 + c7) + 16777216 * c7) (h : X + Y + Z = ((c0 + c1 + c2 + c3) + 256 * (c1 + c2 + c3 + c4) + 65536 * (c2 + c3 + c4 + c5) + 16777216 * (c3 + c4 + c5 + c6)) + 4294967296 * V) : X + Y + Z + V = (c0 + c1 + c2 + c3 + c4 + c5 + c6 + c7) + 128 * (2 * ((c1 + c2 + c3 + c4) + 256 * (c2 + c3 + c4 + c5) + 65536 * (c3 + c4 + c5 + c6) + 16777216 * V + ((c5 + c6 + c7) + 256 * (c6 + c7) + 65536 * c7))) := by omega
theorem t5 (c0 c1 c2 c3 c4 c5 c6 c7 X : Nat) (h0 : c0 ≤ 8) (h1 : c1 ≤ 8) (h2 : c2 ≤ 8) (h3 : c3 ≤ 8)(h4 : c4 ≤ 8)(h5 : c5 ≤ 8)(h6 : c6 ≤ 8)(h7 : c7 ≤ 8) (hX : X = c0 + 256 * c1 + 65536 * c2 + 16777216 * c3 + 4294967296 * c4 + 1099511627776 * c5 + 281474976710656 * c6 + 72057594037927936 * c7) : X < 578721382704613385 := by omega
theorem t6 (c2 c3 c4 c5 c6 c7 Z : Nat) (h2 : c2 ≤ 8) (h3 : c3 ≤ 8)(h4 : c4 ≤ 8)(h5 : c5 ≤ 8)(h6 : c6 ≤ 8)(h7 : c7 ≤ 8) (hZ : Z = (c2 + c3) + 256 * (c3 + c4) + 65536 * (c4 + c5) + 16777216 * (c5 + c6) + 4294967296 * (c6 + c7) + 1099511627776 * c7) : Z ≤ 9000000000000 := by omega
theorem t0 (c0 c1 c2 c3 c4 c5 c6 c7 : Nat) : ofD 256 [c0, c1, c2, c3, c4, c5, c6, c7] = c0 + 256 * c1 + 65536 * c2 + 16777216 * c3 + 4294967296 * c4 + 1099511627776 * c5 + 281474976710656 * c6 + 72057594037927936 * c7 := by
  simp only [ofD, Nat.mul_zero, Nat.add_zero]
  omega
theorem t7 (c1 c2 c3 c4 c5 c6 c7 Y : Nat) (h1 : c1 ≤ 8) (h2 : c2 ≤ 8) (h3 : c3 ≤ 8) (h4 : c4 ≤ 8) (h5 : c5 ≤ 8) (h6 : c6 ≤ 8) (h7 : c7 ≤ 8) (hY : Y = c1 + 256 * c2 + 65536 * c3 + 16777216 * c4 + 4294967296 * c5 + 1099511627776 * c6 + 281474976710656 * c7) : Y ≤ 3000000000000000 := by omega
theorem last (l : List Nat) (hl : l.length = 8) (h : ∀ c ∈ l, c ≤ 8) : ofD 256 l < 578721382704613385 ∧ (ofD 256 l + ofD 256 l / 256) + (ofD 256 l + ofD 256 l / 256) / 65536 < 2 ^ 63 ∧
    ((ofD 256 l + ofD 256 l / 256) + (ofD 256 l + ofD 256 l / 256) / 65536 + ((ofD 256 l + ofD 256 l / 256) + (ofD 256 l + ofD 256 l / 256) / 65536) / 4294967296) % 128 = l.sum := by
  match l, hl with
  | [c0, c1, c2, c3, c4, c5, c6, c7], _ =>
    simp only [List.mem_cons, List.not_mem_nil, or_false, forall_eq_or_imp, forall_eq] at h
    obtain ⟨h0, h1, h2, h3, h4, h5, h6, h7⟩ := h
    have hs : [c0, c1, c2, c3, c4, c5, c6, c7].sum = c0 + c1 + c2 + c3 + c4 + c5 + c6 + c7 := by
      simp only [List.sum_cons, List.sum_nil]
      omega
    rw [hs, t0]
    generalize hX : c0 + 256 * c1 + 65536 * c2 + 16777216 * c3 + 4294967296 * c4 + 1099511627776 * c5 + 281474976710656 * c6 + 72057594037927936 * c7 = X
    obtain ⟨Y, hY⟩ : ∃ Y, Y = c1 + 256 * c2 + 65536 * c3 + 16777216 * c4 + 4294967296 * c5 + 1099511627776 * c6 + 281474976710656 * c7 := ⟨_, rfl⟩
    obtain ⟨Z, hZ⟩ : ∃ Z, Z = (c2 + c3) + 256 * (c3 + c4) + 65536 * (c4 + c5) + 16777216 * (c5 + c6) + 4294967296 * (c6 + c7) + 1099511627776 * c7 := ⟨_, rfl⟩
    obtain ⟨V, hV⟩ : ∃ V, V = (c4 + c5 + c6 + c7) + 256 * (c5 + c6 + c7) + 65536 * (c6 + c7) + 16777216 * c7 := ⟨_, rfl⟩
    have b1 := t5 c0 c1 c2 c3 c4 c5 c6 c7 X h0 h1 h2 h3 h4 h5 h6 h7 hX.symm
    have b2 := t7 c1 c2 c3 c4 c5 c6 c7 Y h1 h2 h3 h4 h5 h6 h7 hY
    have b3 := t6 c2 c3 c4 c5 c6 c7 Z h2 h3 h4 h5 h6 h7 hZ
    have e1 := t1 c0 c1 c2 c3 c4 c5 c6 c7 X Y hY hX.symm
    have e2 := t2 c0 c1 c2 c3 c4 c5 c6 c7 X Y Z hY hX.symm hZ
    have e3 := t3 c0 c1 c2 c3 c4 c5 c6 c7 X Y Z V hY hX.symm hZ hV
    have e4 := t4 c0 c1 c2 c3 c4 c5 c6 c7 X Y Z V hV e3
    clear hX hY hZ hV
    have d1 : X / 256 = Y := by
      rw [e1, Nat.add_mul_div_left _ _ (by decide), Nat.div_eq_of_lt (by omega), Nat.zero_add]
    have d2 : (X + Y) / 65536 = Z := by
      rw [e2, Nat.add_mul_div_left _ _ (by decide), Nat.div_eq_of_lt (by omega), Nat.zero_add]
    have d3 : (X + Y + Z) / 4294967296 = V := by
      rw [e3, Nat.add_mul_div_left _ _ (by decide), Nat.div_eq_of_lt (by omega), Nat.zero_add]
    clear e1 e2 e3
    rw [d1, d2, d3, e4, Nat.add_mul_mod_self_left, Nat.mod_eq_of_lt (by omega)]
    exact ⟨b1, by omega, rfl⟩
theorem last16 (l : List Nat) (hl : l.length = 16) (h : ∀ c ∈ l, c ≤ 4) : ofD 16 l ≤ 4919131752989213764 := by
  match l, hl with
  | [c0, c1, c2, c3, c4, c5, c6, c7, c8, c9, c10, c11, c12, c13, c14, c15], _ =>
    simp only [List.mem_cons, List.not_mem_nil, or_false, forall_eq_or_imp, forall_eq] at h
    simp only [ofD, Nat.mul_zero, Nat.add_zero]
    omega
end Go.Proofs.YthjncmdlhmppiaaDoor.M
namespace Go.Proofs.YthjncmdlhmppiaaDoor.M
set_option linter.unusedVariables false
set_option linter.unusedSimpArgs false
open Go.RowKit Go.Proofs.YthjncmdlhmppiaaDoor.Q Go.Proofs.YthjncmdlhmppiaaDoorW.PrintWords Go.Proofs.YthjncmdlhmppiaaDoorW.PrintMore
theorem low_lt {n : Nat} (hn : n ≤ 64) : 2 ^ n - 1 < 2 ^ 64 := by
 have : 2 ^ n ≤ 2 ^ 64 := Nat.pow_le_pow_right (by decide) hn
 have : 0 < 2 ^ n := Nat.pow_pos (by decide)
 omega
theorem testBit_low (n i : Nat) : (2 ^ n - 1).testBit i = decide (i < n) := Nat.testBit_two_pow_sub_one n i
theorem refFull_l0 {n : Nat} (hn : n ≤ 64) (d : Nat) : ∀ i, i + d = n → Ends (fun k => recoupref06_Full.l0 k (n : Int) ((2 ^ i - 1 : Nat) : Int) (i : Int)) (((2 ^ n - 1 : Nat) : Int), 0) := by
 induction d with
 | zero =>
  intro i hi
  obtain rfl : i = n := by omega
  refine Ends.succ (fun k => by rw [recoupref06_Full.l0]) ?_
  exact Ends.neg (by omega) (Ends.const rfl)
 | succ d ih =>
  intro i hi
  refine Ends.succ (fun k => by rw [recoupref06_Full.l0]) ?_
  rw [show IntKind.u64.wrap (i : Int) = (i : Int) from wu64 (by omega) (by omega), show wrap64 ((i : Int) + 1) = ((i + 1 : Nat) : Int) from by rw [w64 (by omega) (by omega)]; omega]
  refine Ends.pos (by omega) (Ends.pos (by omega) ?_)
  have e : Go.bits .or .u64 ((2 ^ i - 1 : Nat) : Int) (shl .u64 1 (i : Int)) = ((2 ^ (i + 1) - 1 : Nat) : Int) := by
   rw [shl_one (by omega), bor (low_lt (by omega)) (pow_lt (by omega))]
   congr 1
   apply Nat.eq_of_testBit_eq
   intro j
   rw [Nat.testBit_or, testBit_low, testBit_low, Nat.testBit_two_pow, Bool.eq_iff_iff, Bool.or_eq_true, decide_eq_true_eq, decide_eq_true_eq, decide_eq_true_eq]
   omega
  rw [e]
  exact ih (i + 1) (by omega)
def fullV (n : Int) : Int × Int := if 0 ≤ n ∧ n ≤ 64 then (((2 ^ n.toNat - 1 : Nat) : Int), 0) else (0, 2)
theorem refFull_eq (n : Int) : Ends (fun k => recoupref06_Full.f k n) (fullV n) := by
 unfold recoupref06_Full.f fullV
 by_cases h0 : n < 0
 ·refine Ends.pos h0 (Ends.succ (fun j => by rw [recoupref06_Full.j0]) (Ends.pos rfl (Ends.const ?_)))
  rw [if_neg (by omega)]
 ·refine Ends.neg h0 ?_
  by_cases h1 : n > 64
  ·refine Ends.succ (fun j => by rw [recoupref06_Full.j0]) (Ends.pos (by simpa using h1) (Ends.const ?_))
   rw [if_neg (by omega)]
  ·rw [if_pos (by omega)]
   refine Ends.succ (fun j => by rw [recoupref06_Full.j0]) (Ends.neg (by simpa using h1) ?_)
   obtain ⟨m, rfl⟩ := Int.eq_ofNat_of_zero_le (show 0 ≤ n by omega)
   exact refFull_l0 (by omega) _ 0 (Nat.zero_add _)
theorem has_eq {s : Nat} (hs : s < 2 ^ 64) (i : Int) : recoupref06_Has.f (s : Int) i = some (decide (0 ≤ i) && s.testBit i.toNat) := by
 unfold recoupref06_Has.f
 by_cases h0 : i ≥ 0
 ·rw [if_pos h0]
  obtain ⟨j, rfl⟩ := Int.eq_ofNat_of_zero_le h0
  by_cases h1 : (j : Int) < 64
  ·rw [if_pos h1, show IntKind.u64.wrap (j : Int) = (j : Int) from wu64 (by omega) (by omega), if_pos (by omega), bit_asked hs (by omega)]
   simp
  ·rw [if_neg h1, Int.toNat_natCast, testBit_big hs (by omega)]
   simp
 ·rw [if_neg h0, show decide (0 ≤ i) = false from by simpa using h0]
  rfl
theorem refList_l0 {s : Nat} (hs : s < 2 ^ 64) (d : Nat) : ∀ i, i + d = 64 → Ends (fun k => recoupref06_List.l0 k (s : Int) (ints ((List.range i).filter fun j => s.testBit j)) (i : Int)) (ints (setL s)) := by
 induction d with
 | zero =>
  intro i hi
  obtain rfl : i = 64 := by omega
  refine Ends.succ (fun k => by rw [recoupref06_List.l0]) ?_
  exact Ends.neg (by omega) (Ends.const rfl)
 | succ d ih =>
  intro i hi
  have ihn := ih (i + 1) (by omega)
  refine Ends.succ (fun k => by rw [recoupref06_List.l0]) ?_
  rw [show wrap64 ((i : Int) + 1) = ((i + 1 : Nat) : Int) from by rw [w64 (by omega) (by omega)]; omega]
  refine Ends.pos (by omega) (Ends.bind1 (has_eq hs _) ?_)
  have hl : (ints ((List.range i).filter fun j => s.testBit j)).length < 17592186044416 := by
   rw [ints_length]
   have := List.length_filter_le (fun j => s.testBit j) (List.range i)
   rw [List.length_range] at this
   omega
  rw [List.range_succ, List.filter_append] at ihn
  by_cases hb : s.testBit i = true
  ·refine Ends.pos (by simp [hb]) (Ends.pos hl ?_)
   rw [show List.filter (fun j => s.testBit j) [i] = [i] from by simp [hb], ints_append] at ihn
   exact ihn
  ·refine Ends.neg (by simp [hb]) ?_
   rw [show List.filter (fun j => s.testBit j) [i] = [] from by simp [hb], List.append_nil] at ihn
   exact ihn
theorem refList_eq {s : Nat} (hs : s < 2 ^ 64) : Ends (fun k => recoupref06_List.f k (s : Int)) (ints (setL s)) := by
 unfold recoupref06_List.f
 exact refList_l0 hs 64 0 (by omega)
theorem List_l0 (d : Nat) : ∀ (s : Nat) (acc : List Nat), s < 2 ^ 64 → (setL s).length ≤ d → acc.length + (setL s).length ≤ 64 → Ends (fun k => subset_List.l0 k (s : Int) (ints acc)) (ints (acc ++ setL s)) := by
 induction d with
 | zero =>
  intro s acc hs hd hl
  have h0 : s = 0 := by
   apply Classical.byContradiction
   intro h
   rw [setL_step h hs] at hd
   simp at hd
  subst h0
  refine Ends.succ (fun k => by rw [subset_List.l0]) ?_
  refine Ends.pos (by rfl) (Ends.const ?_)
  rw [setL_zero, List.append_nil]
 | succ d ih =>
  intro s acc hs hd hl
  by_cases h0 : s = 0
  ·subst h0
   refine Ends.succ (fun k => by rw [subset_List.l0]) ?_
   refine Ends.pos (by rfl) (Ends.const ?_)
   rw [setL_zero, List.append_nil]
  ·have hst := setL_step h0 hs
   rw [hst, List.length_cons] at hd hl
   refine Ends.succ (fun k => by rw [subset_List.l0]) (Ends.neg (by omega) ?_)
   have ht : bits_TrailingZeros64.f (s : Int) = some ((Lib.ctz 64 s : Nat) : Int) := by
    unfold bits_TrailingZeros64.f
    rw [if_pos (by unfold u64B; simp; omega), Int.toNat_natCast]
   refine Ends.bind1 ht (Ends.pos (by rw [ints_length]; omega) ?_)
   have e : Go.bits .and .u64 (s : Int) (IntKind.u64.wrap ((s : Int) - 1)) = ((s &&& (s - 1) : Nat) : Int) := by
    rw [wu64 (by omega) (by omega), show ((s : Int) - 1) = ((s - 1 : Nat) : Int) from by omega, band hs (by omega)]
   rw [e, show ints acc ++ [((Lib.ctz 64 s : Nat) : Int)] = ints (acc ++ [Lib.ctz 64 s]) from by rw [ints_append]; rfl]
   refine (ih (s &&& (s - 1)) (acc ++ [Lib.ctz 64 s]) (lt_and hs) (by omega) (by simp; omega)).eq ?_
   rw [hst, List.append_assoc]
   rfl
theorem List_eq {s : Nat} (hs : s < 2 ^ 64) : Ends (fun k => subset_List.f k (s : Int)) (ints (setL s)) := by
 unfold subset_List.f
 exact List_l0 64 s [] hs (setL_length s) (by have := setL_length s; simpa using this)
def setOk (n : Int) (s : Nat) : Prop := 0 ≤ n ∧ n ≤ 64 ∧ ∀ i ∈ setL s, (i : Int) < n
instance (n : Int) (s : Nat) : Decidable (setOk n s) := by unfold setOk; infer_instance
theorem within {n s : Nat} (hn : n ≤ 64) (hs : s < 2 ^ 64) : (s &&& (2 ^ 64 - 1 - (2 ^ n - 1)) = 0) ↔ ∀ i ∈ setL s, i < n := by
 constructor
 ·intro h i hi
  have h1 := congrArg (fun x => x.testBit i) h
  simp only [Nat.zero_testBit] at h1
  rw [testBit_andNot hs (low_lt hn), (mem_setL.1 hi).2, testBit_low] at h1
  simpa using h1
 ·intro h
  apply Nat.eq_of_testBit_eq
  intro i
  rw [testBit_andNot hs (low_lt hn), testBit_low, Nat.zero_testBit]
  by_cases hb : s.testBit i = true
  ·have := h i ((mem_setL' hs).2 hb)
   simp [this]
  ·simp [hb]
theorem asked {n s : Nat} (hn : n ≤ 64) (hs : s < 2 ^ 64) : (Go.bits .andNot .u64 (s : Int) ((2 ^ n - 1 : Nat) : Int) = 0) ↔ setOk (n : Int) s := by
 rw [bandNot hs (low_lt hn)]
 have h := within hn hs
 unfold setOk
 constructor
 ·intro h1
  have h2 := h.1 (by omega)
  exact ⟨by omega, by omega, fun i hi => by have := h2 i hi; omega⟩
 ·rintro ⟨_, _, h1⟩
  have := h.2 fun i hi => by have := h1 i hi; omega
  omega
theorem div_nat (a b : Nat) : ((a : Nat) : Int) / (b : Int) = ((a / b : Nat) : Int) := by simp
theorem band127 {x : Nat} (hx : x < 2 ^ 63) : Go.bits .and .i64 (x : Int) 127 = ((x % 128 : Nat) : Int) := by
 have h1 : (BitVec.ofInt 64 (x : Int)).toNat = x := by
  rw [BitVec.ofInt_natCast, BitVec.toNat_ofNat]; exact Nat.mod_eq_of_lt (by omega)
 have h2 : (BitVec.ofInt 64 (127 : Int)).toNat = 127 := by decide
 show IntKind.i64.wrap ((BitVec.ofInt 64 (x : Int) &&& BitVec.ofInt 64 127).toNat : Int) = _
 rw [BitVec.toNat_and, h1, h2, show (127 : Nat) = 2 ^ 7 - 1 from rfl, Nat.and_two_pow_sub_one_eq_mod]
 have : x % 2 ^ 7 < 128 := Nat.mod_lt _ (by decide)
 have e : IntKind.i64.wrap ((x % 2 ^ 7 : Nat) : Int) = wrap64 ((x % 2 ^ 7 : Nat) : Int) := Go.Proofs.YthjncmdlhmppiaaDoorW.PrintLast.i64_w _
 rw [e, w64 (by omega) (by omega)]
theorem ones_eq {s : Nat} (hs : s < 2 ^ 64) : bits_OnesCount64.f (s : Int) = some (((setL s).length : Nat) : Int) := by
 obtain ⟨l1, l2, l3, p1, q1, p2, q2, p3, q3, hsum, e1, e2, e3⟩ := steps s hs
 have b1 : ofD 4 l1 < 2 ^ 64 := by
  have := ofD_lt (B := 4) (by decide) (l := l1) fun c hc => by have := q1 c hc; omega
  rw [p1] at this
  exact this
 have b2 : ofD 16 l2 < 2 ^ 64 := by
  have := ofD_lt (B := 16) (by decide) (l := l2) fun c hc => by have := q2 c hc; omega
  rw [p2] at this
  exact this
 obtain ⟨c1, c2, c3⟩ := last l3 p3 q3
 have X1 : IntKind.u64.wrap ((Go.bits .and .u64 ((s : Int) / 2) 6148914691236517205) + (Go.bits .and .u64 (s : Int) 6148914691236517205)) = ((ofD 4 l1 : Nat) : Int) := by
  rw [show ((s : Int) / 2) = ((s / 2 : Nat) : Int) from div_nat s 2, show (6148914691236517205 : Int) = ((6148914691236517205 : Nat) : Int) from rfl, band (by omega) (by decide), band hs (by decide), ← Int.natCast_add, e1]
  exact wuN b1
 have X2 : IntKind.u64.wrap ((Go.bits .and .u64 (((ofD 4 l1 : Nat) : Int) / 4) 3689348814741910323) + (Go.bits .and .u64 ((ofD 4 l1 : Nat) : Int) 3689348814741910323)) = ((ofD 16 l2 : Nat) : Int) := by
  rw [show (((ofD 4 l1 : Nat) : Int) / 4) = ((ofD 4 l1 / 4 : Nat) : Int) from div_nat _ 4, show (3689348814741910323 : Int) = ((3689348814741910323 : Nat) : Int) from rfl, band (by omega) (by decide), band b1 (by decide), ← Int.natCast_add, e2]
  exact wuN b2
 have b3 : ofD 16 l2 / 16 + ofD 16 l2 < 2 ^ 64 := by
  have h := last16 l2 p2 q2
  omega
 have X3 : Go.bits .and .u64 (IntKind.u64.wrap (((ofD 16 l2 : Nat) : Int) / 16 + ((ofD 16 l2 : Nat) : Int))) 1085102592571150095 = ((ofD 256 l3 : Nat) : Int) := by
  rw [show (((ofD 16 l2 : Nat) : Int) / 16) = ((ofD 16 l2 / 16 : Nat) : Int) from div_nat _ 16, ← Int.natCast_add, wuN b3, show (1085102592571150095 : Int) = ((1085102592571150095 : Nat) : Int) from rfl, band b3 (by decide), e3]
 have X4 : IntKind.u64.wrap (((ofD 256 l3 : Nat) : Int) + ((ofD 256 l3 : Nat) : Int) / 256) = ((ofD 256 l3 + ofD 256 l3 / 256 : Nat) : Int) := by
  rw [show (((ofD 256 l3 : Nat) : Int) / 256) = ((ofD 256 l3 / 256 : Nat) : Int) from div_nat _ 256, ← Int.natCast_add]
  exact wuN (by omega)
 have X5 : ∀ y : Nat, y + y / 65536 < 2 ^ 63 → IntKind.u64.wrap ((y : Int) + (y : Int) / 65536) = ((y + y / 65536 : Nat) : Int) := by
  intro y hy
  rw [show ((y : Int) / 65536) = ((y / 65536 : Nat) : Int) from div_nat _ 65536, ← Int.natCast_add]
  exact wuN (by omega)
 have X6 : ∀ y : Nat, y < 2 ^ 63 → y + y / 4294967296 < 2 ^ 63 → wrap64 (IntKind.u64.wrap ((y : Int) + (y : Int) / 4294967296)) = ((y + y / 4294967296 : Nat) : Int) := by
  intro y _ hy
  rw [show ((y : Int) / 4294967296) = ((y / 4294967296 : Nat) : Int) from div_nat _ 4294967296, ← Int.natCast_add, wuN (by omega)]
  exact w64 (by omega) (by omega)
 unfold bits_OnesCount64.f
 rw [X1, X2, X3, X4, X5 _ c2]
 have b7 : (ofD 256 l3 + ofD 256 l3 / 256 + (ofD 256 l3 + ofD 256 l3 / 256) / 65536) < 2 ^ 60 := by omega
 rw [X6 _ (by omega) (by omega), band127 (by omega), c3, hsum]
theorem Count_eq {s : Nat} (hs : s < 2 ^ 64) : subset_Count.f (s : Int) = some (((setL s).length : Nat) : Int) := by
 unfold subset_Count.f
 rw [ones_eq hs]
 rfl
end Go.Proofs.YthjncmdlhmppiaaDoor.M
namespace Go.Proofs.YthjncmdlhmppiaaDoor.M
structure El where
 v : BitVec 8
deriving DecidableEq
theorem El.eq {a b : El} (h : a.v = b.v) : a = b := by cases a; cases b; cases h; rfl
instance : Add El := ⟨fun a b => ⟨a.v ^^^ b.v⟩⟩
instance : Zero El := ⟨⟨0⟩⟩
instance : OfNat El 0 := ⟨⟨0⟩⟩
instance : OfNat El 1 := ⟨⟨1⟩⟩
theorem add_comm (a b : El) : a + b = b + a := El.eq (BitVec.xor_comm _ _)
theorem add_assoc (a b c : El) : a + b + c = a + (b + c) := El.eq (BitVec.xor_assoc _ _ _)
theorem add_zero (a : El) : a + 0 = a := El.eq BitVec.xor_zero
theorem zero_add (a : El) : 0 + a = a := El.eq BitVec.zero_xor
instance : Std.Commutative (α := El) (· + ·) := ⟨add_comm⟩
instance : Std.Associative (α := El) (· + ·) := ⟨add_assoc⟩
def xt (a : BitVec 8) : BitVec 8 := (a <<< 1) ^^^ (if a.getLsbD 7 then 0x1d#8 else 0#8)
theorem xt_xor (a b : BitVec 8) : xt (a ^^^ b) = xt a ^^^ xt b := by
 unfold xt
 rw [BitVec.shiftLeft_xor_distrib, BitVec.getLsbD_xor]
 cases a.getLsbD 7 <;> cases b.getLsbD 7 <;> simp <;> first | ac_rfl | skip
 ·rw [show a <<< 1 ^^^ 29#8 ^^^ (b <<< 1 ^^^ 29#8) = (a <<< 1 ^^^ b <<< 1) ^^^ (29#8 ^^^ 29#8) from by ac_rfl]
  simp
def xtn : Nat → BitVec 8 → BitVec 8
 | 0, a => a
 | n + 1, a => xt (xtn n a)
theorem xtn_xor : ∀ n a b, xtn n (a ^^^ b) = xtn n a ^^^ xtn n b
 | 0, _, _ => rfl
 | n + 1, a, b => by
  show xt (xtn n (a ^^^ b)) = _
  rw [xtn_xor n, xt_xor]
  rfl
theorem xtn_xt : ∀ n a, xtn n (xt a) = xt (xtn n a)
 | 0, _ => rfl
 | n + 1, a => by
  show xt (xtn n (xt a)) = _
  rw [xtn_xt n]
  rfl
theorem xtn_add : ∀ m n a, xtn (m + n) a = xtn m (xtn n a)
 | 0, n, a => by rw [Nat.zero_add]; rfl
 | m + 1, n, a => by
  rw [show m + 1 + n = (m + n) + 1 from by omega]
  show xt (xtn (m + n) a) = xt (xtn m (xtn n a))
  rw [xtn_add m]
def gmN (a b : BitVec 8) : Nat → BitVec 8
 | 0 => 0
 | n + 1 => gmN a b n ^^^ (if b.getLsbD n then xtn n a else 0)
def gm (a b : BitVec 8) : BitVec 8 := gmN a b 8
theorem gmN_xor_right (a b c : BitVec 8) : ∀ n, gmN a (b ^^^ c) n = gmN a b n ^^^ gmN a c n
 | 0 => by simp [gmN]
 | n + 1 => by
  show gmN a (b ^^^ c) n ^^^ _ = (gmN a b n ^^^ _) ^^^ (gmN a c n ^^^ _)
  rw [gmN_xor_right a b c n, BitVec.getLsbD_xor, show (gmN a b n ^^^ if b.getLsbD n = true then xtn n a else 0) ^^^ (gmN a c n ^^^ if c.getLsbD n = true then xtn n a else 0) = (gmN a b n ^^^ gmN a c n) ^^^ ((if b.getLsbD n = true then xtn n a else 0) ^^^ (if c.getLsbD n = true then xtn n a else 0)) from by ac_rfl]
  cases b.getLsbD n <;> cases c.getLsbD n <;> simp
theorem gmN_xor_left (a b c : BitVec 8) : ∀ n, gmN (a ^^^ b) c n = gmN a c n ^^^ gmN b c n
 | 0 => by simp [gmN]
 | n + 1 => by
  show gmN (a ^^^ b) c n ^^^ _ = (gmN a c n ^^^ _) ^^^ (gmN b c n ^^^ _)
  rw [gmN_xor_left a b c n, show (gmN a c n ^^^ if c.getLsbD n = true then xtn n a else 0) ^^^ (gmN b c n ^^^ if c.getLsbD n = true then xtn n b else 0) = (gmN a c n ^^^ gmN b c n) ^^^ ((if c.getLsbD n = true then xtn n a else 0) ^^^ (if c.getLsbD n = true then xtn n b else 0)) from by ac_rfl, xtn_xor]
  cases c.getLsbD n <;> simp
theorem gmN_xt (a b : BitVec 8) : ∀ n, gmN (xt a) b n = xt (gmN a b n)
 | 0 => show (0 : BitVec 8) = xt 0 by decide
 | n + 1 => by
  show gmN (xt a) b n ^^^ _ = xt (gmN a b n ^^^ _)
  rw [gmN_xt a b n, xt_xor, xtn_xt]
  cases b.getLsbD n
  ·have : xt (0 : BitVec 8) = 0 := by decide
   simp only [Bool.false_eq_true, if_false]
   rw [this]
  ·simp
theorem gm_one_left : ∀ b : BitVec 8, gm 1 b = b := by decide +kernel
theorem gm_one_right : ∀ a : BitVec 8, gm a 1 = a := by decide +kernel
def pw (n : Nat) : BitVec 8 := xtn n 1
theorem gm_pw : ∀ i b, gm (pw i) b = xtn i b
 | 0, b => gm_one_left b
 | i + 1, b => by
  show gmN (xt (pw i)) b 8 = _
  rw [gmN_xt]
  show xt (gm (pw i) b) = _
  rw [gm_pw i b]
  rfl
theorem gm_pw_pw (i j : Nat) : gm (pw i) (pw j) = pw (i + j) := by
 rw [gm_pw]
 unfold pw
 rw [xtn_add]
theorem pw_255 : pw 255 = 1 := by decide +kernel
theorem pw_add_255 (n : Nat) : pw (n + 255) = pw n := by
 unfold pw
 rw [xtn_add]
 exact congrArg _ pw_255
def lgFrom (a : BitVec 8) : Nat → Nat → BitVec 8 → Nat
 | 0, i, _ => i
 | f + 1, i, p => if p = a then i else lgFrom a f (i + 1) (xt p)
def lg (a : BitVec 8) : Nat := lgFrom a 254 0 1
theorem lgFrom_le (a : BitVec 8) : ∀ f i p, lgFrom a f i p ≤ i + f
 | 0, i, p => Nat.le_refl _
 | f + 1, i, p => by
  unfold lgFrom
  split
  ·omega
  ·have := lgFrom_le a f (i + 1) (xt p)
   omega
theorem lg_le (a : BitVec 8) : lg a ≤ 254 := by have := lgFrom_le a 254 0 1; unfold lg; omega
theorem pw_lg : ∀ a : BitVec 8, a ≠ 0 → pw (lg a) = a := by decide +kernel
theorem gm_zero_right (a : BitVec 8) : gm a 0 = 0 := by
 have := gmN_xor_right a 0 0 8
 simpa [gm] using this
theorem gm_zero_left (b : BitVec 8) : gm 0 b = 0 := by
 have := gmN_xor_left 0 0 b 8
 simpa [gm] using this
theorem gm_comm (a b : BitVec 8) : gm a b = gm b a := by
 by_cases ha : a = 0
 ·subst ha; rw [gm_zero_left, gm_zero_right]
 ·by_cases hb : b = 0
  ·subst hb; rw [gm_zero_left, gm_zero_right]
  ·rw [← pw_lg a ha, ← pw_lg b hb, gm_pw_pw, gm_pw_pw, Nat.add_comm]
theorem gm_assoc (a b c : BitVec 8) : gm (gm a b) c = gm a (gm b c) := by
 by_cases ha : a = 0
 ·subst ha; rw [gm_zero_left, gm_zero_left, gm_zero_left]
 ·by_cases hb : b = 0
  ·subst hb; rw [gm_zero_right, gm_zero_left, gm_zero_right]
  ·by_cases hc : c = 0
   ·subst hc; rw [gm_zero_right, gm_zero_right, gm_zero_right]
   ·rw [← pw_lg a ha, ← pw_lg b hb, ← pw_lg c hc, gm_pw_pw, gm_pw_pw, gm_pw_pw, gm_pw_pw, Nat.add_assoc]
def ginv (a : BitVec 8) : BitVec 8 := if a = 0 then 0 else pw (255 - lg a)
theorem gm_inv (a : BitVec 8) (h : a ≠ 0) : gm a (ginv a) = 1 := by
 unfold ginv
 have hl := lg_le a
 rw [if_neg h]
 conv => lhs; arg 1; rw [← pw_lg a h]
 rw [gm_pw_pw, show lg a + (255 - lg a) = 255 from by omega, pw_255]
instance : Mul El := ⟨fun a b => ⟨gm a.v b.v⟩⟩
def El.inv (a : El) : El := ⟨ginv a.v⟩
theorem mul_comm (a b : El) : a * b = b * a := El.eq (gm_comm _ _)
theorem mul_assoc (a b c : El) : a * b * c = a * (b * c) := El.eq (gm_assoc _ _ _)
instance : Std.Commutative (α := El) (· * ·) := ⟨mul_comm⟩
instance : Std.Associative (α := El) (· * ·) := ⟨mul_assoc⟩
theorem mul_one (a : El) : a * 1 = a := El.eq (gm_one_right _)
theorem one_mul (a : El) : 1 * a = a := El.eq (gm_one_left _)
theorem mul_zero (a : El) : a * 0 = 0 := El.eq (gm_zero_right _)
theorem zero_mul (a : El) : 0 * a = 0 := El.eq (gm_zero_left _)
theorem mul_add (a b c : El) : a * (b + c) = a * b + a * c := El.eq (gmN_xor_right _ _ _ 8)
theorem one_ne_zero : (1 : El) ≠ 0 := by decide
theorem v_ne {a : El} (h : a ≠ 0) : a.v ≠ 0 := fun e => h (El.eq e)
theorem mul_inv {a : El} (h : a ≠ 0) : a * a.inv = 1 := El.eq (gm_inv _ (v_ne h))
theorem inv_mul {a : El} (h : a ≠ 0) : a.inv * a = 1 := by rw [mul_comm, mul_inv h]
theorem inv_ne {a : El} (h : a ≠ 0) : a.inv ≠ 0 := fun e => by
 have := mul_inv h
 rw [e, mul_zero] at this
 exact one_ne_zero this.symm
theorem inv_unique {a b : El} (h : a * b = 1) : b = a.inv := by
 have ha : a ≠ 0 := fun e => by rw [e, zero_mul] at h; exact one_ne_zero h.symm
 rw [← one_mul b, ← inv_mul ha, mul_assoc, h, mul_one]
end Go.Proofs.YthjncmdlhmppiaaDoor.M
namespace Go.Proofs.YthjncmdlhmppiaaDoor.M
open Go.RowKit Go.Proofs.YthjncmdlhmppiaaDoorW.PrintWords Go.Proofs.YthjncmdlhmppiaaDoorW.PrintLast Go.Proofs.YthjncmdlhmppiaaDoorW.PrintMore Go.Proofs.YthjncmdlhmppiaaDoor.Q
theorem wi64 {x : Nat} (h : x < 2 ^ 63) : IntKind.i64.wrap (x : Int) = (x : Int) := by
  rw [show IntKind.i64.wrap (x : Int) = wrap64 (x : Int) from i64_w _]
  exact w64 (by omega) (by omega)
theorem toNat64 {a : Nat} (h : a < 2 ^ 63) : (BitVec.ofInt 64 (a : Int)).toNat = a := by
  rw [BitVec.ofInt_natCast, BitVec.toNat_ofNat]; exact Nat.mod_eq_of_lt (by omega)
theorem band64 {a b : Nat} (ha : a < 2 ^ 63) (hb : b < 2 ^ 63) : Go.bits .and .i64 (a : Int) (b : Int) = ((a &&& b : Nat) : Int) := by
  show IntKind.i64.wrap ((BitVec.ofInt 64 (a : Int) &&& BitVec.ofInt 64 (b : Int)).toNat : Int) = _
  rw [BitVec.toNat_and, toNat64 ha, toNat64 hb]
  exact wi64 (Nat.lt_of_le_of_lt Nat.and_le_left ha)
theorem bxor64 {a b : Nat} (ha : a < 2 ^ 63) (hb : b < 2 ^ 63) : Go.bits .xor .i64 (a : Int) (b : Int) = ((a ^^^ b : Nat) : Int) := by
  show IntKind.i64.wrap ((BitVec.ofInt 64 (a : Int) ^^^ BitVec.ofInt 64 (b : Int)).toNat : Int) = _
  rw [BitVec.toNat_xor, toNat64 ha, toNat64 hb]
  exact wi64 (Nat.xor_lt_two_pow ha hb)
theorem shr64 {n i : Nat} (hi : i ≤ 64) : shr .i64 (n : Int) (i : Int) = ((n >>> i : Nat) : Int) := by
  unfold shr
  have e : min (i : Int).toNat IntKind.i64.bits = i := by simp [IntKind.bits]; omega
  rw [e, Nat.shiftRight_eq_div_pow]
  simp
theorem shr8 {n i : Nat} (hi : i ≤ 8) : shr .u8 (n : Int) (i : Int) = ((n >>> i : Nat) : Int) := by
  unfold shr
  have e : min (i : Int).toNat IntKind.u8.bits = i := by simp [IntKind.bits]; omega
  rw [e, Nat.shiftRight_eq_div_pow]
  simp
theorem shl64 {n i : Nat} (hn : n < 2 ^ 16) (hi : i ≤ 16) : shl .i64 (n : Int) (i : Int) = ((n <<< i : Nat) : Int) := by
  unfold shl
  have e : min (i : Int).toNat IntKind.i64.bits = i := by simp [IntKind.bits]; omega
  rw [e, Nat.shiftLeft_eq]
  have h : n * 2 ^ i < 2 ^ 63 := Nat.lt_of_lt_of_le (Nat.mul_lt_mul_of_lt_of_le hn (Nat.pow_le_pow_right (by decide) hi) (by decide)) (by decide)
  rw [show ((n : Int) * 2 ^ i) = ((n * 2 ^ i : Nat) : Int) from by simp]
  exact wi64 h
theorem and_one (n i : Nat) : (((n >>> i) &&& 1 : Nat) : Int) = 1 ↔ n.testBit i = true := by
  unfold Nat.testBit
  rw [Nat.and_comm 1 (n >>> i), bne_iff_ne, Nat.and_one_is_mod]
  omega
theorem bit64 {n i : Nat} (hn : n < 2 ^ 63) (hi : i ≤ 64) : (Go.bits .and .i64 (shr .i64 (n : Int) (i : Int)) 1 = 1) ↔ n.testBit i = true := by
  rw [shr64 hi, show (1 : Int) = ((1 : Nat) : Int) from rfl, band64 (Nat.lt_of_le_of_lt (Nat.shiftRight_le _ _) hn) (by decide)]
  exact and_one n i
theorem bit8 {n i : Nat} (hn : n < 256) (hi : i ≤ 8) : (Go.bits .and .u8 (shr .u8 (n : Int) (i : Int)) 1 = 1) ↔ n.testBit i = true := by
  rw [shr8 hi]
  have h1 : n >>> i < 256 := Nat.lt_of_le_of_lt (Nat.shiftRight_le _ _) hn
  have e : Go.bits .and .u8 ((n >>> i : Nat) : Int) 1 = (((n >>> i) &&& 1 : Nat) : Int) := by
    show IntKind.u8.wrap ((BitVec.ofInt 8 ((n >>> i : Nat) : Int) &&& BitVec.ofInt 8 ((1 : Nat) : Int)).toNat : Int) = _
    rw [BitVec.toNat_and, BitVec.ofInt_natCast, BitVec.ofInt_natCast, BitVec.toNat_ofNat, BitVec.toNat_ofNat, Nat.mod_eq_of_lt (by omega : n >>> i < 2 ^ 8), show 1 % 2 ^ 8 = 1 from rfl]
    have : (n >>> i) &&& 1 ≤ 1 := Nat.and_le_right
    rw [IntKind.wrap_u8]
    omega
  rw [e]
  exact and_one n i
def acc (a b : Nat) : Nat → Nat
  | 0 => 0
  | i + 1 => if b.testBit i then acc a b i ^^^ (a <<< i) else acc a b i
def rst (i p : Nat) : Nat := if p.testBit (i + 8) then p ^^^ (285 <<< i) else p
def red : Nat → Nat → Nat
  | 0, p => p
  | i + 1, p => red i (rst i p)
theorem rst_xor (i x y : Nat) : rst i (x ^^^ y) = rst i x ^^^ rst i y := by
  unfold rst
  rw [Nat.testBit_xor]
  cases x.testBit (i + 8) <;> cases y.testBit (i + 8) <;> simp
  · rw [Nat.xor_assoc]
  · rw [Nat.xor_assoc, Nat.xor_comm y, Nat.xor_assoc]
  · rw [Nat.xor_assoc, Nat.xor_comm (285 <<< i) , Nat.xor_assoc, Nat.xor_self, Nat.xor_zero]
theorem red_xor : ∀ i x y, red i (x ^^^ y) = red i x ^^^ red i y
  | 0, _, _ => rfl
  | i + 1, x, y => by unfold red; rw [rst_xor, red_xor i]
theorem red_zero : ∀ i, red i 0 = 0
  | 0 => rfl
  | i + 1 => by unfold red rst; simp [red_zero i]
theorem red_shl : ∀ a : BitVec 8, ∀ i : Fin 8, red 7 (a.toNat <<< i.val) = (xtn i.val a).toNat := by decide +kernel
theorem acc_lt {a b : Nat} (ha : a < 256) : ∀ i, i ≤ 8 → acc a b i < 2 ^ 16
  | 0, _ => by unfold acc; decide
  | i + 1, h => by
    unfold acc
    split
    · refine Nat.xor_lt_two_pow (acc_lt ha i (by omega)) ?_
      rw [Nat.shiftLeft_eq]
      exact Nat.lt_of_lt_of_le (Nat.mul_lt_mul_of_lt_of_le ha (Nat.pow_le_pow_right (by decide) (by omega : i ≤ 8)) (by decide)) (by decide)
    · exact acc_lt ha i (by omega)
theorem red_acc (a b : BitVec 8) : ∀ i, i ≤ 8 → red 7 (acc a.toNat b.toNat i) = (gmN a b i).toNat
  | 0, _ => by unfold acc gmN; rw [red_zero]; rfl
  | i + 1, h => by
    unfold acc gmN
    have e : b.getLsbD i = b.toNat.testBit i := rfl
    rw [e]
    split
    · rw [red_xor, red_acc a b i (by omega), red_shl a ⟨i, by omega⟩]
      simp
    · rw [red_acc a b i (by omega)]
      simp
theorem rst_lt {i p : Nat} (hp : p < 2 ^ 16) (hi : i ≤ 7) : rst i p < 2 ^ 16 := by
  unfold rst
  split
  · refine Nat.xor_lt_two_pow hp ?_
    rw [Nat.shiftLeft_eq]
    exact Nat.lt_of_lt_of_le (Nat.mul_lt_mul_of_lt_of_le (by decide : 285 < 512) (Nat.pow_le_pow_right (by decide) hi) (by decide)) (by decide)
  · exact hp
theorem Mul_l1 : ∀ i p : Nat, i ≤ 7 → p < 2 ^ 16 → Ends (fun k => recoupref01_Mul.l1 k (p : Int) ((i : Int) + 7)) (((red i p) % 256 : Nat) : Int)
  | 0, p, _, _ => Ends.succ (fun k => by rw [recoupref01_Mul.l1]) (Ends.neg (by omega) (Ends.const (by unfold red; simp)))
  | i + 1, p, hi, hp => by
    refine Ends.succ (fun k => by rw [recoupref01_Mul.l1]) (Ends.pos (by omega) ?_)
    have e0 : ((i + 1 : Nat) : Int) + 7 = ((i + 8 : Nat) : Int) := by omega
    have e1 : IntKind.u64.wrap (((i + 1 : Nat) : Int) + 7) = ((i + 8 : Nat) : Int) := by rw [e0]; exact wu64 (by omega) (by omega)
    have e2 : wrap64 (((i + 1 : Nat) : Int) + 7 - 1) = (i : Int) + 7 := by rw [w64 (by omega) (by omega)]; omega
    have e3 : IntKind.u64.wrap (wrap64 (((i + 1 : Nat) : Int) + 7 - 8)) = (i : Int) := by rw [w64 (by omega) (by omega), wu64 (by omega) (by omega)]; omega
    rw [e1, e2, e3]
    refine Ends.pos (Int.natCast_nonneg _) ?_
    have hb := bit64 (n := p) (i := i + 8) (by omega) (by omega)
    by_cases h : p.testBit (i + 8) = true
    · refine Ends.pos (hb.2 h) (Ends.pos (Int.natCast_nonneg _) ?_)
      have e4 : Go.bits .xor .i64 (p : Int) (shl .i64 285 (i : Int)) = ((rst i p : Nat) : Int) := by
        rw [show (285 : Int) = ((285 : Nat) : Int) from rfl, shl64 (by decide) (by omega), bxor64 (by omega) (by
          rw [Nat.shiftLeft_eq]
          exact Nat.lt_of_lt_of_le (Nat.mul_lt_mul_of_lt_of_le (by decide : 285 < 512) (Nat.pow_le_pow_right (by decide) (by omega : i ≤ 7)) (by decide)) (by decide))]
        unfold rst
        rw [if_pos h]
      rw [e4]
      exact Mul_l1 i (rst i p) (by omega) (rst_lt hp (by omega))
    · refine Ends.neg (fun e => h (hb.1 e)) ?_
      have e4 : rst i p = p := by unfold rst; rw [if_neg h]
      have := Mul_l1 i p (by omega) hp
      unfold red
      rw [e4]
      exact this
theorem Mul_l0 {a b : Nat} (ha : a < 256) (hb : b < 256) : ∀ n i : Nat, i + n = 8 → Ends (fun k => recoupref01_Mul.l0 k (a : Int) (b : Int) ((acc a b i : Nat) : Int) (i : Int)) (((red 7 (acc a b 8)) % 256 : Nat) : Int)
  | 0, i, h => by
    obtain rfl : i = 8 := by omega
    refine Ends.succ (fun k => by rw [recoupref01_Mul.l0]) (Ends.neg (by decide) ?_)
    exact Mul_l1 7 _ (by omega) (acc_lt ha 8 (Nat.le_refl _))
  | n + 1, i, h => by
    refine Ends.succ (fun k => by rw [recoupref01_Mul.l0]) (Ends.pos (by omega) ?_)
    have e1 : IntKind.u64.wrap (i : Int) = (i : Int) := wu64 (by omega) (by omega)
    have e2 : wrap64 ((i : Int) + 1) = ((i + 1 : Nat) : Int) := by rw [w64 (by omega) (by omega)]; omega
    rw [e1, e2]
    refine Ends.pos (Int.natCast_nonneg _) ?_
    have hbt := bit8 (n := b) (i := i) hb (by omega)
    have ih := Mul_l0 ha hb n (i + 1) (by omega)
    by_cases h1 : b.testBit i = true
    · refine Ends.pos (hbt.2 h1) ?_
      have e4 : Go.bits .xor .i64 ((acc a b i : Nat) : Int) (shl .i64 (wrap64 (a : Int)) (i : Int)) = ((acc a b (i + 1) : Nat) : Int) := by
        rw [w64 (by omega) (by omega), shl64 (by omega) (by omega), bxor64 (by have := acc_lt (b := b) ha i (by omega); omega) (by
          rw [Nat.shiftLeft_eq]
          exact Nat.lt_of_lt_of_le (Nat.mul_lt_mul_of_lt_of_le ha (Nat.pow_le_pow_right (by decide) (by omega : i ≤ 8)) (by decide)) (by decide))]
        conv => rhs; rw [acc]
        rw [if_pos h1]
      rw [e4]
      exact ih
    · refine Ends.neg (fun e => h1 (hbt.1 e)) ?_
      have e4 : acc a b (i + 1) = acc a b i := by conv => lhs; rw [acc]
                                                  rw [if_neg h1]
      rw [e4] at ih
      exact ih
def toE (x : Int) : El := ⟨BitVec.ofInt 8 x⟩
def ofE (e : El) : Int := ((e.v.toNat : Nat) : Int)
theorem ofE_toE {x : Int} (h : 0 ≤ x ∧ x < 256) : ofE (toE x) = x := by
  obtain ⟨n, rfl⟩ := Int.eq_ofNat_of_zero_le h.1
  unfold ofE toE
  rw [BitVec.ofInt_natCast, BitVec.toNat_ofNat, Nat.mod_eq_of_lt (by omega)]
theorem toE_inj {x y : Int} (hx : 0 ≤ x ∧ x < 256) (hy : 0 ≤ y ∧ y < 256) (h : toE x = toE y) : x = y := by rw [← ofE_toE hx, ← ofE_toE hy, h]
theorem Mul_ends {a b : Int} (ha : 0 ≤ a ∧ a < 256) (hb : 0 ≤ b ∧ b < 256) : Ends (fun k => recoupref01_Mul.f k a b) (ofE (toE a * toE b)) := by
  obtain ⟨x, rfl⟩ := Int.eq_ofNat_of_zero_le ha.1
  obtain ⟨y, rfl⟩ := Int.eq_ofNat_of_zero_le hb.1
  have hx : x < 256 := by omega
  have hy : y < 256 := by omega
  have h := Mul_l0 hx hy 8 0 rfl
  have e := red_acc (BitVec.ofNat 8 x) (BitVec.ofNat 8 y) 8 (Nat.le_refl _)
  rw [BitVec.toNat_ofNat, BitVec.toNat_ofNat, Nat.mod_eq_of_lt (by omega : x < 2 ^ 8), Nat.mod_eq_of_lt (by omega : y < 2 ^ 8)] at e
  refine Ends.eq h ?_
  rw [e, Nat.mod_eq_of_lt (gmN _ _ 8).isLt]
  unfold ofE toE
  rw [BitVec.ofInt_natCast, BitVec.ofInt_natCast]
  rfl
theorem xor_el {a b : Int} : toE (Go.bits .xor .u8 a b) = toE a + toE b := by
  refine El.eq ?_
  show BitVec.ofInt 8 (IntKind.u8.wrap ((BitVec.ofInt 8 a ^^^ BitVec.ofInt 8 b).toNat : Int)) = BitVec.ofInt 8 a ^^^ BitVec.ofInt 8 b
  have h := (BitVec.ofInt 8 a ^^^ BitVec.ofInt 8 b).isLt
  rw [IntKind.wrap_u8, Int.emod_eq_of_lt (by omega) (by omega), BitVec.ofInt_natCast, BitVec.ofNat_toNat, BitVec.setWidth_eq]
theorem xor_range (a b : Int) : 0 ≤ Go.bits .xor .u8 a b ∧ Go.bits .xor .u8 a b < 256 := by
  show 0 ≤ IntKind.u8.wrap _ ∧ IntKind.u8.wrap _ < 256
  rw [IntKind.wrap_u8]
  omega
end Go.Proofs.YthjncmdlhmppiaaDoor.M
namespace Go.Proofs.YthjncmdlhmppiaaDoor.M
open Go.RowKit Go.Proofs.YthjncmdlhmppiaaDoorW.PrintWords Go.Proofs.YthjncmdlhmppiaaDoorW.PrintLast Go.Proofs.YthjncmdlhmppiaaDoorW.PrintMore Go.Proofs.YthjncmdlhmppiaaDoor.Q
theorem exps_ok : (field_build.st 255).1 = (List.range 510).map fun i => ((pw i).toNat : Int) := by decide +kernel
theorem logs_ok : ((List.zip (field_build.st 255).2.1 (List.range 256)).all fun x => x.2 == 0 || (pw x.1.toNat).toNat == x.2) = true := by decide +kernel
theorem exp_el {n : Nat} (h : n < 510) : toE (field_build.exp n) = ⟨pw n⟩ := by
  unfold field_build.exp
  rw [exps_ok, List.getD_eq_getElem?_getD, List.getElem?_map, List.getElem?_range h]
  refine El.eq ?_
  unfold toE
  simp [BitVec.ofInt_natCast]
theorem log_el {a : Int} (h : 0 ≤ a ∧ a < 256) (h0 : a ≠ 0) : (⟨pw (field_build.log a.toNat).toNat⟩ : El) = toE a := by
  obtain ⟨n, rfl⟩ := Int.eq_ofNat_of_zero_le h.1
  have hn : n < 256 := by omega
  have hl : n < (field_build.st 255).2.1.length := by rw [(field_build.st_length 255).2]; exact hn
  have hz : n < (List.zip (field_build.st 255).2.1 (List.range 256)).length := by rw [List.length_zip, List.length_range]; omega
  have := List.all_eq_true.1 logs_ok _ (List.getElem_mem hz)
  rw [List.getElem_zip, List.getElem_range] at this
  simp only [Bool.or_eq_true, beq_iff_eq] at this
  rcases this with e | e
  · exact absurd (by rw [e]; rfl) h0
  · refine El.eq ?_
    unfold field_build.log toE
    rw [Int.toNat_natCast, List.getD_eq_getElem?_getD, List.getElem?_eq_getElem hl, Option.getD_some, BitVec.ofInt_natCast]
    refine BitVec.eq_of_toNat_eq ?_
    rw [e, BitVec.toNat_ofNat, Nat.mod_eq_of_lt (by omega)]
theorem toE_zero : toE 0 = 0 := rfl
theorem toE_ne {a : Int} (h : 0 ≤ a ∧ a < 256) (h0 : a ≠ 0) : toE a ≠ 0 := fun e => h0 (toE_inj h (by omega) (e.trans toE_zero.symm))
theorem mulT_el {a b : Int} (ha : 0 ≤ a ∧ a < 256) (hb : 0 ≤ b ∧ b < 256) : toE (mulT a b) = toE a * toE b := by
  unfold mulT
  by_cases h1 : a = 0
  · rw [if_pos h1, h1, toE_zero, zero_mul]
  · rw [if_neg h1]
    by_cases h2 : b = 0
    · rw [if_pos h2, h2, toE_zero, mul_zero]
    · rw [if_neg h2]
      obtain ⟨x0, x1⟩ := field_build.log_range (i := a.toNat) (by omega)
      obtain ⟨y0, y1⟩ := field_build.log_range (i := b.toNat) (by omega)
      rw [exp_el (by omega), ← log_el ha h1, ← log_el hb h2, show (field_build.log a.toNat + field_build.log b.toNat).toNat = (field_build.log a.toNat).toNat + (field_build.log b.toNat).toNat from by omega]
      generalize (field_build.log a.toNat).toNat = i
      generalize (field_build.log b.toNat).toNat = j
      exact El.eq (gm_pw_pw i j).symm
theorem exp_range {n : Nat} (h : n < 510) : 0 ≤ field_build.exp n ∧ field_build.exp n < 256 := by
  unfold field_build.exp
  rw [exps_ok, List.getD_eq_getElem?_getD, List.getElem?_map, List.getElem?_range h]
  have := (pw n).isLt
  simp
  omega
theorem mulT_range {a b : Int} (ha : 0 ≤ a ∧ a < 256) (hb : 0 ≤ b ∧ b < 256) : 0 ≤ mulT a b ∧ mulT a b < 256 := by
  unfold mulT
  split
  · omega
  · split
    · omega
    · obtain ⟨x0, x1⟩ := field_build.log_range (i := a.toNat) (by omega)
      obtain ⟨y0, y1⟩ := field_build.log_range (i := b.toNat) (by omega)
      exact exp_range (by omega)
theorem mulT_ends {a b : Int} (ha : 0 ≤ a ∧ a < 256) (hb : 0 ≤ b ∧ b < 256) : Ends (fun k => recoupref01_Mul.f k a b) (mulT a b) := by
  refine Ends.eq (Mul_ends ha hb) ?_
  rw [← mulT_el ha hb, ofE_toE (mulT_range ha hb)]
theorem pw_255k : ∀ k, pw (255 * k) = 1
  | 0 => rfl
  | k + 1 => by rw [Nat.mul_succ, pw_add_255, pw_255k k]
theorem invT_el {a : Int} (ha : 0 ≤ a ∧ a < 256) (h0 : a ≠ 0) : toE (invT a) = (toE a).inv := by
  have e : field_bounded.f (-1) = some 254 := by kernel_rfl
  have e2 : field_Inv.f a = some (field_build.exp ((field_build.log a.toNat * 254) % 255).toNat, 0) := by
    unfold field_Inv.f field_Pow.f
    rw [if_neg (by omega), if_neg h0, if_pos ha, e]
    simp
  have e3 : invT a = field_build.exp ((field_build.log a.toNat * 254) % 255).toNat := by unfold invT; rw [e2, Option.getD_some]
  rw [e3]
  obtain ⟨x0, x1⟩ := field_build.log_range (i := a.toNat) (by omega)
  rw [exp_el (by omega), ← log_el ha h0]
  obtain ⟨n, hn⟩ := Int.eq_ofNat_of_zero_le x0
  rw [hn, Int.toNat_natCast]
  refine inv_unique (El.eq ?_)
  show gm (pw n) (pw _) = 1
  rw [gm_pw_pw]
  have : n + (((n : Int) * 254) % 255).toNat = 255 * ((n + (((n : Int) * 254) % 255).toNat) / 255) := by omega
  rw [this]
  exact pw_255k _
theorem invT_range {a : Int} (ha : 0 ≤ a ∧ a < 256) (h0 : a ≠ 0) : 0 ≤ invT a ∧ invT a < 256 := (inv_some ha h0).2
theorem Inv_from {a : Int} (ha : 0 ≤ a ∧ a < 256) (h0 : a ≠ 0) : ∀ n x : Nat, x + n = (invT a).toNat → 1 ≤ x → Ends (fun k => recoupref01_Inv.l0 k a (x : Int)) (invT a, 0)
  | n, x, h, hx => by
    obtain ⟨r0, r1⟩ := invT_range ha h0
    have hlt : x < 256 := by omega
    refine Ends.succ (fun k => by rw [recoupref01_Inv.l0]) (Ends.pos (by omega) ?_)
    have e1 : (x : Int) % 256 = (x : Int) := by omega
    rw [e1]
    refine Ends.bind (mulT_ends ha (b := (x : Int)) (by omega)) ?_
    cases n with
    | zero =>
      have hxi : (x : Int) = invT a := by omega
      refine Ends.pos ?_ (Ends.const (by rw [hxi]))
      rw [hxi]
      refine toE_inj (mulT_range ha ⟨r0, r1⟩) (by omega) ?_
      rw [mulT_el ha ⟨r0, r1⟩, invT_el ha h0, mul_inv (toE_ne ha h0)]
      rfl
    | succ n =>
      refine Ends.neg ?_ ?_
      · intro e
        have hb : 0 ≤ (x : Int) ∧ (x : Int) < 256 := by omega
        have := mulT_el ha hb
        rw [e] at this
        have h2 := inv_unique this.symm
        rw [← invT_el ha h0] at h2
        have := toE_inj hb ⟨r0, r1⟩ h2
        omega
      · have e2 : wrap64 ((x : Int) + 1) = ((x + 1 : Nat) : Int) := by rw [w64 (by omega) (by omega)]; omega
        rw [e2]
        exact Inv_from ha h0 n (x + 1) (by omega) (by omega)
theorem Inv_ends {a : Int} (ha : 0 ≤ a ∧ a < 256) (h0 : a ≠ 0) : Ends (fun k => recoupref01_Inv.f k a) (invT a, 0) := by
  have hr := invT_range ha h0
  have hn : invT a ≠ 0 := by
    intro e
    have := invT_el ha h0
    rw [e, toE_zero] at this
    exact inv_ne (toE_ne ha h0) this.symm
  have := Inv_from ha h0 ((invT a).toNat - 1) 1 (by omega) (Nat.le_refl _)
  exact this
theorem Scale_l0 {c : Int} (hc : 0 ≤ c ∧ c < 256) {l : List Int} (hl : bytesB l = true) (hm : l.length ≤ 4096) : ∀ n i : Nat, i + n = l.length → Ends (fun k => recoupref01_Scale.l0 k c l ((l.take i).map (mulT c)) (i : Int)) (l.map (mulT c))
  | 0, i, h => by
    obtain rfl : i = l.length := by omega
    exact Ends.succ (fun k => by rw [recoupref01_Scale.l0]) (Ends.neg (by omega) (Ends.const (by simp)))
  | n + 1, i, h => by
    have hi : i < l.length := by omega
    refine Ends.succ (fun k => by rw [recoupref01_Scale.l0]) (Ends.pos (by omega) (Ends.pos (Int.natCast_nonneg _) ?_))
    have hb := bytesB_at hl hi
    rw [rd_nat]
    refine Ends.bind (mulT_ends hc hb) (Ends.pos (by simp; omega) ?_)
    have e2 : wrap64 ((i : Int) + 1) = ((i + 1 : Nat) : Int) := by rw [w64 (by omega) (by omega)]; omega
    have e3 : (l.take i).map (mulT c) ++ [mulT c (l.getD i 0)] = (l.take (i + 1)).map (mulT c) := by
      rw [List.take_succ_eq_append_getElem hi, List.map_append, List.getD_eq_getElem?_getD, List.getElem?_eq_getElem hi]
      rfl
    rw [e2, e3]
    exact Scale_l0 hc hl hm n (i + 1) (by omega)
theorem Scale_ends {c : Int} (hc : 0 ≤ c ∧ c < 256) {l : List Int} (hl : bytesB l = true) (hm : l.length ≤ 4096) : Ends (fun k => recoupref01_Scale.f k c l) (l.map (mulT c)) := by
  have := Scale_l0 hc hl hm l.length 0 (by omega)
  unfold recoupref01_Scale.f
  simpa using this
end Go.Proofs.YthjncmdlhmppiaaDoor.M
namespace Go.Proofs.YthjncmdlhmppiaaDoor.M
open Go.RowKit Go.Proofs.YthjncmdlhmppiaaDoorW.PrintWords Go.Proofs.YthjncmdlhmppiaaDoorW.PrintLast Go.Proofs.YthjncmdlhmppiaaDoorW.PrintMore Go.Proofs.YthjncmdlhmppiaaDoor.Q
def U (M : List (List Int)) (c : Nat) : Prop := ∀ r ∈ M, r.length = c
theorem U.cons {r : List Int} {M : List (List Int)} {c : Nat} (h : U (r :: M) c) : r.length = c ∧ U M c := ⟨h r (List.mem_cons_self ..), fun x hx => h x (List.mem_cons_of_mem _ hx)⟩
theorem U.set {M : List (List Int)} {c k : Nat} {r : List Int} (h : U M c) (hr : r.length = c) : U (M.set k r) c := fun x hx => by
  rcases List.mem_or_eq_of_mem_set hx with hx | rfl
  · exact h x hx
  · exact hr
theorem U.at {M : List (List Int)} {c i : Nat} (h : U M c) (hi : i < M.length) : (M.getD i []).length = c := by
  rw [List.getD_eq_getElem?_getD, List.getElem?_eq_getElem hi]
  exact h _ (List.getElem_mem hi)
theorem flat_len {c : Nat} : ∀ {M : List (List Int)}, U M c → M.flatten.length = M.length * c
  | [], _ => by simp
  | r :: M, h => by
    rw [List.flatten_cons, List.length_append, flat_len h.cons.2, h.cons.1, List.length_cons, Nat.succ_mul, Nat.add_comm]
theorem flat_drop {c : Nat} : ∀ {M : List (List Int)} (i : Nat), U M c → M.flatten.drop (i * c) = (M.drop i).flatten
  | [], i, _ => by simp
  | r :: M, 0, h => by simp
  | r :: M, i + 1, h => by
    rw [List.flatten_cons, Nat.succ_mul, Nat.add_comm, List.drop_succ_cons, ← flat_drop i h.cons.2]
    have := h.cons.1
    rw [List.drop_append, List.drop_eq_nil_of_le (by omega), List.nil_append, this, Nat.add_sub_cancel_left]
theorem flat_take {c : Nat} : ∀ {M : List (List Int)} (i : Nat), U M c → M.flatten.take (i * c) = (M.take i).flatten
  | [], i, _ => by simp
  | r :: M, 0, h => by simp
  | r :: M, i + 1, h => by
    rw [List.flatten_cons, Nat.succ_mul, Nat.add_comm, List.take_succ_cons, List.flatten_cons, ← flat_take i h.cons.2]
    have := h.cons.1
    rw [List.take_append, List.take_of_length_le (by omega), this, Nat.add_sub_cancel_left]
theorem flat_get {c i j : Nat} {M : List (List Int)} (h : U M c) (hi : i < M.length) (hj : j < c) : M.flatten.getD (i * c + j) 0 = entry M i j := by
  have e : M.flatten.getD (i * c + j) 0 = (M.flatten.drop (i * c)).getD j 0 := by
    rw [List.getD_eq_getElem?_getD, List.getD_eq_getElem?_getD, List.getElem?_drop]
  have hl := h.at hi
  rw [e, flat_drop i h, List.drop_eq_getElem_cons hi, List.flatten_cons]
  unfold entry
  rw [List.getD_eq_getElem?_getD, List.getD_eq_getElem?_getD, List.getD_eq_getElem?_getD, List.getElem?_eq_getElem hi, Option.getD_some]
  rw [List.getD_eq_getElem?_getD, List.getElem?_eq_getElem hi, Option.getD_some] at hl
  rw [List.getElem?_append_left (by omega)]
theorem flat_row {c i : Nat} {M : List (List Int)} (h : U M c) (hi : i < M.length) : (M.flatten.drop (i * c)).take c = M.getD i [] := by
  have hl := h.at hi
  rw [flat_drop i h, List.drop_eq_getElem_cons hi, List.flatten_cons]
  rw [List.getD_eq_getElem?_getD, List.getElem?_eq_getElem hi, Option.getD_some] at hl ⊢
  rw [List.take_append, List.take_of_length_le (by omega), hl, Nat.sub_self, List.take_zero, List.append_nil]
theorem flat_splice {c k : Nat} {M : List (List Int)} {r : List Int} (h : U M c) (hk : k < M.length) (hr : r.length = c) : splice M.flatten (k * c) r = (M.set k r).flatten := by
  unfold splice
  rw [flat_take k h, hr, show k * c + c = (k + 1) * c from (Nat.succ_mul k c).symm, flat_drop (k + 1) h, List.set_eq_take_append_cons_drop, if_pos hk, List.flatten_append, List.flatten_cons]
theorem flat_set {c k j : Nat} {M : List (List Int)} (v : Int) (h : U M c) (hk : k < M.length) (hj : j < c) : M.flatten.set (k * c + j) v = (M.set k ((M.getD k []).set j v)).flatten := by
  have hl := h.at hk
  rw [← flat_splice h hk (by rw [List.length_set]; exact hl)]
  unfold splice
  rw [List.length_set, hl, List.set_eq_take_append_cons_drop]
  have hlen : k * c + j < M.flatten.length := by
    rw [flat_len h]
    have : (k + 1) * c ≤ M.length * c := Nat.mul_le_mul_right _ hk
    rw [Nat.succ_mul] at this
    omega
  rw [if_pos hlen, List.set_eq_take_append_cons_drop, if_pos (by omega), ← flat_row h hk, List.take_take, Nat.min_eq_left (by omega), List.append_assoc, List.cons_append]
  have e1 : M.flatten.take (k * c + j) = M.flatten.take (k * c) ++ (M.flatten.drop (k * c)).take j := by
    rw [List.take_add]
  have e2 : ((M.flatten.drop (k * c)).take c).drop (j + 1) ++ M.flatten.drop (k * c + c) = M.flatten.drop (k * c + j + 1) := by
    rw [List.drop_take, List.drop_drop, ← List.drop_drop (i := c), ← List.drop_drop (i := j + 1)]
    rw [show M.flatten.drop (k * c + j + 1) = ((M.flatten.drop (k * c)).drop (j + 1)) from by rw [List.drop_drop]; congr 1, show (M.flatten.drop (k * c)).drop c = ((M.flatten.drop (k * c)).drop (j + 1)).drop (c - (j + 1)) from by simp only [List.drop_drop]; congr 1; omega]
    rw [List.take_append_drop]
  rw [e1, ← e2]
  simp [List.append_assoc]
theorem flat_rowsOf {c : Nat} : ∀ (r : Nat) (l : List Int), l.length = r * c → (rowsOf c r l).flatten = l ∧ U (rowsOf c r l) c := by
  intro r
  have key : ∀ r (l : List Int), l.length = r * c → ((List.range r).map fun i => (l.drop (i * c)).take c).flatten = l := by
    intro r
    induction r with
    | zero => intro l hl; rw [Nat.zero_mul] at hl; simp [List.length_eq_zero_iff.1 hl]
    | succ r ih =>
      intro l hl
      rw [Nat.succ_mul] at hl
      rw [List.range_succ, List.map_append, List.flatten_append]
      have := ih (l.take (r * c)) (by rw [List.length_take]; omega)
      have e : ((List.range r).map fun i => (l.drop (i * c)).take c) = ((List.range r).map fun i => ((l.take (r * c)).drop (i * c)).take c) := by
        refine List.map_congr_left fun i hi => ?_
        have hir : i < r := by simpa using hi
        have : (i + 1) * c ≤ r * c := Nat.mul_le_mul_right _ hir
        rw [Nat.succ_mul] at this
        rw [List.drop_take, List.take_take, Nat.min_eq_left (by omega)]
      rw [e, this]
      simp only [List.map_cons, List.map_nil, List.flatten_cons, List.flatten_nil, List.append_nil]
      rw [List.take_of_length_le (l := l.drop (r * c)) (by rw [List.length_drop]; omega), List.take_append_drop]
  intro l hl
  refine ⟨key r l hl, fun x hx => ?_⟩
  obtain ⟨i, hi, rfl⟩ := List.mem_map.1 hx
  have hir : i < r := by simpa using hi
  have : (i + 1) * c ≤ r * c := Nat.mul_le_mul_right _ hir
  rw [Nat.succ_mul] at this
  rw [List.length_take, List.length_drop]
  omega
theorem idx_small {i c j : Nat} (hi : i ≤ 64) (hc : c ≤ 64) (hj : j ≤ 64) : wrap64 ((i : Int) * (c : Int)) = ((i * c : Nat) : Int) ∧ wrap64 (wrap64 ((i : Int) * (c : Int)) + (j : Int)) = ((i * c + j : Nat) : Int) := by
  have hm : i * c ≤ 64 * 64 := Nat.mul_le_mul hi hc
  rw [← Int.natCast_mul]
  generalize i * c = p at *
  rw [w64 (by omega) (by omega), w64 (by omega) (by omega)]
  exact ⟨rfl, by omega⟩
theorem idx_lt {i c j n : Nat} (hi : i < n) (hj : j < c) : i * c + j < n * c := by
  have : (i + 1) * c ≤ n * c := Nat.mul_le_mul_right _ hi
  rw [Nat.succ_mul] at this
  omega
theorem At_eq {c i j : Nat} {M : List (List Int)} (h : U M c) (hm : M.length ≤ 64) (hc : c ≤ 64) (hi : i < M.length) (hj : j < c) (a : Int) : recoupref03_At.f a (c : Int) M.flatten (i : Int) (j : Int) = some (entry M i j) := by
  obtain ⟨_, e⟩ := idx_small (i := i) (c := c) (j := j) (by omega) hc (by omega)
  have hl := idx_lt hi hj
  unfold recoupref03_At.f
  rw [e, flat_len h, if_pos (Int.natCast_nonneg _), if_pos (Int.ofNat_lt.2 hl), rd_nat, flat_get h hi hj]
theorem Right_true {c : Nat} {M : List (List Int)} (h : U M c) (hm : M.length ≤ 64) (hc : c ≤ 64) : recoupref03_Right.f (M.length : Int) (c : Int) M.flatten = some true := by
  obtain ⟨e, _⟩ := idx_small (i := M.length) (c := c) (j := 0) hm hc (by omega)
  unfold recoupref03_Right.f
  rw [if_pos (by omega), if_pos (by omega), if_pos (by omega), if_pos (by omega), e, flat_len h]
  simp
theorem Row_l0 {c i : Nat} {M : List (List Int)} (h : U M c) (hm : M.length ≤ 64) (hc : c ≤ 64) (hi : i < M.length) : ∀ n j : Nat, j + n = c → Ends (fun k => recoupref03_Row.l0 k (i : Int) ((M.getD i []).take j) (j : Int) (M.length : Int) (c : Int) M.flatten) (M.getD i [], 0)
  | 0, j, hj => by
    obtain rfl : j = c := by omega
    refine Ends.succ (fun k => by rw [recoupref03_Row.l0]) (Ends.neg (by omega) (Ends.const ?_))
    rw [List.take_of_length_le (by rw [h.at hi]; exact Nat.le_refl _)]
  | n + 1, j, hj => by
    refine Ends.succ (fun k => by rw [recoupref03_Row.l0]) (Ends.pos (by omega) ?_)
    refine Ends.bind1 (At_eq h hm hc hi (by omega : j < c) _) ?_
    refine Ends.pos (by rw [List.length_take]; omega) ?_
    have e2 : wrap64 ((j : Int) + 1) = ((j + 1 : Nat) : Int) := by rw [w64 (by omega) (by omega)]; omega
    have e3 : (M.getD i []).take j ++ [entry M i j] = (M.getD i []).take (j + 1) := by
      have hl := h.at hi
      rw [List.take_succ_eq_append_getElem (by omega)]
      unfold entry
      rw [List.getD_eq_getElem?_getD (l := M.getD i []), List.getElem?_eq_getElem (by omega : j < (M.getD i []).length), Option.getD_some]
    rw [e2, e3]
    exact Row_l0 h hm hc hi n (j + 1) (by omega)
theorem Row_ends {c i : Nat} {M : List (List Int)} (h : U M c) (hm : M.length ≤ 64) (hc : c ≤ 64) (hi : i < M.length) : Ends (fun k => recoupref03_Row.f k (M.length : Int) (c : Int) M.flatten (i : Int)) (M.getD i [], 0) := by
  unfold recoupref03_Row.f
  refine Ends.bind1 (Right_true h hm hc) (Ends.pos rfl (Ends.neg (by omega) ?_))
  refine Ends.succ (fun k => by rw [recoupref03_Row.j0]) (Ends.neg (by rw [decide_eq_true_eq]; omega) ?_)
  simpa using Row_l0 h hm hc hi c 0 (by omega)
end Go.Proofs.YthjncmdlhmppiaaDoor.M
namespace Go.Proofs.YthjncmdlhmppiaaDoor.M
open Go.RowKit Go.Proofs.YthjncmdlhmppiaaDoorW.PrintWords Go.Proofs.YthjncmdlhmppiaaDoorW.PrintLast Go.Proofs.YthjncmdlhmppiaaDoorW.PrintMore Go.Proofs.YthjncmdlhmppiaaDoor.Q
set_option linter.unusedVariables false
theorem U.of {M D : List (List Int)} {cols wd : Nat} (h : Shp M D cols wd) : U M cols := fun r hr => by
 obtain ⟨i, hi, rfl⟩ := List.getElem_of_mem hr
 have := h.eM i hi
 rwa [List.getD_eq_getElem?_getD, List.getElem?_eq_getElem hi, Option.getD_some] at this
theorem Pick_l1 {c : Nat} {M : List (List Int)} (h : U M c) (hm : M.length ≤ 64) (hc : c ≤ 64) {L : List Int} (hL : ∀ x ∈ L, 0 ≤ x ∧ x < (M.length : Int)) (hl : L.length ≤ 64) (a b : Int) : ∀ n i : Nat, i + n = L.length →
  Ends (fun k => recoupref03_Pick.l1 k L (i : Int) (M.length : Int) (c : Int) M.flatten a b ((L.take i).map fun x => M.getD x.toNat []).flatten) (a, b, (L.map fun x => M.getD x.toNat []).flatten, 0)
 | 0, i, hi => by
  refine Ends.succ (fun k => by rw [recoupref03_Pick.l1]) (Ends.neg (by omega) (Ends.const ?_))
  rw [List.take_of_length_le (by omega)]
 | n + 1, i, hi => by
  have hiL : i < L.length := by omega
  refine Ends.succ (fun k => by rw [recoupref03_Pick.l1]) (Ends.pos (by omega) ?_)
  refine Ends.pos (Int.natCast_nonneg _) ?_
  have hx := hL _ (List.getElem_mem hiL)
  obtain ⟨x, hx'⟩ := Int.eq_ofNat_of_zero_le hx.1
  rw [rd_nat, List.getD_eq_getElem?_getD, List.getElem?_eq_getElem hiL, Option.getD_some, hx']
  have hxm : x < M.length := by omega
  refine Ends.bind (Row_ends h hm hc hxm) ?_
  have hfl : ((L.take i).map fun x => M.getD x.toNat []).flatten.length = i * c := by
   have hu : U ((L.take i).map fun x => M.getD x.toNat []) c := fun r hr => by
    obtain ⟨y, hy, rfl⟩ := List.mem_map.1 hr
    have := hL y (List.mem_of_mem_take hy)
    exact h.at (by omega)
   rw [flat_len hu, List.length_map, List.length_take, Nat.min_eq_left (by omega)]
  have hic : i * c ≤ 64 * 64 := Nat.mul_le_mul (by omega) hc
  have hrl := h.at hxm
  refine Ends.pos (by rw [hfl, hrl]; omega) ?_
  have e2 : wrap64 ((i : Int) + 1) = ((i + 1 : Nat) : Int) := by rw [w64 (by omega) (by omega)]; omega
  have e3 : ((L.take i).map fun x => M.getD x.toNat []).flatten ++ M.getD x [] = ((L.take (i + 1)).map fun x => M.getD x.toNat []).flatten := by
   rw [List.take_succ_eq_append_getElem hiL, List.map_append, List.flatten_append, hx']
   simp
  rw [e2, e3]
  exact Pick_l1 h hm hc hL hl a b n (i + 1) (by omega)
theorem Pick_l0 {c : Nat} {M : List (List Int)} (h : U M c) (hm : M.length ≤ 64) (hc : c ≤ 64) {L : List Int} (hL : ∀ x ∈ L, 0 ≤ x ∧ x < (M.length : Int)) (hl : L.length ≤ 64) : ∀ n i : Nat, i + n = L.length →
  Ends (fun k => recoupref03_Pick.l0 k L (i : Int) (M.length : Int) (c : Int) M.flatten) ((L.length : Int), (c : Int), (L.map fun x => M.getD x.toNat []).flatten, 0)
 | 0, i, hi => by
  refine Ends.succ (fun k => by rw [recoupref03_Pick.l0]) (Ends.neg (by omega) (Ends.neg (by omega) ?_))
  exact Pick_l1 h hm hc hL hl _ _ L.length 0 (by omega)
 | n + 1, i, hi => by
  have hiL : i < L.length := by omega
  have hx := hL _ (List.getElem_mem hiL)
  refine Ends.succ (fun k => by rw [recoupref03_Pick.l0]) (Ends.pos (by omega) ?_)
  refine Ends.pos (Int.natCast_nonneg _) ?_
  have e : rd L (i : Int) = L[i] := by rw [rd_nat, List.getD_eq_getElem?_getD, List.getElem?_eq_getElem hiL, Option.getD_some]
  rw [e]
  refine Ends.neg (by omega) (Ends.neg (by omega) ?_)
  have e2 : wrap64 ((i : Int) + 1) = ((i + 1 : Nat) : Int) := by rw [w64 (by omega) (by omega)]; omega
  rw [e2]
  exact Pick_l0 h hm hc hL hl n (i + 1) (by omega)
theorem Pick_ends {c : Nat} {M : List (List Int)} (h : U M c) (hm : M.length ≤ 64) (hc : c ≤ 64) {L : List Int} (hL : ∀ x ∈ L, 0 ≤ x ∧ x < (M.length : Int)) (hl : L.length ≤ 64) :
  Ends (fun k => recoupref03_Pick.f k (M.length : Int) (c : Int) M.flatten L) ((L.length : Int), (c : Int), (L.map fun x => M.getD x.toNat []).flatten, 0) := by
 unfold recoupref03_Pick.f
 exact Ends.bind1 (Right_true h hm hc) (Ends.pos rfl (Pick_l0 h hm hc hL hl L.length 0 (by omega)))
def sw (M : List (List Int)) (top i : Nat) : List (List Int) := (M.set i (M.getD top [])).set top (M.getD i [])
def ordL (n top i : Nat) : List Int := (((List.range n).map fun (x : Nat) => (x : Int)).set top (i : Int)).set i (top : Int)
theorem ordL_map {M : List (List Int)} {top i : Nat} (ht : top < M.length) (hi : i < M.length) : ((ordL M.length top i).map fun x => M.getD x.toNat []) = sw M top i := by
 unfold ordL sw
 refine List.ext_getElem (by simp) fun p h1 h2 => ?_
 have hp : p < M.length := by simpa using h2
 rw [List.getElem_map, List.getElem_set, List.getElem_set, List.getElem_set, List.getElem_set, List.getElem_map, List.getElem_range]
 by_cases e1 : i = p
 ·subst e1
  by_cases e2 : top = i
  ·subst e2; simp
  ·rw [if_pos rfl, if_neg e2, if_pos rfl]; simp
 ·by_cases e2 : top = p
  ·subst e2
   rw [if_neg e1, if_pos rfl, if_pos rfl]; simp
  ·rw [if_neg e1, if_neg e2, if_neg e2, if_neg e1]
   simp [List.getElem?_eq_getElem hp]
theorem ordL_range {n top i : Nat} (ht : top < n) (hi : i < n) : ∀ x ∈ ordL n top i, 0 ≤ x ∧ x < (n : Int) := fun x hx => by
 unfold ordL at hx
 rcases List.mem_or_eq_of_mem_set hx with hx | rfl
 ·rcases List.mem_or_eq_of_mem_set hx with hx | rfl
  ·obtain ⟨y, hy, rfl⟩ := List.mem_map.1 hx
   have : y < n := by simpa using hy
   omega
  ·omega
 ·omega
theorem mid_set {g r : List Int} {l : Nat} (hg : l < g.length) (hr : g.length = r.length) : (g.take l ++ r.drop l).set l (g.getD l 0) = g.take (l + 1) ++ r.drop (l + 1) := by
 rw [List.set_append_right _ _ (by rw [List.length_take]; omega), List.length_take, Nat.min_eq_left (by omega), Nat.sub_self, List.drop_eq_getElem_cons (by omega : l < r.length), List.set_cons_zero, List.take_succ_eq_append_getElem hg, List.append_assoc, List.getD_eq_getElem?_getD, List.getElem?_eq_getElem hg]
 rfl
theorem mid_get {g r : List Int} {l : Nat} (hg : l < g.length) (hr : g.length = r.length) : (g.take l ++ r.drop l).getD l 0 = r.getD l 0 := by
 rw [List.getD_eq_getElem?_getD, List.getD_eq_getElem?_getD, List.getElem?_append_right (by rw [List.length_take]; omega), List.length_take, Nat.min_eq_left (by omega), Nat.sub_self, List.getElem?_drop, Nat.add_zero]
def xrow (c : Int) (r s : List Int) : List Int := List.zipWith (fun x y => Go.bits .xor .u8 x (mulT c y)) r s
theorem xrow_mac (c : Int) (r s : List Int) : xrow c r s = xorL (s.map (mulT c)) r := by
 unfold xrow xorL
 rw [List.zipWith_map_left, List.zipWith_comm]
 congr 1
 funext a b
 show IntKind.u8.wrap ((BitVec.ofInt 8 _ ^^^ BitVec.ofInt 8 _).toNat : Int) = IntKind.u8.wrap ((BitVec.ofInt 8 _ ^^^ BitVec.ofInt 8 _).toNat : Int)
 rw [BitVec.xor_comm]
theorem xrow_zero {r s : List Int} (hr : bytesB r = true) (hl : r.length = s.length) : xrow 0 r s = r := by
 unfold xrow
 refine List.ext_getElem (by simp [hl]) fun p h1 h2 => ?_
 rw [List.getElem_zipWith]
 have hb := bytesB_at hr h2
 rw [List.getD_eq_getElem?_getD, List.getElem?_eq_getElem h2, Option.getD_some] at hb
 refine toE_inj (xor_range _ _) hb ?_
 rw [xor_el]
 show toE r[p] + toE (mulT 0 _) = _
 rw [show mulT 0 (s[p]'(by omega)) = 0 from by unfold mulT; rw [if_pos rfl], toE_zero, add_zero]
end Go.Proofs.YthjncmdlhmppiaaDoor.M
namespace Go.Proofs.YthjncmdlhmppiaaDoor.M
open Go.RowKit Go.Proofs.YthjncmdlhmppiaaDoorW.PrintWords Go.Proofs.YthjncmdlhmppiaaDoorW.PrintLast Go.Proofs.YthjncmdlhmppiaaDoorW.PrintMore Go.Proofs.YthjncmdlhmppiaaDoor.Q
set_option linter.unusedVariables false
theorem i64_succ {i : Nat} (h : i ≤ 4096) : wrap64 ((i : Int) + 1) = ((i + 1 : Nat) : Int) := by rw [w64 (by omega) (by omega)]; omega
theorem getD_set_self {α : Type} {l : List α} {i : Nat} {v d : α} (h : i < l.length) : (l.set i v).getD i d = v := by
 rw [List.getD_eq_getElem?_getD, List.getElem?_set_self h, Option.getD_some]
theorem getD_set_ne {α : Type} {l : List α} {i j : Nat} {v d : α} (h : i ≠ j) : (l.set i v).getD j d = l.getD j d := by
 rw [List.getD_eq_getElem?_getD, List.getD_eq_getElem?_getD, List.getElem?_set_ne h]
theorem set_getD_self {α : Type} {l : List α} {i : Nat} {d : α} (h : i < l.length) : l.set i (l.getD i d) = l := by
 rw [List.getD_eq_getElem?_getD, List.getElem?_eq_getElem h, Option.getD_some, List.set_getElem_self]
theorem xrow_length {c : Int} {r s : List Int} (h : r.length = s.length) : (xrow c r s).length = r.length := by unfold xrow; rw [List.length_zipWith]; omega
theorem xrow_get {c : Int} {r s : List Int} {l : Nat} (h1 : l < r.length) (h2 : l < s.length) : (xrow c r s).getD l 0 = Go.bits .xor .u8 (r.getD l 0) (mulT c (s.getD l 0)) := by
 unfold xrow
 rw [List.getD_eq_getElem?_getD, List.getD_eq_getElem?_getD, List.getD_eq_getElem?_getD, List.getElem?_zipWith, List.getElem?_eq_getElem h1, List.getElem?_eq_getElem h2]
 rfl
theorem Red_l4 {C : Nat} {M : List (List Int)} (h : U M C) (hm : M.length ≤ 64) (hc : C ≤ 64) {kk : Nat} (hk : kk < M.length) {s : List Int} (hs : s.length = C) (hsb : bytesB s = true) {c : Int} (hcb : 0 ≤ c ∧ c < 256) (x6 : List Int) (x7 x8 : Int) {R : Int × Int × List Int × List Int × Int}
  (hR : Ends (fun q => recoupref04_Reduce.l3 q x6 x7 x8 s ((kk + 1 : Nat) : Int) (M.length : Int) (C : Int) (M.set kk (xrow c (M.getD kk []) s)).flatten) R) :
  ∀ n l : Nat, l + n = C → Ends (fun q => recoupref04_Reduce.l4 q x6 x7 x8 s (kk : Int) c (l : Int) (M.length : Int) (C : Int) (M.set kk ((xrow c (M.getD kk []) s).take l ++ (M.getD kk []).drop l)).flatten) R
 | 0, l, hl => by
  obtain rfl : l = C := by omega
  have hr := h.at hk
  have hg := xrow_length (c := c) (hr.trans hs.symm)
  refine Ends.succ (fun k => by rw [recoupref04_Reduce.l4]) (Ends.neg (by omega) ?_)
  have e1 : (xrow c (M.getD kk []) s).take l = xrow c (M.getD kk []) s := List.take_of_length_le (by rw [hg, hr]; exact Nat.le_refl _)
  have e2 : (M.getD kk []).drop l = [] := List.drop_of_length_le (by rw [hr]; exact Nat.le_refl _)
  have e3 := i64_succ (i := kk) (by clear hR e1 e2 hg hr hcb; omega)
  rw [e1, e2, List.append_nil, e3]
  exact hR
 | n + 1, l, hl => by
  have hr := h.at hk
  have hg := xrow_length (c := c) (hr.trans hs.symm)
  have hlC : l < C := by omega
  have hk64 : kk ≤ 64 := by omega
  have hl64 : l ≤ 64 := by omega
  have hmid : ((xrow c (M.getD kk []) s).take l ++ (M.getD kk []).drop l).length = C := by rw [List.length_append, List.length_take, List.length_drop]; omega
  have hU := h.set (k := kk) hmid
  have hlen : (M.set kk ((xrow c (M.getD kk []) s).take l ++ (M.getD kk []).drop l)).length = M.length := List.length_set
  refine Ends.succ (fun k => by rw [recoupref04_Reduce.l4]) (Ends.pos (by omega) ?_)
  rw [(idx_small (i := kk) (c := C) (j := l) hk64 hc hl64).2]
  refine Ends.pos (Int.natCast_nonneg _) ?_
  have hix := idx_lt (c := C) hk hlC
  refine Ends.pos (by rw [flat_len hU, hlen]; exact Int.ofNat_lt.2 hix) ?_
  refine Ends.pos (Int.natCast_nonneg _) ?_
  have hls : l < s.length := by rw [hs]; exact hlC
  refine Ends.pos (Int.ofNat_lt.2 hls) ?_
  rw [rd_nat]
  refine Ends.bind (mulT_ends hcb (bytesB_at hsb hls)) ?_
  have e2 : (M.set kk ((xrow c (M.getD kk []) s).take l ++ (M.getD kk []).drop l)).flatten.set (((kk * C + l : Nat) : Int)).toNat (Go.bits .xor .u8 (rd (M.set kk ((xrow c (M.getD kk []) s).take l ++ (M.getD kk []).drop l)).flatten ((kk * C + l : Nat) : Int)) (mulT c (s.getD l 0))) = (M.set kk ((xrow c (M.getD kk []) s).take (l + 1) ++ (M.getD kk []).drop (l + 1))).flatten := by
   rw [rd_nat, Int.toNat_natCast, flat_get hU (by omega) hlC, flat_set _ hU (by omega) hlC, getD_set_self hk, List.set_set]
   have e3 : entry (M.set kk ((xrow c (M.getD kk []) s).take l ++ (M.getD kk []).drop l)) kk l = (M.getD kk []).getD l 0 := by
    unfold entry
    rw [getD_set_self hk, mid_get (by omega) (by omega)]
   rw [e3, ← xrow_get (by omega) (by omega), mid_set (by omega) (by omega)]
  rw [e2, i64_succ (by omega)]
  exact Red_l4 h hm hc hk hs hsb hcb x6 x7 x8 hR n (l + 1) (by omega)
theorem elim_top {col top : Nat} {s : List (List Int) × List (List Int)} : ∀ k, (elimTo col top k s).1.getD top [] = s.1.getD top []
 | 0 => rfl
 | k + 1 => by
  unfold elimTo
  simp only []
  split
  ·rename_i hh
   unfold macS
   rw [getD_set_ne hh.1]
   exact elim_top k
  ·exact elim_top k
theorem rows_bytes {M : List (List Int)} (h : rowsB M = true) (i : Nat) : bytesB (M.getD i []) = true := rowsB_at h i
theorem Red_l3 {C wd : Nat} {S D : List (List Int)} (h : Shp S D C wd) {top j : Nat} (ht : top < S.length) (hj : j < C) (x6 : List Int) (h6 : x6.length ≤ 64) {R : Int × Int × List Int × List Int × Int}
  (hR : Ends (fun q => recoupref04_Reduce.l0 q (x6 ++ [(j : Int)]) ((j + 1 : Nat) : Int) (S.length : Int) (C : Int) (elimTo j top S.length (S, D)).1.flatten) R) :
  ∀ n k : Nat, k + n = S.length → Ends (fun q => recoupref04_Reduce.l3 q x6 (j : Int) (top : Int) (S.getD top []) (k : Int) (S.length : Int) (C : Int) (elimTo j top k (S, D)).1.flatten) R
 | 0, k, hk => by
  obtain rfl : k = S.length := by omega
  refine Ends.succ (fun k => by rw [recoupref04_Reduce.l3]) (Ends.neg (by omega) (Ends.pos (by omega) ?_))
  have := h.small.2.1
  rw [i64_succ (by omega)]
  exact hR
 | n + 1, k, hk => by
  have hkS : k < S.length := by omega
  obtain ⟨hT, hTl⟩ := elim_shp (col := j) h ht k (by omega)
  have hm := h.small.1
  have hc := h.small.2.1
  have ih := Red_l3 h ht hj x6 h6 hR n (k + 1) (by omega)
  refine Ends.succ (fun k => by rw [recoupref04_Reduce.l3]) (Ends.pos (by omega) ?_)
  by_cases e : k = top
  ·refine Ends.pos (by omega) ?_
   rw [i64_succ (by omega)]
   have e1 : elimTo j top (k + 1) (S, D) = elimTo j top k (S, D) := by
    conv => lhs; unfold elimTo
    simp only []
    rw [if_neg (fun hh => hh.1 e)]
   rw [e1] at ih
   exact ih
  ·refine Ends.neg (by omega) ?_
   have hst := elim_top (col := j) (top := top) (s := (S, D)) k
   have hEx : elimTo j top (k + 1) (S, D) = (if k ≠ top ∧ entry (elimTo j top k (S, D)).1 k j ≠ 0 then (macS (elimTo j top k (S, D)).1 k top (entry (elimTo j top k (S, D)).1 k j), macS (elimTo j top k (S, D)).2 k top (entry (elimTo j top k (S, D)).1 k j)) else elimTo j top k (S, D)) := by
    conv => lhs; unfold elimTo
   rw [hEx] at ih
   generalize elimTo j top k (S, D) = T at *
   have hUT := U.of hT
   rw [← hTl]
   refine Ends.bind1 (At_eq hUT (by omega) hc (by omega) hj _) ?_
   have hcb := entry_byte hT (i := k) (j := j) (by omega) hj
   have hst' : T.1.getD top [] = S.getD top [] := hst
   have hs : (S.getD top []).length = C := h.eM top ht
   have h0 := Red_l4 hUT (by omega) hc (kk := k) (by omega) hs (rows_bytes h.bM top) hcb x6 (j : Int) (top : Int) (R := R) ?_ C 0 (by omega)
   ·rw [List.take_zero, List.nil_append, List.drop_zero, set_getD_self (by omega)] at h0
    exact h0
   ·rw [hTl]
    by_cases e0 : entry T.1 k j = 0
    ·rw [if_neg (fun hh => hh.2 e0)] at ih
     rw [e0, xrow_zero (rows_bytes hT.bM k) (by rw [hT.eM k (by omega), hs]), set_getD_self (by omega)]
     exact ih
    ·rw [if_pos ⟨e, e0⟩] at ih
     unfold macS at ih
     rw [hst'] at ih
     rw [xrow_mac]
     exact ih
theorem Red_l2 {C wd : Nat} {M D : List (List Int)} (h : Shp M D C wd) {top i j : Nat} (ht : top < M.length) (hi : i < M.length) (hj : j < C) (h0 : entry M i j ≠ 0) (x6 : List Int) (h6 : x6.length ≤ 64) {R : Int × Int × List Int × List Int × Int}
  (hR : Ends (fun q => recoupref04_Reduce.l0 q (x6 ++ [(j : Int)]) ((j + 1 : Nat) : Int) (M.length : Int) (C : Int) (stepAt M D top i j).1.flatten) R) :
  ∀ n k : Nat, k + n = M.length → Ends (fun q => recoupref04_Reduce.l2 q x6 (j : Int) (top : Int) (i : Int) (((List.range M.length).map fun (x : Nat) => (x : Int)).take k ++ (List.replicate M.length (0 : Int)).drop k) (k : Int) (M.length : Int) (C : Int) M.flatten) R
 | 0, k, hk => by
  obtain rfl : k = M.length := by omega
  have hm := h.small.1
  have hc := h.small.2.1
  have hU := U.of h
  have hlen : (((List.range M.length).map fun (x : Nat) => (x : Int)).take M.length ++ (List.replicate M.length (0 : Int)).drop M.length) = ((List.range M.length).map fun (x : Nat) => (x : Int)) := by
   rw [List.take_of_length_le (by simp), List.drop_of_length_le (by simp), List.append_nil]
  refine Ends.succ (fun k => by rw [recoupref04_Reduce.l2]) (Ends.neg (by omega) ?_)
  rw [hlen]
  have hl2 : (((List.range M.length).map fun (x : Nat) => (x : Int)).length : Int) = (M.length : Int) := by simp
  rw [hl2]
  refine Ends.pos (Int.natCast_nonneg _) (Ends.pos (by omega) (Ends.pos (Int.natCast_nonneg _) (Ends.pos (by omega) ?_)))
  have ho : ((((List.range M.length).map fun (x : Nat) => (x : Int)).set ((top : Int)).toNat (i : Int)).set ((i : Int)).toNat (top : Int)) = ordL M.length top i := rfl
  rw [ho]
  have hol : (ordL M.length top i).length = M.length := by simp [ordL]
  refine Ends.bind (Pick_ends hU hm hc (ordL_range ht hi) (by omega)) ?_
  rw [ordL_map ht hi, hol]
  have hsl : (sw M top i).length = M.length := by simp [sw]
  have hUs : U (sw M top i) C := (hU.set (k := i) (hU.at ht)).set (hU.at hi)
  have hst : (sw M top i).getD top [] = M.getD i [] := by unfold sw; rw [getD_set_self (by simpa using ht)]
  have hA := At_eq hUs (by omega) hc (i := top) (by omega) hj (M.length : Int)
  have he : entry (sw M top i) top j = entry M i j := by unfold entry; rw [hst]
  rw [he] at hA
  refine Ends.bind1 hA ?_
  have hb := entry_byte h hi hj
  refine Ends.bind (Inv_ends hb h0) ?_
  have hRw := Row_ends hUs (by omega) hc (i := top) (by omega)
  rw [hsl, hst] at hRw
  refine Ends.bind hRw ?_
  refine Ends.bind (Scale_ends (invT_range hb h0) (rows_bytes h.bM i) (by rw [h.eM i hi]; omega)) ?_
  have ht64 : top ≤ 64 := by omega
  have hix := idx_lt (c := C) ht (by omega : 0 < C)
  have hfl : (sw M top i).flatten.length = M.length * C := by rw [flat_len hUs, hsl]
  show Ends (fun k => if 0 ≤ wrap64 ((top : Int) * (C : Int)) then if wrap64 ((top : Int) * (C : Int)) < ((sw M top i).flatten.length : Int) then recoupref04_Reduce.l3 k x6 (j : Int) (top : Int) ((M.getD i []).map (mulT (invT (entry M i j)))) 0 (M.length : Int) (C : Int) (copyL (sw M top i).flatten (wrap64 ((top : Int) * (C : Int))) ((M.getD i []).map (mulT (invT (entry M i j))))) else none else none) R
  rw [(idx_small (i := top) (c := C) (j := 0) ht64 hc (by decide)).1, hfl]
  refine Ends.pos (Int.natCast_nonneg _) (Ends.pos (Int.ofNat_lt.2 (by omega)) ?_)
  have hrl : ((M.getD i []).map (mulT (invT (entry M i j)))).length = C := by rw [List.length_map]; exact h.eM i hi
  have hcp : copyL (sw M top i).flatten ((top * C : Nat) : Int) ((M.getD i []).map (mulT (invT (entry M i j)))) = (swapS (invT (entry M i j)) M top i).flatten := by
   unfold copyL
   have : (top + 1) * C ≤ M.length * C := Nat.mul_le_mul_right _ ht
   rw [Nat.succ_mul] at this
   rw [Int.toNat_natCast, hfl, List.take_of_length_le (by omega), flat_splice hUs (by omega) hrl]
   rfl
  rw [hcp]
  have hS := h.swap (o := invT (entry M i j)) ht hi
  have hSl : (swapS (invT (entry M i j)) M top i).length = M.length := by simp [swapS]
  have hSt : (swapS (invT (entry M i j)) M top i).getD top [] = (M.getD i []).map (mulT (invT (entry M i j))) := by
   unfold swapS
   rw [getD_set_self (by simpa using ht)]
  have := Red_l3 hS (by omega : top < _) hj x6 h6 (R := R) (by rw [hSl]; exact hR) M.length 0 (by omega)
  rw [hSl, hSt] at this
  exact this
 | n + 1, k, hk => by
  have hm := h.small.1
  refine Ends.succ (fun k => by rw [recoupref04_Reduce.l2]) (Ends.pos (by omega) (Ends.pos (Int.natCast_nonneg _) ?_))
  refine Ends.pos (by simp; omega) ?_
  have e := mid_set (g := (List.range M.length).map fun (x : Nat) => (x : Int)) (r := List.replicate M.length (0 : Int)) (l := k) (by simp; omega) (by simp)
  have e1 : ((List.range M.length).map fun (x : Nat) => (x : Int)).getD k 0 = (k : Int) := by
   rw [List.getD_eq_getElem?_getD, List.getElem?_map, List.getElem?_range (by omega)]
   rfl
  rw [e1] at e
  rw [Int.toNat_natCast, e, i64_succ (by omega)]
  exact Red_l2 h ht hi hj h0 x6 h6 hR n (k + 1) (by omega)
end Go.Proofs.YthjncmdlhmppiaaDoor.M
namespace Go.Proofs.YthjncmdlhmppiaaDoor.M
open Go.RowKit Go.Proofs.YthjncmdlhmppiaaDoorW.PrintWords Go.Proofs.YthjncmdlhmppiaaDoorW.PrintLast Go.Proofs.YthjncmdlhmppiaaDoorW.PrintMore Go.Proofs.YthjncmdlhmppiaaDoor.Q
set_option linter.unusedVariables false
theorem Red_l1 {C : Nat} {S : List (List Int)} (h : U S C) (hm : S.length ≤ 64) (hc : C ≤ 64) {j : Nat} (hj : j < C) (x6 : List Int) (top : Int) {R : Int × Int × List Int × List Int × Int} :
    ∀ n i : Nat, i + n = S.length → Ends (fun q => recoupref04_Reduce.j3 q x6 (j : Int) top (((seekCol S j n i).getD S.length : Nat) : Int) (S.length : Int) (C : Int) S.flatten) R →
      Ends (fun q => recoupref04_Reduce.l1 q x6 (j : Int) top (i : Int) (S.length : Int) (C : Int) S.flatten) R
  | 0, i, hi, hJ => by
    obtain rfl : i = S.length := by omega
    refine Ends.succ (fun k => by rw [recoupref04_Reduce.l1]) ?_
    exact Ends.neg (by omega) hJ
  | n + 1, i, hi, hJ => by
    refine Ends.succ (fun k => by rw [recoupref04_Reduce.l1]) (Ends.pos (by omega) ?_)
    refine Ends.bind1 (At_eq h hm hc (by omega) hj _) ?_
    unfold seekCol at hJ
    by_cases e : entry S i j = 0
    · rw [if_neg (fun x => x e)] at hJ
      refine Ends.pos e ?_
      rw [i64_succ (by omega)]
      exact Red_l1 h hm hc hj x6 top n (i + 1) (by omega) hJ
    · rw [if_pos e] at hJ
      exact Ends.neg e hJ
theorem red_done {M D : List (List Int)} {C wd : Nat} (h : Shp M D C wd) {j : Nat} (hf : M.length ≤ (redTo M D j).2.length) (n : Nat) : redTo M D (j + n) = redTo M D j :=
  red_skip n fun j' _ _ i' a b => by rw [(red_shp h j).2.1] at b; omega
theorem Red_l0 {C wd : Nat} {M D : List (List Int)} (h : Shp M D C wd) : ∀ n j : Nat, j + n = C →
    Ends (fun q => recoupref04_Reduce.l0 q (redTo M D j).2 (j : Int) (M.length : Int) (C : Int) (redTo M D j).1.1.flatten) ((M.length : Int), (C : Int), (redTo M D C).1.1.flatten, (redTo M D C).2, 0)
  | 0, j, hj => by
    obtain rfl : j = C := by omega
    refine Ends.succ (fun k => by rw [recoupref04_Reduce.l0]) (Ends.neg (by omega) ?_)
    exact Ends.succ (fun k => by rw [recoupref04_Reduce.j1]) (Ends.neg (by decide) (Ends.const rfl))
  | n + 1, j, hj => by
    have hs := red_shp h j
    have hm := h.small.1
    have hc := h.small.2.1
    have ih := Red_l0 h n (j + 1) (by omega)
    refine Ends.succ (fun k => by rw [recoupref04_Reduce.l0]) (Ends.pos (by omega) ?_)
    by_cases hf : M.length ≤ (redTo M D j).2.length
    · refine Ends.succ (fun k => by rw [recoupref04_Reduce.j1]) (Ends.neg (by rw [decide_eq_true_eq]; omega) (Ends.const ?_))
      have := red_done h hf (n + 1)
      rw [hj] at this
      rw [this]
    · refine Ends.succ (fun k => by rw [recoupref04_Reduce.j1]) (Ends.pos (by rw [decide_eq_true_eq]; omega) ?_)
      have hE : redTo M D (j + 1) = redStep j (redTo M D j) := rfl
      rw [hE] at ih
      obtain ⟨hS, hSl, _, hpj⟩ := hs
      generalize hT : redTo M D j = T at *
      have hU := U.of hS
      have hp64 : T.2.length ≤ 64 := by omega
      have h1 := Red_l1 hU (by omega) hc (j := j) (by omega) T.2 (T.2.length : Int) (R := ((M.length : Int), (C : Int), (redTo M D C).1.1.flatten, (redTo M D C).2, 0)) (T.1.1.length - T.2.length) T.2.length (by omega) ?_
      · rw [hSl] at h1
        exact h1
      · show Ends (fun q => recoupref04_Reduce.j3 q T.2 (j : Int) (T.2.length : Int) (((firstIn T.1.1 T.2.length j).getD T.1.1.length : Nat) : Int) (T.1.1.length : Int) (C : Int) T.1.1.flatten) _
        cases hfi : firstIn T.1.1 T.2.length j with
        | none =>
          rw [redStep_none hfi] at ih
          refine Ends.succ (fun k => by rw [recoupref04_Reduce.j3]) ?_
          refine Ends.pos (by rw [Option.getD_none]) ?_
          rw [i64_succ (by omega), hSl]
          exact ih
        | some i =>
          rw [redStep_some hfi] at ih
          obtain ⟨q1, q2, q3, _⟩ := seekCol_spec _ _ hfi
          refine Ends.succ (fun k => by rw [recoupref04_Reduce.j3]) (Ends.neg (by rw [Option.getD_some]; omega) ?_)
          refine Ends.pos (Int.natCast_nonneg _) (Ends.pos (by rw [Int.toNat_natCast]; omega) ?_)
          rw [Int.toNat_natCast, Option.getD_some]
          have h2 := Red_l2 hS (top := T.2.length) (i := i) (j := j) (by omega) (by omega) (by omega) q3 T.2 hp64 (R := ((M.length : Int), (C : Int), (redTo M D C).1.1.flatten, (redTo M D C).2, 0)) (by rw [hSl]; exact ih) T.1.1.length 0 (by omega)
          rw [List.take_zero, List.nil_append, List.drop_zero] at h2
          exact h2
theorem Right_eq {a b : Int} {l : List Int} (ha : -9223372036854775808 ≤ a ∧ a ≤ 9223372036854775807) : recoupref03_Right.f a b l = matrix_Right.f a b l := by
  unfold recoupref03_Right.f matrix_Right.f matrix_side.f
  by_cases h1 : a ≥ 0 <;> by_cases h2 : a ≤ 64 <;> by_cases h3 : b ≥ 0 <;> by_cases h4 : b ≤ 64 <;> simp only [h1, h2, h3, h4, if_true, if_false, Option.bind_some, decide_true, decide_false, Bool.false_eq_true]
theorem Right_cases (a b : Int) (l : List Int) : recoupref03_Right.f a b l = some true ∨ recoupref03_Right.f a b l = some false := by
  unfold recoupref03_Right.f
  split
  · split
    · split
      · split
        · by_cases h : ((l.length : Int) == wrap64 (a * b)) = true
          · left; rw [h]
          · right; rw [Bool.not_eq_true] at h; rw [h]
        · exact .inr rfl
      · exact .inr rfl
    · exact .inr rfl
  · exact .inr rfl
theorem bytesB_wf {l : List Int} (h : ∀ x ∈ l, (Lit.int .u8 x).wf = true) : bytesB l = true := by
  unfold bytesB
  rw [List.all_eq_true]
  intro x hx
  have := wf_u8 (h x hx)
  simp
  omega
theorem Copy_eq {a b : Int} {l : List Int} (h : l.length ≤ 4096) : recoupref03_Copy.f a b l = some (a, b, l) := by
  unfold recoupref03_Copy.f recoupref01_Copy.f
  rw [Option.bind_some, if_pos (by rw [List.length_nil]; omega)]
  rfl
theorem right_nat {a b : Int} {l : List Int} (h : matrix_Right.f a b l = some true) : ∃ r c : Nat, a = (r : Int) ∧ b = (c : Int) ∧ r ≤ 64 ∧ c ≤ 64 ∧ l.length = r * c ∧ l.length ≤ 4096 := by
  obtain ⟨h1, h2, h3, h4, h5⟩ := right_true h
  obtain ⟨r, rfl⟩ := Int.eq_ofNat_of_zero_le h1
  obtain ⟨c, rfl⟩ := Int.eq_ofNat_of_zero_le h3
  rw [Int.toNat_natCast, Int.toNat_natCast] at h5
  have : r * c ≤ 64 * 64 := Nat.mul_le_mul (by omega) (by omega)
  exact ⟨r, c, rfl, rfl, by omega, by omega, h5, by omega⟩
def redL (r c : Nat) (l : List Int) : (List (List Int) × List (List Int)) × List Int := redTo (rowsOf c r l) (List.replicate r []) c
theorem Reduce_ends {r c : Nat} {l : List Int} (hr : r ≤ 64) (hc : c ≤ 64) (hl : l.length = r * c) (hb : bytesB l = true) : Ends (fun k => recoupref04_Reduce.f k (r : Int) (c : Int) l) ((r : Int), (c : Int), (redL r c l).1.1.flatten, (redL r c l).2, 0) := by
  have hf := flat_rowsOf r l hl
  have hlen := rowsOf_length c r l
  have hm : r * c ≤ 64 * 64 := Nat.mul_le_mul hr hc
  unfold recoupref04_Reduce.f
  have h1 := Right_true hf.2 (by omega) hc
  rw [hf.1, hlen] at h1
  refine Ends.bind1 h1 (Ends.pos rfl ?_)
  refine Ends.bind1 (Copy_eq (by omega)) ?_
  have := Red_l0 (shp_nil hb hl ⟨hr, hc⟩) c 0 (by omega)
  rw [hlen] at this
  show Ends (fun k => recoupref04_Reduce.l0 k [] 0 (r : Int) (c : Int) l) _
  have e : (redTo (rowsOf c r l) (List.replicate r []) 0).1.1.flatten = l := hf.1
  rw [e] at this
  exact this
theorem gReduce_eq {r c : Nat} {l : List Int} (hR : matrix_Right.f (r : Int) (c : Int) l = some true) (hb : bytesB l = true) : gauss_Reduce.f (r : Int) (c : Int) l = some ((r : Int), (c : Int), (redL r c l).1.1.flatten, (redL r c l).2, 0) := by
  unfold gauss_Reduce.f
  rw [hR, Option.bind_some, if_pos rfl, if_pos hb]
  rfl
end Go.Proofs.YthjncmdlhmppiaaDoor.M
namespace Go.Proofs.YthjncmdlhmppiaaDoor.M
open Go.RowKit Go.Proofs.YthjncmdlhmppiaaDoorW.PrintWords Go.Proofs.YthjncmdlhmppiaaDoorW.PrintLast Go.Proofs.YthjncmdlhmppiaaDoorW.PrintMore Go.Proofs.YthjncmdlhmppiaaDoor.Q
theorem Rank_ends {r c : Nat} {l : List Int} (hr : r ≤ 64) (hc : c ≤ 64) (hl : l.length = r * c) (hb : bytesB l = true) : Ends (fun k => recoupref04_Rank.f k (r : Int) (c : Int) l) (((redL r c l).2.length : Int), 0) := by
 unfold recoupref04_Rank.f
 exact Ends.bind (Reduce_ends hr hc hl hb) (Ends.const rfl)
end Go.Proofs.YthjncmdlhmppiaaDoor.M
namespace Go.Proofs.YthjncmdlhmppiaaDoor.M
open Go.RowKit Go.Proofs.YthjncmdlhmppiaaDoorW.PrintWords Go.Proofs.YthjncmdlhmppiaaDoorW.PrintLast Go.Proofs.YthjncmdlhmppiaaDoorW.PrintMore Go.Proofs.YthjncmdlhmppiaaDoor.Q
set_option linter.unusedVariables false
structure Sh (A : List (List Int)) (W : Nat) : Prop where
 u : U A W
 b : rowsB A = true
 m : A.length ≤ 64
 w : W ≤ 65
theorem Sh.set {A : List (List Int)} {W k : Nat} {r : List Int} (h : Sh A W) (hr : r.length = W) (hb : bytesB r = true) : Sh (A.set k r) W := by
 refine ⟨h.u.set hr, ?_, by rw [List.length_set]; exact h.m, h.w⟩
 have := h.b
 rw [rowsB, List.all_eq_true] at this ⊢
 intro x hx
 rcases List.mem_or_eq_of_mem_set hx with hx | rfl
 ·exact this x hx
 ·exact hb
theorem scale_bytes {o : Int} (ho : 0 ≤ o ∧ o < 256) {r : List Int} (h : bytesB r = true) : bytesB (r.map (mulT o)) = true := by
 unfold bytesB
 rw [List.all_eq_true]
 intro x hx
 obtain ⟨y, hy, rfl⟩ := List.mem_map.1 hx
 unfold bytesB at h
 rw [List.all_eq_true] at h
 have hy2 := h y hy
 simp only [Bool.and_eq_true, decide_eq_true_eq] at hy2
 have := mulT_range ho hy2
 simp
 omega
theorem Sh.swap {A : List (List Int)} {W top i : Nat} {o : Int} (h : Sh A W) (ho : 0 ≤ o ∧ o < 256) (ht : top < A.length) (hi : i < A.length) : Sh (swapS o A top i) W := by
 unfold swapS
 exact ((h.set (h.u.at ht) (rows_bytes h.b top)).set (h.u.at hi) (rows_bytes h.b i)).set (by rw [List.length_map]; exact h.u.at hi) (scale_bytes ho (rows_bytes h.b i))
end Go.Proofs.YthjncmdlhmppiaaDoor.M
namespace Go.Proofs.YthjncmdlhmppiaaDoor.M
set_option linter.unusedVariables false
abbrev Vec := Nat → El
def skip (p i : Nat) : Nat := if i < p then i else i + 1
end Go.Proofs.YthjncmdlhmppiaaDoor.M
namespace Go.Proofs.YthjncmdlhmppiaaDoor.M
set_option linter.unusedVariables false
def col (n : Nat) (N : Nat → Vec) (b : Nat) : Vec := fun a => if a < n then N a b else 0
end Go.Proofs.YthjncmdlhmppiaaDoor.M
namespace Go.Proofs.YthjncmdlhmppiaaDoor.M
open Go.RowKit Go.Proofs.YthjncmdlhmppiaaDoorW.PrintWords Go.Proofs.YthjncmdlhmppiaaDoorW.PrintLast Go.Proofs.YthjncmdlhmppiaaDoorW.PrintMore Go.Proofs.YthjncmdlhmppiaaDoor.Q
set_option linter.unusedVariables false
theorem right_of {r c : Nat} {l : List Int} (hr : r ≤ 64) (hc : c ≤ 64) (hl : l.length = r * c) : matrix_Right.f (r : Int) (c : Int) l = some true ∧ recoupref03_Right.f (r : Int) (c : Int) l = some true := by
 have hf := flat_rowsOf r l hl
 have hlen := rowsOf_length c r l
 have h1 := Right_true hf.2 (by omega) hc
 rw [hf.1, hlen] at h1
 exact ⟨(Right_eq (a := (r : Int)) (b := (c : Int)) (l := l) (by omega)) ▸ h1, h1⟩
theorem rowsOf_elem {r c p : Nat} {l : List Int} (h : p < (rowsOf c r l).length) : (rowsOf c r l)[p] = (l.drop (p * c)).take c := by simp [rowsOf]
end Go.Proofs.YthjncmdlhmppiaaDoor.M
namespace Go.Proofs.YthjncmdlhmppiaaDoor.M
open Go.RowKit Go.Proofs.YthjncmdlhmppiaaDoorW.PrintWords Go.Proofs.YthjncmdlhmppiaaDoorW.PrintLast Go.Proofs.YthjncmdlhmppiaaDoorW.PrintMore Go.Proofs.YthjncmdlhmppiaaDoor.Q
set_option linter.unusedVariables false
section
variable {r c : Nat} {l : List Int}
theorem inB_of {L : List Int} (h : ∀ x ∈ L, 0 ≤ x ∧ x < (r : Int)) : inB (r : Int) L = true := by
 unfold inB
 rw [List.all_eq_true]
 intro x hx
 rw [Bool.and_eq_true, decide_eq_true_eq, decide_eq_true_eq]
 exact h x hx
theorem seg_row (hl : l.length = r * c) {x : Int} (h : 0 ≤ x ∧ x < (r : Int)) : segP c l x = (rowsOf c r l).getD x.toNat [] := by
 have hx : x.toNat < r := by omega
 unfold segP
 rw [List.getD_eq_getElem?_getD, List.getElem?_eq_getElem (by rw [rowsOf_length]; exact hx), Option.getD_some, rowsOf_elem]
theorem pick_rows (hl : l.length = r * c) {L : List Int} (h : ∀ x ∈ L, 0 ≤ x ∧ x < (r : Int)) : pickL c l L = (L.map fun x => (rowsOf c r l).getD x.toNat []).flatten := by
 unfold pickL
 congr 1
 exact List.map_congr_left fun x hx => seg_row hl (h x hx)
theorem pick_len (hl : l.length = r * c) {L : List Int} (h : ∀ x ∈ L, 0 ≤ x ∧ x < (r : Int)) : (pickL c l L).length = L.length * c := by
 have hU := (flat_rowsOf r l hl).2
 rw [pick_rows hl h, flat_len (M := L.map fun x => (rowsOf c r l).getD x.toNat []) (c := c) (fun y hy => by
  obtain ⟨x, hx, rfl⟩ := List.mem_map.1 hy
  exact hU.at (by rw [rowsOf_length]; have := h x hx; omega)), List.length_map]
theorem bytes_flat {M : List (List Int)} (h : rowsB M = true) : bytesB M.flatten = true := by
 unfold rowsB at h
 unfold bytesB
 rw [List.all_eq_true] at h ⊢
 intro x hx
 obtain ⟨y, hy, hxy⟩ := List.mem_flatten.1 hx
 have := h y hy
 unfold bytesB at this
 rw [List.all_eq_true] at this
 exact this x hxy
theorem pick_bytes (hb : bytesB l = true) (L : List Int) : bytesB (pickL c l L) = true := by
 unfold pickL
 refine bytes_flat ?_
 rw [rowsB, List.all_eq_true]
 intro y hy
 obtain ⟨x, _, rfl⟩ := List.mem_map.1 hy
 exact bytesB_sub hb _ _
theorem gPick_eq (hl : l.length = r * c) (hr : r ≤ 64) (hc : c ≤ 64) {L : List Int} (h : ∀ x ∈ L, 0 ≤ x ∧ x < (r : Int)) (hL : L.length ≤ 64) : matrix_Pick.f (r : Int) (c : Int) l L = some ((L.length : Int), (c : Int), pickL c l L, 0) := by
 unfold matrix_Pick.f
 rw [(right_of hr hc hl).1, Option.bind_some, if_pos rfl, if_pos (inB_of h), if_pos hL]
 rfl
theorem rPick_ends (hl : l.length = r * c) (hr : r ≤ 64) (hc : c ≤ 64) {L : List Int} (h : ∀ x ∈ L, 0 ≤ x ∧ x < (r : Int)) (hL : L.length ≤ 64) : Ends (fun k => recoupref03_Pick.f k (r : Int) (c : Int) l L) ((L.length : Int), (c : Int), pickL c l L, 0) := by
 have hf := flat_rowsOf r l hl
 have hlen := rowsOf_length c r l
 have := Pick_ends hf.2 (by omega) hc (L := L) (fun x hx => by have := h x hx; omega) hL
 rw [hf.1, hlen, ← pick_rows hl h] at this
 exact this
end
end Go.Proofs.YthjncmdlhmppiaaDoor.M
namespace Go.Proofs.YthjncmdlhmppiaaDoor.M
open Go.RowKit Go.Proofs.YthjncmdlhmppiaaDoorW.PrintWords Go.Proofs.YthjncmdlhmppiaaDoorW.PrintLast Go.Proofs.YthjncmdlhmppiaaDoorW.PrintMore Go.Proofs.YthjncmdlhmppiaaDoor.Q
set_option linter.unusedVariables false
def pk (c : Nat) (l : List Int) (s : Nat) : List Int := pickL c l (ints (setL s))
def rho (c : Nat) (l : List Int) (s : Nat) : Nat := (redL (setL s).length c (pk c l s)).2.length
def Val (r s : Nat) : Prop := ∀ i ∈ setL s, i < r
section
variable {r c s : Nat} {l : List Int}
theorem val_in (h : Val r s) : ∀ x ∈ ints (setL s), 0 ≤ x ∧ x < (r : Int) := fun x hx => by
 obtain ⟨i, hi, rfl⟩ := List.mem_map.1 hx
 have := h i hi
 omega
theorem pk_len (hl : l.length = r * c) (h : Val r s) : (pk c l s).length = (setL s).length * c := by
 have := pick_len hl (val_in h)
 rwa [ints_length] at this
theorem pick7 (hb : bytesB l = true) (hl : l.length = r * c) (hr : r ≤ 64) (hc : c ≤ 64) (hs : s < 2 ^ 64) (h : Val r s) : Ends (fun k => matroid_pick.f k (r : Int) (c : Int) l (s : Int)) (((setL s).length : Int), (c : Int), pk c l s, 0) := by
 unfold matroid_pick.f
 refine Ends.bind1 (right_of hr hc hl).1 (Ends.pos rfl ?_)
 refine Ends.bind (List_eq hs) ?_
 have := gPick_eq hl hr hc (val_in h) (by rw [ints_length]; exact setL_length s)
 rw [ints_length] at this
 exact Ends.bind1 this (Ends.const rfl)
theorem pick7_arg (hl : l.length = r * c) (hr : r ≤ 64) (hc : c ≤ 64) (hs : s < 2 ^ 64) (h : ¬ Val r s) : Ends (fun k => matroid_pick.f k (r : Int) (c : Int) l (s : Int)) (0, 0, [], 2) := by
 unfold matroid_pick.f
 refine Ends.bind1 (right_of hr hc hl).1 (Ends.pos rfl ?_)
 refine Ends.bind (List_eq hs) ?_
 have hin : ¬ inB (r : Int) (ints (setL s)) = true := fun hin => h fun i hi => by
  unfold inB at hin
  rw [List.all_eq_true] at hin
  have := hin (i : Int) (List.mem_map.2 ⟨i, hi, rfl⟩)
  rw [Bool.and_eq_true, decide_eq_true_eq, decide_eq_true_eq] at this
  omega
 have : matrix_Pick.f (r : Int) (c : Int) l (ints (setL s)) = some (0, 0, [], 2) := by
  unfold matrix_Pick.f
  rw [(right_of hr hc hl).1, Option.bind_some, if_pos rfl, if_neg hin]
 exact Ends.bind1 this (Ends.const rfl)
theorem pick7_bad {a b : Int} {x : Int} (h : matrix_Right.f a b l = some false) : Ends (fun k => matroid_pick.f k a b l x) (0, 0, [], 3) := by
 unfold matroid_pick.f
 exact Ends.bind1 h (Ends.neg (by decide) (Ends.const rfl))
theorem gRank7 {r c : Nat} {l : List Int} (hR : matrix_Right.f (r : Int) (c : Int) l = some true) (hb : bytesB l = true) : gauss_Rank.f (r : Int) (c : Int) l = some (((redL r c l).2.length : Int), 0) := by
 unfold gauss_Rank.f
 rw [gReduce_eq hR hb]
 rfl
theorem Rank7 (hb : bytesB l = true) (hl : l.length = r * c) (hr : r ≤ 64) (hc : c ≤ 64) (hs : s < 2 ^ 64) (h : Val r s) : Ends (fun k => matroid_Rank.f k (r : Int) (c : Int) l (s : Int)) ((rho c l s : Int), 0) := by
 unfold matroid_Rank.f
 refine Ends.bind (pick7 hb hl hr hc hs h) (Ends.pos rfl ?_)
 exact Ends.bind1 (gRank7 (right_of (setL_length s) hc (pk_len hl h)).1 (pick_bytes hb _)) (Ends.const rfl)
theorem Rank7_arg (hl : l.length = r * c) (hr : r ≤ 64) (hc : c ≤ 64) (hs : s < 2 ^ 64) (h : ¬ Val r s) : Ends (fun k => matroid_Rank.f k (r : Int) (c : Int) l (s : Int)) (0, 2) := by
 unfold matroid_Rank.f
 exact Ends.bind (pick7_arg hl hr hc hs h) (Ends.neg (by decide) (Ends.const rfl))
theorem Rank7_bad {a b : Int} {x : Int} (h : matrix_Right.f a b l = some false) : Ends (fun k => matroid_Rank.f k a b l x) (0, 3) := by
 unfold matroid_Rank.f
 exact Ends.bind (pick7_bad h) (Ends.neg (by decide) (Ends.const rfl))
theorem rank7 (hb : bytesB l = true) (hl : l.length = r * c) (hr : r ≤ 64) (hc : c ≤ 64) (hs : s < 2 ^ 64) (h : Val r s) : Ends (fun k => recoupref07_rank.f k (r : Int) (c : Int) l (s : Int)) (rho c l s : Int) := by
 unfold recoupref07_rank.f
 refine Ends.bind (refList_eq hs) ?_
 have := rPick_ends hl hr hc (val_in h) (by rw [ints_length]; exact setL_length s)
 rw [ints_length] at this
 refine Ends.bind this ?_
 exact Ends.bind (Rank_ends (setL_length s) hc (pk_len hl h) (pick_bytes hb _)) (Ends.const rfl)
theorem val_iff (hr : r ≤ 64) (hs : s < 2 ^ 64) : (Go.bits .andNot .u64 (s : Int) ((2 ^ r - 1 : Nat) : Int) = 0) ↔ Val r s := by
 rw [asked hr hs]
 unfold setOk Val
 constructor
 ·rintro ⟨_, _, h⟩ i hi
  have := h i hi
  omega
 ·exact fun h => ⟨by omega, by omega, fun i hi => by have := h i hi; omega⟩
theorem bad7 (hl : l.length = r * c) (hr : r ≤ 64) (hc : c ≤ 64) (hs : s < 2 ^ 64) : Ends (fun k => recoupref07_bad.f k (r : Int) (c : Int) l (s : Int)) (if Go.bits .andNot .u64 (s : Int) ((2 ^ r - 1 : Nat) : Int) = 0 then 0 else 2) := by
 unfold recoupref07_bad.f
 refine Ends.bind1 (right_of hr hc hl).2 (Ends.pos rfl ?_)
 have hf := refFull_eq (r : Int)
 have e : fullV (r : Int) = (((2 ^ r - 1 : Nat) : Int), 0) := by unfold fullV; rw [if_pos ⟨by omega, by omega⟩, Int.toNat_natCast]
 rw [e] at hf
 refine Ends.bind hf ?_
 by_cases h : Go.bits .andNot .u64 (s : Int) ((2 ^ r - 1 : Nat) : Int) = 0
 ·rw [if_pos h, if_pos h]; exact Ends.const rfl
 ·rw [if_neg h, if_neg h]; exact Ends.const rfl
theorem bad7_ok (hl : l.length = r * c) (hr : r ≤ 64) (hc : c ≤ 64) (hs : s < 2 ^ 64) (h : Val r s) : Ends (fun k => recoupref07_bad.f k (r : Int) (c : Int) l (s : Int)) 0 := by
 have := bad7 hl hr hc hs
 rwa [if_pos ((val_iff hr hs).2 h)] at this
theorem bad7_arg (hl : l.length = r * c) (hr : r ≤ 64) (hc : c ≤ 64) (hs : s < 2 ^ 64) (h : ¬ Val r s) : Ends (fun k => recoupref07_bad.f k (r : Int) (c : Int) l (s : Int)) 2 := by
 have := bad7 hl hr hc hs
 rwa [if_neg (fun e => h ((val_iff hr hs).1 e))] at this
theorem bad7_bad {a b : Int} {x : Int} (h : recoupref03_Right.f a b l = some false) : Ends (fun k => recoupref07_bad.f k a b l x) 3 := by
 unfold recoupref07_bad.f
 exact Ends.bind1 h (Ends.neg (by decide) (Ends.const rfl))
theorem rRank7 (hb : bytesB l = true) (hl : l.length = r * c) (hr : r ≤ 64) (hc : c ≤ 64) (hs : s < 2 ^ 64) (h : Val r s) : Ends (fun k => recoupref07_Rank.f k (r : Int) (c : Int) l (s : Int)) ((rho c l s : Int), 0) := by
 unfold recoupref07_Rank.f
 exact Ends.bind (bad7_ok hl hr hc hs h) (Ends.pos rfl (Ends.bind (rank7 hb hl hr hc hs h) (Ends.const rfl)))
theorem rRank7_arg (hl : l.length = r * c) (hr : r ≤ 64) (hc : c ≤ 64) (hs : s < 2 ^ 64) (h : ¬ Val r s) : Ends (fun k => recoupref07_Rank.f k (r : Int) (c : Int) l (s : Int)) (0, 2) := by
 unfold recoupref07_Rank.f
 exact Ends.bind (bad7_arg hl hr hc hs h) (Ends.neg (by decide) (Ends.const rfl))
theorem rRank7_bad {a b : Int} {x : Int} (h : recoupref03_Right.f a b l = some false) : Ends (fun k => recoupref07_Rank.f k a b l x) (0, 3) := by
 unfold recoupref07_Rank.f
 exact Ends.bind (bad7_bad h) (Ends.neg (by decide) (Ends.const rfl))
theorem args7 {a b x : Int} {l : List Int} (ha : (Lit.int .i64 a).wf = true) (hx : (Lit.int .u64 x).wf = true) :
  (recoupref03_Right.f a b l = some false ∧ matrix_Right.f a b l = some false) ∨ ∃ r c s : Nat, a = (r : Int) ∧ b = (c : Int) ∧ x = (s : Int) ∧ r ≤ 64 ∧ c ≤ 64 ∧ l.length = r * c ∧ s < 2 ^ 64 := by
 have hR : recoupref03_Right.f a b l = matrix_Right.f a b l := Right_eq (wf_i64 ha)
 obtain ⟨s, rfl, hs⟩ := u64_nat hx
 rcases Right_cases a b l with h | h
 ·obtain ⟨r, c, rfl, rfl, hr, hc, hlen, _⟩ := right_nat (hR ▸ h)
  exact .inr ⟨r, c, s, rfl, rfl, rfl, hr, hc, hlen, hs⟩
 ·exact .inl ⟨h, hR ▸ h⟩
theorem Free7 {k0 : Int × Int} {a b x : Int} {s : Nat} (hs : s < 2 ^ 64) (hx : x = (s : Int)) (h : Ends (fun k => matroid_Rank.f k a b l x) k0) : Ends (fun k => matroid_Free.f k a b l x) (if k0.2 = 0 then (k0.1 == ((setL s).length : Int), 0) else (false, k0.2)) := by
 subst hx
 unfold matroid_Free.f
 refine Ends.bind h ?_
 by_cases e : k0.2 = 0
 ·rw [if_pos e, if_pos e]
  refine Ends.bind1 (Count_eq hs) ?_
  rw [e]
  exact Ends.const rfl
 ·rw [if_neg e, if_neg e]
  exact Ends.const rfl
theorem rFree7 {k0 : Int × Int} {a b x : Int} {s : Nat} (hs : s < 2 ^ 64) (hx : x = (s : Int)) (h : Ends (fun k => recoupref07_Rank.f k a b l x) k0) : Ends (fun k => recoupref07_Free.f k a b l x) (if k0.2 = 0 then (k0.1 == ((setL s).length : Int), 0) else (false, k0.2)) := by
 subst hx
 unfold recoupref07_Free.f
 refine Ends.bind h ?_
 by_cases e : k0.2 = 0
 ·rw [if_pos e]
  refine Ends.pos e (Ends.bind (refList_eq hs) (Ends.const ?_))
  rw [e, ints_length]
 ·rw [if_neg e]
  exact Ends.neg e (Ends.const rfl)
theorem Covers7 {k0 : Int × Int} {a b x : Int} (h : Ends (fun k => matroid_Rank.f k a b l x) k0) : Ends (fun k => matroid_Covers.f k a b l x) (if k0.2 = 0 then (k0.1 == b, 0) else (false, k0.2)) := by
 unfold matroid_Covers.f
 refine Ends.bind h ?_
 by_cases e : k0.2 = 0
 ·rw [if_pos e, if_pos e, e]
  exact Ends.const rfl
 ·rw [if_neg e, if_neg e]
  exact Ends.const rfl
theorem rCovers7 {k0 : Int × Int} {a b x : Int} (h : Ends (fun k => recoupref07_Rank.f k a b l x) k0) : Ends (fun k => recoupref07_Covers.f k a b l x) (if k0.2 = 0 then (k0.1 == b, 0) else (false, k0.2)) := by
 unfold recoupref07_Covers.f
 refine Ends.bind h ?_
 by_cases e : k0.2 = 0
 ·rw [if_pos e, if_pos e, e]
  exact Ends.const rfl
 ·rw [if_neg e, if_neg e]
  exact Ends.const rfl
end
theorem both7 {a b x : Int} {l : List Int} (ha : (Lit.int .i64 a).wf = true) (hx : (Lit.int .u64 x).wf = true) (hb : bytesB l = true) : ∃ k0 : Int × Int, Ends (fun k => matroid_Rank.f k a b l x) k0 ∧ Ends (fun k => recoupref07_Rank.f k a b l x) k0 := by
 rcases args7 (b := b) (l := l) ha hx with ⟨h1, h2⟩ | ⟨r, c, s, rfl, rfl, rfl, hr, hc, hl, hs⟩
 ·exact ⟨_, Rank7_bad h2, rRank7_bad h1⟩
 ·by_cases h : Val r s
  ·exact ⟨_, Rank7 hb hl hr hc hs h, rRank7 hb hl hr hc hs h⟩
  ·exact ⟨_, Rank7_arg hl hr hc hs h, rRank7_arg hl hr hc hs h⟩
end Go.Proofs.YthjncmdlhmppiaaDoor.M
