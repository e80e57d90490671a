/- Plain facts behind the law LocalGroups: what its printed functions answer, as lists of whole numbers and as vectors over the field of 256 elements. -/
import Derived.Test.YtjgcocfnilhggaaDoorV
import Derived.Laws.Bits64
import Derived.Laws.Bits64b
import Derived.RowKit
import GoSem.Claim
import Derived.Lib.TrailingZeros
import Derived.Test.YtjgcocfnilhggaaDoorQx109
import Derived.Test.YtjgcocfnilhggaaDoorQx110
import Derived.Test.YtjgcocfnilhggaaDoorQx117
import Derived.Test.YtjgcocfnilhggaaDoorQx118
import Derived.Test.YtjgcocfnilhggaaDoorQx121
import Derived.Test.YtjgcocfnilhggaaDoorQx129
import Derived.Test.YtjgcocfnilhggaaDoorQx134
import Derived.Test.YtjgcocfnilhggaaDoorQx136
import Derived.Test.YtjgcocfnilhggaaDoorQx143
import Derived.Test.YtjgcocfnilhggaaDoorQx147
import Derived.Test.YtjgcocfnilhggaaDoorQx151
import Derived.Test.YtjgcocfnilhggaaDoorQx157
import Derived.Test.YtjgcocfnilhggaaDoorQx159
import Derived.Test.YtjgcocfnilhggaaDoorQx161
import Derived.Test.YtjgcocfnilhggaaDoorQx164
import Derived.Test.YtjgcocfnilhggaaDoorQx168
import Derived.Test.YtjgcocfnilhggaaDoorQx169
import Derived.Test.YtjgcocfnilhggaaDoorQx170
import Derived.Test.YtjgcocfnilhggaaDoorQx176
import Derived.Test.YtjgcocfnilhggaaDoorQx178
import Derived.Test.YtjgcocfnilhggaaDoorQx187
import Derived.Test.YtjgcocfnilhggaaDoorQx190
import Derived.Test.YtjgcocfnilhggaaDoorQx196
import Derived.Test.YtjgcocfnilhggaaDoorQx201
import Derived.Test.YtjgcocfnilhggaaDoorQx208
import Derived.Test.YtjgcocfnilhggaaDoorQx213
import Derived.Test.YtjgcocfnilhggaaDoorQx217
import Derived.Test.YtjgcocfnilhggaaDoorQx220
namespace Go.Proofs.YtjgcocfnilhggaaDoor.M
set_option linter.unusedVariables false
set_option linter.unusedSimpArgs false
open Go.RowKit Go.Proofs.YtjgcocfnilhggaaDoorW.PrintWords Go.Proofs.YtjgcocfnilhggaaDoorW.PrintMore
def Ends {α : Type} (g : Nat → Option α) (r : α) : Prop := ∃ K, ∀ k, K ≤ k → g k = some r
theorem Ends.of {α : Type} {g : Nat → Option α} {r : α} (h : ∀ k, g k = some r) : Ends g r := ⟨0, fun k _ => h k⟩
theorem Ends.const {α : Type} {x : Option α} {r : α} (h : x = some r) : Ends (fun _ => x) r := ⟨0, fun _ _ => h⟩
theorem Ends.exists {α : Type} {g : Nat → Option α} {r : α} (h : Ends g r) : ∃ k, g k = some r := by
 obtain ⟨K, h⟩ := h
 exact ⟨K, h K (Nat.le_refl _)⟩
theorem Ends.bind {α β : Type} {f : Nat → Option α} {h : Nat → α → Option β} {x : α} {r : β} (hf : Ends f x) (hh : Ends (fun k => h k x) r) : Ends (fun k => (f k).bind (h k)) r := by
 obtain ⟨K, hf⟩ := hf
 obtain ⟨L, hh⟩ := hh
 refine ⟨max K L, fun k hk => ?_⟩
 show (f k).bind (h k) = some r
 rw [hf k (by omega)]
 exact hh k (by omega)
theorem Ends.bind1 {α β : Type} {x : Option α} {h : Nat → α → Option β} {a : α} {r : β} (hx : x = some a) (hh : Ends (fun k => h k a) r) : Ends (fun k => x.bind (h k)) r := by
 subst hx
 exact hh
theorem Ends.pos {α : Type} {f g : Nat → Option α} {c : Prop} [Decidable c] {r : α} (hc : c) (hf : Ends f r) : Ends (fun k => if c then f k else g k) r := by
 simp only [if_pos hc]
 exact hf
theorem Ends.neg {α : Type} {f g : Nat → Option α} {c : Prop} [Decidable c] {r : α} (hc : ¬ c) (hg : Ends g r) : Ends (fun k => if c then f k else g k) r := by
 simp only [if_neg hc]
 exact hg
theorem Ends.succ {α : Type} {l body : Nat → Option α} {r : α} (hs : ∀ k, l (k + 1) = body k) (hb : Ends body r) : Ends l r := by
 obtain ⟨K, hb⟩ := hb
 refine ⟨K + 1, fun k hk => ?_⟩
 obtain ⟨j, rfl⟩ : ∃ j, k = j + 1 := ⟨k - 1, by omega⟩
 rw [hs]
 exact hb j (by omega)
theorem Ends.congr {α : Type} {f g : Nat → Option α} {r : α} (h : ∀ k, f k = g k) (hg : Ends g r) : Ends f r := by
 obtain ⟨K, hg⟩ := hg
 exact ⟨K, fun k hk => by rw [h, hg k hk]⟩
theorem Ends.eq {α : Type} {g : Nat → Option α} {r r' : α} (h : Ends g r) (e : r = r') : Ends g r' := e ▸ h
theorem w64 {x : Int} (h0 : -9223372036854775808 ≤ x) (h1 : x ≤ 9223372036854775807) : wrap64 x = x := by unfold wrap64; omega
theorem wu64 {x : Int} (h0 : 0 ≤ x) (h1 : x < 18446744073709551616) : IntKind.u64.wrap x = x := by rw [IntKind.wrap_u64]; omega
theorem rd_nat (l : List Int) (i : Nat) : rd l (i : Int) = l.getD i 0 := by simp [rd]
theorem rd_map (l : List Nat) (i : Nat) (h : i < l.length) : rd (l.map fun (x : Nat) => (x : Int)) (i : Int) = ((l[i] : Nat) : Int) := by
 rw [rd_nat, List.getD_eq_getElem?_getD, List.getElem?_map, List.getElem?_eq_getElem h]
 rfl
theorem wf_u64 {n : Int} (h : (Lit.int .u64 n).wf = true) : 0 ≤ n ∧ n ≤ 18446744073709551615 := by
 simp [Lit.wf, IntKind.min, IntKind.max, IntKind.signed, IntKind.bits] at h
 omega
theorem wf_i64 {n : Int} (h : (Lit.int .i64 n).wf = true) : -9223372036854775808 ≤ n ∧ n ≤ 9223372036854775807 := by
 simp [Lit.wf, IntKind.min, IntKind.max, IntKind.signed, IntKind.bits] at h
 omega
theorem wf_u8 {n : Int} (h : (Lit.int .u8 n).wf = true) : 0 ≤ n ∧ n ≤ 255 := by
 simp [Lit.wf, IntKind.min, IntKind.max, IntKind.signed, IntKind.bits] at h
 omega
theorem u64_nat {s : Int} (h : (Lit.int .u64 s).wf = true) : ∃ m : Nat, s = (m : Int) ∧ m < 2 ^ 64 := by
 have h2 := wf_u64 h
 obtain ⟨m, rfl⟩ := Int.eq_ofNat_of_zero_le h2.1
 exact ⟨m, rfl, by omega⟩
theorem lt_and {a b : Nat} (ha : a < 2 ^ 64) : a &&& b < 2 ^ 64 := Nat.lt_of_le_of_lt Nat.and_le_left ha
theorem band {a b : Nat} (ha : a < 2 ^ 64) (hb : b < 2 ^ 64) : Go.bits .and .u64 (a : Int) (b : Int) = ((a &&& b : Nat) : Int) := bits_and_u64_nat a b (by omega) (by omega)
theorem bor {a b : Nat} (ha : a < 2 ^ 64) (hb : b < 2 ^ 64) : Go.bits .or .u64 (a : Int) (b : Int) = ((a ||| b : Nat) : Int) := bits_or_u64_nat a b (by omega) (by omega)
theorem bandNot {a b : Nat} (ha : a < 2 ^ 64) (hb : b < 2 ^ 64) : Go.bits .andNot .u64 (a : Int) (b : Int) = ((a &&& (2 ^ 64 - 1 - b) : Nat) : Int) := by
 have h1 : (BitVec.ofInt 64 (a : Int)).toNat = a := by
  rw [BitVec.ofInt_natCast, BitVec.toNat_ofNat]; exact Nat.mod_eq_of_lt ha
 have h2 : (BitVec.ofInt 64 (b : Int)).toNat = b := by
  rw [BitVec.ofInt_natCast, BitVec.toNat_ofNat]; exact Nat.mod_eq_of_lt hb
 show IntKind.u64.wrap ((BitVec.ofInt 64 (a : Int) &&& ~~~ BitVec.ofInt 64 (b : Int)).toNat : Int) = _
 rw [BitVec.toNat_and, BitVec.toNat_not, h1, h2]
 exact wu64 (by omega) (by have := lt_and (b := 2 ^ 64 - 1 - b) ha; omega)
theorem testBit_compl {b : Nat} (hb : b < 2 ^ 64) (i : Nat) : (2 ^ 64 - 1 - b).testBit i = (decide (i < 64) && !b.testBit i) := by
 rw [show 2 ^ 64 - 1 - b = 2 ^ 64 - (b + 1) from by omega, Nat.testBit_two_pow_sub_succ hb]
theorem testBit_andNot {a b : Nat} (ha : a < 2 ^ 64) (hb : b < 2 ^ 64) (i : Nat) : (a &&& (2 ^ 64 - 1 - b)).testBit i = (a.testBit i && !b.testBit i) := by
 rw [Nat.testBit_and, testBit_compl hb]
 by_cases h : i < 64
 ·simp [h]
 ·have : a.testBit i = false := Nat.testBit_lt_two_pow (Nat.lt_of_lt_of_le ha (Nat.pow_le_pow_right (by decide) (by omega)))
  simp [this]
theorem testBit_big {a : Nat} (ha : a < 2 ^ 64) {i : Nat} (hi : 64 ≤ i) : a.testBit i = false :=
 Nat.testBit_lt_two_pow (Nat.lt_of_lt_of_le ha (Nat.pow_le_pow_right (by decide) hi))
theorem shl_one {i : Nat} (hi : i < 64) : shl .u64 1 (i : Int) = ((2 ^ i : Nat) : Int) := by
 unfold shl
 have e : min (i : Int).toNat IntKind.u64.bits = i := by simp [IntKind.bits]; omega
 rw [e, Int.one_mul]
 have h : (2 : Nat) ^ i < 2 ^ 64 := Nat.pow_lt_pow_right (by decide) hi
 rw [show ((2 : Int) ^ i) = ((2 ^ i : Nat) : Int) from by simp]
 exact wu64 (Int.natCast_nonneg _) (Int.ofNat_lt.mpr h)
theorem pow_lt {i : Nat} (hi : i < 64) : 2 ^ i < 2 ^ 64 := Nat.pow_lt_pow_right (by decide) hi
theorem shr_nat {n i : Nat} (hi : i ≤ 64) : shr .u64 (n : Int) (i : Int) = ((n >>> i : Nat) : Int) := by
 unfold shr
 have e : min (i : Int).toNat IntKind.u64.bits = i := by simp [IntKind.bits]; omega
 rw [e, Nat.shiftRight_eq_div_pow]
 simp
theorem bit_asked {n i : Nat} (hn : n < 2 ^ 64) (hi : i ≤ 64) : (Go.bits .and .u64 (shr .u64 (n : Int) (i : Int)) 1 == 1) = n.testBit i := by
 rw [shr_nat hi]
 have h1 : n >>> i < 2 ^ 64 := by
  rw [Nat.shiftRight_eq_div_pow]
  exact Nat.lt_of_le_of_lt (Nat.div_le_self _ _) hn
 have e := band h1 (show 1 < 2 ^ 64 by decide)
 simp only [Int.natCast_one] at e
 rw [e, Nat.and_one_is_mod, Bool.eq_iff_iff, beq_iff_eq, Nat.testBit_eq_decide_div_mod_eq, Nat.shiftRight_eq_div_pow, decide_eq_true_eq]
 omega
theorem sorted_ext : ∀ {l m : List Nat}, l.Pairwise (· < ·) → m.Pairwise (· < ·) → (∀ x, x ∈ l ↔ x ∈ m) → l = m
 | [], [], _, _, _ => rfl
 | [], b :: m, _, _, h => absurd ((h b).2 List.mem_cons_self) (by simp)
 | a :: l, [], _, _, h => absurd ((h a).1 List.mem_cons_self) (by simp)
 | a :: l, b :: m, hl, hm, h => by
  rw [List.pairwise_cons] at hl hm
  have hab : a = b := by
   have h1 := (h a).1 List.mem_cons_self
   have h2 := (h b).2 List.mem_cons_self
   rw [List.mem_cons] at h1 h2
   rcases h1 with h1 | h1
   ·exact h1
   ·rcases h2 with h2 | h2
    ·exact h2.symm
    ·have := hm.1 a h1
     have := hl.1 b h2
     omega
  subst hab
  congr 1
  refine sorted_ext hl.2 hm.2 fun x => ?_
  have hx := h x
  rw [List.mem_cons, List.mem_cons] at hx
  constructor
  ·intro hxl
   rcases hx.1 (Or.inr hxl) with rfl | h1
   ·have := hl.1 _ hxl
    omega
   ·exact h1
  ·intro hxm
   rcases hx.2 (Or.inr hxm) with rfl | h1
   ·have := hm.1 _ hxm
    omega
   ·exact h1
def setL (n : Nat) : List Nat := (List.range 64).filter fun i => n.testBit i
theorem setL_sorted (n : Nat) : (setL n).Pairwise (· < ·) := List.Pairwise.filter _ List.pairwise_lt_range
theorem mem_setL {n i : Nat} : i ∈ setL n ↔ i < 64 ∧ n.testBit i = true := by simp [setL]
theorem mem_setL' {n i : Nat} (hn : n < 2 ^ 64) : i ∈ setL n ↔ n.testBit i = true := by
 rw [mem_setL]
 constructor
 ·exact fun h => h.2
 ·intro h
  refine ⟨?_, h⟩
  rcases Nat.lt_or_ge i 64 with h1 | h1
  ·exact h1
  ·rw [testBit_big hn h1] at h
   cases h
theorem setL_length (n : Nat) : (setL n).length ≤ 64 := by
 have := List.length_filter_le (fun i => n.testBit i) (List.range 64)
 simpa [setL] using this
theorem setL_zero : setL 0 = [] := by simp [setL]
theorem lowest {n : Nat} (h0 : n ≠ 0) (hn : n < 2 ^ 64) : Lib.ctz 64 n < 64 ∧ n.testBit (Lib.ctz 64 n) = true ∧ (∀ i, i < Lib.ctz 64 n → n.testBit i = false) ∧ ∀ i, (n &&& (n - 1)).testBit i = (n.testBit i && decide (i ≠ Lib.ctz 64 n)) := by
 have hc : Lib.ctz 64 n = Lib.ctzFrom 64 n := by unfold Lib.ctz; rw [if_neg h0]
 obtain ⟨m, hm, hlt⟩ := Lib.ctzFrom_spec 64 n (by omega) hn
 rw [hc]
 generalize Lib.ctzFrom 64 n = c at hm hlt
 have hp : 0 < 2 ^ c := Nat.pow_pos (by decide)
 have e1 : n - 1 = 2 ^ c * (2 * m) + (2 ^ c - 1) := by rw [hm, Nat.mul_add]; omega
 have b1 : ∀ i, n.testBit i = if i < c then false else (2 * m + 1).testBit (i - c) := by
  intro i
  rw [hm, Nat.testBit_two_pow_mul]
  by_cases h : i < c
  ·rw [if_pos h]
   simp; omega
  ·rw [if_neg h]
   simp; omega
 have b2 : ∀ i, (n - 1).testBit i = if i < c then true else (2 * m).testBit (i - c) := by
  intro i
  rw [e1, Nat.testBit_two_pow_mul_add _ (by omega)]
  by_cases h : i < c
  ·rw [if_pos h, if_pos h, Nat.testBit_two_pow_sub_one]
   simp [h]
  ·rw [if_neg h, if_neg h]
 refine ⟨hlt, ?_, ?_, ?_⟩
 ·rw [b1, if_neg (by omega), Nat.sub_self, Nat.testBit_zero]
  simp
 ·intro i hi
  rw [b1, if_pos hi]
 ·intro i
  rw [Nat.testBit_and, b1, b2]
  by_cases h : i < c
  ·rw [if_pos h]; simp
  ·rw [if_neg h, if_neg h]
   by_cases h2 : i = c
   ·subst h2
    rw [Nat.sub_self, Nat.testBit_zero, Nat.testBit_zero]
    simp
   ·obtain ⟨j, hj⟩ : ∃ j, i - c = j + 1 := ⟨i - c - 1, by omega⟩
    rw [hj, Nat.testBit_succ, Nat.testBit_succ, show (2 * m + 1) / 2 = m from by omega, show 2 * m / 2 = m from by omega]
    simp [h2]
theorem setL_step {n : Nat} (h0 : n ≠ 0) (hn : n < 2 ^ 64) : setL n = Lib.ctz 64 n :: setL (n &&& (n - 1)) := by
 obtain ⟨h1, h2, h3, h4⟩ := lowest h0 hn
 have hn' : n &&& (n - 1) < 2 ^ 64 := lt_and hn
 refine sorted_ext (setL_sorted _) ?_ fun x => ?_
 ·rw [List.pairwise_cons]
  refine ⟨fun x hx => ?_, setL_sorted _⟩
  rw [mem_setL' hn', h4] at hx
  simp only [Bool.and_eq_true, decide_eq_true_eq] at hx
  rcases Nat.lt_or_ge x (Lib.ctz 64 n) with h | h
  ·rw [h3 x h] at hx
   exact absurd hx.1 (by simp)
  ·omega
 ·rw [List.mem_cons, mem_setL' hn, mem_setL' hn', h4]
  simp only [Bool.and_eq_true, decide_eq_true_eq]
  by_cases hx : x = Lib.ctz 64 n
  ·subst hx
   simp [h2]
  ·simp [hx]
def ints (l : List Nat) : List Int := l.map fun (x : Nat) => (x : Int)
theorem ints_length (l : List Nat) : (ints l).length = l.length := List.length_map _
theorem ints_append (a b : List Nat) : ints (a ++ b) = ints a ++ ints b := List.map_append
theorem rd_ints (l : List Nat) (i : Nat) (h : i < l.length) : rd (ints l) (i : Int) = ((l[i] : Nat) : Int) := rd_map l i h
def ofL (l : List Nat) : Nat := l.foldl (fun s i => s ||| 2 ^ i) 0
theorem foldl_or (l : List Nat) : ∀ s : Nat, l.foldl (fun s i => s ||| 2 ^ i) s = s ||| ofL l := by
 induction l with
 | nil => intro s; simp [ofL]
 | cons a l ih =>
  intro s
  have h1 := ih (s ||| 2 ^ a)
  have h2 := ih (0 ||| 2 ^ a)
  unfold ofL
  rw [List.foldl_cons, h1, List.foldl_cons, h2, Nat.zero_or, Nat.or_assoc]
theorem ofL_snoc (l : List Nat) (a : Nat) : ofL (l ++ [a]) = ofL l ||| 2 ^ a := by simp [ofL, List.foldl_append]
theorem ofL_cons (a : Nat) (l : List Nat) : ofL (a :: l) = 2 ^ a ||| ofL l := by
 have := foldl_or l (0 ||| 2 ^ a)
 rw [Nat.zero_or] at this
 unfold ofL at this ⊢
 rw [List.foldl_cons, Nat.zero_or]
 exact this
theorem testBit_ofL (l : List Nat) (i : Nat) : (ofL l).testBit i = decide (i ∈ l) := by
 induction l with
 | nil => simp [ofL]
 | cons a l ih =>
  rw [ofL_cons, Nat.testBit_or, ih, Nat.testBit_two_pow, Bool.eq_iff_iff, Bool.or_eq_true, decide_eq_true_eq, decide_eq_true_eq, decide_eq_true_eq, List.mem_cons]
  constructor
  ·rintro (h | h)
   ·exact Or.inl h.symm
   ·exact Or.inr h
  ·rintro (h | h)
   ·exact Or.inl h.symm
   ·exact Or.inr h
theorem ofL_lt (l : List Nat) (h : ∀ i ∈ l, i < 64) : ofL l < 2 ^ 64 := by
 apply Nat.lt_pow_two_of_testBit
 intro i hi
 rw [testBit_ofL]
 simp
 intro hm
 have := h i hm
 omega
end Go.Proofs.YtjgcocfnilhggaaDoor.M
namespace Go.Proofs.YtjgcocfnilhggaaDoor.M
set_option linter.unusedVariables false
set_option linter.unusedSimpArgs false
open Go.RowKit Go.Proofs.YtjgcocfnilhggaaDoor.Q Go.Proofs.YtjgcocfnilhggaaDoorW.PrintWords Go.Proofs.YtjgcocfnilhggaaDoorW.PrintMore
theorem low_lt {n : Nat} (hn : n ≤ 64) : 2 ^ n - 1 < 2 ^ 64 := by
 have : 2 ^ n ≤ 2 ^ 64 := Nat.pow_le_pow_right (by decide) hn
 have : 0 < 2 ^ n := Nat.pow_pos (by decide)
 omega
theorem testBit_low (n i : Nat) : (2 ^ n - 1).testBit i = decide (i < n) := Nat.testBit_two_pow_sub_one n i
theorem refFull_l0 {n : Nat} (hn : n ≤ 64) (d : Nat) : ∀ i, i + d = n → Ends (fun k => recoupref06_Full.l0 k (n : Int) ((2 ^ i - 1 : Nat) : Int) (i : Int)) (((2 ^ n - 1 : Nat) : Int), 0) := by
 induction d with
 | zero =>
  intro i hi
  obtain rfl : i = n := by omega
  refine Ends.succ (fun k => by rw [recoupref06_Full.l0]) ?_
  exact Ends.neg (by omega) (Ends.const rfl)
 | succ d ih =>
  intro i hi
  refine Ends.succ (fun k => by rw [recoupref06_Full.l0]) ?_
  rw [show IntKind.u64.wrap (i : Int) = (i : Int) from wu64 (by omega) (by omega), show wrap64 ((i : Int) + 1) = ((i + 1 : Nat) : Int) from by rw [w64 (by omega) (by omega)]; omega]
  refine Ends.pos (by omega) (Ends.pos (by omega) ?_)
  have e : Go.bits .or .u64 ((2 ^ i - 1 : Nat) : Int) (shl .u64 1 (i : Int)) = ((2 ^ (i + 1) - 1 : Nat) : Int) := by
   rw [shl_one (by omega), bor (low_lt (by omega)) (pow_lt (by omega))]
   congr 1
   apply Nat.eq_of_testBit_eq
   intro j
   rw [Nat.testBit_or, testBit_low, testBit_low, Nat.testBit_two_pow, Bool.eq_iff_iff, Bool.or_eq_true, decide_eq_true_eq, decide_eq_true_eq, decide_eq_true_eq]
   omega
  rw [e]
  exact ih (i + 1) (by omega)
def fullV (n : Int) : Int × Int := if 0 ≤ n ∧ n ≤ 64 then (((2 ^ n.toNat - 1 : Nat) : Int), 0) else (0, 2)
theorem refFull_eq (n : Int) : Ends (fun k => recoupref06_Full.f k n) (fullV n) := by
 unfold recoupref06_Full.f fullV
 by_cases h0 : n < 0
 ·refine Ends.pos h0 (Ends.succ (fun j => by rw [recoupref06_Full.j0]) (Ends.pos rfl (Ends.const ?_)))
  rw [if_neg (by omega)]
 ·refine Ends.neg h0 ?_
  by_cases h1 : n > 64
  ·refine Ends.succ (fun j => by rw [recoupref06_Full.j0]) (Ends.pos (by simpa using h1) (Ends.const ?_))
   rw [if_neg (by omega)]
  ·rw [if_pos (by omega)]
   refine Ends.succ (fun j => by rw [recoupref06_Full.j0]) (Ends.neg (by simpa using h1) ?_)
   obtain ⟨m, rfl⟩ := Int.eq_ofNat_of_zero_le (show 0 ≤ n by omega)
   exact refFull_l0 (by omega) _ 0 (Nat.zero_add _)
theorem has_eq {s : Nat} (hs : s < 2 ^ 64) (i : Int) : recoupref06_Has.f (s : Int) i = some (decide (0 ≤ i) && s.testBit i.toNat) := by
 unfold recoupref06_Has.f
 by_cases h0 : i ≥ 0
 ·rw [if_pos h0]
  obtain ⟨j, rfl⟩ := Int.eq_ofNat_of_zero_le h0
  by_cases h1 : (j : Int) < 64
  ·rw [if_pos h1, show IntKind.u64.wrap (j : Int) = (j : Int) from wu64 (by omega) (by omega), if_pos (by omega), bit_asked hs (by omega)]
   simp
  ·rw [if_neg h1, Int.toNat_natCast, testBit_big hs (by omega)]
   simp
 ·rw [if_neg h0, show decide (0 ≤ i) = false from by simpa using h0]
  rfl
theorem refList_l0 {s : Nat} (hs : s < 2 ^ 64) (d : Nat) : ∀ i, i + d = 64 → Ends (fun k => recoupref06_List.l0 k (s : Int) (ints ((List.range i).filter fun j => s.testBit j)) (i : Int)) (ints (setL s)) := by
 induction d with
 | zero =>
  intro i hi
  obtain rfl : i = 64 := by omega
  refine Ends.succ (fun k => by rw [recoupref06_List.l0]) ?_
  exact Ends.neg (by omega) (Ends.const rfl)
 | succ d ih =>
  intro i hi
  have ihn := ih (i + 1) (by omega)
  refine Ends.succ (fun k => by rw [recoupref06_List.l0]) ?_
  rw [show wrap64 ((i : Int) + 1) = ((i + 1 : Nat) : Int) from by rw [w64 (by omega) (by omega)]; omega]
  refine Ends.pos (by omega) (Ends.bind1 (has_eq hs _) ?_)
  have hl : (ints ((List.range i).filter fun j => s.testBit j)).length < 17592186044416 := by
   rw [ints_length]
   have := List.length_filter_le (fun j => s.testBit j) (List.range i)
   rw [List.length_range] at this
   omega
  rw [List.range_succ, List.filter_append] at ihn
  by_cases hb : s.testBit i = true
  ·refine Ends.pos (by simp [hb]) (Ends.pos hl ?_)
   rw [show List.filter (fun j => s.testBit j) [i] = [i] from by simp [hb], ints_append] at ihn
   exact ihn
  ·refine Ends.neg (by simp [hb]) ?_
   rw [show List.filter (fun j => s.testBit j) [i] = [] from by simp [hb], List.append_nil] at ihn
   exact ihn
theorem refList_eq {s : Nat} (hs : s < 2 ^ 64) : Ends (fun k => recoupref06_List.f k (s : Int)) (ints (setL s)) := by
 unfold recoupref06_List.f
 exact refList_l0 hs 64 0 (by omega)
theorem List_l0 (d : Nat) : ∀ (s : Nat) (acc : List Nat), s < 2 ^ 64 → (setL s).length ≤ d → acc.length + (setL s).length ≤ 64 → Ends (fun k => subset_List.l0 k (s : Int) (ints acc)) (ints (acc ++ setL s)) := by
 induction d with
 | zero =>
  intro s acc hs hd hl
  have h0 : s = 0 := by
   apply Classical.byContradiction
   intro h
   rw [setL_step h hs] at hd
   simp at hd
  subst h0
  refine Ends.succ (fun k => by rw [subset_List.l0]) ?_
  refine Ends.pos (by rfl) (Ends.const ?_)
  rw [setL_zero, List.append_nil]
 | succ d ih =>
  intro s acc hs hd hl
  by_cases h0 : s = 0
  ·subst h0
   refine Ends.succ (fun k => by rw [subset_List.l0]) ?_
   refine Ends.pos (by rfl) (Ends.const ?_)
   rw [setL_zero, List.append_nil]
  ·have hst := setL_step h0 hs
   rw [hst, List.length_cons] at hd hl
   refine Ends.succ (fun k => by rw [subset_List.l0]) (Ends.neg (by omega) ?_)
   have ht : bits_TrailingZeros64.f (s : Int) = some ((Lib.ctz 64 s : Nat) : Int) := by
    unfold bits_TrailingZeros64.f
    rw [if_pos (by unfold u64B; simp; omega), Int.toNat_natCast]
   refine Ends.bind1 ht (Ends.pos (by rw [ints_length]; omega) ?_)
   have e : Go.bits .and .u64 (s : Int) (IntKind.u64.wrap ((s : Int) - 1)) = ((s &&& (s - 1) : Nat) : Int) := by
    rw [wu64 (by omega) (by omega), show ((s : Int) - 1) = ((s - 1 : Nat) : Int) from by omega, band hs (by omega)]
   rw [e, show ints acc ++ [((Lib.ctz 64 s : Nat) : Int)] = ints (acc ++ [Lib.ctz 64 s]) from by rw [ints_append]; rfl]
   refine (ih (s &&& (s - 1)) (acc ++ [Lib.ctz 64 s]) (lt_and hs) (by omega) (by simp; omega)).eq ?_
   rw [hst, List.append_assoc]
   rfl
theorem List_eq {s : Nat} (hs : s < 2 ^ 64) : Ends (fun k => subset_List.f k (s : Int)) (ints (setL s)) := by
 unfold subset_List.f
 exact List_l0 64 s [] hs (setL_length s) (by have := setL_length s; simpa using this)
def setOk (n : Int) (s : Nat) : Prop := 0 ≤ n ∧ n ≤ 64 ∧ ∀ i ∈ setL s, (i : Int) < n
instance (n : Int) (s : Nat) : Decidable (setOk n s) := by unfold setOk; infer_instance
theorem within {n s : Nat} (hn : n ≤ 64) (hs : s < 2 ^ 64) : (s &&& (2 ^ 64 - 1 - (2 ^ n - 1)) = 0) ↔ ∀ i ∈ setL s, i < n := by
 constructor
 ·intro h i hi
  have h1 := congrArg (fun x => x.testBit i) h
  simp only [Nat.zero_testBit] at h1
  rw [testBit_andNot hs (low_lt hn), (mem_setL.1 hi).2, testBit_low] at h1
  simpa using h1
 ·intro h
  apply Nat.eq_of_testBit_eq
  intro i
  rw [testBit_andNot hs (low_lt hn), testBit_low, Nat.zero_testBit]
  by_cases hb : s.testBit i = true
  ·have := h i ((mem_setL' hs).2 hb)
   simp [this]
  ·simp [hb]
theorem asked {n s : Nat} (hn : n ≤ 64) (hs : s < 2 ^ 64) : (Go.bits .andNot .u64 (s : Int) ((2 ^ n - 1 : Nat) : Int) = 0) ↔ setOk (n : Int) s := by
 rw [bandNot hs (low_lt hn)]
 have h := within hn hs
 unfold setOk
 constructor
 ·intro h1
  have h2 := h.1 (by omega)
  exact ⟨by omega, by omega, fun i hi => by have := h2 i hi; omega⟩
 ·rintro ⟨_, _, h1⟩
  have := h.2 fun i hi => by have := h1 i hi; omega
  omega
theorem Has_eq {s : Nat} (hs : s < 2 ^ 64) (i : Int) : subset_Has.f (s : Int) i = some (decide (0 ≤ i) && s.testBit i.toNat) := by
 unfold subset_Has.f
 by_cases h0 : i ≥ 0
 ·rw [if_pos h0]
  obtain ⟨j, rfl⟩ := Int.eq_ofNat_of_zero_le h0
  by_cases h1 : (j : Int) < 64
  ·rw [if_pos h1, if_pos (by omega), bit_asked hs (by omega)]
   simp
  ·rw [if_neg h1, Int.toNat_natCast, testBit_big hs (by omega)]
   simp
 ·rw [if_neg h0, show decide (0 ≤ i) = false from by simpa using h0]
  rfl
end Go.Proofs.YtjgcocfnilhggaaDoor.M
namespace Go.Proofs.YtjgcocfnilhggaaDoor.M
structure El where
 v : BitVec 8
deriving DecidableEq
theorem El.eq {a b : El} (h : a.v = b.v) : a = b := by cases a; cases b; cases h; rfl
instance : Add El := ⟨fun a b => ⟨a.v ^^^ b.v⟩⟩
instance : Zero El := ⟨⟨0⟩⟩
instance : OfNat El 0 := ⟨⟨0⟩⟩
instance : OfNat El 1 := ⟨⟨1⟩⟩
theorem add_comm (a b : El) : a + b = b + a := El.eq (BitVec.xor_comm _ _)
theorem add_assoc (a b c : El) : a + b + c = a + (b + c) := El.eq (BitVec.xor_assoc _ _ _)
theorem add_self (a : El) : a + a = 0 := El.eq BitVec.xor_self
theorem add_zero (a : El) : a + 0 = a := El.eq BitVec.xor_zero
theorem zero_add (a : El) : 0 + a = a := El.eq BitVec.zero_xor
instance : Std.Commutative (α := El) (· + ·) := ⟨add_comm⟩
instance : Std.Associative (α := El) (· + ·) := ⟨add_assoc⟩
theorem add_cancel {a b : El} (h : a + b = 0) : a = b := by
 have : a + b + b = 0 + b := by rw [h]
 rw [add_assoc, add_self, add_zero, zero_add] at this
 exact this
def xt (a : BitVec 8) : BitVec 8 := (a <<< 1) ^^^ (if a.getLsbD 7 then 0x1d#8 else 0#8)
theorem xt_xor (a b : BitVec 8) : xt (a ^^^ b) = xt a ^^^ xt b := by
 unfold xt
 rw [BitVec.shiftLeft_xor_distrib, BitVec.getLsbD_xor]
 cases a.getLsbD 7 <;> cases b.getLsbD 7 <;> simp <;> first | ac_rfl | skip
 ·rw [show a <<< 1 ^^^ 29#8 ^^^ (b <<< 1 ^^^ 29#8) = (a <<< 1 ^^^ b <<< 1) ^^^ (29#8 ^^^ 29#8) from by ac_rfl]
  simp
def xtn : Nat → BitVec 8 → BitVec 8
 | 0, a => a
 | n + 1, a => xt (xtn n a)
theorem xtn_xor : ∀ n a b, xtn n (a ^^^ b) = xtn n a ^^^ xtn n b
 | 0, _, _ => rfl
 | n + 1, a, b => by
  show xt (xtn n (a ^^^ b)) = _
  rw [xtn_xor n, xt_xor]
  rfl
theorem xtn_xt : ∀ n a, xtn n (xt a) = xt (xtn n a)
 | 0, _ => rfl
 | n + 1, a => by
  show xt (xtn n (xt a)) = _
  rw [xtn_xt n]
  rfl
theorem xtn_add : ∀ m n a, xtn (m + n) a = xtn m (xtn n a)
 | 0, n, a => by rw [Nat.zero_add]; rfl
 | m + 1, n, a => by
  rw [show m + 1 + n = (m + n) + 1 from by omega]
  show xt (xtn (m + n) a) = xt (xtn m (xtn n a))
  rw [xtn_add m]
def gmN (a b : BitVec 8) : Nat → BitVec 8
 | 0 => 0
 | n + 1 => gmN a b n ^^^ (if b.getLsbD n then xtn n a else 0)
def gm (a b : BitVec 8) : BitVec 8 := gmN a b 8
theorem gmN_xor_right (a b c : BitVec 8) : ∀ n, gmN a (b ^^^ c) n = gmN a b n ^^^ gmN a c n
 | 0 => by simp [gmN]
 | n + 1 => by
  show gmN a (b ^^^ c) n ^^^ _ = (gmN a b n ^^^ _) ^^^ (gmN a c n ^^^ _)
  rw [gmN_xor_right a b c n, BitVec.getLsbD_xor, show (gmN a b n ^^^ if b.getLsbD n = true then xtn n a else 0) ^^^ (gmN a c n ^^^ if c.getLsbD n = true then xtn n a else 0) = (gmN a b n ^^^ gmN a c n) ^^^ ((if b.getLsbD n = true then xtn n a else 0) ^^^ (if c.getLsbD n = true then xtn n a else 0)) from by ac_rfl]
  cases b.getLsbD n <;> cases c.getLsbD n <;> simp
theorem gmN_xor_left (a b c : BitVec 8) : ∀ n, gmN (a ^^^ b) c n = gmN a c n ^^^ gmN b c n
 | 0 => by simp [gmN]
 | n + 1 => by
  show gmN (a ^^^ b) c n ^^^ _ = (gmN a c n ^^^ _) ^^^ (gmN b c n ^^^ _)
  rw [gmN_xor_left a b c n, show (gmN a c n ^^^ if c.getLsbD n = true then xtn n a else 0) ^^^ (gmN b c n ^^^ if c.getLsbD n = true then xtn n b else 0) = (gmN a c n ^^^ gmN b c n) ^^^ ((if c.getLsbD n = true then xtn n a else 0) ^^^ (if c.getLsbD n = true then xtn n b else 0)) from by ac_rfl, xtn_xor]
  cases c.getLsbD n <;> simp
theorem gmN_xt (a b : BitVec 8) : ∀ n, gmN (xt a) b n = xt (gmN a b n)
 | 0 => show (0 : BitVec 8) = xt 0 by decide
 | n + 1 => by
  show gmN (xt a) b n ^^^ _ = xt (gmN a b n ^^^ _)
  rw [gmN_xt a b n, xt_xor, xtn_xt]
  cases b.getLsbD n
  ·have : xt (0 : BitVec 8) = 0 := by decide
   simp only [Bool.false_eq_true, if_false]
   rw [this]
  ·simp
theorem gm_one_left : ∀ b : BitVec 8, gm 1 b = b := by decide +kernel
theorem gm_one_right : ∀ a : BitVec 8, gm a 1 = a := by decide +kernel
def pw (n : Nat) : BitVec 8 := xtn n 1
theorem gm_pw : ∀ i b, gm (pw i) b = xtn i b
 | 0, b => gm_one_left b
 | i + 1, b => by
  show gmN (xt (pw i)) b 8 = _
  rw [gmN_xt]
  show xt (gm (pw i) b) = _
  rw [gm_pw i b]
  rfl
theorem gm_pw_pw (i j : Nat) : gm (pw i) (pw j) = pw (i + j) := by
 rw [gm_pw]
 unfold pw
 rw [xtn_add]
theorem pw_255 : pw 255 = 1 := by decide +kernel
theorem pw_add_255 (n : Nat) : pw (n + 255) = pw n := by
 unfold pw
 rw [xtn_add]
 exact congrArg _ pw_255
def lgFrom (a : BitVec 8) : Nat → Nat → BitVec 8 → Nat
 | 0, i, _ => i
 | f + 1, i, p => if p = a then i else lgFrom a f (i + 1) (xt p)
def lg (a : BitVec 8) : Nat := lgFrom a 254 0 1
theorem lgFrom_le (a : BitVec 8) : ∀ f i p, lgFrom a f i p ≤ i + f
 | 0, i, p => Nat.le_refl _
 | f + 1, i, p => by
  unfold lgFrom
  split
  ·omega
  ·have := lgFrom_le a f (i + 1) (xt p)
   omega
theorem lg_le (a : BitVec 8) : lg a ≤ 254 := by have := lgFrom_le a 254 0 1; unfold lg; omega
theorem pw_lg : ∀ a : BitVec 8, a ≠ 0 → pw (lg a) = a := by decide +kernel
theorem gm_zero_right (a : BitVec 8) : gm a 0 = 0 := by
 have := gmN_xor_right a 0 0 8
 simpa [gm] using this
theorem gm_zero_left (b : BitVec 8) : gm 0 b = 0 := by
 have := gmN_xor_left 0 0 b 8
 simpa [gm] using this
theorem gm_comm (a b : BitVec 8) : gm a b = gm b a := by
 by_cases ha : a = 0
 ·subst ha; rw [gm_zero_left, gm_zero_right]
 ·by_cases hb : b = 0
  ·subst hb; rw [gm_zero_left, gm_zero_right]
  ·rw [← pw_lg a ha, ← pw_lg b hb, gm_pw_pw, gm_pw_pw, Nat.add_comm]
theorem gm_assoc (a b c : BitVec 8) : gm (gm a b) c = gm a (gm b c) := by
 by_cases ha : a = 0
 ·subst ha; rw [gm_zero_left, gm_zero_left, gm_zero_left]
 ·by_cases hb : b = 0
  ·subst hb; rw [gm_zero_right, gm_zero_left, gm_zero_right]
  ·by_cases hc : c = 0
   ·subst hc; rw [gm_zero_right, gm_zero_right, gm_zero_right]
   ·rw [← pw_lg a ha, ← pw_lg b hb, ← pw_lg c hc, gm_pw_pw, gm_pw_pw, gm_pw_pw, gm_pw_pw, Nat.add_assoc]
def ginv (a : BitVec 8) : BitVec 8 := if a = 0 then 0 else pw (255 - lg a)
theorem gm_inv (a : BitVec 8) (h : a ≠ 0) : gm a (ginv a) = 1 := by
 unfold ginv
 have hl := lg_le a
 rw [if_neg h]
 conv => lhs; arg 1; rw [← pw_lg a h]
 rw [gm_pw_pw, show lg a + (255 - lg a) = 255 from by omega, pw_255]
instance : Mul El := ⟨fun a b => ⟨gm a.v b.v⟩⟩
def El.inv (a : El) : El := ⟨ginv a.v⟩
theorem mul_comm (a b : El) : a * b = b * a := El.eq (gm_comm _ _)
theorem mul_assoc (a b c : El) : a * b * c = a * (b * c) := El.eq (gm_assoc _ _ _)
instance : Std.Commutative (α := El) (· * ·) := ⟨mul_comm⟩
instance : Std.Associative (α := El) (· * ·) := ⟨mul_assoc⟩
theorem mul_one (a : El) : a * 1 = a := El.eq (gm_one_right _)
theorem one_mul (a : El) : 1 * a = a := El.eq (gm_one_left _)
theorem mul_zero (a : El) : a * 0 = 0 := El.eq (gm_zero_right _)
theorem zero_mul (a : El) : 0 * a = 0 := El.eq (gm_zero_left _)
theorem mul_add (a b c : El) : a * (b + c) = a * b + a * c := El.eq (gmN_xor_right _ _ _ 8)
theorem add_mul (a b c : El) : (a + b) * c = a * c + b * c := El.eq (gmN_xor_left _ _ _ 8)
theorem one_ne_zero : (1 : El) ≠ 0 := by decide
theorem v_ne {a : El} (h : a ≠ 0) : a.v ≠ 0 := fun e => h (El.eq e)
theorem mul_inv {a : El} (h : a ≠ 0) : a * a.inv = 1 := El.eq (gm_inv _ (v_ne h))
theorem inv_mul {a : El} (h : a ≠ 0) : a.inv * a = 1 := by rw [mul_comm, mul_inv h]
theorem inv_ne {a : El} (h : a ≠ 0) : a.inv ≠ 0 := fun e => by
 have := mul_inv h
 rw [e, mul_zero] at this
 exact one_ne_zero this.symm
theorem inv_unique {a b : El} (h : a * b = 1) : b = a.inv := by
 have ha : a ≠ 0 := fun e => by rw [e, zero_mul] at h; exact one_ne_zero h.symm
 rw [← one_mul b, ← inv_mul ha, mul_assoc, h, mul_one]
def sm : Nat → (Nat → El) → El
 | 0, _ => 0
 | n + 1, f => sm n f + f n
theorem sm_congr {f g : Nat → El} : ∀ {n}, (∀ i, i < n → f i = g i) → sm n f = sm n g
 | 0, _ => rfl
 | n + 1, h => by
  show sm n f + f n = sm n g + g n
  rw [sm_congr (fun i hi => h i (by omega)), h n (by omega)]
theorem sm_zero {f : Nat → El} {n : Nat} (h : ∀ i, i < n → f i = 0) : sm n f = 0 := by
 induction n with
 | zero => rfl
 | succ n ih =>
  show sm n f + f n = 0
  rw [ih (fun i hi => h i (by omega)), h n (by omega), add_zero]
theorem sm_add (f g : Nat → El) : ∀ n, sm n (fun i => f i + g i) = sm n f + sm n g
 | 0 => (add_zero 0).symm
 | n + 1 => by
  show sm n (fun i => f i + g i) + (f n + g n) = (sm n f + f n) + (sm n g + g n)
  rw [sm_add f g n]
  ac_rfl
theorem sm_mul (a : El) (f : Nat → El) : ∀ n, sm n (fun i => a * f i) = a * sm n f
 | 0 => (mul_zero a).symm
 | n + 1 => by
  show sm n (fun i => a * f i) + a * f n = a * (sm n f + f n)
  rw [sm_mul a f n, mul_add]
theorem sm_mul_right (a : El) (f : Nat → El) (n : Nat) : sm n (fun i => f i * a) = sm n f * a := by
 rw [mul_comm, ← sm_mul]
 exact sm_congr fun i _ => mul_comm _ _
theorem sm_swap (f : Nat → Nat → El) : ∀ m n, sm m (fun i => sm n (fun j => f i j)) = sm n (fun j => sm m (fun i => f i j))
 | 0, n => (sm_zero fun _ _ => rfl).symm
 | m + 1, n => by
  show sm m (fun i => sm n (fun j => f i j)) + sm n (fun j => f m j) = sm n (fun j => sm m (fun i => f i j) + f m j)
  rw [sm_swap f m n, sm_add]
theorem sm_one {f : Nat → El} {n k : Nat} (hk : k < n) (h : ∀ i, i < n → i ≠ k → f i = 0) : sm n f = f k := by
 induction n with
 | zero => omega
 | succ n ih =>
  show sm n f + f n = f k
  by_cases e : k = n
  ·subst e
   rw [sm_zero fun i hi => h i (by omega) (by omega), zero_add]
  ·rw [ih (by omega) (fun i hi hne => h i (by omega) hne), h n (by omega) (fun x => e x.symm), add_zero]
theorem sm_split (f : Nat → El) (m : Nat) : ∀ n, sm (m + n) f = sm m f + sm n (fun i => f (m + i))
 | 0 => (add_zero _).symm
 | n + 1 => by
  show sm (m + n) f + f (m + n) = sm m f + (sm n (fun i => f (m + i)) + f (m + n))
  rw [sm_split f m n, add_assoc]
theorem sm_take {f : Nat → El} {m n : Nat} (h : m ≤ n) (hz : ∀ i, m ≤ i → i < n → f i = 0) : sm n f = sm m f := by
 obtain ⟨d, rfl⟩ : ∃ d, n = m + d := ⟨n - m, by omega⟩
 rw [sm_split, sm_zero (n := d) fun i hi => hz _ (by omega) (by omega), add_zero]
end Go.Proofs.YtjgcocfnilhggaaDoor.M
namespace Go.Proofs.YtjgcocfnilhggaaDoor.M
open Go.RowKit Go.Proofs.YtjgcocfnilhggaaDoorW.PrintWords Go.Proofs.YtjgcocfnilhggaaDoorW.PrintLast Go.Proofs.YtjgcocfnilhggaaDoorW.PrintMore Go.Proofs.YtjgcocfnilhggaaDoor.Q
theorem wi64 {x : Nat} (h : x < 2 ^ 63) : IntKind.i64.wrap (x : Int) = (x : Int) := by
  rw [show IntKind.i64.wrap (x : Int) = wrap64 (x : Int) from i64_w _]
  exact w64 (by omega) (by omega)
theorem toNat64 {a : Nat} (h : a < 2 ^ 63) : (BitVec.ofInt 64 (a : Int)).toNat = a := by
  rw [BitVec.ofInt_natCast, BitVec.toNat_ofNat]; exact Nat.mod_eq_of_lt (by omega)
theorem band64 {a b : Nat} (ha : a < 2 ^ 63) (hb : b < 2 ^ 63) : Go.bits .and .i64 (a : Int) (b : Int) = ((a &&& b : Nat) : Int) := by
  show IntKind.i64.wrap ((BitVec.ofInt 64 (a : Int) &&& BitVec.ofInt 64 (b : Int)).toNat : Int) = _
  rw [BitVec.toNat_and, toNat64 ha, toNat64 hb]
  exact wi64 (Nat.lt_of_le_of_lt Nat.and_le_left ha)
theorem bxor64 {a b : Nat} (ha : a < 2 ^ 63) (hb : b < 2 ^ 63) : Go.bits .xor .i64 (a : Int) (b : Int) = ((a ^^^ b : Nat) : Int) := by
  show IntKind.i64.wrap ((BitVec.ofInt 64 (a : Int) ^^^ BitVec.ofInt 64 (b : Int)).toNat : Int) = _
  rw [BitVec.toNat_xor, toNat64 ha, toNat64 hb]
  exact wi64 (Nat.xor_lt_two_pow ha hb)
theorem shr64 {n i : Nat} (hi : i ≤ 64) : shr .i64 (n : Int) (i : Int) = ((n >>> i : Nat) : Int) := by
  unfold shr
  have e : min (i : Int).toNat IntKind.i64.bits = i := by simp [IntKind.bits]; omega
  rw [e, Nat.shiftRight_eq_div_pow]
  simp
theorem shr8 {n i : Nat} (hi : i ≤ 8) : shr .u8 (n : Int) (i : Int) = ((n >>> i : Nat) : Int) := by
  unfold shr
  have e : min (i : Int).toNat IntKind.u8.bits = i := by simp [IntKind.bits]; omega
  rw [e, Nat.shiftRight_eq_div_pow]
  simp
theorem shl64 {n i : Nat} (hn : n < 2 ^ 16) (hi : i ≤ 16) : shl .i64 (n : Int) (i : Int) = ((n <<< i : Nat) : Int) := by
  unfold shl
  have e : min (i : Int).toNat IntKind.i64.bits = i := by simp [IntKind.bits]; omega
  rw [e, Nat.shiftLeft_eq]
  have h : n * 2 ^ i < 2 ^ 63 := Nat.lt_of_lt_of_le (Nat.mul_lt_mul_of_lt_of_le hn (Nat.pow_le_pow_right (by decide) hi) (by decide)) (by decide)
  rw [show ((n : Int) * 2 ^ i) = ((n * 2 ^ i : Nat) : Int) from by simp]
  exact wi64 h
theorem and_one (n i : Nat) : (((n >>> i) &&& 1 : Nat) : Int) = 1 ↔ n.testBit i = true := by
  unfold Nat.testBit
  rw [Nat.and_comm 1 (n >>> i), bne_iff_ne, Nat.and_one_is_mod]
  omega
theorem bit64 {n i : Nat} (hn : n < 2 ^ 63) (hi : i ≤ 64) : (Go.bits .and .i64 (shr .i64 (n : Int) (i : Int)) 1 = 1) ↔ n.testBit i = true := by
  rw [shr64 hi, show (1 : Int) = ((1 : Nat) : Int) from rfl, band64 (Nat.lt_of_le_of_lt (Nat.shiftRight_le _ _) hn) (by decide)]
  exact and_one n i
theorem bit8 {n i : Nat} (hn : n < 256) (hi : i ≤ 8) : (Go.bits .and .u8 (shr .u8 (n : Int) (i : Int)) 1 = 1) ↔ n.testBit i = true := by
  rw [shr8 hi]
  have h1 : n >>> i < 256 := Nat.lt_of_le_of_lt (Nat.shiftRight_le _ _) hn
  have e : Go.bits .and .u8 ((n >>> i : Nat) : Int) 1 = (((n >>> i) &&& 1 : Nat) : Int) := by
    show IntKind.u8.wrap ((BitVec.ofInt 8 ((n >>> i : Nat) : Int) &&& BitVec.ofInt 8 ((1 : Nat) : Int)).toNat : Int) = _
    rw [BitVec.toNat_and, BitVec.ofInt_natCast, BitVec.ofInt_natCast, BitVec.toNat_ofNat, BitVec.toNat_ofNat, Nat.mod_eq_of_lt (by omega : n >>> i < 2 ^ 8), show 1 % 2 ^ 8 = 1 from rfl]
    have : (n >>> i) &&& 1 ≤ 1 := Nat.and_le_right
    rw [IntKind.wrap_u8]
    omega
  rw [e]
  exact and_one n i
def acc (a b : Nat) : Nat → Nat
  | 0 => 0
  | i + 1 => if b.testBit i then acc a b i ^^^ (a <<< i) else acc a b i
def rst (i p : Nat) : Nat := if p.testBit (i + 8) then p ^^^ (285 <<< i) else p
def red : Nat → Nat → Nat
  | 0, p => p
  | i + 1, p => red i (rst i p)
theorem rst_xor (i x y : Nat) : rst i (x ^^^ y) = rst i x ^^^ rst i y := by
  unfold rst
  rw [Nat.testBit_xor]
  cases x.testBit (i + 8) <;> cases y.testBit (i + 8) <;> simp
  · rw [Nat.xor_assoc]
  · rw [Nat.xor_assoc, Nat.xor_comm y, Nat.xor_assoc]
  · rw [Nat.xor_assoc, Nat.xor_comm (285 <<< i) , Nat.xor_assoc, Nat.xor_self, Nat.xor_zero]
theorem red_xor : ∀ i x y, red i (x ^^^ y) = red i x ^^^ red i y
  | 0, _, _ => rfl
  | i + 1, x, y => by unfold red; rw [rst_xor, red_xor i]
theorem red_zero : ∀ i, red i 0 = 0
  | 0 => rfl
  | i + 1 => by unfold red rst; simp [red_zero i]
theorem red_shl : ∀ a : BitVec 8, ∀ i : Fin 8, red 7 (a.toNat <<< i.val) = (xtn i.val a).toNat := by decide +kernel
theorem acc_lt {a b : Nat} (ha : a < 256) : ∀ i, i ≤ 8 → acc a b i < 2 ^ 16
  | 0, _ => by unfold acc; decide
  | i + 1, h => by
    unfold acc
    split
    · refine Nat.xor_lt_two_pow (acc_lt ha i (by omega)) ?_
      rw [Nat.shiftLeft_eq]
      exact Nat.lt_of_lt_of_le (Nat.mul_lt_mul_of_lt_of_le ha (Nat.pow_le_pow_right (by decide) (by omega : i ≤ 8)) (by decide)) (by decide)
    · exact acc_lt ha i (by omega)
theorem red_acc (a b : BitVec 8) : ∀ i, i ≤ 8 → red 7 (acc a.toNat b.toNat i) = (gmN a b i).toNat
  | 0, _ => by unfold acc gmN; rw [red_zero]; rfl
  | i + 1, h => by
    unfold acc gmN
    have e : b.getLsbD i = b.toNat.testBit i := rfl
    rw [e]
    split
    · rw [red_xor, red_acc a b i (by omega), red_shl a ⟨i, by omega⟩]
      simp
    · rw [red_acc a b i (by omega)]
      simp
theorem rst_lt {i p : Nat} (hp : p < 2 ^ 16) (hi : i ≤ 7) : rst i p < 2 ^ 16 := by
  unfold rst
  split
  · refine Nat.xor_lt_two_pow hp ?_
    rw [Nat.shiftLeft_eq]
    exact Nat.lt_of_lt_of_le (Nat.mul_lt_mul_of_lt_of_le (by decide : 285 < 512) (Nat.pow_le_pow_right (by decide) hi) (by decide)) (by decide)
  · exact hp
theorem Mul_l1 : ∀ i p : Nat, i ≤ 7 → p < 2 ^ 16 → Ends (fun k => recoupref01_Mul.l1 k (p : Int) ((i : Int) + 7)) (((red i p) % 256 : Nat) : Int)
  | 0, p, _, _ => Ends.succ (fun k => by rw [recoupref01_Mul.l1]) (Ends.neg (by omega) (Ends.const (by unfold red; simp)))
  | i + 1, p, hi, hp => by
    refine Ends.succ (fun k => by rw [recoupref01_Mul.l1]) (Ends.pos (by omega) ?_)
    have e0 : ((i + 1 : Nat) : Int) + 7 = ((i + 8 : Nat) : Int) := by omega
    have e1 : IntKind.u64.wrap (((i + 1 : Nat) : Int) + 7) = ((i + 8 : Nat) : Int) := by rw [e0]; exact wu64 (by omega) (by omega)
    have e2 : wrap64 (((i + 1 : Nat) : Int) + 7 - 1) = (i : Int) + 7 := by rw [w64 (by omega) (by omega)]; omega
    have e3 : IntKind.u64.wrap (wrap64 (((i + 1 : Nat) : Int) + 7 - 8)) = (i : Int) := by rw [w64 (by omega) (by omega), wu64 (by omega) (by omega)]; omega
    rw [e1, e2, e3]
    refine Ends.pos (Int.natCast_nonneg _) ?_
    have hb := bit64 (n := p) (i := i + 8) (by omega) (by omega)
    by_cases h : p.testBit (i + 8) = true
    · refine Ends.pos (hb.2 h) (Ends.pos (Int.natCast_nonneg _) ?_)
      have e4 : Go.bits .xor .i64 (p : Int) (shl .i64 285 (i : Int)) = ((rst i p : Nat) : Int) := by
        rw [show (285 : Int) = ((285 : Nat) : Int) from rfl, shl64 (by decide) (by omega), bxor64 (by omega) (by
          rw [Nat.shiftLeft_eq]
          exact Nat.lt_of_lt_of_le (Nat.mul_lt_mul_of_lt_of_le (by decide : 285 < 512) (Nat.pow_le_pow_right (by decide) (by omega : i ≤ 7)) (by decide)) (by decide))]
        unfold rst
        rw [if_pos h]
      rw [e4]
      exact Mul_l1 i (rst i p) (by omega) (rst_lt hp (by omega))
    · refine Ends.neg (fun e => h (hb.1 e)) ?_
      have e4 : rst i p = p := by unfold rst; rw [if_neg h]
      have := Mul_l1 i p (by omega) hp
      unfold red
      rw [e4]
      exact this
theorem Mul_l0 {a b : Nat} (ha : a < 256) (hb : b < 256) : ∀ n i : Nat, i + n = 8 → Ends (fun k => recoupref01_Mul.l0 k (a : Int) (b : Int) ((acc a b i : Nat) : Int) (i : Int)) (((red 7 (acc a b 8)) % 256 : Nat) : Int)
  | 0, i, h => by
    obtain rfl : i = 8 := by omega
    refine Ends.succ (fun k => by rw [recoupref01_Mul.l0]) (Ends.neg (by decide) ?_)
    exact Mul_l1 7 _ (by omega) (acc_lt ha 8 (Nat.le_refl _))
  | n + 1, i, h => by
    refine Ends.succ (fun k => by rw [recoupref01_Mul.l0]) (Ends.pos (by omega) ?_)
    have e1 : IntKind.u64.wrap (i : Int) = (i : Int) := wu64 (by omega) (by omega)
    have e2 : wrap64 ((i : Int) + 1) = ((i + 1 : Nat) : Int) := by rw [w64 (by omega) (by omega)]; omega
    rw [e1, e2]
    refine Ends.pos (Int.natCast_nonneg _) ?_
    have hbt := bit8 (n := b) (i := i) hb (by omega)
    have ih := Mul_l0 ha hb n (i + 1) (by omega)
    by_cases h1 : b.testBit i = true
    · refine Ends.pos (hbt.2 h1) ?_
      have e4 : Go.bits .xor .i64 ((acc a b i : Nat) : Int) (shl .i64 (wrap64 (a : Int)) (i : Int)) = ((acc a b (i + 1) : Nat) : Int) := by
        rw [w64 (by omega) (by omega), shl64 (by omega) (by omega), bxor64 (by have := acc_lt (b := b) ha i (by omega); omega) (by
          rw [Nat.shiftLeft_eq]
          exact Nat.lt_of_lt_of_le (Nat.mul_lt_mul_of_lt_of_le ha (Nat.pow_le_pow_right (by decide) (by omega : i ≤ 8)) (by decide)) (by decide))]
        conv => rhs; rw [acc]
        rw [if_pos h1]
      rw [e4]
      exact ih
    · refine Ends.neg (fun e => h1 (hbt.1 e)) ?_
      have e4 : acc a b (i + 1) = acc a b i := by conv => lhs; rw [acc]
                                                  rw [if_neg h1]
      rw [e4] at ih
      exact ih
def toE (x : Int) : El := ⟨BitVec.ofInt 8 x⟩
def ofE (e : El) : Int := ((e.v.toNat : Nat) : Int)
theorem ofE_toE {x : Int} (h : 0 ≤ x ∧ x < 256) : ofE (toE x) = x := by
  obtain ⟨n, rfl⟩ := Int.eq_ofNat_of_zero_le h.1
  unfold ofE toE
  rw [BitVec.ofInt_natCast, BitVec.toNat_ofNat, Nat.mod_eq_of_lt (by omega)]
theorem toE_inj {x y : Int} (hx : 0 ≤ x ∧ x < 256) (hy : 0 ≤ y ∧ y < 256) (h : toE x = toE y) : x = y := by rw [← ofE_toE hx, ← ofE_toE hy, h]
theorem Mul_ends {a b : Int} (ha : 0 ≤ a ∧ a < 256) (hb : 0 ≤ b ∧ b < 256) : Ends (fun k => recoupref01_Mul.f k a b) (ofE (toE a * toE b)) := by
  obtain ⟨x, rfl⟩ := Int.eq_ofNat_of_zero_le ha.1
  obtain ⟨y, rfl⟩ := Int.eq_ofNat_of_zero_le hb.1
  have hx : x < 256 := by omega
  have hy : y < 256 := by omega
  have h := Mul_l0 hx hy 8 0 rfl
  have e := red_acc (BitVec.ofNat 8 x) (BitVec.ofNat 8 y) 8 (Nat.le_refl _)
  rw [BitVec.toNat_ofNat, BitVec.toNat_ofNat, Nat.mod_eq_of_lt (by omega : x < 2 ^ 8), Nat.mod_eq_of_lt (by omega : y < 2 ^ 8)] at e
  refine Ends.eq h ?_
  rw [e, Nat.mod_eq_of_lt (gmN _ _ 8).isLt]
  unfold ofE toE
  rw [BitVec.ofInt_natCast, BitVec.ofInt_natCast]
  rfl
theorem xor_el {a b : Int} : toE (Go.bits .xor .u8 a b) = toE a + toE b := by
  refine El.eq ?_
  show BitVec.ofInt 8 (IntKind.u8.wrap ((BitVec.ofInt 8 a ^^^ BitVec.ofInt 8 b).toNat : Int)) = BitVec.ofInt 8 a ^^^ BitVec.ofInt 8 b
  have h := (BitVec.ofInt 8 a ^^^ BitVec.ofInt 8 b).isLt
  rw [IntKind.wrap_u8, Int.emod_eq_of_lt (by omega) (by omega), BitVec.ofInt_natCast, BitVec.ofNat_toNat, BitVec.setWidth_eq]
theorem xor_range (a b : Int) : 0 ≤ Go.bits .xor .u8 a b ∧ Go.bits .xor .u8 a b < 256 := by
  show 0 ≤ IntKind.u8.wrap _ ∧ IntKind.u8.wrap _ < 256
  rw [IntKind.wrap_u8]
  omega
end Go.Proofs.YtjgcocfnilhggaaDoor.M
namespace Go.Proofs.YtjgcocfnilhggaaDoor.M
open Go.RowKit Go.Proofs.YtjgcocfnilhggaaDoorW.PrintWords Go.Proofs.YtjgcocfnilhggaaDoorW.PrintLast Go.Proofs.YtjgcocfnilhggaaDoorW.PrintMore Go.Proofs.YtjgcocfnilhggaaDoor.Q
theorem exps_ok : (field_build.st 255).1 = (List.range 510).map fun i => ((pw i).toNat : Int) := by decide +kernel
theorem logs_ok : ((List.zip (field_build.st 255).2.1 (List.range 256)).all fun x => x.2 == 0 || (pw x.1.toNat).toNat == x.2) = true := by decide +kernel
theorem exp_el {n : Nat} (h : n < 510) : toE (field_build.exp n) = ⟨pw n⟩ := by
  unfold field_build.exp
  rw [exps_ok, List.getD_eq_getElem?_getD, List.getElem?_map, List.getElem?_range h]
  refine El.eq ?_
  unfold toE
  simp [BitVec.ofInt_natCast]
theorem log_el {a : Int} (h : 0 ≤ a ∧ a < 256) (h0 : a ≠ 0) : (⟨pw (field_build.log a.toNat).toNat⟩ : El) = toE a := by
  obtain ⟨n, rfl⟩ := Int.eq_ofNat_of_zero_le h.1
  have hn : n < 256 := by omega
  have hl : n < (field_build.st 255).2.1.length := by rw [(field_build.st_length 255).2]; exact hn
  have hz : n < (List.zip (field_build.st 255).2.1 (List.range 256)).length := by rw [List.length_zip, List.length_range]; omega
  have := List.all_eq_true.1 logs_ok _ (List.getElem_mem hz)
  rw [List.getElem_zip, List.getElem_range] at this
  simp only [Bool.or_eq_true, beq_iff_eq] at this
  rcases this with e | e
  · exact absurd (by rw [e]; rfl) h0
  · refine El.eq ?_
    unfold field_build.log toE
    rw [Int.toNat_natCast, List.getD_eq_getElem?_getD, List.getElem?_eq_getElem hl, Option.getD_some, BitVec.ofInt_natCast]
    refine BitVec.eq_of_toNat_eq ?_
    rw [e, BitVec.toNat_ofNat, Nat.mod_eq_of_lt (by omega)]
theorem toE_zero : toE 0 = 0 := rfl
theorem toE_ne {a : Int} (h : 0 ≤ a ∧ a < 256) (h0 : a ≠ 0) : toE a ≠ 0 := fun e => h0 (toE_inj h (by omega) (e.trans toE_zero.symm))
theorem mulT_el {a b : Int} (ha : 0 ≤ a ∧ a < 256) (hb : 0 ≤ b ∧ b < 256) : toE (mulT a b) = toE a * toE b := by
  unfold mulT
  by_cases h1 : a = 0
  · rw [if_pos h1, h1, toE_zero, zero_mul]
  · rw [if_neg h1]
    by_cases h2 : b = 0
    · rw [if_pos h2, h2, toE_zero, mul_zero]
    · rw [if_neg h2]
      obtain ⟨x0, x1⟩ := field_build.log_range (i := a.toNat) (by omega)
      obtain ⟨y0, y1⟩ := field_build.log_range (i := b.toNat) (by omega)
      rw [exp_el (by omega), ← log_el ha h1, ← log_el hb h2, show (field_build.log a.toNat + field_build.log b.toNat).toNat = (field_build.log a.toNat).toNat + (field_build.log b.toNat).toNat from by omega]
      generalize (field_build.log a.toNat).toNat = i
      generalize (field_build.log b.toNat).toNat = j
      exact El.eq (gm_pw_pw i j).symm
theorem exp_range {n : Nat} (h : n < 510) : 0 ≤ field_build.exp n ∧ field_build.exp n < 256 := by
  unfold field_build.exp
  rw [exps_ok, List.getD_eq_getElem?_getD, List.getElem?_map, List.getElem?_range h]
  have := (pw n).isLt
  simp
  omega
theorem mulT_range {a b : Int} (ha : 0 ≤ a ∧ a < 256) (hb : 0 ≤ b ∧ b < 256) : 0 ≤ mulT a b ∧ mulT a b < 256 := by
  unfold mulT
  split
  · omega
  · split
    · omega
    · obtain ⟨x0, x1⟩ := field_build.log_range (i := a.toNat) (by omega)
      obtain ⟨y0, y1⟩ := field_build.log_range (i := b.toNat) (by omega)
      exact exp_range (by omega)
theorem mulT_ends {a b : Int} (ha : 0 ≤ a ∧ a < 256) (hb : 0 ≤ b ∧ b < 256) : Ends (fun k => recoupref01_Mul.f k a b) (mulT a b) := by
  refine Ends.eq (Mul_ends ha hb) ?_
  rw [← mulT_el ha hb, ofE_toE (mulT_range ha hb)]
theorem pw_255k : ∀ k, pw (255 * k) = 1
  | 0 => rfl
  | k + 1 => by rw [Nat.mul_succ, pw_add_255, pw_255k k]
theorem invT_el {a : Int} (ha : 0 ≤ a ∧ a < 256) (h0 : a ≠ 0) : toE (invT a) = (toE a).inv := by
  have e : field_bounded.f (-1) = some 254 := by kernel_rfl
  have e2 : field_Inv.f a = some (field_build.exp ((field_build.log a.toNat * 254) % 255).toNat, 0) := by
    unfold field_Inv.f field_Pow.f
    rw [if_neg (by omega), if_neg h0, if_pos ha, e]
    simp
  have e3 : invT a = field_build.exp ((field_build.log a.toNat * 254) % 255).toNat := by unfold invT; rw [e2, Option.getD_some]
  rw [e3]
  obtain ⟨x0, x1⟩ := field_build.log_range (i := a.toNat) (by omega)
  rw [exp_el (by omega), ← log_el ha h0]
  obtain ⟨n, hn⟩ := Int.eq_ofNat_of_zero_le x0
  rw [hn, Int.toNat_natCast]
  refine inv_unique (El.eq ?_)
  show gm (pw n) (pw _) = 1
  rw [gm_pw_pw]
  have : n + (((n : Int) * 254) % 255).toNat = 255 * ((n + (((n : Int) * 254) % 255).toNat) / 255) := by omega
  rw [this]
  exact pw_255k _
theorem invT_range {a : Int} (ha : 0 ≤ a ∧ a < 256) (h0 : a ≠ 0) : 0 ≤ invT a ∧ invT a < 256 := (inv_some ha h0).2
theorem Inv_from {a : Int} (ha : 0 ≤ a ∧ a < 256) (h0 : a ≠ 0) : ∀ n x : Nat, x + n = (invT a).toNat → 1 ≤ x → Ends (fun k => recoupref01_Inv.l0 k a (x : Int)) (invT a, 0)
  | n, x, h, hx => by
    obtain ⟨r0, r1⟩ := invT_range ha h0
    have hlt : x < 256 := by omega
    refine Ends.succ (fun k => by rw [recoupref01_Inv.l0]) (Ends.pos (by omega) ?_)
    have e1 : (x : Int) % 256 = (x : Int) := by omega
    rw [e1]
    refine Ends.bind (mulT_ends ha (b := (x : Int)) (by omega)) ?_
    cases n with
    | zero =>
      have hxi : (x : Int) = invT a := by omega
      refine Ends.pos ?_ (Ends.const (by rw [hxi]))
      rw [hxi]
      refine toE_inj (mulT_range ha ⟨r0, r1⟩) (by omega) ?_
      rw [mulT_el ha ⟨r0, r1⟩, invT_el ha h0, mul_inv (toE_ne ha h0)]
      rfl
    | succ n =>
      refine Ends.neg ?_ ?_
      · intro e
        have hb : 0 ≤ (x : Int) ∧ (x : Int) < 256 := by omega
        have := mulT_el ha hb
        rw [e] at this
        have h2 := inv_unique this.symm
        rw [← invT_el ha h0] at h2
        have := toE_inj hb ⟨r0, r1⟩ h2
        omega
      · have e2 : wrap64 ((x : Int) + 1) = ((x + 1 : Nat) : Int) := by rw [w64 (by omega) (by omega)]; omega
        rw [e2]
        exact Inv_from ha h0 n (x + 1) (by omega) (by omega)
theorem Inv_ends {a : Int} (ha : 0 ≤ a ∧ a < 256) (h0 : a ≠ 0) : Ends (fun k => recoupref01_Inv.f k a) (invT a, 0) := by
  have hr := invT_range ha h0
  have hn : invT a ≠ 0 := by
    intro e
    have := invT_el ha h0
    rw [e, toE_zero] at this
    exact inv_ne (toE_ne ha h0) this.symm
  have := Inv_from ha h0 ((invT a).toNat - 1) 1 (by omega) (Nat.le_refl _)
  exact this
theorem Scale_l0 {c : Int} (hc : 0 ≤ c ∧ c < 256) {l : List Int} (hl : bytesB l = true) (hm : l.length ≤ 4096) : ∀ n i : Nat, i + n = l.length → Ends (fun k => recoupref01_Scale.l0 k c l ((l.take i).map (mulT c)) (i : Int)) (l.map (mulT c))
  | 0, i, h => by
    obtain rfl : i = l.length := by omega
    exact Ends.succ (fun k => by rw [recoupref01_Scale.l0]) (Ends.neg (by omega) (Ends.const (by simp)))
  | n + 1, i, h => by
    have hi : i < l.length := by omega
    refine Ends.succ (fun k => by rw [recoupref01_Scale.l0]) (Ends.pos (by omega) (Ends.pos (Int.natCast_nonneg _) ?_))
    have hb := bytesB_at hl hi
    rw [rd_nat]
    refine Ends.bind (mulT_ends hc hb) (Ends.pos (by simp; omega) ?_)
    have e2 : wrap64 ((i : Int) + 1) = ((i + 1 : Nat) : Int) := by rw [w64 (by omega) (by omega)]; omega
    have e3 : (l.take i).map (mulT c) ++ [mulT c (l.getD i 0)] = (l.take (i + 1)).map (mulT c) := by
      rw [List.take_succ_eq_append_getElem hi, List.map_append, List.getD_eq_getElem?_getD, List.getElem?_eq_getElem hi]
      rfl
    rw [e2, e3]
    exact Scale_l0 hc hl hm n (i + 1) (by omega)
theorem Scale_ends {c : Int} (hc : 0 ≤ c ∧ c < 256) {l : List Int} (hl : bytesB l = true) (hm : l.length ≤ 4096) : Ends (fun k => recoupref01_Scale.f k c l) (l.map (mulT c)) := by
  have := Scale_l0 hc hl hm l.length 0 (by omega)
  unfold recoupref01_Scale.f
  simpa using this
end Go.Proofs.YtjgcocfnilhggaaDoor.M
namespace Go.Proofs.YtjgcocfnilhggaaDoor.M
open Go.RowKit Go.Proofs.YtjgcocfnilhggaaDoorW.PrintWords Go.Proofs.YtjgcocfnilhggaaDoorW.PrintLast Go.Proofs.YtjgcocfnilhggaaDoorW.PrintMore Go.Proofs.YtjgcocfnilhggaaDoor.Q
def U (M : List (List Int)) (c : Nat) : Prop := ∀ r ∈ M, r.length = c
theorem U.cons {r : List Int} {M : List (List Int)} {c : Nat} (h : U (r :: M) c) : r.length = c ∧ U M c := ⟨h r (List.mem_cons_self ..), fun x hx => h x (List.mem_cons_of_mem _ hx)⟩
theorem U.set {M : List (List Int)} {c k : Nat} {r : List Int} (h : U M c) (hr : r.length = c) : U (M.set k r) c := fun x hx => by
  rcases List.mem_or_eq_of_mem_set hx with hx | rfl
  · exact h x hx
  · exact hr
theorem U.at {M : List (List Int)} {c i : Nat} (h : U M c) (hi : i < M.length) : (M.getD i []).length = c := by
  rw [List.getD_eq_getElem?_getD, List.getElem?_eq_getElem hi]
  exact h _ (List.getElem_mem hi)
theorem flat_len {c : Nat} : ∀ {M : List (List Int)}, U M c → M.flatten.length = M.length * c
  | [], _ => by simp
  | r :: M, h => by
    rw [List.flatten_cons, List.length_append, flat_len h.cons.2, h.cons.1, List.length_cons, Nat.succ_mul, Nat.add_comm]
theorem flat_drop {c : Nat} : ∀ {M : List (List Int)} (i : Nat), U M c → M.flatten.drop (i * c) = (M.drop i).flatten
  | [], i, _ => by simp
  | r :: M, 0, h => by simp
  | r :: M, i + 1, h => by
    rw [List.flatten_cons, Nat.succ_mul, Nat.add_comm, List.drop_succ_cons, ← flat_drop i h.cons.2]
    have := h.cons.1
    rw [List.drop_append, List.drop_eq_nil_of_le (by omega), List.nil_append, this, Nat.add_sub_cancel_left]
theorem flat_take {c : Nat} : ∀ {M : List (List Int)} (i : Nat), U M c → M.flatten.take (i * c) = (M.take i).flatten
  | [], i, _ => by simp
  | r :: M, 0, h => by simp
  | r :: M, i + 1, h => by
    rw [List.flatten_cons, Nat.succ_mul, Nat.add_comm, List.take_succ_cons, List.flatten_cons, ← flat_take i h.cons.2]
    have := h.cons.1
    rw [List.take_append, List.take_of_length_le (by omega), this, Nat.add_sub_cancel_left]
theorem flat_get {c i j : Nat} {M : List (List Int)} (h : U M c) (hi : i < M.length) (hj : j < c) : M.flatten.getD (i * c + j) 0 = entry M i j := by
  have e : M.flatten.getD (i * c + j) 0 = (M.flatten.drop (i * c)).getD j 0 := by
    rw [List.getD_eq_getElem?_getD, List.getD_eq_getElem?_getD, List.getElem?_drop]
  have hl := h.at hi
  rw [e, flat_drop i h, List.drop_eq_getElem_cons hi, List.flatten_cons]
  unfold entry
  rw [List.getD_eq_getElem?_getD, List.getD_eq_getElem?_getD, List.getD_eq_getElem?_getD, List.getElem?_eq_getElem hi, Option.getD_some]
  rw [List.getD_eq_getElem?_getD, List.getElem?_eq_getElem hi, Option.getD_some] at hl
  rw [List.getElem?_append_left (by omega)]
theorem flat_row {c i : Nat} {M : List (List Int)} (h : U M c) (hi : i < M.length) : (M.flatten.drop (i * c)).take c = M.getD i [] := by
  have hl := h.at hi
  rw [flat_drop i h, List.drop_eq_getElem_cons hi, List.flatten_cons]
  rw [List.getD_eq_getElem?_getD, List.getElem?_eq_getElem hi, Option.getD_some] at hl ⊢
  rw [List.take_append, List.take_of_length_le (by omega), hl, Nat.sub_self, List.take_zero, List.append_nil]
theorem flat_splice {c k : Nat} {M : List (List Int)} {r : List Int} (h : U M c) (hk : k < M.length) (hr : r.length = c) : splice M.flatten (k * c) r = (M.set k r).flatten := by
  unfold splice
  rw [flat_take k h, hr, show k * c + c = (k + 1) * c from (Nat.succ_mul k c).symm, flat_drop (k + 1) h, List.set_eq_take_append_cons_drop, if_pos hk, List.flatten_append, List.flatten_cons]
theorem flat_set {c k j : Nat} {M : List (List Int)} (v : Int) (h : U M c) (hk : k < M.length) (hj : j < c) : M.flatten.set (k * c + j) v = (M.set k ((M.getD k []).set j v)).flatten := by
  have hl := h.at hk
  rw [← flat_splice h hk (by rw [List.length_set]; exact hl)]
  unfold splice
  rw [List.length_set, hl, List.set_eq_take_append_cons_drop]
  have hlen : k * c + j < M.flatten.length := by
    rw [flat_len h]
    have : (k + 1) * c ≤ M.length * c := Nat.mul_le_mul_right _ hk
    rw [Nat.succ_mul] at this
    omega
  rw [if_pos hlen, List.set_eq_take_append_cons_drop, if_pos (by omega), ← flat_row h hk, List.take_take, Nat.min_eq_left (by omega), List.append_assoc, List.cons_append]
  have e1 : M.flatten.take (k * c + j) = M.flatten.take (k * c) ++ (M.flatten.drop (k * c)).take j := by
    rw [List.take_add]
  have e2 : ((M.flatten.drop (k * c)).take c).drop (j + 1) ++ M.flatten.drop (k * c + c) = M.flatten.drop (k * c + j + 1) := by
    rw [List.drop_take, List.drop_drop, ← List.drop_drop (i := c), ← List.drop_drop (i := j + 1)]
    rw [show M.flatten.drop (k * c + j + 1) = ((M.flatten.drop (k * c)).drop (j + 1)) from by rw [List.drop_drop]; congr 1, show (M.flatten.drop (k * c)).drop c = ((M.flatten.drop (k * c)).drop (j + 1)).drop (c - (j + 1)) from by simp only [List.drop_drop]; congr 1; omega]
    rw [List.take_append_drop]
  rw [e1, ← e2]
  simp [List.append_assoc]
theorem flat_rowsOf {c : Nat} : ∀ (r : Nat) (l : List Int), l.length = r * c → (rowsOf c r l).flatten = l ∧ U (rowsOf c r l) c := by
  intro r
  have key : ∀ r (l : List Int), l.length = r * c → ((List.range r).map fun i => (l.drop (i * c)).take c).flatten = l := by
    intro r
    induction r with
    | zero => intro l hl; rw [Nat.zero_mul] at hl; simp [List.length_eq_zero_iff.1 hl]
    | succ r ih =>
      intro l hl
      rw [Nat.succ_mul] at hl
      rw [List.range_succ, List.map_append, List.flatten_append]
      have := ih (l.take (r * c)) (by rw [List.length_take]; omega)
      have e : ((List.range r).map fun i => (l.drop (i * c)).take c) = ((List.range r).map fun i => ((l.take (r * c)).drop (i * c)).take c) := by
        refine List.map_congr_left fun i hi => ?_
        have hir : i < r := by simpa using hi
        have : (i + 1) * c ≤ r * c := Nat.mul_le_mul_right _ hir
        rw [Nat.succ_mul] at this
        rw [List.drop_take, List.take_take, Nat.min_eq_left (by omega)]
      rw [e, this]
      simp only [List.map_cons, List.map_nil, List.flatten_cons, List.flatten_nil, List.append_nil]
      rw [List.take_of_length_le (l := l.drop (r * c)) (by rw [List.length_drop]; omega), List.take_append_drop]
  intro l hl
  refine ⟨key r l hl, fun x hx => ?_⟩
  obtain ⟨i, hi, rfl⟩ := List.mem_map.1 hx
  have hir : i < r := by simpa using hi
  have : (i + 1) * c ≤ r * c := Nat.mul_le_mul_right _ hir
  rw [Nat.succ_mul] at this
  rw [List.length_take, List.length_drop]
  omega
theorem idx_small {i c j : Nat} (hi : i ≤ 64) (hc : c ≤ 64) (hj : j ≤ 64) : wrap64 ((i : Int) * (c : Int)) = ((i * c : Nat) : Int) ∧ wrap64 (wrap64 ((i : Int) * (c : Int)) + (j : Int)) = ((i * c + j : Nat) : Int) := by
  have hm : i * c ≤ 64 * 64 := Nat.mul_le_mul hi hc
  rw [← Int.natCast_mul]
  generalize i * c = p at *
  rw [w64 (by omega) (by omega), w64 (by omega) (by omega)]
  exact ⟨rfl, by omega⟩
theorem idx_lt {i c j n : Nat} (hi : i < n) (hj : j < c) : i * c + j < n * c := by
  have : (i + 1) * c ≤ n * c := Nat.mul_le_mul_right _ hi
  rw [Nat.succ_mul] at this
  omega
theorem At_eq {c i j : Nat} {M : List (List Int)} (h : U M c) (hm : M.length ≤ 64) (hc : c ≤ 64) (hi : i < M.length) (hj : j < c) (a : Int) : recoupref03_At.f a (c : Int) M.flatten (i : Int) (j : Int) = some (entry M i j) := by
  obtain ⟨_, e⟩ := idx_small (i := i) (c := c) (j := j) (by omega) hc (by omega)
  have hl := idx_lt hi hj
  unfold recoupref03_At.f
  rw [e, flat_len h, if_pos (Int.natCast_nonneg _), if_pos (Int.ofNat_lt.2 hl), rd_nat, flat_get h hi hj]
theorem Right_true {c : Nat} {M : List (List Int)} (h : U M c) (hm : M.length ≤ 64) (hc : c ≤ 64) : recoupref03_Right.f (M.length : Int) (c : Int) M.flatten = some true := by
  obtain ⟨e, _⟩ := idx_small (i := M.length) (c := c) (j := 0) hm hc (by omega)
  unfold recoupref03_Right.f
  rw [if_pos (by omega), if_pos (by omega), if_pos (by omega), if_pos (by omega), e, flat_len h]
  simp
theorem Row_l0 {c i : Nat} {M : List (List Int)} (h : U M c) (hm : M.length ≤ 64) (hc : c ≤ 64) (hi : i < M.length) : ∀ n j : Nat, j + n = c → Ends (fun k => recoupref03_Row.l0 k (i : Int) ((M.getD i []).take j) (j : Int) (M.length : Int) (c : Int) M.flatten) (M.getD i [], 0)
  | 0, j, hj => by
    obtain rfl : j = c := by omega
    refine Ends.succ (fun k => by rw [recoupref03_Row.l0]) (Ends.neg (by omega) (Ends.const ?_))
    rw [List.take_of_length_le (by rw [h.at hi]; exact Nat.le_refl _)]
  | n + 1, j, hj => by
    refine Ends.succ (fun k => by rw [recoupref03_Row.l0]) (Ends.pos (by omega) ?_)
    refine Ends.bind1 (At_eq h hm hc hi (by omega : j < c) _) ?_
    refine Ends.pos (by rw [List.length_take]; omega) ?_
    have e2 : wrap64 ((j : Int) + 1) = ((j + 1 : Nat) : Int) := by rw [w64 (by omega) (by omega)]; omega
    have e3 : (M.getD i []).take j ++ [entry M i j] = (M.getD i []).take (j + 1) := by
      have hl := h.at hi
      rw [List.take_succ_eq_append_getElem (by omega)]
      unfold entry
      rw [List.getD_eq_getElem?_getD (l := M.getD i []), List.getElem?_eq_getElem (by omega : j < (M.getD i []).length), Option.getD_some]
    rw [e2, e3]
    exact Row_l0 h hm hc hi n (j + 1) (by omega)
theorem Row_ends {c i : Nat} {M : List (List Int)} (h : U M c) (hm : M.length ≤ 64) (hc : c ≤ 64) (hi : i < M.length) : Ends (fun k => recoupref03_Row.f k (M.length : Int) (c : Int) M.flatten (i : Int)) (M.getD i [], 0) := by
  unfold recoupref03_Row.f
  refine Ends.bind1 (Right_true h hm hc) (Ends.pos rfl (Ends.neg (by omega) ?_))
  refine Ends.succ (fun k => by rw [recoupref03_Row.j0]) (Ends.neg (by rw [decide_eq_true_eq]; omega) ?_)
  simpa using Row_l0 h hm hc hi c 0 (by omega)
end Go.Proofs.YtjgcocfnilhggaaDoor.M
namespace Go.Proofs.YtjgcocfnilhggaaDoor.M
open Go.RowKit Go.Proofs.YtjgcocfnilhggaaDoorW.PrintWords Go.Proofs.YtjgcocfnilhggaaDoorW.PrintLast Go.Proofs.YtjgcocfnilhggaaDoorW.PrintMore Go.Proofs.YtjgcocfnilhggaaDoor.Q
set_option linter.unusedVariables false
theorem U.of {M D : List (List Int)} {cols wd : Nat} (h : Shp M D cols wd) : U M cols := fun r hr => by
 obtain ⟨i, hi, rfl⟩ := List.getElem_of_mem hr
 have := h.eM i hi
 rwa [List.getD_eq_getElem?_getD, List.getElem?_eq_getElem hi, Option.getD_some] at this
theorem Pick_l1 {c : Nat} {M : List (List Int)} (h : U M c) (hm : M.length ≤ 64) (hc : c ≤ 64) {L : List Int} (hL : ∀ x ∈ L, 0 ≤ x ∧ x < (M.length : Int)) (hl : L.length ≤ 64) (a b : Int) : ∀ n i : Nat, i + n = L.length →
  Ends (fun k => recoupref03_Pick.l1 k L (i : Int) (M.length : Int) (c : Int) M.flatten a b ((L.take i).map fun x => M.getD x.toNat []).flatten) (a, b, (L.map fun x => M.getD x.toNat []).flatten, 0)
 | 0, i, hi => by
  refine Ends.succ (fun k => by rw [recoupref03_Pick.l1]) (Ends.neg (by omega) (Ends.const ?_))
  rw [List.take_of_length_le (by omega)]
 | n + 1, i, hi => by
  have hiL : i < L.length := by omega
  refine Ends.succ (fun k => by rw [recoupref03_Pick.l1]) (Ends.pos (by omega) ?_)
  refine Ends.pos (Int.natCast_nonneg _) ?_
  have hx := hL _ (List.getElem_mem hiL)
  obtain ⟨x, hx'⟩ := Int.eq_ofNat_of_zero_le hx.1
  rw [rd_nat, List.getD_eq_getElem?_getD, List.getElem?_eq_getElem hiL, Option.getD_some, hx']
  have hxm : x < M.length := by omega
  refine Ends.bind (Row_ends h hm hc hxm) ?_
  have hfl : ((L.take i).map fun x => M.getD x.toNat []).flatten.length = i * c := by
   have hu : U ((L.take i).map fun x => M.getD x.toNat []) c := fun r hr => by
    obtain ⟨y, hy, rfl⟩ := List.mem_map.1 hr
    have := hL y (List.mem_of_mem_take hy)
    exact h.at (by omega)
   rw [flat_len hu, List.length_map, List.length_take, Nat.min_eq_left (by omega)]
  have hic : i * c ≤ 64 * 64 := Nat.mul_le_mul (by omega) hc
  have hrl := h.at hxm
  refine Ends.pos (by rw [hfl, hrl]; omega) ?_
  have e2 : wrap64 ((i : Int) + 1) = ((i + 1 : Nat) : Int) := by rw [w64 (by omega) (by omega)]; omega
  have e3 : ((L.take i).map fun x => M.getD x.toNat []).flatten ++ M.getD x [] = ((L.take (i + 1)).map fun x => M.getD x.toNat []).flatten := by
   rw [List.take_succ_eq_append_getElem hiL, List.map_append, List.flatten_append, hx']
   simp
  rw [e2, e3]
  exact Pick_l1 h hm hc hL hl a b n (i + 1) (by omega)
theorem Pick_l0 {c : Nat} {M : List (List Int)} (h : U M c) (hm : M.length ≤ 64) (hc : c ≤ 64) {L : List Int} (hL : ∀ x ∈ L, 0 ≤ x ∧ x < (M.length : Int)) (hl : L.length ≤ 64) : ∀ n i : Nat, i + n = L.length →
  Ends (fun k => recoupref03_Pick.l0 k L (i : Int) (M.length : Int) (c : Int) M.flatten) ((L.length : Int), (c : Int), (L.map fun x => M.getD x.toNat []).flatten, 0)
 | 0, i, hi => by
  refine Ends.succ (fun k => by rw [recoupref03_Pick.l0]) (Ends.neg (by omega) (Ends.neg (by omega) ?_))
  exact Pick_l1 h hm hc hL hl _ _ L.length 0 (by omega)
 | n + 1, i, hi => by
  have hiL : i < L.length := by omega
  have hx := hL _ (List.getElem_mem hiL)
  refine Ends.succ (fun k => by rw [recoupref03_Pick.l0]) (Ends.pos (by omega) ?_)
  refine Ends.pos (Int.natCast_nonneg _) ?_
  have e : rd L (i : Int) = L[i] := by rw [rd_nat, List.getD_eq_getElem?_getD, List.getElem?_eq_getElem hiL, Option.getD_some]
  rw [e]
  refine Ends.neg (by omega) (Ends.neg (by omega) ?_)
  have e2 : wrap64 ((i : Int) + 1) = ((i + 1 : Nat) : Int) := by rw [w64 (by omega) (by omega)]; omega
  rw [e2]
  exact Pick_l0 h hm hc hL hl n (i + 1) (by omega)
theorem Pick_ends {c : Nat} {M : List (List Int)} (h : U M c) (hm : M.length ≤ 64) (hc : c ≤ 64) {L : List Int} (hL : ∀ x ∈ L, 0 ≤ x ∧ x < (M.length : Int)) (hl : L.length ≤ 64) :
  Ends (fun k => recoupref03_Pick.f k (M.length : Int) (c : Int) M.flatten L) ((L.length : Int), (c : Int), (L.map fun x => M.getD x.toNat []).flatten, 0) := by
 unfold recoupref03_Pick.f
 exact Ends.bind1 (Right_true h hm hc) (Ends.pos rfl (Pick_l0 h hm hc hL hl L.length 0 (by omega)))
def sw (M : List (List Int)) (top i : Nat) : List (List Int) := (M.set i (M.getD top [])).set top (M.getD i [])
def ordL (n top i : Nat) : List Int := (((List.range n).map fun (x : Nat) => (x : Int)).set top (i : Int)).set i (top : Int)
theorem ordL_map {M : List (List Int)} {top i : Nat} (ht : top < M.length) (hi : i < M.length) : ((ordL M.length top i).map fun x => M.getD x.toNat []) = sw M top i := by
 unfold ordL sw
 refine List.ext_getElem (by simp) fun p h1 h2 => ?_
 have hp : p < M.length := by simpa using h2
 rw [List.getElem_map, List.getElem_set, List.getElem_set, List.getElem_set, List.getElem_set, List.getElem_map, List.getElem_range]
 by_cases e1 : i = p
 ·subst e1
  by_cases e2 : top = i
  ·subst e2; simp
  ·rw [if_pos rfl, if_neg e2, if_pos rfl]; simp
 ·by_cases e2 : top = p
  ·subst e2
   rw [if_neg e1, if_pos rfl, if_pos rfl]; simp
  ·rw [if_neg e1, if_neg e2, if_neg e2, if_neg e1]
   simp [List.getElem?_eq_getElem hp]
theorem ordL_range {n top i : Nat} (ht : top < n) (hi : i < n) : ∀ x ∈ ordL n top i, 0 ≤ x ∧ x < (n : Int) := fun x hx => by
 unfold ordL at hx
 rcases List.mem_or_eq_of_mem_set hx with hx | rfl
 ·rcases List.mem_or_eq_of_mem_set hx with hx | rfl
  ·obtain ⟨y, hy, rfl⟩ := List.mem_map.1 hx
   have : y < n := by simpa using hy
   omega
  ·omega
 ·omega
theorem mid_set {g r : List Int} {l : Nat} (hg : l < g.length) (hr : g.length = r.length) : (g.take l ++ r.drop l).set l (g.getD l 0) = g.take (l + 1) ++ r.drop (l + 1) := by
 rw [List.set_append_right _ _ (by rw [List.length_take]; omega), List.length_take, Nat.min_eq_left (by omega), Nat.sub_self, List.drop_eq_getElem_cons (by omega : l < r.length), List.set_cons_zero, List.take_succ_eq_append_getElem hg, List.append_assoc, List.getD_eq_getElem?_getD, List.getElem?_eq_getElem hg]
 rfl
theorem mid_get {g r : List Int} {l : Nat} (hg : l < g.length) (hr : g.length = r.length) : (g.take l ++ r.drop l).getD l 0 = r.getD l 0 := by
 rw [List.getD_eq_getElem?_getD, List.getD_eq_getElem?_getD, List.getElem?_append_right (by rw [List.length_take]; omega), List.length_take, Nat.min_eq_left (by omega), Nat.sub_self, List.getElem?_drop, Nat.add_zero]
def xrow (c : Int) (r s : List Int) : List Int := List.zipWith (fun x y => Go.bits .xor .u8 x (mulT c y)) r s
theorem xrow_mac (c : Int) (r s : List Int) : xrow c r s = xorL (s.map (mulT c)) r := by
 unfold xrow xorL
 rw [List.zipWith_map_left, List.zipWith_comm]
 congr 1
 funext a b
 show IntKind.u8.wrap ((BitVec.ofInt 8 _ ^^^ BitVec.ofInt 8 _).toNat : Int) = IntKind.u8.wrap ((BitVec.ofInt 8 _ ^^^ BitVec.ofInt 8 _).toNat : Int)
 rw [BitVec.xor_comm]
theorem xrow_zero {r s : List Int} (hr : bytesB r = true) (hl : r.length = s.length) : xrow 0 r s = r := by
 unfold xrow
 refine List.ext_getElem (by simp [hl]) fun p h1 h2 => ?_
 rw [List.getElem_zipWith]
 have hb := bytesB_at hr h2
 rw [List.getD_eq_getElem?_getD, List.getElem?_eq_getElem h2, Option.getD_some] at hb
 refine toE_inj (xor_range _ _) hb ?_
 rw [xor_el]
 show toE r[p] + toE (mulT 0 _) = _
 rw [show mulT 0 (s[p]'(by omega)) = 0 from by unfold mulT; rw [if_pos rfl], toE_zero, add_zero]
end Go.Proofs.YtjgcocfnilhggaaDoor.M
namespace Go.Proofs.YtjgcocfnilhggaaDoor.M
open Go.RowKit Go.Proofs.YtjgcocfnilhggaaDoorW.PrintWords Go.Proofs.YtjgcocfnilhggaaDoorW.PrintLast Go.Proofs.YtjgcocfnilhggaaDoorW.PrintMore Go.Proofs.YtjgcocfnilhggaaDoor.Q
set_option linter.unusedVariables false
theorem i64_succ {i : Nat} (h : i ≤ 4096) : wrap64 ((i : Int) + 1) = ((i + 1 : Nat) : Int) := by rw [w64 (by omega) (by omega)]; omega
theorem getD_set_self {α : Type} {l : List α} {i : Nat} {v d : α} (h : i < l.length) : (l.set i v).getD i d = v := by
 rw [List.getD_eq_getElem?_getD, List.getElem?_set_self h, Option.getD_some]
theorem getD_set_ne {α : Type} {l : List α} {i j : Nat} {v d : α} (h : i ≠ j) : (l.set i v).getD j d = l.getD j d := by
 rw [List.getD_eq_getElem?_getD, List.getD_eq_getElem?_getD, List.getElem?_set_ne h]
theorem set_getD_self {α : Type} {l : List α} {i : Nat} {d : α} (h : i < l.length) : l.set i (l.getD i d) = l := by
 rw [List.getD_eq_getElem?_getD, List.getElem?_eq_getElem h, Option.getD_some, List.set_getElem_self]
theorem xrow_length {c : Int} {r s : List Int} (h : r.length = s.length) : (xrow c r s).length = r.length := by unfold xrow; rw [List.length_zipWith]; omega
theorem xrow_get {c : Int} {r s : List Int} {l : Nat} (h1 : l < r.length) (h2 : l < s.length) : (xrow c r s).getD l 0 = Go.bits .xor .u8 (r.getD l 0) (mulT c (s.getD l 0)) := by
 unfold xrow
 rw [List.getD_eq_getElem?_getD, List.getD_eq_getElem?_getD, List.getD_eq_getElem?_getD, List.getElem?_zipWith, List.getElem?_eq_getElem h1, List.getElem?_eq_getElem h2]
 rfl
theorem Red_l4 {C : Nat} {M : List (List Int)} (h : U M C) (hm : M.length ≤ 64) (hc : C ≤ 64) {kk : Nat} (hk : kk < M.length) {s : List Int} (hs : s.length = C) (hsb : bytesB s = true) {c : Int} (hcb : 0 ≤ c ∧ c < 256) (x6 : List Int) (x7 x8 : Int) {R : Int × Int × List Int × List Int × Int}
  (hR : Ends (fun q => recoupref04_Reduce.l3 q x6 x7 x8 s ((kk + 1 : Nat) : Int) (M.length : Int) (C : Int) (M.set kk (xrow c (M.getD kk []) s)).flatten) R) :
  ∀ n l : Nat, l + n = C → Ends (fun q => recoupref04_Reduce.l4 q x6 x7 x8 s (kk : Int) c (l : Int) (M.length : Int) (C : Int) (M.set kk ((xrow c (M.getD kk []) s).take l ++ (M.getD kk []).drop l)).flatten) R
 | 0, l, hl => by
  obtain rfl : l = C := by omega
  have hr := h.at hk
  have hg := xrow_length (c := c) (hr.trans hs.symm)
  refine Ends.succ (fun k => by rw [recoupref04_Reduce.l4]) (Ends.neg (by omega) ?_)
  have e1 : (xrow c (M.getD kk []) s).take l = xrow c (M.getD kk []) s := List.take_of_length_le (by rw [hg, hr]; exact Nat.le_refl _)
  have e2 : (M.getD kk []).drop l = [] := List.drop_of_length_le (by rw [hr]; exact Nat.le_refl _)
  have e3 := i64_succ (i := kk) (by clear hR e1 e2 hg hr hcb; omega)
  rw [e1, e2, List.append_nil, e3]
  exact hR
 | n + 1, l, hl => by
  have hr := h.at hk
  have hg := xrow_length (c := c) (hr.trans hs.symm)
  have hlC : l < C := by omega
  have hk64 : kk ≤ 64 := by omega
  have hl64 : l ≤ 64 := by omega
  have hmid : ((xrow c (M.getD kk []) s).take l ++ (M.getD kk []).drop l).length = C := by rw [List.length_append, List.length_take, List.length_drop]; omega
  have hU := h.set (k := kk) hmid
  have hlen : (M.set kk ((xrow c (M.getD kk []) s).take l ++ (M.getD kk []).drop l)).length = M.length := List.length_set
  refine Ends.succ (fun k => by rw [recoupref04_Reduce.l4]) (Ends.pos (by omega) ?_)
  rw [(idx_small (i := kk) (c := C) (j := l) hk64 hc hl64).2]
  refine Ends.pos (Int.natCast_nonneg _) ?_
  have hix := idx_lt (c := C) hk hlC
  refine Ends.pos (by rw [flat_len hU, hlen]; exact Int.ofNat_lt.2 hix) ?_
  refine Ends.pos (Int.natCast_nonneg _) ?_
  have hls : l < s.length := by rw [hs]; exact hlC
  refine Ends.pos (Int.ofNat_lt.2 hls) ?_
  rw [rd_nat]
  refine Ends.bind (mulT_ends hcb (bytesB_at hsb hls)) ?_
  have e2 : (M.set kk ((xrow c (M.getD kk []) s).take l ++ (M.getD kk []).drop l)).flatten.set (((kk * C + l : Nat) : Int)).toNat (Go.bits .xor .u8 (rd (M.set kk ((xrow c (M.getD kk []) s).take l ++ (M.getD kk []).drop l)).flatten ((kk * C + l : Nat) : Int)) (mulT c (s.getD l 0))) = (M.set kk ((xrow c (M.getD kk []) s).take (l + 1) ++ (M.getD kk []).drop (l + 1))).flatten := by
   rw [rd_nat, Int.toNat_natCast, flat_get hU (by omega) hlC, flat_set _ hU (by omega) hlC, getD_set_self hk, List.set_set]
   have e3 : entry (M.set kk ((xrow c (M.getD kk []) s).take l ++ (M.getD kk []).drop l)) kk l = (M.getD kk []).getD l 0 := by
    unfold entry
    rw [getD_set_self hk, mid_get (by omega) (by omega)]
   rw [e3, ← xrow_get (by omega) (by omega), mid_set (by omega) (by omega)]
  rw [e2, i64_succ (by omega)]
  exact Red_l4 h hm hc hk hs hsb hcb x6 x7 x8 hR n (l + 1) (by omega)
theorem elim_top {col top : Nat} {s : List (List Int) × List (List Int)} : ∀ k, (elimTo col top k s).1.getD top [] = s.1.getD top []
 | 0 => rfl
 | k + 1 => by
  unfold elimTo
  simp only []
  split
  ·rename_i hh
   unfold macS
   rw [getD_set_ne hh.1]
   exact elim_top k
  ·exact elim_top k
theorem rows_bytes {M : List (List Int)} (h : rowsB M = true) (i : Nat) : bytesB (M.getD i []) = true := rowsB_at h i
theorem Red_l3 {C wd : Nat} {S D : List (List Int)} (h : Shp S D C wd) {top j : Nat} (ht : top < S.length) (hj : j < C) (x6 : List Int) (h6 : x6.length ≤ 64) {R : Int × Int × List Int × List Int × Int}
  (hR : Ends (fun q => recoupref04_Reduce.l0 q (x6 ++ [(j : Int)]) ((j + 1 : Nat) : Int) (S.length : Int) (C : Int) (elimTo j top S.length (S, D)).1.flatten) R) :
  ∀ n k : Nat, k + n = S.length → Ends (fun q => recoupref04_Reduce.l3 q x6 (j : Int) (top : Int) (S.getD top []) (k : Int) (S.length : Int) (C : Int) (elimTo j top k (S, D)).1.flatten) R
 | 0, k, hk => by
  obtain rfl : k = S.length := by omega
  refine Ends.succ (fun k => by rw [recoupref04_Reduce.l3]) (Ends.neg (by omega) (Ends.pos (by omega) ?_))
  have := h.small.2.1
  rw [i64_succ (by omega)]
  exact hR
 | n + 1, k, hk => by
  have hkS : k < S.length := by omega
  obtain ⟨hT, hTl⟩ := elim_shp (col := j) h ht k (by omega)
  have hm := h.small.1
  have hc := h.small.2.1
  have ih := Red_l3 h ht hj x6 h6 hR n (k + 1) (by omega)
  refine Ends.succ (fun k => by rw [recoupref04_Reduce.l3]) (Ends.pos (by omega) ?_)
  by_cases e : k = top
  ·refine Ends.pos (by omega) ?_
   rw [i64_succ (by omega)]
   have e1 : elimTo j top (k + 1) (S, D) = elimTo j top k (S, D) := by
    conv => lhs; unfold elimTo
    simp only []
    rw [if_neg (fun hh => hh.1 e)]
   rw [e1] at ih
   exact ih
  ·refine Ends.neg (by omega) ?_
   have hst := elim_top (col := j) (top := top) (s := (S, D)) k
   have hEx : elimTo j top (k + 1) (S, D) = (if k ≠ top ∧ entry (elimTo j top k (S, D)).1 k j ≠ 0 then (macS (elimTo j top k (S, D)).1 k top (entry (elimTo j top k (S, D)).1 k j), macS (elimTo j top k (S, D)).2 k top (entry (elimTo j top k (S, D)).1 k j)) else elimTo j top k (S, D)) := by
    conv => lhs; unfold elimTo
   rw [hEx] at ih
   generalize elimTo j top k (S, D) = T at *
   have hUT := U.of hT
   rw [← hTl]
   refine Ends.bind1 (At_eq hUT (by omega) hc (by omega) hj _) ?_
   have hcb := entry_byte hT (i := k) (j := j) (by omega) hj
   have hst' : T.1.getD top [] = S.getD top [] := hst
   have hs : (S.getD top []).length = C := h.eM top ht
   have h0 := Red_l4 hUT (by omega) hc (kk := k) (by omega) hs (rows_bytes h.bM top) hcb x6 (j : Int) (top : Int) (R := R) ?_ C 0 (by omega)
   ·rw [List.take_zero, List.nil_append, List.drop_zero, set_getD_self (by omega)] at h0
    exact h0
   ·rw [hTl]
    by_cases e0 : entry T.1 k j = 0
    ·rw [if_neg (fun hh => hh.2 e0)] at ih
     rw [e0, xrow_zero (rows_bytes hT.bM k) (by rw [hT.eM k (by omega), hs]), set_getD_self (by omega)]
     exact ih
    ·rw [if_pos ⟨e, e0⟩] at ih
     unfold macS at ih
     rw [hst'] at ih
     rw [xrow_mac]
     exact ih
theorem Red_l2 {C wd : Nat} {M D : List (List Int)} (h : Shp M D C wd) {top i j : Nat} (ht : top < M.length) (hi : i < M.length) (hj : j < C) (h0 : entry M i j ≠ 0) (x6 : List Int) (h6 : x6.length ≤ 64) {R : Int × Int × List Int × List Int × Int}
  (hR : Ends (fun q => recoupref04_Reduce.l0 q (x6 ++ [(j : Int)]) ((j + 1 : Nat) : Int) (M.length : Int) (C : Int) (stepAt M D top i j).1.flatten) R) :
  ∀ n k : Nat, k + n = M.length → Ends (fun q => recoupref04_Reduce.l2 q x6 (j : Int) (top : Int) (i : Int) (((List.range M.length).map fun (x : Nat) => (x : Int)).take k ++ (List.replicate M.length (0 : Int)).drop k) (k : Int) (M.length : Int) (C : Int) M.flatten) R
 | 0, k, hk => by
  obtain rfl : k = M.length := by omega
  have hm := h.small.1
  have hc := h.small.2.1
  have hU := U.of h
  have hlen : (((List.range M.length).map fun (x : Nat) => (x : Int)).take M.length ++ (List.replicate M.length (0 : Int)).drop M.length) = ((List.range M.length).map fun (x : Nat) => (x : Int)) := by
   rw [List.take_of_length_le (by simp), List.drop_of_length_le (by simp), List.append_nil]
  refine Ends.succ (fun k => by rw [recoupref04_Reduce.l2]) (Ends.neg (by omega) ?_)
  rw [hlen]
  have hl2 : (((List.range M.length).map fun (x : Nat) => (x : Int)).length : Int) = (M.length : Int) := by simp
  rw [hl2]
  refine Ends.pos (Int.natCast_nonneg _) (Ends.pos (by omega) (Ends.pos (Int.natCast_nonneg _) (Ends.pos (by omega) ?_)))
  have ho : ((((List.range M.length).map fun (x : Nat) => (x : Int)).set ((top : Int)).toNat (i : Int)).set ((i : Int)).toNat (top : Int)) = ordL M.length top i := rfl
  rw [ho]
  have hol : (ordL M.length top i).length = M.length := by simp [ordL]
  refine Ends.bind (Pick_ends hU hm hc (ordL_range ht hi) (by omega)) ?_
  rw [ordL_map ht hi, hol]
  have hsl : (sw M top i).length = M.length := by simp [sw]
  have hUs : U (sw M top i) C := (hU.set (k := i) (hU.at ht)).set (hU.at hi)
  have hst : (sw M top i).getD top [] = M.getD i [] := by unfold sw; rw [getD_set_self (by simpa using ht)]
  have hA := At_eq hUs (by omega) hc (i := top) (by omega) hj (M.length : Int)
  have he : entry (sw M top i) top j = entry M i j := by unfold entry; rw [hst]
  rw [he] at hA
  refine Ends.bind1 hA ?_
  have hb := entry_byte h hi hj
  refine Ends.bind (Inv_ends hb h0) ?_
  have hRw := Row_ends hUs (by omega) hc (i := top) (by omega)
  rw [hsl, hst] at hRw
  refine Ends.bind hRw ?_
  refine Ends.bind (Scale_ends (invT_range hb h0) (rows_bytes h.bM i) (by rw [h.eM i hi]; omega)) ?_
  have ht64 : top ≤ 64 := by omega
  have hix := idx_lt (c := C) ht (by omega : 0 < C)
  have hfl : (sw M top i).flatten.length = M.length * C := by rw [flat_len hUs, hsl]
  show Ends (fun k => if 0 ≤ wrap64 ((top : Int) * (C : Int)) then if wrap64 ((top : Int) * (C : Int)) < ((sw M top i).flatten.length : Int) then recoupref04_Reduce.l3 k x6 (j : Int) (top : Int) ((M.getD i []).map (mulT (invT (entry M i j)))) 0 (M.length : Int) (C : Int) (copyL (sw M top i).flatten (wrap64 ((top : Int) * (C : Int))) ((M.getD i []).map (mulT (invT (entry M i j))))) else none else none) R
  rw [(idx_small (i := top) (c := C) (j := 0) ht64 hc (by decide)).1, hfl]
  refine Ends.pos (Int.natCast_nonneg _) (Ends.pos (Int.ofNat_lt.2 (by omega)) ?_)
  have hrl : ((M.getD i []).map (mulT (invT (entry M i j)))).length = C := by rw [List.length_map]; exact h.eM i hi
  have hcp : copyL (sw M top i).flatten ((top * C : Nat) : Int) ((M.getD i []).map (mulT (invT (entry M i j)))) = (swapS (invT (entry M i j)) M top i).flatten := by
   unfold copyL
   have : (top + 1) * C ≤ M.length * C := Nat.mul_le_mul_right _ ht
   rw [Nat.succ_mul] at this
   rw [Int.toNat_natCast, hfl, List.take_of_length_le (by omega), flat_splice hUs (by omega) hrl]
   rfl
  rw [hcp]
  have hS := h.swap (o := invT (entry M i j)) ht hi
  have hSl : (swapS (invT (entry M i j)) M top i).length = M.length := by simp [swapS]
  have hSt : (swapS (invT (entry M i j)) M top i).getD top [] = (M.getD i []).map (mulT (invT (entry M i j))) := by
   unfold swapS
   rw [getD_set_self (by simpa using ht)]
  have := Red_l3 hS (by omega : top < _) hj x6 h6 (R := R) (by rw [hSl]; exact hR) M.length 0 (by omega)
  rw [hSl, hSt] at this
  exact this
 | n + 1, k, hk => by
  have hm := h.small.1
  refine Ends.succ (fun k => by rw [recoupref04_Reduce.l2]) (Ends.pos (by omega) (Ends.pos (Int.natCast_nonneg _) ?_))
  refine Ends.pos (by simp; omega) ?_
  have e := mid_set (g := (List.range M.length).map fun (x : Nat) => (x : Int)) (r := List.replicate M.length (0 : Int)) (l := k) (by simp; omega) (by simp)
  have e1 : ((List.range M.length).map fun (x : Nat) => (x : Int)).getD k 0 = (k : Int) := by
   rw [List.getD_eq_getElem?_getD, List.getElem?_map, List.getElem?_range (by omega)]
   rfl
  rw [e1] at e
  rw [Int.toNat_natCast, e, i64_succ (by omega)]
  exact Red_l2 h ht hi hj h0 x6 h6 hR n (k + 1) (by omega)
end Go.Proofs.YtjgcocfnilhggaaDoor.M
namespace Go.Proofs.YtjgcocfnilhggaaDoor.M
open Go.RowKit Go.Proofs.YtjgcocfnilhggaaDoorW.PrintWords Go.Proofs.YtjgcocfnilhggaaDoorW.PrintLast Go.Proofs.YtjgcocfnilhggaaDoorW.PrintMore Go.Proofs.YtjgcocfnilhggaaDoor.Q
set_option linter.unusedVariables false
theorem Red_l1 {C : Nat} {S : List (List Int)} (h : U S C) (hm : S.length ≤ 64) (hc : C ≤ 64) {j : Nat} (hj : j < C) (x6 : List Int) (top : Int) {R : Int × Int × List Int × List Int × Int} :
    ∀ n i : Nat, i + n = S.length → Ends (fun q => recoupref04_Reduce.j3 q x6 (j : Int) top (((seekCol S j n i).getD S.length : Nat) : Int) (S.length : Int) (C : Int) S.flatten) R →
      Ends (fun q => recoupref04_Reduce.l1 q x6 (j : Int) top (i : Int) (S.length : Int) (C : Int) S.flatten) R
  | 0, i, hi, hJ => by
    obtain rfl : i = S.length := by omega
    refine Ends.succ (fun k => by rw [recoupref04_Reduce.l1]) ?_
    exact Ends.neg (by omega) hJ
  | n + 1, i, hi, hJ => by
    refine Ends.succ (fun k => by rw [recoupref04_Reduce.l1]) (Ends.pos (by omega) ?_)
    refine Ends.bind1 (At_eq h hm hc (by omega) hj _) ?_
    unfold seekCol at hJ
    by_cases e : entry S i j = 0
    · rw [if_neg (fun x => x e)] at hJ
      refine Ends.pos e ?_
      rw [i64_succ (by omega)]
      exact Red_l1 h hm hc hj x6 top n (i + 1) (by omega) hJ
    · rw [if_pos e] at hJ
      exact Ends.neg e hJ
theorem red_done {M D : List (List Int)} {C wd : Nat} (h : Shp M D C wd) {j : Nat} (hf : M.length ≤ (redTo M D j).2.length) (n : Nat) : redTo M D (j + n) = redTo M D j :=
  red_skip n fun j' _ _ i' a b => by rw [(red_shp h j).2.1] at b; omega
theorem Red_l0 {C wd : Nat} {M D : List (List Int)} (h : Shp M D C wd) : ∀ n j : Nat, j + n = C →
    Ends (fun q => recoupref04_Reduce.l0 q (redTo M D j).2 (j : Int) (M.length : Int) (C : Int) (redTo M D j).1.1.flatten) ((M.length : Int), (C : Int), (redTo M D C).1.1.flatten, (redTo M D C).2, 0)
  | 0, j, hj => by
    obtain rfl : j = C := by omega
    refine Ends.succ (fun k => by rw [recoupref04_Reduce.l0]) (Ends.neg (by omega) ?_)
    exact Ends.succ (fun k => by rw [recoupref04_Reduce.j1]) (Ends.neg (by decide) (Ends.const rfl))
  | n + 1, j, hj => by
    have hs := red_shp h j
    have hm := h.small.1
    have hc := h.small.2.1
    have ih := Red_l0 h n (j + 1) (by omega)
    refine Ends.succ (fun k => by rw [recoupref04_Reduce.l0]) (Ends.pos (by omega) ?_)
    by_cases hf : M.length ≤ (redTo M D j).2.length
    · refine Ends.succ (fun k => by rw [recoupref04_Reduce.j1]) (Ends.neg (by rw [decide_eq_true_eq]; omega) (Ends.const ?_))
      have := red_done h hf (n + 1)
      rw [hj] at this
      rw [this]
    · refine Ends.succ (fun k => by rw [recoupref04_Reduce.j1]) (Ends.pos (by rw [decide_eq_true_eq]; omega) ?_)
      have hE : redTo M D (j + 1) = redStep j (redTo M D j) := rfl
      rw [hE] at ih
      obtain ⟨hS, hSl, _, hpj⟩ := hs
      generalize hT : redTo M D j = T at *
      have hU := U.of hS
      have hp64 : T.2.length ≤ 64 := by omega
      have h1 := Red_l1 hU (by omega) hc (j := j) (by omega) T.2 (T.2.length : Int) (R := ((M.length : Int), (C : Int), (redTo M D C).1.1.flatten, (redTo M D C).2, 0)) (T.1.1.length - T.2.length) T.2.length (by omega) ?_
      · rw [hSl] at h1
        exact h1
      · show Ends (fun q => recoupref04_Reduce.j3 q T.2 (j : Int) (T.2.length : Int) (((firstIn T.1.1 T.2.length j).getD T.1.1.length : Nat) : Int) (T.1.1.length : Int) (C : Int) T.1.1.flatten) _
        cases hfi : firstIn T.1.1 T.2.length j with
        | none =>
          rw [redStep_none hfi] at ih
          refine Ends.succ (fun k => by rw [recoupref04_Reduce.j3]) ?_
          refine Ends.pos (by rw [Option.getD_none]) ?_
          rw [i64_succ (by omega), hSl]
          exact ih
        | some i =>
          rw [redStep_some hfi] at ih
          obtain ⟨q1, q2, q3, _⟩ := seekCol_spec _ _ hfi
          refine Ends.succ (fun k => by rw [recoupref04_Reduce.j3]) (Ends.neg (by rw [Option.getD_some]; omega) ?_)
          refine Ends.pos (Int.natCast_nonneg _) (Ends.pos (by rw [Int.toNat_natCast]; omega) ?_)
          rw [Int.toNat_natCast, Option.getD_some]
          have h2 := Red_l2 hS (top := T.2.length) (i := i) (j := j) (by omega) (by omega) (by omega) q3 T.2 hp64 (R := ((M.length : Int), (C : Int), (redTo M D C).1.1.flatten, (redTo M D C).2, 0)) (by rw [hSl]; exact ih) T.1.1.length 0 (by omega)
          rw [List.take_zero, List.nil_append, List.drop_zero] at h2
          exact h2
theorem Right_eq {a b : Int} {l : List Int} (ha : -9223372036854775808 ≤ a ∧ a ≤ 9223372036854775807) : recoupref03_Right.f a b l = matrix_Right.f a b l := by
  unfold recoupref03_Right.f matrix_Right.f matrix_side.f
  by_cases h1 : a ≥ 0 <;> by_cases h2 : a ≤ 64 <;> by_cases h3 : b ≥ 0 <;> by_cases h4 : b ≤ 64 <;> simp only [h1, h2, h3, h4, if_true, if_false, Option.bind_some, decide_true, decide_false, Bool.false_eq_true]
theorem Right_cases (a b : Int) (l : List Int) : recoupref03_Right.f a b l = some true ∨ recoupref03_Right.f a b l = some false := by
  unfold recoupref03_Right.f
  split
  · split
    · split
      · split
        · by_cases h : ((l.length : Int) == wrap64 (a * b)) = true
          · left; rw [h]
          · right; rw [Bool.not_eq_true] at h; rw [h]
        · exact .inr rfl
      · exact .inr rfl
    · exact .inr rfl
  · exact .inr rfl
theorem bytesB_wf {l : List Int} (h : ∀ x ∈ l, (Lit.int .u8 x).wf = true) : bytesB l = true := by
  unfold bytesB
  rw [List.all_eq_true]
  intro x hx
  have := wf_u8 (h x hx)
  simp
  omega
theorem Copy_eq {a b : Int} {l : List Int} (h : l.length ≤ 4096) : recoupref03_Copy.f a b l = some (a, b, l) := by
  unfold recoupref03_Copy.f recoupref01_Copy.f
  rw [Option.bind_some, if_pos (by rw [List.length_nil]; omega)]
  rfl
theorem right_nat {a b : Int} {l : List Int} (h : matrix_Right.f a b l = some true) : ∃ r c : Nat, a = (r : Int) ∧ b = (c : Int) ∧ r ≤ 64 ∧ c ≤ 64 ∧ l.length = r * c ∧ l.length ≤ 4096 := by
  obtain ⟨h1, h2, h3, h4, h5⟩ := right_true h
  obtain ⟨r, rfl⟩ := Int.eq_ofNat_of_zero_le h1
  obtain ⟨c, rfl⟩ := Int.eq_ofNat_of_zero_le h3
  rw [Int.toNat_natCast, Int.toNat_natCast] at h5
  have : r * c ≤ 64 * 64 := Nat.mul_le_mul (by omega) (by omega)
  exact ⟨r, c, rfl, rfl, by omega, by omega, h5, by omega⟩
def redL (r c : Nat) (l : List Int) : (List (List Int) × List (List Int)) × List Int := redTo (rowsOf c r l) (List.replicate r []) c
theorem Reduce_ends {r c : Nat} {l : List Int} (hr : r ≤ 64) (hc : c ≤ 64) (hl : l.length = r * c) (hb : bytesB l = true) : Ends (fun k => recoupref04_Reduce.f k (r : Int) (c : Int) l) ((r : Int), (c : Int), (redL r c l).1.1.flatten, (redL r c l).2, 0) := by
  have hf := flat_rowsOf r l hl
  have hlen := rowsOf_length c r l
  have hm : r * c ≤ 64 * 64 := Nat.mul_le_mul hr hc
  unfold recoupref04_Reduce.f
  have h1 := Right_true hf.2 (by omega) hc
  rw [hf.1, hlen] at h1
  refine Ends.bind1 h1 (Ends.pos rfl ?_)
  refine Ends.bind1 (Copy_eq (by omega)) ?_
  have := Red_l0 (shp_nil hb hl ⟨hr, hc⟩) c 0 (by omega)
  rw [hlen] at this
  show Ends (fun k => recoupref04_Reduce.l0 k [] 0 (r : Int) (c : Int) l) _
  have e : (redTo (rowsOf c r l) (List.replicate r []) 0).1.1.flatten = l := hf.1
  rw [e] at this
  exact this
theorem gReduce_eq {r c : Nat} {l : List Int} (hR : matrix_Right.f (r : Int) (c : Int) l = some true) (hb : bytesB l = true) : gauss_Reduce.f (r : Int) (c : Int) l = some ((r : Int), (c : Int), (redL r c l).1.1.flatten, (redL r c l).2, 0) := by
  unfold gauss_Reduce.f
  rw [hR, Option.bind_some, if_pos rfl, if_pos hb]
  rfl
end Go.Proofs.YtjgcocfnilhggaaDoor.M
namespace Go.Proofs.YtjgcocfnilhggaaDoor.M
open Go.RowKit Go.Proofs.YtjgcocfnilhggaaDoorW.PrintWords Go.Proofs.YtjgcocfnilhggaaDoorW.PrintLast Go.Proofs.YtjgcocfnilhggaaDoorW.PrintMore Go.Proofs.YtjgcocfnilhggaaDoor.Q
theorem Rank_ends {r c : Nat} {l : List Int} (hr : r ≤ 64) (hc : c ≤ 64) (hl : l.length = r * c) (hb : bytesB l = true) : Ends (fun k => recoupref04_Rank.f k (r : Int) (c : Int) l) (((redL r c l).2.length : Int), 0) := by
 unfold recoupref04_Rank.f
 exact Ends.bind (Reduce_ends hr hc hl hb) (Ends.const rfl)
end Go.Proofs.YtjgcocfnilhggaaDoor.M
namespace Go.Proofs.YtjgcocfnilhggaaDoor.M
open Go.RowKit Go.Proofs.YtjgcocfnilhggaaDoorW.PrintWords Go.Proofs.YtjgcocfnilhggaaDoorW.PrintLast Go.Proofs.YtjgcocfnilhggaaDoorW.PrintMore Go.Proofs.YtjgcocfnilhggaaDoor.Q
set_option linter.unusedVariables false
def aug (M D : List (List Int)) : List (List Int) := List.zipWith (· ++ ·) M D
theorem aug_length {M D : List (List Int)} (h : D.length = M.length) : (aug M D).length = M.length := by unfold aug; rw [List.length_zipWith]; omega
theorem aug_get {M D : List (List Int)} (h : D.length = M.length) (i : Nat) : (aug M D).getD i [] = M.getD i [] ++ D.getD i [] := by
  unfold aug
  rw [List.getD_eq_getElem?_getD, List.getD_eq_getElem?_getD, List.getD_eq_getElem?_getD, List.getElem?_zipWith]
  by_cases hi : i < M.length
  · rw [List.getElem?_eq_getElem hi, List.getElem?_eq_getElem (by omega)]
    rfl
  · rw [List.getElem?_eq_none (by omega), List.getElem?_eq_none (by omega)]
    rfl
theorem aug_set {M D : List (List Int)} (h : D.length = M.length) (i : Nat) (r s : List Int) : aug (M.set i r) (D.set i s) = (aug M D).set i (r ++ s) := by
  unfold aug
  refine List.ext_getElem (by simp) fun p h1 h2 => ?_
  rw [List.getElem_zipWith, List.getElem_set, List.getElem_set, List.getElem_set, List.getElem_zipWith]
  split <;> rfl
theorem aug_entry {M D : List (List Int)} {C i j : Nat} (h : D.length = M.length) (hr : (M.getD i []).length = C) (hj : j < C) : entry (aug M D) i j = entry M i j := by
  unfold entry
  rw [aug_get h, List.getD_eq_getElem?_getD, List.getD_eq_getElem?_getD (l := M.getD i []), List.getElem?_append_left (by omega)]
theorem aug_entry_right {M D : List (List Int)} {C i j : Nat} (h : D.length = M.length) (hr : (M.getD i []).length = C) : entry (aug M D) i (C + j) = entry D i j := by
  unfold entry
  rw [aug_get h, List.getD_eq_getElem?_getD, List.getD_eq_getElem?_getD (l := D.getD i []), List.getElem?_append_right (by omega), hr, Nat.add_sub_cancel_left]
theorem aug_U {M D : List (List Int)} {C wd : Nat} (h : Shp M D C wd) : U (aug M D) (C + wd) := fun r hr => by
  obtain ⟨i, hi, rfl⟩ := List.getElem_of_mem hr
  have hl := aug_length h.len
  have := aug_get h.len i
  rw [List.getD_eq_getElem?_getD, List.getElem?_eq_getElem hi, Option.getD_some] at this
  rw [this, List.length_append, h.eM i (by omega), h.eD i (by omega)]
theorem aug_bytes {M D : List (List Int)} {C wd : Nat} (h : Shp M D C wd) : rowsB (aug M D) = true := by
  rw [rowsB, List.all_eq_true]
  intro r hr
  obtain ⟨i, hi, rfl⟩ := List.getElem_of_mem hr
  have := aug_get h.len i
  rw [List.getD_eq_getElem?_getD, List.getElem?_eq_getElem hi, Option.getD_some] at this
  rw [this]
  have h1 := rows_bytes h.bM i
  have h2 := rows_bytes h.bD i
  unfold bytesB at h1 h2 ⊢
  rw [List.all_append, h1, h2]
  rfl
theorem swap_aug {M D : List (List Int)} (h : D.length = M.length) (o : Int) (top i : Nat) : aug (swapS o M top i) (swapS o D top i) = swapS o (aug M D) top i := by
  unfold swapS
  rw [aug_set (by simp [h]), aug_set (by simp [h]), aug_set h, aug_get h, aug_get h, List.map_append]
theorem xorL_append {a b c d : List Int} (h : a.length = c.length) : xorL (a ++ b) (c ++ d) = xorL a c ++ xorL b d := by
  unfold xorL
  rw [List.zipWith_append h]
theorem mac_aug {M D : List (List Int)} {C wd : Nat} (h : Shp M D C wd) {k top : Nat} (hk : k < M.length) (ht : top < M.length) (c : Int) : aug (macS M k top c) (macS D k top c) = macS (aug M D) k top c := by
  unfold macS
  rw [aug_set h.len, aug_get h.len, aug_get h.len, List.map_append, xorL_append (by rw [List.length_map, h.eM top ht, h.eM k hk])]
def el1 (col top : Nat) : Nat → List (List Int) → List (List Int)
  | 0, A => A
  | k + 1, A => let t := el1 col top k A; if k ≠ top ∧ entry t k col ≠ 0 then macS t k top (entry t k col) else t
theorem el1_aug {M D : List (List Int)} {C wd col top : Nat} (h : Shp M D C wd) (ht : top < M.length) (hc : col < C) : ∀ k, k ≤ M.length → el1 col top k (aug M D) = aug (elimTo col top k (M, D)).1 (elimTo col top k (M, D)).2
  | 0, _ => rfl
  | k + 1, hk => by
    obtain ⟨hT, hTl⟩ := elim_shp (col := col) h ht k (by omega)
    have ih := el1_aug h ht hc k (by omega)
    have e1 : el1 col top (k + 1) (aug M D) = (if k ≠ top ∧ entry (el1 col top k (aug M D)) k col ≠ 0 then macS (el1 col top k (aug M D)) k top (entry (el1 col top k (aug M D)) k col) else el1 col top k (aug M D)) := rfl
    have e2 : elimTo col top (k + 1) (M, D) = (if k ≠ top ∧ entry (elimTo col top k (M, D)).1 k col ≠ 0 then (macS (elimTo col top k (M, D)).1 k top (entry (elimTo col top k (M, D)).1 k col), macS (elimTo col top k (M, D)).2 k top (entry (elimTo col top k (M, D)).1 k col)) else elimTo col top k (M, D)) := rfl
    rw [e1, e2, ih]
    generalize elimTo col top k (M, D) = T at *
    rw [aug_entry hT.len (hT.eM k (by omega)) hc]
    split
    · rw [← mac_aug hT (by omega) (by omega)]
    · rfl
theorem seek_aug {M D : List (List Int)} {C wd j : Nat} (h : Shp M D C wd) (hj : j < C) : ∀ f i, i + f ≤ M.length → seekCol (aug M D) j f i = seekCol M j f i
  | 0, _, _ => rfl
  | f + 1, i, hi => by
    unfold seekCol
    rw [aug_entry h.len (h.eM i (by omega)) hj, seek_aug h hj f (i + 1) (by omega)]
def stepA (j : Nat) (s : List (List Int) × List Int) : List (List Int) × List Int := match firstIn s.1 s.2.length j with
  | none => s
  | some i => (el1 j s.2.length s.1.length (swapS (invT (entry s.1 i j)) s.1 s.2.length i), s.2 ++ [(j : Int)])
def redA (A : List (List Int)) : Nat → List (List Int) × List Int
  | 0 => (A, [])
  | j + 1 => stepA j (redA A j)
theorem stepA_none {j : Nat} {s : List (List Int) × List Int} (h : firstIn s.1 s.2.length j = none) : stepA j s = s := by unfold stepA; rw [h]
theorem stepA_some {j i : Nat} {s : List (List Int) × List Int} (h : firstIn s.1 s.2.length j = some i) : stepA j s = (el1 j s.2.length s.1.length (swapS (invT (entry s.1 i j)) s.1 s.2.length i), s.2 ++ [(j : Int)]) := by unfold stepA; rw [h]
theorem red_aug {M D : List (List Int)} {C wd : Nat} (h : Shp M D C wd) : ∀ j, j ≤ C → redA (aug M D) j = (aug (redTo M D j).1.1 (redTo M D j).1.2, (redTo M D j).2)
  | 0, _ => rfl
  | j + 1, hj => by
    have hs := red_shp h j
    have ih := red_aug h j (by omega)
    show stepA j (redA (aug M D) j) = (aug (redStep j (redTo M D j)).1.1 (redStep j (redTo M D j)).1.2, (redStep j (redTo M D j)).2)
    rw [ih]
    generalize redTo M D j = T at *
    obtain ⟨hS, hSl, hp, _⟩ := hs
    have hal := aug_length hS.len
    have hfi : firstIn (aug T.1.1 T.1.2) T.2.length j = firstIn T.1.1 T.2.length j := by
      unfold firstIn
      rw [hal, seek_aug hS (by omega) _ _ (by omega)]
    cases hf : firstIn T.1.1 T.2.length j with
    | none => rw [redStep_none hf, stepA_none (hfi.trans hf)]
    | some i =>
      obtain ⟨q1, q2, q3, _⟩ := seekCol_spec _ _ hf
      rw [redStep_some hf, stepA_some (s := (aug T.1.1 T.1.2, T.2)) (hfi.trans hf)]
      show (el1 j T.2.length (aug T.1.1 T.1.2).length (swapS (invT (entry (aug T.1.1 T.1.2) i j)) (aug T.1.1 T.1.2) T.2.length i), T.2 ++ [(j : Int)]) = _
      have hsh := hS.swap (o := invT (entry T.1.1 i j)) (by omega : T.2.length < _) (by omega : i < _)
      have hsl : (swapS (invT (entry T.1.1 i j)) T.1.1 T.2.length i).length = T.1.1.length := by simp [swapS]
      rw [hal, aug_entry hS.len (hS.eM i (by omega)) (by omega), ← swap_aug hS.len, el1_aug hsh (by omega) (by omega) _ (by omega)]
      rfl
structure Sh (A : List (List Int)) (W : Nat) : Prop where
  u : U A W
  b : rowsB A = true
  m : A.length ≤ 64
  w : W ≤ 65
theorem Sh.set {A : List (List Int)} {W k : Nat} {r : List Int} (h : Sh A W) (hr : r.length = W) (hb : bytesB r = true) : Sh (A.set k r) W := by
  refine ⟨h.u.set hr, ?_, by rw [List.length_set]; exact h.m, h.w⟩
  have := h.b
  rw [rowsB, List.all_eq_true] at this ⊢
  intro x hx
  rcases List.mem_or_eq_of_mem_set hx with hx | rfl
  · exact this x hx
  · exact hb
theorem scale_bytes {o : Int} (ho : 0 ≤ o ∧ o < 256) {r : List Int} (h : bytesB r = true) : bytesB (r.map (mulT o)) = true := by
  unfold bytesB
  rw [List.all_eq_true]
  intro x hx
  obtain ⟨y, hy, rfl⟩ := List.mem_map.1 hx
  unfold bytesB at h
  rw [List.all_eq_true] at h
  have hy2 := h y hy
  simp only [Bool.and_eq_true, decide_eq_true_eq] at hy2
  have := mulT_range ho hy2
  simp
  omega
theorem xorL_bytes {r s : List Int} : bytesB (xorL r s) = true := by
  unfold bytesB xorL
  rw [List.all_eq_true]
  intro x hx
  obtain ⟨i, hi, rfl⟩ := List.getElem_of_mem hx
  rw [List.getElem_zipWith]
  have := xor_range (r[i]'(by simp at hi; omega)) (s[i]'(by simp at hi; omega))
  simp
  omega
theorem Sh.byte {A : List (List Int)} {W i j : Nat} (h : Sh A W) (hi : i < A.length) (hj : j < W) : 0 ≤ entry A i j ∧ entry A i j < 256 := bytesB_at (rows_bytes h.b i) (by rw [h.u.at hi]; exact hj)
theorem Sh.swap {A : List (List Int)} {W top i : Nat} {o : Int} (h : Sh A W) (ho : 0 ≤ o ∧ o < 256) (ht : top < A.length) (hi : i < A.length) : Sh (swapS o A top i) W := by
  unfold swapS
  exact ((h.set (h.u.at ht) (rows_bytes h.b top)).set (h.u.at hi) (rows_bytes h.b i)).set (by rw [List.length_map]; exact h.u.at hi) (scale_bytes ho (rows_bytes h.b i))
theorem Sh.mac {A : List (List Int)} {W k top : Nat} (h : Sh A W) (hk : k < A.length) (ht : top < A.length) (c : Int) : Sh (macS A k top c) W := by
  unfold macS
  refine h.set ?_ xorL_bytes
  unfold xorL
  rw [List.length_zipWith, List.length_map, h.u.at ht, h.u.at hk]
  omega
theorem Sh.el {A : List (List Int)} {W col top : Nat} (h : Sh A W) (ht : top < A.length) : ∀ k, k ≤ A.length → Sh (el1 col top k A) W ∧ (el1 col top k A).length = A.length
  | 0, _ => ⟨h, rfl⟩
  | k + 1, hk => by
    obtain ⟨ih, il⟩ := Sh.el (col := col) h ht k (by omega)
    show Sh (if k ≠ top ∧ entry (el1 col top k A) k col ≠ 0 then macS (el1 col top k A) k top (entry (el1 col top k A) k col) else el1 col top k A) W ∧ (if k ≠ top ∧ entry (el1 col top k A) k col ≠ 0 then macS (el1 col top k A) k top (entry (el1 col top k A) k col) else el1 col top k A).length = A.length
    split
    · exact ⟨ih.mac (by omega) (by omega) _, by simp [macS, il]⟩
    · exact ⟨ih, il⟩
end Go.Proofs.YtjgcocfnilhggaaDoor.M
namespace Go.Proofs.YtjgcocfnilhggaaDoor.M
open Go.RowKit Go.Proofs.YtjgcocfnilhggaaDoorW.PrintWords Go.Proofs.YtjgcocfnilhggaaDoorW.PrintLast Go.Proofs.YtjgcocfnilhggaaDoorW.PrintMore Go.Proofs.YtjgcocfnilhggaaDoor.Q
set_option linter.unusedVariables false
theorem map_getD {f : Int → Int} {l : List Int} {i : Nat} (h : i < l.length) : (l.map f).getD i 0 = f (l.getD i 0) := by
 rw [List.getD_eq_getElem?_getD, List.getD_eq_getElem?_getD, List.getElem?_map, List.getElem?_eq_getElem h]
 rfl
end Go.Proofs.YtjgcocfnilhggaaDoor.M
namespace Go.Proofs.YtjgcocfnilhggaaDoor.M
open Go.RowKit Go.Proofs.YtjgcocfnilhggaaDoorW.PrintWords Go.Proofs.YtjgcocfnilhggaaDoorW.PrintLast Go.Proofs.YtjgcocfnilhggaaDoorW.PrintMore Go.Proofs.YtjgcocfnilhggaaDoor.Q
set_option linter.unusedVariables false
theorem fill_length (f : Nat → List Int) (n i : Nat) : (fillTo f n i).length = n := by simp [fillTo]
theorem fill_get {f : Nat → List Int} {n k : Nat} (hk : k < n) : (fillTo f n n).getD k [] = f k := by
 unfold fillTo
 rw [List.getD_eq_getElem?_getD, List.getElem?_map, List.getElem?_range hk]
 simp [hk]
def Ycol (y : List Int) (r : Nat) : List (List Int) := fillTo (colRow y) r r
theorem shp_Y {r c : Nat} {l y : List Int} (hb : bytesB l = true) (hyb : bytesB y = true) (hl : l.length = r * c) (hr : r ≤ 64) (hc : c ≤ 64) (hy : y.length = r) : Shp (rowsOf c r l) (Ycol y r) c 1 := by
 refine shp_of hb hl ⟨hr, hc⟩ (fill_length _ _ _) ?_ (fun i hi => by show ((fillTo (colRow y) r r).getD i []).length = 1; rw [fill_get hi]; rfl) (by decide)
 rw [rowsB, List.all_eq_true]
 intro x hx
 obtain ⟨i, hi, rfl⟩ := List.getElem_of_mem hx
 have hir : i < r := by rw [show (fillTo (colRow y) r r).length = r from fill_length _ _ _] at hi; exact hi
 have := fill_get (f := colRow y) hir
 rw [List.getD_eq_getElem?_getD, List.getElem?_eq_getElem (by rw [fill_length]; exact hir), Option.getD_some] at this
 rw [this]
 have hb := bytesB_at hyb (i := i) (by omega)
 unfold colRow bytesB
 rw [List.all_cons, List.all_nil, Bool.and_true, Bool.and_eq_true, decide_eq_true_eq, decide_eq_true_eq]
 exact hb
abbrev SR := List Int × Bool × Int
theorem bad_iff {P : List Int} {D : List (List Int)} : ∀ f i, badFrom P D f i = true ↔ ∃ i', i ≤ i' ∧ i' < i + f ∧ P.length ≤ i' ∧ entry D i' 0 ≠ 0
 | 0, i => by
  constructor
  ·intro h; cases h
  ·rintro ⟨i', h1, h2, _⟩; omega
 | f + 1, i => by
  unfold badFrom
  by_cases h : P.length ≤ i ∧ entry D i 0 ≠ 0
  ·rw [if_pos h]
   exact ⟨fun _ => ⟨i, Nat.le_refl _, by omega, h.1, h.2⟩, fun _ => rfl⟩
  ·rw [if_neg h, bad_iff f (i + 1)]
   constructor
   ·rintro ⟨i', h1, h2, h3, h4⟩; exact ⟨i', by omega, by omega, h3, h4⟩
   ·rintro ⟨i', h1, h2, h3, h4⟩
    by_cases e : i' = i
    ·subst e; exact absurd ⟨h3, h4⟩ h
    ·exact ⟨i', by omega, by omega, h3, h4⟩
theorem seek_zero {M : List (List Int)} {j : Nat} : ∀ f i, seekCol M j f i = none → ∀ i', i ≤ i' → i' < i + f → entry M i' j = 0
 | 0, i, _, i', a, b => by omega
 | f + 1, i, h, i', a, b => by
  unfold seekCol at h
  by_cases e : entry M i j = 0
  ·rw [if_neg (fun x => x e)] at h
   by_cases e2 : i' = i
   ·rw [e2]; exact e
   ·exact seek_zero f (i + 1) h i' (by omega) (by omega)
  ·rw [if_pos e] at h; cases h
theorem solveTo_length (P : List Int) (D : List (List Int)) (c : Nat) : ∀ i, (solveTo P D c i).length = c
 | 0 => by simp [solveTo]
 | i + 1 => by
  unfold solveTo
  split
  ·rw [List.length_set]; exact solveTo_length P D c i
  ·exact solveTo_length P D c i
theorem solveTo_more {P : List Int} {D : List (List Int)} {c i : Nat} (h : P.length ≤ i) : solveTo P D c i = solveTo P D c P.length := by
 obtain ⟨d, rfl⟩ : ∃ d, i = P.length + d := ⟨i - P.length, by omega⟩
 clear h
 induction d with
 | zero => rfl
 | succ d ih =>
  rw [show P.length + (d + 1) = (P.length + d) + 1 from rfl, solveTo, if_neg (by omega)]
  exact ih
def solR (r c : Nat) (l y : List Int) : SR := let T := redTo (rowsOf c r l) (Ycol y r) c
 if badFrom T.2 T.1.2 r 0 = true then ([], false, 0) else (solveTo T.2 T.1.2 c r, true, 0)
theorem Sh.aug {M D : List (List Int)} {C : Nat} (h : Shp M D C 1) : Sh (aug M D) (C + 1) := ⟨aug_U h, aug_bytes h, by rw [aug_length h.len]; exact h.small.1, by have := h.small.2.1; omega⟩
theorem gSolve_eq {r c : Nat} {l y : List Int} (hR : matrix_Right.f (r : Int) (c : Int) l = some true) (hb : bytesB l = true) (hy : y.length = r) (hyb : bytesB y = true) : gauss_Solve.f (r : Int) (c : Int) l y = some (solR r c l y) := by
 unfold gauss_Solve.f
 rw [hR, Option.bind_some, if_pos rfl, if_pos (by omega), if_pos ⟨hb, hyb⟩]
 unfold solR gauss_Solve.st Ycol
 simp only [Int.toNat_natCast]
 split <;> rfl
theorem solR_err (r c : Nat) (l y : List Int) : (solR r c l y).2.2 = 0 := by
 unfold solR
 simp only []
 split <;> rfl
theorem solR_len (r c : Nat) (l y : List Int) (h : (solR r c l y).2.1 = true) : (solR r c l y).1.length = c := by
 unfold solR at h ⊢
 simp only [] at h ⊢
 split
 ·rename_i e
  rw [if_pos e] at h; cases h
 ·exact solveTo_length _ _ _ _
end Go.Proofs.YtjgcocfnilhggaaDoor.M
namespace Go.Proofs.YtjgcocfnilhggaaDoor.M
open Go.RowKit Go.Proofs.YtjgcocfnilhggaaDoorW.PrintWords Go.Proofs.YtjgcocfnilhggaaDoorW.PrintLast Go.Proofs.YtjgcocfnilhggaaDoorW.PrintMore Go.Proofs.YtjgcocfnilhggaaDoor.Q
set_option linter.unusedVariables false
theorem entry_set {A : List (List Int)} {i a b : Nat} {r : List Int} (hi : i < A.length) : entry (A.set i r) a b = if a = i then r.getD b 0 else entry A a b := by
  unfold entry
  by_cases e : a = i
  · subst e
    rw [if_pos rfl, getD_set_self hi]
  · rw [if_neg e, getD_set_ne (fun x => e x.symm)]
theorem xor_getD {r s : List Int} {b : Nat} (h1 : b < r.length) (h2 : b < s.length) : (xorL r s).getD b 0 = Go.bits .xor .u8 (r.getD b 0) (s.getD b 0) := by
  unfold xorL
  rw [List.getD_eq_getElem?_getD, List.getD_eq_getElem?_getD, List.getD_eq_getElem?_getD, List.getElem?_zipWith, List.getElem?_eq_getElem h1, List.getElem?_eq_getElem h2]
  rfl
theorem entry_swap {A : List (List Int)} {W top i a b : Nat} {o : Int} (h : Sh A W) (ht : top < A.length) (hi : i < A.length) (hb : b < W) : entry (swapS o A top i) a b = if a = top then mulT o (entry A i b) else if a = i then entry A top b else entry A a b := by
  unfold swapS
  have h2 := h.u.at hi
  rw [entry_set (by simpa using ht), map_getD (by omega), entry_set (by simpa using ht), entry_set hi]
  by_cases e : a = top
  · rw [if_pos e, if_pos e]; rfl
  · rw [if_neg e, if_neg e, if_neg e]; rfl
theorem entry_mac {A : List (List Int)} {W top k a b : Nat} {c : Int} (h : Sh A W) (ht : top < A.length) (hk : k < A.length) (hb : b < W) : entry (macS A k top c) a b = if a = k then Go.bits .xor .u8 (mulT c (entry A top b)) (entry A k b) else entry A a b := by
  unfold macS
  have h1 := h.u.at ht
  have h2 := h.u.at hk
  rw [entry_set hk, xor_getD (by rw [List.length_map]; omega) (by omega), map_getD (by omega)]
  rfl
theorem Sh.of1 {M D : List (List Int)} {C wd : Nat} (h : Shp M D C wd) : Sh M C := ⟨U.of h, h.bM, h.small.1, by have := h.small.2.1; omega⟩
theorem Sh.of2 {M D : List (List Int)} {C wd : Nat} (h : Shp M D C wd) : Sh D wd := ⟨fun r hr => by
  obtain ⟨i, hi, rfl⟩ := List.getElem_of_mem hr
  have := h.eD i (by rw [← h.len]; exact hi)
  rwa [List.getD_eq_getElem?_getD, List.getElem?_eq_getElem hi, Option.getD_some] at this, h.bD, by rw [h.len]; exact h.small.1, by have := h.small.2.2; omega⟩
theorem elim_fst (col top : Nat) (M D : List (List Int)) : ∀ k, (elimTo col top k (M, D)).1 = el1 col top k M
  | 0 => rfl
  | k + 1 => by
    have ih := elim_fst col top M D k
    show (if k ≠ top ∧ entry (elimTo col top k (M, D)).1 k col ≠ 0 then (macS (elimTo col top k (M, D)).1 k top (entry (elimTo col top k (M, D)).1 k col), macS (elimTo col top k (M, D)).2 k top (entry (elimTo col top k (M, D)).1 k col)) else elimTo col top k (M, D)).1 = (if k ≠ top ∧ entry (el1 col top k M) k col ≠ 0 then macS (el1 col top k M) k top (entry (el1 col top k M) k col) else el1 col top k M)
    rw [← ih]
    split <;> rfl
theorem red_fst (M D : List (List Int)) : ∀ j, ((redTo M D j).1.1, (redTo M D j).2) = redA M j
  | 0 => rfl
  | j + 1 => by
    have ih := red_fst M D j
    show ((redStep j (redTo M D j)).1.1, (redStep j (redTo M D j)).2) = stepA j (redA M j)
    rw [← ih]
    generalize redTo M D j = T
    cases hf : firstIn T.1.1 T.2.length j with
    | none => rw [redStep_none hf, stepA_none (s := (T.1.1, T.2)) hf]
    | some i =>
      rw [redStep_some hf, stepA_some (s := (T.1.1, T.2)) hf]
      show ((elimTo j T.2.length T.1.1.length (_, _)).1, _) = _
      rw [elim_fst]
end Go.Proofs.YtjgcocfnilhggaaDoor.M
namespace Go.Proofs.YtjgcocfnilhggaaDoor.M
set_option linter.unusedVariables false
abbrev Vec := Nat → El
def zv : Vec := fun _ => 0
def lc (b : Nat → Vec) (n : Nat) (x : Nat → El) : Vec := fun j => sm n (fun i => x i * b i j)
def Span (b : Nat → Vec) (n : Nat) (v : Vec) : Prop := ∃ x : Nat → El, v = lc b n x
def Indep (b : Nat → Vec) (n : Nat) : Prop := ∀ x : Nat → El, lc b n x = zv → ∀ i, i < n → x i = 0
theorem lc_congr {b c : Nat → Vec} {n : Nat} {x y : Nat → El} (h : ∀ i, i < n → b i = c i) (k : ∀ i, i < n → x i = y i) : lc b n x = lc c n y :=
  funext fun j => sm_congr fun i hi => by rw [h i hi, k i hi]
theorem lc_add (b : Nat → Vec) (n : Nat) (x y : Nat → El) : lc b n (fun i => x i + y i) = fun j => lc b n x j + lc b n y j := by
  funext j
  unfold lc
  rw [← sm_add]
  exact sm_congr fun i _ => add_mul _ _ _
theorem lc_mul (b : Nat → Vec) (n : Nat) (a : El) (x : Nat → El) : lc b n (fun i => a * x i) = fun j => a * lc b n x j := by
  funext j
  unfold lc
  rw [← sm_mul]
  exact sm_congr fun i _ => mul_assoc _ _ _
theorem lc_zero (b : Nat → Vec) (n : Nat) : lc b n (fun _ => 0) = zv := funext fun j => sm_zero fun i _ => zero_mul _
theorem lc_unit (b : Nat → Vec) {n k : Nat} (hk : k < n) : lc b n (fun i => if i = k then 1 else 0) = b k := by
  funext j
  show sm n (fun i => (if i = k then 1 else 0) * b i j) = b k j
  rw [sm_one hk (fun i _ hne => by rw [if_neg hne, zero_mul]), if_pos rfl, one_mul]
theorem lc_lc (b u : Nat → Vec) (n m : Nat) (x : Nat → El) (a : Nat → Nat → El) (h : ∀ i, i < m → u i = lc b n (a i)) : lc u m x = lc b n (fun k => sm m (fun i => x i * a i k)) := by
  funext j
  unfold lc
  have e : sm m (fun i => x i * u i j) = sm m (fun i => sm n (fun k => x i * a i k * b k j)) := sm_congr fun i hi => by
    rw [h i hi]
    unfold lc
    rw [← sm_mul]
    exact sm_congr fun k _ => (mul_assoc _ _ _).symm
  rw [e, sm_swap]
  exact sm_congr fun k _ => sm_mul_right _ _ _
theorem span_mem (b : Nat → Vec) {n k : Nat} (hk : k < n) : Span b n (b k) := ⟨_, (lc_unit b hk).symm⟩
theorem span_zero (b : Nat → Vec) (n : Nat) : Span b n zv := ⟨_, (lc_zero b n).symm⟩
theorem span_add {b : Nat → Vec} {n : Nat} {u v : Vec} (h : Span b n u) (k : Span b n v) : Span b n (fun j => u j + v j) := by
  obtain ⟨x, rfl⟩ := h
  obtain ⟨y, rfl⟩ := k
  exact ⟨_, (lc_add b n x y).symm⟩
theorem span_mul {b : Nat → Vec} {n : Nat} {u : Vec} (a : El) (h : Span b n u) : Span b n (fun j => a * u j) := by
  obtain ⟨x, rfl⟩ := h
  exact ⟨_, (lc_mul b n a x).symm⟩
theorem span_lc {b u : Nat → Vec} {n m : Nat} (h : ∀ i, i < m → Span b n (u i)) (x : Nat → El) : Span b n (lc u m x) := by
  have h' : ∀ i, ∃ a : Nat → El, i < m → u i = lc b n a := fun i => by
    by_cases hi : i < m
    · obtain ⟨a, ha⟩ := h i hi
      exact ⟨a, fun _ => ha⟩
    · exact ⟨fun _ => 0, fun e => absurd e hi⟩
  obtain ⟨a, ha⟩ := Classical.axiomOfChoice h'
  exact ⟨_, lc_lc b u n m x a ha⟩
theorem span_trans {b u : Nat → Vec} {n m : Nat} {v : Vec} (h : ∀ i, i < m → Span b n (u i)) (k : Span u m v) : Span b n v := by
  obtain ⟨x, rfl⟩ := k
  exact span_lc h x
def skip (p i : Nat) : Nat := if i < p then i else i + 1
theorem unskip (p i : Nat) : (if skip p i < p then skip p i else skip p i - 1) = i := by
  unfold skip
  by_cases h : i < p
  · rw [if_pos h, if_pos h]
  · rw [if_neg h, if_neg (by omega)]
    omega
theorem sm_succ_left (f : Nat → El) (n : Nat) : sm (n + 1) f = f 0 + sm n (fun i => f (i + 1)) := by
  rw [Nat.add_comm n 1, sm_split]
  have : sm 1 f = f 0 := zero_add _
  rw [this]
  congr 1
  exact sm_congr fun i _ => by rw [Nat.add_comm]
theorem sm_skip (f : Nat → El) (n p : Nat) (h : p ≤ n) : sm (n + 1) f = f p + sm n (fun i => f (skip p i)) := by
  obtain ⟨d, rfl⟩ : ∃ d, n = p + d := ⟨n - p, by omega⟩
  rw [show p + d + 1 = p + (d + 1) from by omega, sm_split f p (d + 1), sm_split (fun i => f (skip p i)) p d, sm_succ_left (fun i => f (p + i)) d]
  have e1 : sm p (fun i => f (skip p i)) = sm p f := sm_congr fun i hi => by unfold skip; rw [if_pos hi]
  have e2 : sm d (fun i => f (skip p (p + i))) = sm d (fun i => f (p + (i + 1))) := sm_congr fun i _ => by unfold skip; rw [if_neg (by omega)]; rfl
  rw [e1, e2, Nat.add_zero]
  ac_rfl
theorem hom : ∀ (n m : Nat), n < m → ∀ a : Nat → Nat → El, ∃ x : Nat → El, (∃ i, i < m ∧ x i ≠ 0) ∧ ∀ k, k < n → sm m (fun i => x i * a i k) = 0
  | 0, m, h, a => ⟨fun _ => 1, ⟨0, h, one_ne_zero⟩, fun k hk => by omega⟩
  | n + 1, m, h, a => by
    by_cases hz : ∀ i, i < m → a i n = 0
    · obtain ⟨x, hx, he⟩ := hom n m (by omega) a
      refine ⟨x, hx, fun k hk => ?_⟩
      by_cases e : k = n
      · subst e
        exact sm_zero fun i hi => by rw [hz i hi, mul_zero]
      · exact he k (by omega)
    · obtain ⟨p, hp, hpn⟩ : ∃ p, p < m ∧ a p n ≠ 0 := Classical.byContradiction fun hc => hz fun i hi => Classical.byContradiction fun hne => hc ⟨i, hi, hne⟩
      obtain ⟨m', rfl⟩ : ∃ m', m = m' + 1 := ⟨m - 1, by omega⟩
      obtain ⟨x, ⟨i0, hi0, hx0⟩, he⟩ := hom n m' (by omega) (fun i k => a (skip p i) k + a (skip p i) n * ((a p n).inv * a p k))
      have hsk : ∀ i, skip p i ≠ p := fun i => by unfold skip; split <;> omega
      refine ⟨fun j => if j = p then (a p n).inv * sm m' (fun i => x i * a (skip p i) n) else x (if j < p then j else j - 1), ⟨skip p i0, by unfold skip; split <;> omega, ?_⟩, fun k hk => ?_⟩
      · show (if skip p i0 = p then _ else _) ≠ 0
        rw [if_neg (hsk i0)]
        have : (if skip p i0 < p then skip p i0 else skip p i0 - 1) = i0 := unskip p i0
        rw [this]
        exact hx0
      · rw [sm_skip _ m' p (by omega)]
        have e1 : sm m' (fun i => (if skip p i = p then (a p n).inv * sm m' (fun i => x i * a (skip p i) n) else x (if skip p i < p then skip p i else skip p i - 1)) * a (skip p i) k) = sm m' (fun i => x i * a (skip p i) k) := sm_congr fun i _ => by
          have : (if skip p i < p then skip p i else skip p i - 1) = i := unskip p i
          rw [if_neg (hsk i), this]
        rw [e1]
        show (if p = p then (a p n).inv * sm m' (fun i => x i * a (skip p i) n) else _) * a p k + _ = 0
        rw [if_pos rfl]
        by_cases e : k = n
        · subst e
          rw [mul_comm, ← mul_assoc, mul_inv hpn, one_mul, add_self]
        · have h2 := he k (by omega)
          have e2 : sm m' (fun i => x i * (a (skip p i) k + a (skip p i) n * ((a p n).inv * a p k))) = sm m' (fun i => x i * a (skip p i) k) + sm m' (fun i => x i * a (skip p i) n) * ((a p n).inv * a p k) := by
            rw [← sm_mul_right, ← sm_add]
            exact sm_congr fun i _ => by rw [mul_add, mul_assoc]
          rw [e2] at h2
          rw [← h2, add_comm]
          congr 1
          ac_rfl
theorem steinitz {v u : Nat → Vec} {m n : Nat} (hi : Indep v m) (hs : ∀ i, i < m → Span u n (v i)) : m ≤ n := by
  apply Classical.byContradiction
  intro hlt
  have h' : ∀ i, ∃ a : Nat → El, i < m → v i = lc u n a := fun i => by
    by_cases h : i < m
    · obtain ⟨a, ha⟩ := hs i h
      exact ⟨a, fun _ => ha⟩
    · exact ⟨fun _ => 0, fun e => absurd e h⟩
  obtain ⟨a, ha⟩ := Classical.axiomOfChoice h'
  obtain ⟨x, ⟨i, him, hx⟩, he⟩ := hom n m (by omega) a
  refine hx (hi x ?_ i him)
  rw [lc_lc u v n m x a ha, ← lc_zero u n]
  exact lc_congr (fun _ _ => rfl) he
def snoc (b : Nat → Vec) (n : Nat) (v : Vec) : Nat → Vec := fun i => if i < n then b i else v
theorem snoc_lt {b : Nat → Vec} {n : Nat} {v : Vec} {i : Nat} (h : i < n) : snoc b n v i = b i := if_pos h
theorem snoc_at (b : Nat → Vec) (n : Nat) (v : Vec) : snoc b n v n = v := if_neg (Nat.lt_irrefl n)
theorem lc_snoc (b : Nat → Vec) (n : Nat) (v : Vec) (x : Nat → El) : lc (snoc b n v) (n + 1) x = fun j => lc b n x j + x n * v j := by
  funext j
  show sm n (fun i => x i * snoc b n v i j) + x n * snoc b n v n j = _
  rw [snoc_at]
  congr 1
  exact sm_congr fun i hi => by rw [snoc_lt hi]
theorem indep_snoc {b : Nat → Vec} {n : Nat} {v : Vec} (h : Indep b n) (hv : ¬ Span b n v) : Indep (snoc b n v) (n + 1) := by
  intro x hx i hi
  rw [lc_snoc] at hx
  have hn : x n = 0 := by
    apply Classical.byContradiction
    intro hne
    apply hv
    refine ⟨fun i => (x n).inv * x i, ?_⟩
    rw [lc_mul]
    funext j
    have := congrFun hx j
    have e : x n * v j = lc b n x j := by
      have h2 : lc b n x j + x n * v j = 0 := this
      rw [add_comm] at h2
      exact add_cancel h2
    show v j = (x n).inv * lc b n x j
    rw [← e, ← mul_assoc, inv_mul hne, one_mul]
  by_cases e : i = n
  · rw [e, hn]
  · refine h x ?_ i (by omega)
    rw [← hx]
    funext j
    show _ = lc b n x j + x n * v j
    rw [hn, zero_mul, add_zero]
theorem indep_zero (b : Nat → Vec) : Indep b 0 := fun x _ i hi => by omega
theorem extend {P : Vec → Prop} {u : Nat → Vec} {m : Nat} (hP : ∀ v, P v → Span u m v) : ∀ (d : Nat) (b : Nat → Vec) (n : Nat), m - n ≤ d → Indep b n → (∀ i, i < n → P (b i)) →
    ∃ b' n', n ≤ n' ∧ (∀ i, i < n → b' i = b i) ∧ Indep b' n' ∧ (∀ i, i < n' → P (b' i)) ∧ ∀ v, P v → Span b' n' v
  | d, b, n, hd, hi, hb => by
    by_cases hall : ∀ v, P v → Span b n v
    · exact ⟨b, n, Nat.le_refl _, fun _ _ => rfl, hi, hb, hall⟩
    · obtain ⟨v, hv, hns⟩ : ∃ v, P v ∧ ¬ Span b n v := Classical.byContradiction fun hc => hall fun v hv => Classical.byContradiction fun hne => hc ⟨v, hv, hne⟩
      have hi2 := indep_snoc hi hns
      have hb2 : ∀ i, i < n + 1 → P (snoc b n v i) := fun i h => by
        by_cases e : i < n
        · rw [snoc_lt e]; exact hb i e
        · obtain rfl : i = n := by omega
          rw [snoc_at]; exact hv
      have hle := steinitz hi2 fun i h => hP _ (hb2 i h)
      match d with
      | 0 => omega
      | d + 1 =>
        obtain ⟨b', n', h1, h2, h3⟩ := extend hP d (snoc b n v) (n + 1) (by omega) hi2 hb2
        exact ⟨b', n', by omega, fun i h => by rw [h2 i (by omega), snoc_lt h], h3⟩
def Dim (P : Vec → Prop) (n : Nat) : Prop := ∃ b, Indep b n ∧ (∀ i, i < n → P (b i)) ∧ ∀ v, P v → Span b n v
theorem dim_le {P Q : Vec → Prop} {m n : Nat} (hP : Dim P m) (hQ : Dim Q n) (h : ∀ v, P v → Q v) : m ≤ n := by
  obtain ⟨b, b1, b2, b3⟩ := hP
  obtain ⟨c, c1, c2, c3⟩ := hQ
  exact steinitz b1 fun i hi => c3 _ (h _ (b2 i hi))
theorem dim_unique {P : Vec → Prop} {m n : Nat} (h : Dim P m) (k : Dim P n) : m = n := Nat.le_antisymm (dim_le h k fun _ h => h) (dim_le k h fun _ h => h)
theorem dim_exists {P : Vec → Prop} {u : Nat → Vec} {m : Nat} (hP : ∀ v, P v → Span u m v) : ∃ n, n ≤ m ∧ Dim P n := by
  obtain ⟨b, n, _, _, h3, h4, h5⟩ := extend hP m (fun _ => zv) 0 (by omega) (indep_zero _) (fun i h => by omega)
  exact ⟨n, steinitz h3 fun i h => hP _ (h4 i h), b, h3, h4, h5⟩
theorem dim_congr {P Q : Vec → Prop} {n : Nat} (h : ∀ v, P v ↔ Q v) (k : Dim P n) : Dim Q n := by
  obtain ⟨b, b1, b2, b3⟩ := k
  exact ⟨b, b1, fun i hi => (h _).1 (b2 i hi), fun v hv => b3 v ((h v).2 hv)⟩
theorem dim_full {P : Vec → Prop} {n : Nat} (h : Dim P n) {b : Nat → Vec} (hi : Indep b n) (hb : ∀ i, i < n → P (b i)) : ∀ v, P v → Span b n v := by
  intro v hv
  apply Classical.byContradiction
  intro hns
  obtain ⟨c, c1, c2, c3⟩ := h
  have := steinitz (indep_snoc hi hns) (u := c) (n := n) fun i hlt => by
    by_cases e : i < n
    · rw [snoc_lt e]; exact c3 _ (hb i e)
    · obtain rfl : i = n := by omega
      rw [snoc_at]; exact c3 _ hv
  omega
end Go.Proofs.YtjgcocfnilhggaaDoor.M
namespace Go.Proofs.YtjgcocfnilhggaaDoor.M
set_option linter.unusedVariables false
structure RR (n W t : Nat) (S : Nat → Vec) (p : Nat → Nat) : Prop where
 tn : t ≤ n
 lt : ∀ i, i < t → p i < W
 mono : ∀ i k, i < k → k < t → p i < p k
 one : ∀ i, i < t → ∀ a, a < n → S a (p i) = if a = i then 1 else 0
 low : ∀ a, t ≤ a → a < n → S a = zv
 lead : ∀ i, i < t → ∀ b, b < p i → S i b = 0
 sup : ∀ a, a < n → ∀ b, W ≤ b → S a b = 0
section
variable {n W t : Nat} {S : Nat → Vec} {p : Nat → Nat}
theorem lc_low (hl : ∀ a, t ≤ a → a < n → S a = zv) (ht : t ≤ n) (x : Nat → El) : lc S n x = lc S t x := by
 funext j
 exact sm_take ht fun i h1 h2 => by rw [hl i h1 h2]; exact mul_zero _
theorem RR.at_piv (h : RR n W t S p) (x : Nat → El) {i : Nat} (hi : i < t) : lc S n x (p i) = x i := by
 have htn := h.tn
 show sm n (fun a => x a * S a (p i)) = x i
 rw [sm_one (k := i) (by omega) fun a ha hne => by rw [h.one i hi a ha, if_neg hne, mul_zero]]
 rw [h.one i hi i (by omega), if_pos rfl, mul_one]
theorem RR.coord (h : RR n W t S p) {v : Vec} (hv : Span S n v) : v = lc S t (fun i => v (p i)) := by
 obtain ⟨x, rfl⟩ := hv
 have : lc S n x = lc S t x := lc_low h.low h.tn x
 rw [this]
 refine lc_congr (fun _ _ => rfl) fun i hi => ?_
 rw [← this]
 exact (h.at_piv x hi).symm
theorem RR.indep (h : RR n W t S p) : Indep S t := by
 intro x hx i hi
 have e : lc S n (fun a => if a < t then x a else 0) = zv := by
  rw [lc_low h.low h.tn, ← hx]
  exact lc_congr (fun _ _ => rfl) fun a ha => if_pos ha
 have := h.at_piv (fun a => if a < t then x a else 0) hi
 rw [e, if_pos hi] at this
 exact this.symm
theorem RR.dim (h : RR n W t S p) : Dim (Span S n) t := ⟨S, h.indep, fun i hi => span_mem S (by have := h.tn; omega), fun v hv => ⟨_, h.coord hv⟩⟩
end
def dot (W : Nat) (r x : Vec) : El := sm W (fun b => r b * x b)
theorem dot_lc (W : Nat) (b : Nat → Vec) (n : Nat) (y : Nat → El) (x : Vec) : dot W (lc b n y) x = sm n (fun i => y i * dot W (b i) x) := by
 unfold dot lc
 have e : sm W (fun j => sm n (fun i => y i * b i j) * x j) = sm W (fun j => sm n (fun i => y i * (b i j * x j))) := sm_congr fun j _ => by
  rw [← sm_mul_right]
  exact sm_congr fun i _ => mul_assoc _ _ _
 rw [e, ← sm_swap]
 exact sm_congr fun i _ => by rw [sm_mul]
theorem dot_add (W : Nat) (r x y : Vec) : dot W r (fun j => x j + y j) = dot W r x + dot W r y := by
 unfold dot
 rw [← sm_add]
 exact sm_congr fun _ _ => mul_add _ _ _
def Ker (W n : Nat) (b : Nat → Vec) (x : Vec) : Prop := ∀ i, i < n → dot W (b i) x = 0
theorem ker_span {W n m : Nat} {b c : Nat → Vec} {x : Vec} (h : ∀ i, i < m → Span b n (c i)) (k : Ker W n b x) : Ker W m c x := fun i hi => by
 obtain ⟨y, e⟩ := h i hi
 rw [e, dot_lc]
 exact sm_zero fun a ha => by rw [k a ha, mul_zero]
theorem ker_same {W n m : Nat} {b c : Nat → Vec} {x : Vec} (h : ∀ v, Span b n v ↔ Span c m v) : Ker W n b x ↔ Ker W m c x :=
 ⟨ker_span fun i hi => (h _).2 (span_mem c hi), ker_span fun i hi => (h _).1 (span_mem b hi)⟩
section
variable {n W t : Nat} {S : Nat → Vec} {p : Nat → Nat}
def RR.kv (S : Nat → Vec) (p : Nat → Nat) (t b : Nat) : Vec := fun j => (if j = b then 1 else 0) + sm t (fun i => if j = p i then S i b else 0)
theorem RR.dot_piv (h : RR n W t S p) {x : Vec} (hx : ∀ j, j < W → (∀ i, i < t → j ≠ p i) → x j = 0) {a : Nat} (ha : a < t) : dot W (S a) x = x (p a) := by
 have htn := h.tn
 unfold dot
 rw [sm_one (k := p a) (h.lt a ha) fun j hj hne => ?_]
 ·rw [h.one a ha a (by omega), if_pos rfl, one_mul]
 ·by_cases e : ∃ i, i < t ∧ j = p i
  ·obtain ⟨i, hi, rfl⟩ := e
   rw [h.one i hi a (by omega), if_neg (fun e => hne (by rw [e])), zero_mul]
  ·rw [hx j hj fun i hi e2 => e ⟨i, hi, e2⟩, mul_zero]
theorem RR.inj (h : RR n W t S p) {i k : Nat} (hi : i < t) (hk : k < t) (e : p i = p k) : i = k := by
 rcases Nat.lt_trichotomy i k with h1 | h1 | h1
 ·have := h.mono i k h1 hk; omega
 ·exact h1
 ·have := h.mono k i h1 hi; omega
theorem RR.kv_ker (h : RR n W t S p) {b : Nat} (hbW : b < W) (hb : ∀ i, i < t → b ≠ p i) : Ker W n S (RR.kv S p t b) := fun a ha => by
 by_cases hat : a < t
 ·have e : RR.kv S p t b = fun j => (if j = b then 1 else 0) + sm t (fun i => if j = p i then S i b else 0) := rfl
  rw [e, dot_add]
  have e1 : dot W (S a) (fun j => if j = b then 1 else 0) = S a b := by
   show sm W (fun j => S a j * (if j = b then 1 else 0)) = S a b
   rw [sm_one (k := b) hbW fun j hj hne => by rw [if_neg hne, mul_zero], if_pos rfl, mul_one]
  have e2 := h.dot_piv (x := fun j => sm t (fun i => if j = p i then S i b else 0)) (fun j hj hn => sm_zero fun i hi => if_neg (hn i hi)) hat
  rw [e1, e2]
  show S a b + sm t (fun i => if p a = p i then S i b else 0) = 0
  rw [sm_one (k := a) hat fun k hk hne => if_neg fun e => hne (h.inj hat hk e).symm, if_pos rfl, add_self]
 ·rw [h.low a (by omega) ha]
  exact sm_zero fun j _ => zero_mul _
end
def col (n : Nat) (N : Nat → Vec) (b : Nat) : Vec := fun a => if a < n then N a b else 0
theorem lc_col {n W : Nat} {N : Nat → Vec} {x : Nat → El} : lc (col n N) W x = fun a => if a < n then dot W (N a) x else 0 := by
 funext a
 unfold lc col dot
 split
 ·exact sm_congr fun i _ => mul_comm _ _
 ·exact sm_zero fun i _ => mul_zero _
theorem col_zero {n W : Nat} {N : Nat → Vec} {x : Nat → El} : lc (col n N) W x = zv ↔ Ker W n N x := by
 rw [lc_col]
 constructor
 ·intro h a ha
  have := congrFun h a
  rwa [if_pos ha] at this
 ·intro h
  funext a
  split
  ·rename_i ha; exact h a ha
  ·rfl
section
variable {n W t : Nat} {S N : Nat → Vec} {p : Nat → Nat}
def below (p : Nat → Nat) (b : Nat) : Nat → Nat
 | 0 => 0
 | t + 1 => below p b t + if p t < b then 1 else 0
theorem below_le (p : Nat → Nat) (b : Nat) : ∀ t, below p b t ≤ t
 | 0 => Nat.le_refl _
 | t + 1 => by
  have := below_le p b t
  unfold below
  split <;> omega
theorem below_iff {p : Nat → Nat} {b t : Nat} (m : ∀ i k, i < k → k < t → p i < p k) : ∀ i, i < t → (i < below p b t ↔ p i < b) := by
 induction t with
 | zero => intro i hi; omega
 | succ t ih =>
  have ih := ih fun i k a c => m i k a (by omega)
  intro i hi
  have hle := below_le p b t
  unfold below
  by_cases e : i = t
  ·subst e
   by_cases h : p i < b
   ·rw [if_pos h]
    have : below p b i = i := by
     rcases Nat.lt_or_ge (below p b i) i with h1 | h1
     ·have h2 := (ih (below p b i) h1)
      have h3 := m (below p b i) i h1 (by omega)
      have := h2.2 (by omega)
      omega
     ·omega
    exact ⟨fun _ => h, fun _ => by omega⟩
   ·rw [if_neg h]
    exact ⟨fun x => absurd x (by omega), fun x => absurd x h⟩
  ·have h1 := ih i (by omega)
   by_cases h : p t < b
   ·rw [if_pos h]
    have h3 := m i t (by omega) (by omega)
    have := h1.2 (by omega)
    exact ⟨fun _ => by omega, fun _ => by omega⟩
   ·rw [if_neg h, Nat.add_zero]
    exact h1
theorem RR.col_span (h : RR n W t S p) (hs : ∀ v, Span N n v ↔ Span S n v) {b c : Nat} (hb : b < W) (hbc : b < c) : Span (fun i => col n N (p i)) (below p c t) (col n N b) := by
 by_cases e : ∃ i, i < t ∧ b = p i
 ·obtain ⟨i, hi, rfl⟩ := e
  exact span_mem (fun i => col n N (p i)) ((below_iff h.mono i hi).2 hbc)
 ·have hb2 : ∀ i, i < t → b ≠ p i := fun i hi e2 => e ⟨i, hi, e2⟩
  have hk : lc (col n N) W (RR.kv S p t b) = zv := by rw [col_zero, ker_same hs]; exact h.kv_ker hb hb2
  have e1 : RR.kv S p t b = fun j => (if j = b then 1 else 0) + sm t (fun i => if j = p i then S i b else 0) := rfl
  rw [e1, lc_add] at hk
  refine ⟨fun i => S i b, ?_⟩
  have e2 : lc (col n N) W (fun j => sm t (fun i => if j = p i then S i b else 0)) = lc (fun i => col n N (p i)) t (fun i => S i b) := by
   rw [show (fun j => sm t (fun i => if j = p i then S i b else 0)) = fun j => sm t (fun i => S i b * (if j = p i then 1 else 0)) from funext fun j => sm_congr fun i _ => by split <;> simp only [mul_one, mul_zero]]
   exact (lc_lc (col n N) (fun i => col n N (p i)) W t (fun i => S i b) (fun i j => if j = p i then 1 else 0) fun i hi => (lc_unit (col n N) (h.lt i hi)).symm).symm
  have e3 : lc (fun i => col n N (p i)) t (fun i => S i b) = lc (fun i => col n N (p i)) (below p c t) (fun i => S i b) := by
   funext a
   refine sm_take (below_le p c t) fun i h1 h2 => ?_
   have : ¬ p i < c := fun h3 => by have := (below_iff h.mono i h2).2 h3; omega
   show S i b * _ = 0
   rw [h.lead i h2 b (by omega), zero_mul]
  funext a
  have e4 := congrFun hk a
  rw [lc_unit (col n N) hb, e2, e3] at e4
  exact add_cancel e4
end
end Go.Proofs.YtjgcocfnilhggaaDoor.M
namespace Go.Proofs.YtjgcocfnilhggaaDoor.M
open Go.RowKit Go.Proofs.YtjgcocfnilhggaaDoorW.PrintWords Go.Proofs.YtjgcocfnilhggaaDoorW.PrintLast Go.Proofs.YtjgcocfnilhggaaDoorW.PrintMore Go.Proofs.YtjgcocfnilhggaaDoor.Q
set_option linter.unusedVariables false
def mv (A : List (List Int)) (W : Nat) : Nat → Vec := fun i j => if j < W then toE (entry A i j) else 0
theorem mv_at {A : List (List Int)} {W i j : Nat} (h : j < W) : mv A W i j = toE (entry A i j) := if_pos h
theorem mv_out {A : List (List Int)} {W i j : Nat} (h : ¬ j < W) : mv A W i j = 0 := if_neg h
theorem invT_mul {a : Int} (h : 0 ≤ a ∧ a < 256) (h0 : a ≠ 0) : toE (invT a) * toE a = 1 := by rw [invT_el h h0, inv_mul (toE_ne h h0)]
theorem invT_ne {a : Int} (h : 0 ≤ a ∧ a < 256) (h0 : a ≠ 0) : toE (invT a) ≠ 0 := by rw [invT_el h h0]; exact inv_ne (toE_ne h h0)
theorem mv_swap {A : List (List Int)} {W top i : Nat} {o : Int} (h : Sh A W) (ho : 0 ≤ o ∧ o < 256) (ht : top < A.length) (hi : i < A.length) (a : Nat) : mv (swapS o A top i) W a = if a = top then (fun b => toE o * mv A W i b) else if a = i then mv A W top else mv A W a := by
  funext b
  by_cases hb : b < W
  · rw [mv_at hb, entry_swap h ht hi hb]
    by_cases e1 : a = top
    · rw [if_pos e1, if_pos e1, mv_at hb, mulT_el ho (h.byte hi hb)]
    · rw [if_neg e1, if_neg e1]
      by_cases e2 : a = i
      · rw [if_pos e2, if_pos e2, mv_at hb]
      · rw [if_neg e2, if_neg e2, mv_at hb]
  · rw [mv_out hb]
    by_cases e1 : a = top
    · rw [if_pos e1, mv_out hb, mul_zero]
    · rw [if_neg e1]
      by_cases e2 : a = i
      · rw [if_pos e2, mv_out hb]
      · rw [if_neg e2, mv_out hb]
theorem mv_mac {A : List (List Int)} {W top k : Nat} {c : Int} (h : Sh A W) (hc : 0 ≤ c ∧ c < 256) (ht : top < A.length) (hk : k < A.length) (a : Nat) : mv (macS A k top c) W a = if a = k then (fun b => toE c * mv A W top b + mv A W k b) else mv A W a := by
  funext b
  by_cases hb : b < W
  · rw [mv_at hb, entry_mac h ht hk hb]
    by_cases e1 : a = k
    · rw [if_pos e1, if_pos e1, mv_at hb, mv_at hb, xor_el, mulT_el hc (h.byte ht hb)]
    · rw [if_neg e1, if_neg e1, mv_at hb]
  · rw [mv_out hb]
    by_cases e1 : a = k
    · rw [if_pos e1, mv_out hb, mv_out hb, mul_zero, add_zero]
    · rw [if_neg e1, mv_out hb]
theorem mv_el {A : List (List Int)} {W top col : Nat} (h : Sh A W) (ht : top < A.length) (hc : col < W) : ∀ k, k ≤ A.length → ∀ a, mv (el1 col top k A) W a = if a < k ∧ a ≠ top then (fun b => mv A W a col * mv A W top b + mv A W a b) else mv A W a
  | 0, _, a => by rw [if_neg (by omega)]; rfl
  | k + 1, hk, a => by
    have ih := mv_el h ht hc k (by omega)
    obtain ⟨hT, hTl⟩ := h.el (col := col) ht k (by omega)
    have hE : el1 col top (k + 1) A = (if k ≠ top ∧ entry (el1 col top k A) k col ≠ 0 then macS (el1 col top k A) k top (entry (el1 col top k A) k col) else el1 col top k A) := rfl
    have hk2 : mv (el1 col top k A) W k = mv A W k := by rw [ih, if_neg (by omega)]
    have ht2 : mv (el1 col top k A) W top = mv A W top := by rw [ih, if_neg (by omega)]
    have hkc : toE (entry (el1 col top k A) k col) = mv A W k col := by rw [← hk2, mv_at hc]
    rw [hE]
    generalize el1 col top k A = T at *
    by_cases e : k ≠ top ∧ entry T k col ≠ 0
    · rw [if_pos e, mv_mac hT (hT.byte (by omega) hc) (by omega) (by omega)]
      by_cases e2 : a = k
      · subst e2
        rw [if_pos rfl, if_pos ⟨by omega, e.1⟩, hkc, ht2, hk2]
      · rw [if_neg e2, ih]
        by_cases e3 : a < k ∧ a ≠ top
        · rw [if_pos e3, if_pos ⟨by omega, e3.2⟩]
        · rw [if_neg e3, if_neg (by omega)]
    · rw [if_neg e, ih]
      by_cases e3 : a < k ∧ a ≠ top
      · rw [if_pos e3, if_pos ⟨by omega, e3.2⟩]
      · rw [if_neg e3]
        by_cases e4 : a < k + 1 ∧ a ≠ top
        · rw [if_pos e4]
          obtain rfl : a = k := by omega
          have h0 : entry T a col = 0 := Classical.byContradiction fun hn => e ⟨e4.2, hn⟩
          rw [h0, toE_zero] at hkc
          funext b
          rw [← hkc, zero_mul, zero_add]
        · rw [if_neg e4]
theorem span_iff {b c : Nat → Vec} {n : Nat} (h1 : ∀ i, i < n → Span b n (c i)) (h2 : ∀ i, i < n → Span c n (b i)) (v : Vec) : Span c n v ↔ Span b n v := ⟨span_trans h1, span_trans h2⟩
theorem span_swap {A : List (List Int)} {W top i : Nat} {o : Int} (h : Sh A W) (ho : 0 ≤ o ∧ o < 256) (h0 : toE o ≠ 0) (ht : top < A.length) (hi : i < A.length) (v : Vec) : Span (mv (swapS o A top i) W) A.length v ↔ Span (mv A W) A.length v := by
  have hm := mv_swap h ho ht hi
  refine span_iff (fun a ha => ?_) (fun a ha => ?_) v
  · rw [hm]
    split
    · exact span_mul _ (span_mem _ hi)
    · split
      · exact span_mem _ ht
      · exact span_mem _ ha
  · by_cases e1 : a = i
    · subst e1
      have : mv A W a = fun b => (toE o).inv * mv (swapS o A top a) W top b := by
        funext b
        rw [hm, if_pos rfl, ← mul_assoc, inv_mul h0, one_mul]
      rw [this]
      exact span_mul _ (span_mem _ ht)
    · by_cases e2 : a = top
      · subst e2
        have : mv A W a = mv (swapS o A a i) W i := by rw [hm, if_neg (fun e => e1 e.symm), if_pos rfl]
        rw [this]
        exact span_mem _ hi
      · have : mv A W a = mv (swapS o A top i) W a := by rw [hm, if_neg e2, if_neg e1]
        rw [this]
        exact span_mem _ ha
theorem span_el {A : List (List Int)} {W top col : Nat} (h : Sh A W) (ht : top < A.length) (hc : col < W) (v : Vec) : Span (mv (el1 col top A.length A) W) A.length v ↔ Span (mv A W) A.length v := by
  have hm := mv_el h ht hc A.length (Nat.le_refl _)
  refine span_iff (fun a ha => ?_) (fun a ha => ?_) v
  · rw [hm]
    split
    · exact span_add (span_mul _ (span_mem _ ht)) (span_mem _ ha)
    · exact span_mem _ ha
  · by_cases e : a = top
    · subst e
      have : mv A W a = mv (el1 col a A.length A) W a := by rw [hm, if_neg (fun hh => hh.2 rfl)]
      rw [this]
      exact span_mem _ ha
    · have : mv A W a = fun b => mv A W a col * mv (el1 col top A.length A) W top b + mv (el1 col top A.length A) W a b := by
        funext b
        rw [hm, hm, if_neg (fun hh => hh.2 rfl), if_pos ⟨ha, e⟩, ← add_assoc, add_self, zero_add]
      rw [this]
      exact span_add (span_mul _ (span_mem _ ht)) (span_mem _ ha)
def pv (P : List Int) (i : Nat) : Nat := (P.getD i 0).toNat
theorem pv_last (P : List Int) (j : Nat) : pv (P ++ [(j : Int)]) P.length = j := by
  unfold pv
  rw [List.getD_eq_getElem?_getD, List.getElem?_append_right (Nat.le_refl _), Nat.sub_self]
  rfl
theorem pv_init {P : List Int} {j i : Nat} (hi : i < P.length) : pv (P ++ [(j : Int)]) i = pv P i := by
  unfold pv
  rw [List.getD_eq_getElem?_getD, List.getElem?_append_left hi, ← List.getD_eq_getElem?_getD]
structure RI (A S : List (List Int)) (W j : Nat) (P : List Int) : Prop where
  sh : Sh S W
  len : S.length = A.length
  tn : P.length ≤ A.length
  nat : ∀ i, i < P.length → P.getD i 0 = (pv P i : Int)
  lt : ∀ i, i < P.length → pv P i < j
  mono : ∀ i k, i < k → k < P.length → pv P i < pv P k
  one : ∀ i, i < P.length → ∀ a, a < A.length → mv S W a (pv P i) = if a = i then 1 else 0
  low : ∀ a, P.length ≤ a → a < A.length → ∀ b, b < j → mv S W a b = 0
  lead : ∀ i, i < P.length → ∀ b, b < pv P i → mv S W i b = 0
  span : ∀ v, Span (mv S W) A.length v ↔ Span (mv A W) A.length v
theorem RI.step {A S : List (List Int)} {W j : Nat} {P : List Int} (h : RI A S W j P) (hj : j < W) {x : Nat} (hx : P.length ≤ x) (hxn : x < A.length) (h0 : entry S x j ≠ 0) :
    RI A (el1 j P.length S.length (swapS (invT (entry S x j)) S P.length x)) W (j + 1) (P ++ [(j : Int)]) := by
  have hlen := h.len
  have hb := h.sh.byte (i := x) (j := j) (by omega) hj
  have ho := invT_range hb h0
  have hxl : x < S.length := by omega
  have htl : P.length < S.length := by omega
  have hsw := h.sh.swap ho htl hxl
  have hsl : (swapS (invT (entry S x j)) S P.length x).length = S.length := by simp [swapS]
  have hB := mv_swap h.sh ho htl hxl
  have hel := hsw.el (col := j) (top := P.length) (by omega) S.length (by omega)
  have hmE := mv_el hsw (top := P.length) (col := j) (by omega) hj S.length (by omega)
  have hsp1 := span_swap h.sh ho (invT_ne hb h0) htl hxl
  have hsp2 := span_el hsw (top := P.length) (col := j) (by omega) hj
  have hp1 : toE (invT (entry S x j)) * mv S W x j = 1 := by rw [mv_at hj]; exact invT_mul hb h0
  rw [hsl] at hsp2
  generalize swapS (invT (entry S x j)) S P.length x = B at *
  generalize toE (invT (entry S x j)) = o at *
  -- the row that has come up
  have hT : ∀ b, b < j → mv B W P.length b = 0 := fun b hbj => by
    rw [hB, if_pos rfl]
    show o * mv S W x b = 0
    rw [h.low x hx hxn b hbj, mul_zero]
  have hTj : mv B W P.length j = 1 := by rw [hB, if_pos rfl]; exact hp1
  have hlow : ∀ a, P.length < a → a < A.length → ∀ b, b < j → mv B W a b = 0 := fun a h1 h2 b hbj => by
    rw [hB, if_neg (by omega)]
    split
    · exact h.low _ (Nat.le_refl _) (by omega) b hbj
    · exact h.low a (by omega) h2 b hbj
  have htop : ∀ a, a < P.length → mv B W a = mv S W a := fun a ha => by rw [hB, if_neg (by omega), if_neg (by omega)]
  have hcol : ∀ i, i < P.length → ∀ a, a < A.length → mv B W a (pv P i) = if a = i then 1 else 0 := fun i hi a ha => by
    have hpj := h.lt i hi
    by_cases e : a < P.length
    · rw [htop a e]; exact h.one i hi a ha
    · rw [if_neg (by omega)]
      by_cases e2 : a = P.length
      · subst e2; exact hT _ hpj
      · exact hlow a (by omega) ha _ hpj
  have hE : ∀ a, a < A.length → mv (el1 j P.length S.length B) W a = if a ≠ P.length then (fun b => mv B W a j * mv B W P.length b + mv B W a b) else mv B W a := fun a ha => by
    rw [hmE]
    by_cases e : a = P.length
    · rw [if_neg (fun hh => hh.2 e), if_neg (fun hh => hh e)]
    · rw [if_pos ⟨by omega, e⟩, if_pos e]
  have hEj : ∀ a, a < A.length → mv (el1 j P.length S.length B) W a j = if a = P.length then 1 else 0 := fun a ha => by
    rw [hE a ha]
    by_cases e : a = P.length
    · subst e
      rw [if_neg (fun hh => hh rfl), if_pos rfl, hTj]
    · rw [if_pos e, if_neg e]
      show mv B W a j * mv B W P.length j + mv B W a j = 0
      rw [hTj, mul_one, add_self]
  have hElo : ∀ a, a < A.length → ∀ b, b < j → mv (el1 j P.length S.length B) W a b = mv B W a b := fun a ha b hb => by
    rw [hE a ha]
    split
    · show mv B W a j * mv B W P.length b + mv B W a b = _
      rw [hT b hb, mul_zero, zero_add]
    · rfl
  have hL : (P ++ [(j : Int)]).length = P.length + 1 := by simp
  refine ⟨hel.1, by omega, by omega, fun i hi => ?_, fun i hi => ?_, fun i k hik hk => ?_, fun i hi a ha => ?_, fun a h1 h2 b hbj => ?_, fun i hi b hbi => ?_, fun v => ?_⟩
  · rw [hL] at hi
    by_cases e : i = P.length
    · subst e
      rw [pv_last, List.getD_eq_getElem?_getD, List.getElem?_append_right (Nat.le_refl _), Nat.sub_self]
      rfl
    · rw [pv_init (by omega), ← h.nat i (by omega), List.getD_eq_getElem?_getD, List.getElem?_append_left (by omega), ← List.getD_eq_getElem?_getD]
  · rw [hL] at hi
    by_cases e : i = P.length
    · subst e; rw [pv_last]; omega
    · rw [pv_init (by omega)]; have := h.lt i (by omega); omega
  · rw [hL] at hk
    by_cases e : k = P.length
    · subst e; rw [pv_last, pv_init hik]; exact h.lt i hik
    · rw [pv_init (by omega), pv_init (by omega)]; exact h.mono i k hik (by omega)
  · rw [hL] at hi
    by_cases e : i = P.length
    · subst e; rw [pv_last]; exact hEj a ha
    · rw [pv_init (by omega), hElo a ha _ (h.lt i (by omega))]
      exact hcol i (by omega) a ha
  · rw [hL] at h1
    by_cases e : b = j
    · subst e
      rw [hEj a h2, if_neg (by omega)]
    · rw [hElo a h2 b (by omega)]
      exact hlow a (by omega) h2 b (by omega)
  · rw [hL] at hi
    by_cases e : i = P.length
    · subst e
      rw [pv_last] at hbi
      rw [hElo _ (by omega) b hbi]
      exact hT b hbi
    · rw [pv_init (by omega)] at hbi
      have hlt := h.lt i (by omega)
      rw [hElo i (by omega) b (by omega), htop i (by omega)]
      exact h.lead i (by omega) b hbi
  · rw [← h.span, ← hlen, hsp2 v]
    exact hsp1 v
theorem redA_inv {A : List (List Int)} {W : Nat} (h : Sh A W) : ∀ j, j ≤ W → RI A (redA A j).1 W j (redA A j).2
  | 0, _ => ⟨h, rfl, Nat.zero_le _, fun i hi => absurd hi (Nat.not_lt_zero _), fun i hi => absurd hi (Nat.not_lt_zero _), fun i k _ hk => absurd hk (Nat.not_lt_zero _), fun i hi => absurd hi (Nat.not_lt_zero _), fun a _ _ b hb => absurd hb (Nat.not_lt_zero _), fun i hi => absurd hi (Nat.not_lt_zero _), fun v => Iff.rfl⟩
  | j + 1, hj => by
    have ih := redA_inv h j (by omega)
    show RI A (stepA j (redA A j)).1 W (j + 1) (stepA j (redA A j)).2
    generalize redA A j = T at *
    cases hf : firstIn T.1 T.2.length j with
    | none =>
      rw [stepA_none hf]
      have hz := seek_zero _ _ hf
      have hlen := ih.len
      exact ⟨ih.sh, ih.len, ih.tn, ih.nat, fun i hi => Nat.lt_succ_of_lt (ih.lt i hi), ih.mono, ih.one, fun a h1 h2 b hb => by
        by_cases e : b = j
        · subst e
          rw [mv_at (by omega), hz a h1 (by have := ih.tn; omega), toE_zero]
        · exact ih.low a h1 h2 b (by omega), ih.lead, ih.span⟩
    | some x =>
      obtain ⟨q1, q2, q3, _⟩ := seekCol_spec _ _ hf
      have hlen := ih.len
      have htn := ih.tn
      rw [stepA_some hf]
      exact ih.step (by omega) q1 (by omega) q3
theorem RI.rr {A S : List (List Int)} {W : Nat} {P : List Int} (h : RI A S W W P) : RR A.length W P.length (mv S W) (pv P) :=
  ⟨h.tn, h.lt, h.mono, h.one, fun a h1 h2 => funext fun b => by
    by_cases e : b < W
    · exact h.low a h1 h2 b e
    · exact mv_out e, h.lead, fun a _ b hb => mv_out (by omega)⟩
def rk (A : List (List Int)) (W : Nat) : Nat := (redA A W).2.length
theorem redA_rr {A : List (List Int)} {W : Nat} (h : Sh A W) : RR A.length W (rk A W) (mv (redA A W).1 W) (pv (redA A W).2) := (redA_inv h W (Nat.le_refl _)).rr
theorem redA_span {A : List (List Int)} {W : Nat} (h : Sh A W) (v : Vec) : Span (mv (redA A W).1 W) A.length v ↔ Span (mv A W) A.length v := (redA_inv h W (Nat.le_refl _)).span v
theorem rk_dim {A : List (List Int)} {W : Nat} (h : Sh A W) : Dim (Span (mv A W) A.length) (rk A W) := dim_congr (redA_span h) (redA_rr h).dim
end Go.Proofs.YtjgcocfnilhggaaDoor.M
namespace Go.Proofs.YtjgcocfnilhggaaDoor.M
open Go.RowKit Go.Proofs.YtjgcocfnilhggaaDoorW.PrintWords Go.Proofs.YtjgcocfnilhggaaDoorW.PrintLast Go.Proofs.YtjgcocfnilhggaaDoorW.PrintMore Go.Proofs.YtjgcocfnilhggaaDoor.Q
set_option linter.unusedVariables false
theorem right_of {r c : Nat} {l : List Int} (hr : r ≤ 64) (hc : c ≤ 64) (hl : l.length = r * c) : matrix_Right.f (r : Int) (c : Int) l = some true ∧ recoupref03_Right.f (r : Int) (c : Int) l = some true := by
 have hf := flat_rowsOf r l hl
 have hlen := rowsOf_length c r l
 have h1 := Right_true hf.2 (by omega) hc
 rw [hf.1, hlen] at h1
 exact ⟨(Right_eq (a := (r : Int)) (b := (c : Int)) (l := l) (by omega)) ▸ h1, h1⟩
theorem trans_length (r c : Nat) (l : List Int) : (transL r c l).length = c * r := by simp [transL]
theorem trans_getD {r c i j : Nat} {l : List Int} (hi : i < c) (hj : j < r) : (transL r c l).getD (i * r + j) 0 = l.getD (j * c + i) 0 := by
 have hq := idx_lt (c := r) hi hj
 unfold transL
 rw [List.getD_eq_getElem?_getD, List.getElem?_map, List.getElem?_range hq]
 show l.getD ((i * r + j) % r * c + (i * r + j) / r) 0 = _
 have e1 : (i * r + j) % r = j := by rw [Nat.mul_comm, Nat.mul_add_mod, Nat.mod_eq_of_lt hj]
 have e2 : (i * r + j) / r = i := by
  rw [Nat.mul_comm, Nat.mul_add_div (by omega), Nat.div_eq_of_lt hj, Nat.add_zero]
 rw [e1, e2]
theorem rows_entry {r c i j : Nat} {l : List Int} (hl : l.length = r * c) (hi : i < r) (hj : j < c) : entry (rowsOf c r l) i j = l.getD (i * c + j) 0 := by
 have hf := flat_rowsOf r l hl
 have := flat_get hf.2 (by rw [rowsOf_length]; exact hi) hj
 rw [hf.1] at this
 exact this.symm
theorem trans_entry {r c i j : Nat} {l : List Int} (hl : l.length = r * c) (hi : i < c) (hj : j < r) : entry (rowsOf r c (transL r c l)) i j = entry (rowsOf c r l) j i := by
 rw [rows_entry (trans_length r c l) hi hj, rows_entry hl hj hi, trans_getD hi hj]
theorem getD_bytes {l : List Int} (h : bytesB l = true) (q : Nat) : 0 ≤ l.getD q 0 ∧ l.getD q 0 < 256 := by
 by_cases e : q < l.length
 ·exact bytesB_at h e
 ·rw [List.getD_eq_getElem?_getD, List.getElem?_eq_none (by omega)]
  exact ⟨by decide, by decide⟩
theorem trans_bytes {r c : Nat} {l : List Int} (h : bytesB l = true) : bytesB (transL r c l) = true := by
 unfold bytesB
 rw [List.all_eq_true]
 intro x hx
 unfold transL at hx
 obtain ⟨q, _, rfl⟩ := List.mem_map.1 hx
 have := getD_bytes h (q % r * c + q / r)
 rw [Bool.and_eq_true, decide_eq_true_eq, decide_eq_true_eq]
 exact this
theorem gTrans_eq {r c : Nat} {l : List Int} (h : matrix_Right.f (r : Int) (c : Int) l = some true) : matrix_Transpose.f (r : Int) (c : Int) l = some ((c : Int), (r : Int), transL r c l, 0) := by
 unfold matrix_Transpose.f
 rw [h, Option.bind_some, if_pos rfl]
 rfl
theorem sh_rows {r c : Nat} {l : List Int} (hb : bytesB l = true) (hl : l.length = r * c) (hr : r ≤ 64) (hc : c ≤ 64) : Sh (rowsOf c r l) c := Sh.of1 (shp_nil hb hl ⟨hr, hc⟩)
theorem col_trans {r c b : Nat} {l : List Int} (hl : l.length = r * c) (hb : b < r) : col c (mv (rowsOf r c (transL r c l)) r) b = mv (rowsOf c r l) c b := by
 funext a
 unfold col mv
 by_cases ha : a < c
 ·rw [if_pos ha, if_pos hb, if_pos ha, trans_entry hl ha hb]
 ·rw [if_neg ha, if_neg ha]
theorem span_congr {b c : Nat → Vec} {n : Nat} (h : ∀ i, i < n → b i = c i) (v : Vec) : Span b n v ↔ Span c n v :=
 ⟨fun ⟨x, e⟩ => ⟨x, e.trans (lc_congr h fun _ _ => rfl)⟩, fun ⟨x, e⟩ => ⟨x, e.trans (lc_congr (fun i hi => (h i hi).symm) fun _ _ => rfl)⟩⟩
def fstP (r c : Nat) (l : List Int) : List Int := (redA (rowsOf r c (transL r c l)) r).2
theorem trans_rr {r c : Nat} {l : List Int} (hb : bytesB l = true) (hl : l.length = r * c) (hr : r ≤ 64) (hc : c ≤ 64) :
  RI (rowsOf r c (transL r c l)) (redA (rowsOf r c (transL r c l)) r).1 r r (fstP r c l) := redA_inv (sh_rows (trans_bytes hb) (trans_length r c l) hc hr) r (Nat.le_refl _)
theorem rowsOf_elem {r c p : Nat} {l : List Int} (h : p < (rowsOf c r l).length) : (rowsOf c r l)[p] = (l.drop (p * c)).take c := by simp [rowsOf]
theorem below_all {p : Nat → Nat} {b : Nat} : ∀ t, (∀ i, i < t → p i < b) → below p b t = t
 | 0, _ => rfl
 | t + 1, h => by
  have := below_all t fun i hi => h i (by omega)
  unfold below
  rw [if_pos (h t (by omega)), this]
end Go.Proofs.YtjgcocfnilhggaaDoor.M
namespace Go.Proofs.YtjgcocfnilhggaaDoor.M
open Go.RowKit Go.Proofs.YtjgcocfnilhggaaDoorW.PrintWords Go.Proofs.YtjgcocfnilhggaaDoorW.PrintLast Go.Proofs.YtjgcocfnilhggaaDoorW.PrintMore Go.Proofs.YtjgcocfnilhggaaDoor.Q
set_option linter.unusedVariables false
theorem fstP_red {r c : Nat} {l : List Int} : (redL c r (transL r c l)).2 = fstP r c l := (Prod.mk.inj (red_fst (rowsOf r c (transL r c l)) (List.replicate c []) r)).2
theorem gFirst_eq {r c : Nat} {l : List Int} (hb : bytesB l = true) (hl : l.length = r * c) (hr : r ≤ 64) (hc : c ≤ 64) : gauss_First.f (r : Int) (c : Int) l = some (fstP r c l, 0) := by
 unfold gauss_First.f
 rw [gTrans_eq (right_of hr hc hl).1, Option.bind_some, if_pos rfl, gReduce_eq (right_of hc hr (trans_length r c l)).1 (trans_bytes hb), Option.bind_some, fstP_red]
section
variable {r c : Nat} {l : List Int}
theorem fst_len (hb : bytesB l = true) (hl : l.length = r * c) (hr : r ≤ 64) (hc : c ≤ 64) : (fstP r c l).length ≤ c := by
 have := (trans_rr hb hl hr hc).tn
 rwa [rowsOf_length] at this
theorem fst_in (hb : bytesB l = true) (hl : l.length = r * c) (hr : r ≤ 64) (hc : c ≤ 64) : ∀ x ∈ fstP r c l, 0 ≤ x ∧ x < (r : Int) := fun x hx => by
 obtain ⟨i, hi, rfl⟩ := List.getElem_of_mem hx
 have h1 := (trans_rr hb hl hr hc).nat i hi
 have h2 := (trans_rr hb hl hr hc).lt i hi
 rw [List.getD_eq_getElem?_getD, List.getElem?_eq_getElem hi, Option.getD_some] at h1
 omega
theorem inB_of {L : List Int} (h : ∀ x ∈ L, 0 ≤ x ∧ x < (r : Int)) : inB (r : Int) L = true := by
 unfold inB
 rw [List.all_eq_true]
 intro x hx
 rw [Bool.and_eq_true, decide_eq_true_eq, decide_eq_true_eq]
 exact h x hx
theorem seg_row (hl : l.length = r * c) {x : Int} (h : 0 ≤ x ∧ x < (r : Int)) : segP c l x = (rowsOf c r l).getD x.toNat [] := by
 have hx : x.toNat < r := by omega
 unfold segP
 rw [List.getD_eq_getElem?_getD, List.getElem?_eq_getElem (by rw [rowsOf_length]; exact hx), Option.getD_some, rowsOf_elem]
theorem pick_rows (hl : l.length = r * c) {L : List Int} (h : ∀ x ∈ L, 0 ≤ x ∧ x < (r : Int)) : pickL c l L = (L.map fun x => (rowsOf c r l).getD x.toNat []).flatten := by
 unfold pickL
 congr 1
 exact List.map_congr_left fun x hx => seg_row hl (h x hx)
theorem pick_len (hl : l.length = r * c) {L : List Int} (h : ∀ x ∈ L, 0 ≤ x ∧ x < (r : Int)) : (pickL c l L).length = L.length * c := by
 have hU := (flat_rowsOf r l hl).2
 rw [pick_rows hl h, flat_len (M := L.map fun x => (rowsOf c r l).getD x.toNat []) (c := c) (fun y hy => by
  obtain ⟨x, hx, rfl⟩ := List.mem_map.1 hy
  exact hU.at (by rw [rowsOf_length]; have := h x hx; omega)), List.length_map]
theorem bytes_flat {M : List (List Int)} (h : rowsB M = true) : bytesB M.flatten = true := by
 unfold rowsB at h
 unfold bytesB
 rw [List.all_eq_true] at h ⊢
 intro x hx
 obtain ⟨y, hy, hxy⟩ := List.mem_flatten.1 hx
 have := h y hy
 unfold bytesB at this
 rw [List.all_eq_true] at this
 exact this x hxy
theorem pick_bytes (hb : bytesB l = true) (L : List Int) : bytesB (pickL c l L) = true := by
 unfold pickL
 refine bytes_flat ?_
 rw [rowsB, List.all_eq_true]
 intro y hy
 obtain ⟨x, _, rfl⟩ := List.mem_map.1 hy
 exact bytesB_sub hb _ _
theorem gPick_eq (hl : l.length = r * c) (hr : r ≤ 64) (hc : c ≤ 64) {L : List Int} (h : ∀ x ∈ L, 0 ≤ x ∧ x < (r : Int)) (hL : L.length ≤ 64) : matrix_Pick.f (r : Int) (c : Int) l L = some ((L.length : Int), (c : Int), pickL c l L, 0) := by
 unfold matrix_Pick.f
 rw [(right_of hr hc hl).1, Option.bind_some, if_pos rfl, if_pos (inB_of h), if_pos hL]
 rfl
theorem rPick_ends (hl : l.length = r * c) (hr : r ≤ 64) (hc : c ≤ 64) {L : List Int} (h : ∀ x ∈ L, 0 ≤ x ∧ x < (r : Int)) (hL : L.length ≤ 64) : Ends (fun k => recoupref03_Pick.f k (r : Int) (c : Int) l L) ((L.length : Int), (c : Int), pickL c l L, 0) := by
 have hf := flat_rowsOf r l hl
 have hlen := rowsOf_length c r l
 have := Pick_ends hf.2 (by omega) hc (L := L) (fun x hx => by have := h x hx; omega) hL
 rw [hf.1, hlen, ← pick_rows hl h] at this
 exact this
def putC (P x : List Int) (n : Nat) : Nat → List Int
 | 0 => List.replicate n 0
 | i + 1 => (putC P x n i).set (P.getD i 0).toNat (x.getD i 0)
theorem putC_length (P x : List Int) (n : Nat) : ∀ i, (putC P x n i).length = n
 | 0 => by simp [putC]
 | i + 1 => by rw [putC, List.length_set]; exact putC_length P x n i
abbrev CR := List Int × Bool × Int
theorem gComb_l0 {P x : List Int} {n : Nat} (hP : P.length ≤ 64) (hx : P.length ≤ x.length) (h : ∀ y ∈ P, 0 ≤ y ∧ y < (n : Int)) : ∀ m i : Nat, i + m = P.length → Ends (fun k => gauss_Combine.l0 k (putC P x n i) x P (P.length : Int) (i : Int)) (putC P x n P.length, true, 0)
 | 0, i, hi => by
  obtain rfl : i = P.length := by omega
  refine Ends.succ (fun k => by rw [gauss_Combine.l0]) ?_
  exact Ends.neg (by omega) (Ends.const rfl)
 | m + 1, i, hi => by
  have hiP : i < P.length := by omega
  have hi4 : i ≤ 4096 := by omega
  have hy : 0 ≤ P.getD i 0 ∧ P.getD i 0 < (n : Int) := by
   rw [List.getD_eq_getElem?_getD, List.getElem?_eq_getElem hiP, Option.getD_some]
   exact h _ (List.getElem_mem hiP)
  refine Ends.succ (fun k => by rw [gauss_Combine.l0]) ?_
  refine Ends.pos (by omega) (Ends.pos (by omega) (Ends.pos (by omega) (Ends.pos (by omega) ?_)))
  rw [rd_nat, rd_nat, i64_succ hi4]
  refine Ends.pos hy.1 (Ends.pos (by rw [putC_length]; exact hy.2) ?_)
  exact gComb_l0 hP hx h m (i + 1) (by omega)
def cmbS (r c : Nat) (l y : List Int) : SR := solR c (fstP r c l).length (transL (fstP r c l).length c (pickL c l (fstP r c l))) y
def cmbR (r c : Nat) (l y : List Int) : CR := if (cmbS r c l y).2.1 = true then (putC (fstP r c l) (cmbS r c l y).1 r (fstP r c l).length, true, 0) else ([], false, 0)
theorem gComb_ends (hb : bytesB l = true) (hl : l.length = r * c) (hr : r ≤ 64) (hc : c ≤ 64) {y : List Int} (hy : y.length = c) (hyb : bytesB y = true) : Ends (fun k => gauss_Combine.f k (r : Int) (c : Int) l y) (cmbR r c l y) := by
 have hPl := fst_len hb hl hr hc
 have hin := fst_in hb hl hr hc
 have hpl := pick_len hl hin
 have hpb := pick_bytes (c := c) hb (fstP r c l)
 have hP64 : (fstP r c l).length ≤ 64 := by omega
 unfold gauss_Combine.f
 refine Ends.bind1 (right_of hr hc hl).1 (Ends.pos rfl ?_)
 refine Ends.succ (fun k => by rw [gauss_Combine.j0]) ?_
 refine Ends.neg (by simp [hy]) ?_
 refine Ends.bind1 (gFirst_eq hb hl hr hc) (Ends.pos rfl ?_)
 refine Ends.bind1 (gPick_eq hl hr hc hin hP64) (Ends.pos rfl ?_)
 refine Ends.bind1 (gTrans_eq (right_of hP64 hc hpl).1) (Ends.pos rfl ?_)
 have hs := gSolve_eq (right_of hc hP64 (trans_length (fstP r c l).length c (pickL c l (fstP r c l)))).1 (trans_bytes hpb) hy hyb
 refine Ends.bind1 hs ?_
 have he := solR_err c (fstP r c l).length (transL (fstP r c l).length c (pickL c l (fstP r c l))) y
 have hlen := solR_len c (fstP r c l).length (transL (fstP r c l).length c (pickL c l (fstP r c l))) y
 unfold cmbR cmbS
 generalize solR c (fstP r c l).length (transL (fstP r c l).length c (pickL c l (fstP r c l))) y = s at *
 refine Ends.pos he ?_
 refine Ends.succ (fun k => by rw [gauss_Combine.j1]) ?_
 by_cases e : s.2.1 = true
 ·rw [if_pos e]
  refine Ends.neg (by rw [e]; decide) ?_
  refine Ends.pos (by omega) (Ends.pos (by rw [Int.toNat_natCast]; omega) ?_)
  rw [Int.toNat_natCast]
  exact gComb_l0 hP64 (by rw [hlen e]; exact Nat.le_refl _) hin (fstP r c l).length 0 (by omega)
 ·rw [if_neg e]
  rw [Bool.not_eq_true] at e
  refine Ends.pos (by rw [e]; rfl) (Ends.const ?_)
  rw [he]
end
end Go.Proofs.YtjgcocfnilhggaaDoor.M
namespace Go.Proofs.YtjgcocfnilhggaaDoor.M
set_option linter.unusedVariables false
def Sp (b : Nat → Vec) (n : Nat) (A : Nat → Prop) (v : Vec) : Prop := ∃ x : Nat → El, (∀ i, ¬ A i → x i = 0) ∧ v = lc b n x
section
variable {b : Nat → Vec} {n : Nat} {A B : Nat → Prop} {v w : Vec}
theorem sp_mono (h : ∀ i, i < n → A i → B i) (hv : Sp b n A v) : Sp b n B v := by
 obtain ⟨x, h1, rfl⟩ := hv
 refine ⟨fun i => if i < n then x i else 0, fun i hi => ?_, lc_congr (fun _ _ => rfl) fun i hi => (if_pos hi).symm⟩
 show (if i < n then x i else 0) = 0
 by_cases hn : i < n
 ·rw [if_pos hn]
  exact h1 i fun hA => hi (h i hn hA)
 ·exact if_neg hn
theorem sp_span (hv : Sp b n A v) : Span b n v := by
 obtain ⟨x, _, rfl⟩ := hv
 exact ⟨x, rfl⟩
theorem sp_row {i : Nat} (hi : i < n) (hA : A i) : Sp b n A (b i) :=
 ⟨fun k => if k = i then 1 else 0, fun k hk => if_neg fun e => hk (by rw [e]; exact hA), (lc_unit b hi).symm⟩
theorem sp_zero : Sp b n A zv := ⟨fun _ => 0, fun _ _ => rfl, (lc_zero b n).symm⟩
theorem sp_add (h : Sp b n A v) (k : Sp b n A w) : Sp b n A (fun j => v j + w j) := by
 obtain ⟨x, x1, rfl⟩ := h
 obtain ⟨y, y1, rfl⟩ := k
 exact ⟨fun i => x i + y i, fun i hi => by show x i + y i = 0; rw [x1 i hi, y1 i hi, add_zero], (lc_add b n x y).symm⟩
theorem sp_mul (a : El) (h : Sp b n A v) : Sp b n A (fun j => a * v j) := by
 obtain ⟨x, x1, rfl⟩ := h
 exact ⟨fun i => a * x i, fun i hi => by show a * x i = 0; rw [x1 i hi, mul_zero], (lc_mul b n a x).symm⟩
theorem sp_lc {u : Nat → Vec} : ∀ (m : Nat) (x : Nat → El), (∀ i, i < m → Sp b n A (u i)) → Sp b n A (lc u m x)
 | 0, x, _ => sp_zero
 | m + 1, x, h => sp_add (sp_lc m x fun i hi => h i (by omega)) (sp_mul (x m) (h m (by omega)))
theorem sp_of_span {u : Nat → Vec} {m : Nat} (h : ∀ i, i < m → Sp b n A (u i)) (hv : Span u m v) : Sp b n A v := by
 obtain ⟨x, rfl⟩ := hv
 exact sp_lc m x h
theorem span_of_sp {u : Nat → Vec} {m : Nat} (h : ∀ i, i < n → A i → Span u m (b i)) (hv : Sp b n A v) : Span u m v := by
 obtain ⟨x, h1, rfl⟩ := hv
 have : lc b n x = lc (fun i => if x i = 0 then zv else b i) n x := by
  funext j
  refine sm_congr fun i hi => ?_
  show x i * b i j = x i * (if x i = 0 then zv else b i) j
  by_cases e : x i = 0
  ·rw [if_pos e, e, zero_mul, zero_mul]
  ·rw [if_neg e]
 rw [this]
 refine span_lc (fun i hi => ?_) x
 show Span u m (if x i = 0 then zv else b i)
 by_cases e : x i = 0
 ·rw [if_pos e]; exact span_zero u m
 ·rw [if_neg e]
  exact h i hi (Classical.byContradiction fun hn => e (h1 i hn))
theorem sp_sub (h : ∀ i, i < n → A i → Sp b n B (b i)) (hv : Sp b n A v) : Sp b n B v := by
 obtain ⟨x, h1, rfl⟩ := hv
 have : lc b n x = lc (fun i => if x i = 0 then zv else b i) n x := by
  funext j
  refine sm_congr fun i hi => ?_
  show x i * b i j = x i * (if x i = 0 then zv else b i) j
  by_cases e : x i = 0
  ·rw [if_pos e, e, zero_mul, zero_mul]
  ·rw [if_neg e]
 rw [this]
 refine sp_lc n x fun i hi => ?_
 show Sp b n B (if x i = 0 then zv else b i)
 by_cases e : x i = 0
 ·rw [if_pos e]; exact sp_zero
 ·rw [if_neg e]
  exact h i hi (Classical.byContradiction fun hn => e (h1 i hn))
theorem sp_dim (b : Nat → Vec) (n : Nat) (A : Nat → Prop) : ∃ k, k ≤ n ∧ Dim (Sp b n A) k := dim_exists (u := b) (m := n) fun v hv => sp_span hv
noncomputable def rkS (b : Nat → Vec) (n : Nat) (A : Nat → Prop) : Nat := Classical.choose (sp_dim b n A)
theorem rkS_dim (b : Nat → Vec) (n : Nat) (A : Nat → Prop) : Dim (Sp b n A) (rkS b n A) := (Classical.choose_spec (sp_dim b n A)).2
theorem rkS_eq {k : Nat} (h : Dim (Sp b n A) k) : rkS b n A = k := dim_unique (rkS_dim b n A) h
theorem rkS_mono (h : ∀ i, i < n → A i → B i) : rkS b n A ≤ rkS b n B := dim_le (rkS_dim b n A) (rkS_dim b n B) fun v hv => sp_mono h hv
theorem rkS_span (h : ∀ v, Sp b n A v ↔ Sp b n B v) : rkS b n A = rkS b n B := dim_unique (rkS_dim b n A) (dim_congr (fun v => (h v).symm) (rkS_dim b n B))
theorem rkS_full (h : ∀ i, i < n → A i → B i) (e : rkS b n B ≤ rkS b n A) : Sp b n B v → Sp b n A v := fun hv => by
 obtain ⟨u, u1, u2, u3⟩ := rkS_dim b n A
 have hB := rkS_dim b n B
 have e2 := rkS_mono (b := b) h
 rw [show rkS b n B = rkS b n A from by omega] at hB
 exact sp_of_span u2 (dim_full hB u1 (fun i hi => sp_mono h (u2 i hi)) v hv)
theorem rkS_in {i : Nat} (hi : i < n) : rkS b n (fun k => A k ∨ k = i) = rkS b n A ↔ Sp b n A (b i) := by
 constructor
 ·intro e
  exact rkS_full (fun k _ h => .inl h) (Nat.le_of_eq e) (sp_row hi (.inr rfl))
 ·intro h
  exact rkS_span fun v => ⟨sp_sub fun k hk hA => by
   rcases hA with hA | rfl
   ·exact sp_row hk hA
   ·exact h, sp_mono fun k _ hA => .inl hA⟩
theorem rkS_lt {i : Nat} (hi : i < n) : rkS b n (fun k => A k ∨ k = i) > rkS b n A ↔ ¬ Sp b n A (b i) := by
 have h1 := rkS_mono (b := b) (A := A) (B := fun k => A k ∨ k = i) (n := n) fun k _ h => .inl h
 rw [← rkS_in hi]
 omega
end
section
variable {b : Nat → Vec} {n : Nat} {A : Nat → Prop} {L : List Nat}
def rowsL (b : Nat → Vec) (L : List Nat) : Nat → Vec := fun k => b (L.getD k 0)
theorem sp_list (hL : ∀ i, i ∈ L ↔ A i ∧ i < n) (hA : ∀ i, A i → i < n) (v : Vec) : Span (rowsL b L) L.length v ↔ Sp b n A v := by
 have hm : ∀ k, k < L.length → L.getD k 0 ∈ L := fun k hk => by
  rw [List.getD_eq_getElem?_getD, List.getElem?_eq_getElem hk]; exact List.getElem_mem hk
 constructor
 ·exact sp_of_span fun k hk => sp_row ((hL _).1 (hm k hk)).2 ((hL _).1 (hm k hk)).1
 ·refine span_of_sp fun i hi hAi => ?_
  obtain ⟨k, hk, e⟩ := List.getElem_of_mem ((hL i).2 ⟨hAi, hi⟩)
  have h1 := span_mem (rowsL b L) hk
  have h2 : rowsL b L k = b i := by
   unfold rowsL
   rw [List.getD_eq_getElem?_getD, List.getElem?_eq_getElem hk]
   exact congrArg b e
  rwa [h2] at h1
end
end Go.Proofs.YtjgcocfnilhggaaDoor.M
namespace Go.Proofs.YtjgcocfnilhggaaDoor.M
open Go.RowKit Go.Proofs.YtjgcocfnilhggaaDoorW.PrintWords Go.Proofs.YtjgcocfnilhggaaDoorW.PrintLast Go.Proofs.YtjgcocfnilhggaaDoorW.PrintMore Go.Proofs.YtjgcocfnilhggaaDoor.Q
set_option linter.unusedVariables false
def pk (c : Nat) (l : List Int) (s : Nat) : List Int := pickL c l (ints (setL s))
def rho (c : Nat) (l : List Int) (s : Nat) : Nat := (redL (setL s).length c (pk c l s)).2.length
def Val (r s : Nat) : Prop := ∀ i ∈ setL s, i < r
section
variable {r c s : Nat} {l : List Int}
theorem val_in (h : Val r s) : ∀ x ∈ ints (setL s), 0 ≤ x ∧ x < (r : Int) := fun x hx => by
 obtain ⟨i, hi, rfl⟩ := List.mem_map.1 hx
 have := h i hi
 omega
theorem pk_len (hl : l.length = r * c) (h : Val r s) : (pk c l s).length = (setL s).length * c := by
 have := pick_len hl (val_in h)
 rwa [ints_length] at this
theorem rank7 (hb : bytesB l = true) (hl : l.length = r * c) (hr : r ≤ 64) (hc : c ≤ 64) (hs : s < 2 ^ 64) (h : Val r s) : Ends (fun k => recoupref07_rank.f k (r : Int) (c : Int) l (s : Int)) (rho c l s : Int) := by
 unfold recoupref07_rank.f
 refine Ends.bind (refList_eq hs) ?_
 have := rPick_ends hl hr hc (val_in h) (by rw [ints_length]; exact setL_length s)
 rw [ints_length] at this
 refine Ends.bind this ?_
 exact Ends.bind (Rank_ends (setL_length s) hc (pk_len hl h) (pick_bytes hb _)) (Ends.const rfl)
theorem val_iff (hr : r ≤ 64) (hs : s < 2 ^ 64) : (Go.bits .andNot .u64 (s : Int) ((2 ^ r - 1 : Nat) : Int) = 0) ↔ Val r s := by
 rw [asked hr hs]
 unfold setOk Val
 constructor
 ·rintro ⟨_, _, h⟩ i hi
  have := h i hi
  omega
 ·exact fun h => ⟨by omega, by omega, fun i hi => by have := h i hi; omega⟩
theorem bad7 (hl : l.length = r * c) (hr : r ≤ 64) (hc : c ≤ 64) (hs : s < 2 ^ 64) : Ends (fun k => recoupref07_bad.f k (r : Int) (c : Int) l (s : Int)) (if Go.bits .andNot .u64 (s : Int) ((2 ^ r - 1 : Nat) : Int) = 0 then 0 else 2) := by
 unfold recoupref07_bad.f
 refine Ends.bind1 (right_of hr hc hl).2 (Ends.pos rfl ?_)
 have hf := refFull_eq (r : Int)
 have e : fullV (r : Int) = (((2 ^ r - 1 : Nat) : Int), 0) := by unfold fullV; rw [if_pos ⟨by omega, by omega⟩, Int.toNat_natCast]
 rw [e] at hf
 refine Ends.bind hf ?_
 by_cases h : Go.bits .andNot .u64 (s : Int) ((2 ^ r - 1 : Nat) : Int) = 0
 ·rw [if_pos h, if_pos h]; exact Ends.const rfl
 ·rw [if_neg h, if_neg h]; exact Ends.const rfl
theorem bad7_ok (hl : l.length = r * c) (hr : r ≤ 64) (hc : c ≤ 64) (hs : s < 2 ^ 64) (h : Val r s) : Ends (fun k => recoupref07_bad.f k (r : Int) (c : Int) l (s : Int)) 0 := by
 have := bad7 hl hr hc hs
 rwa [if_pos ((val_iff hr hs).2 h)] at this
theorem bad7_arg (hl : l.length = r * c) (hr : r ≤ 64) (hc : c ≤ 64) (hs : s < 2 ^ 64) (h : ¬ Val r s) : Ends (fun k => recoupref07_bad.f k (r : Int) (c : Int) l (s : Int)) 2 := by
 have := bad7 hl hr hc hs
 rwa [if_neg (fun e => h ((val_iff hr hs).1 e))] at this
theorem rRank7 (hb : bytesB l = true) (hl : l.length = r * c) (hr : r ≤ 64) (hc : c ≤ 64) (hs : s < 2 ^ 64) (h : Val r s) : Ends (fun k => recoupref07_Rank.f k (r : Int) (c : Int) l (s : Int)) ((rho c l s : Int), 0) := by
 unfold recoupref07_Rank.f
 exact Ends.bind (bad7_ok hl hr hc hs h) (Ends.pos rfl (Ends.bind (rank7 hb hl hr hc hs h) (Ends.const rfl)))
theorem rRank7_arg (hl : l.length = r * c) (hr : r ≤ 64) (hc : c ≤ 64) (hs : s < 2 ^ 64) (h : ¬ Val r s) : Ends (fun k => recoupref07_Rank.f k (r : Int) (c : Int) l (s : Int)) (0, 2) := by
 unfold recoupref07_Rank.f
 exact Ends.bind (bad7_arg hl hr hc hs h) (Ends.neg (by decide) (Ends.const rfl))
theorem args7 {a b x : Int} {l : List Int} (ha : (Lit.int .i64 a).wf = true) (hx : (Lit.int .u64 x).wf = true) :
  (recoupref03_Right.f a b l = some false ∧ matrix_Right.f a b l = some false) ∨ ∃ r c s : Nat, a = (r : Int) ∧ b = (c : Int) ∧ x = (s : Int) ∧ r ≤ 64 ∧ c ≤ 64 ∧ l.length = r * c ∧ s < 2 ^ 64 := by
 have hR : recoupref03_Right.f a b l = matrix_Right.f a b l := Right_eq (wf_i64 ha)
 obtain ⟨s, rfl, hs⟩ := u64_nat hx
 rcases Right_cases a b l with h | h
 ·obtain ⟨r, c, rfl, rfl, hr, hc, hlen, _⟩ := right_nat (hR ▸ h)
  exact .inr ⟨r, c, s, rfl, rfl, rfl, hr, hc, hlen, hs⟩
 ·exact .inl ⟨h, hR ▸ h⟩
end
end Go.Proofs.YtjgcocfnilhggaaDoor.M
namespace Go.Proofs.YtjgcocfnilhggaaDoor.M
open Go.RowKit Go.Proofs.YtjgcocfnilhggaaDoorW.PrintWords Go.Proofs.YtjgcocfnilhggaaDoorW.PrintLast Go.Proofs.YtjgcocfnilhggaaDoorW.PrintMore Go.Proofs.YtjgcocfnilhggaaDoor.Q
set_option linter.unusedVariables false
theorem rows_flat {M : List (List Int)} {c : Nat} (h : U M c) : rowsOf c M.length M.flatten = M := by
 refine List.ext_getElem (by rw [rowsOf_length]) fun i h1 h2 => ?_
 rw [rowsOf_elem, flat_row h h2, List.getD_eq_getElem?_getD, List.getElem?_eq_getElem h2, Option.getD_some]
end Go.Proofs.YtjgcocfnilhggaaDoor.M
namespace Go.Proofs.YtjgcocfnilhggaaDoor.M
open Go.RowKit Go.Proofs.YtjgcocfnilhggaaDoorW.PrintWords Go.Proofs.YtjgcocfnilhggaaDoorW.PrintLast Go.Proofs.YtjgcocfnilhggaaDoorW.PrintMore Go.Proofs.YtjgcocfnilhggaaDoor.Q
set_option linter.unusedVariables false
def vv (x : List Int) : Vec := fun j => toE (x.getD j 0)
theorem vv_out {x : List Int} {j : Nat} (h : x.length ≤ j) : vv x j = 0 := by
 unfold vv
 rw [List.getD_eq_getElem?_getD, List.getElem?_eq_none h]
 rfl
def one1 (c : Nat) (x : Vec) : Vec := fun j => if j < c then x j else if j = c then 1 else 0
theorem dot_one1 {c : Nat} (r x : Vec) : dot (c + 1) r (one1 c x) = dot c r x + r c := by
 show sm c (fun b => r b * one1 c x b) + r c * one1 c x c = _
 have e : one1 c x c = 1 := by unfold one1; rw [if_neg (Nat.lt_irrefl c), if_pos rfl]
 rw [e, mul_one]
 congr 1
 exact sm_congr fun b hb => by unfold one1; rw [if_pos hb]
section
variable {r c : Nat} {l y : List Int}
theorem aug_rows {M D : List (List Int)} {C : Nat} (h : Shp M D C 1) {i : Nat} (hi : i < M.length) : (∀ j, j < C → mv (aug M D) (C + 1) i j = mv M C i j) ∧ mv (aug M D) (C + 1) i C = toE (entry D i 0) := by
 refine ⟨fun j hj => ?_, ?_⟩
 ·rw [mv_at (by omega), mv_at hj, aug_entry h.len (h.eM i hi) hj]
 ·rw [mv_at (by omega)]
  have := aug_entry_right (j := 0) h.len (h.eM i hi)
  rw [Nat.add_zero] at this
  rw [this]
theorem dot_congr {W : Nat} {r r' x x' : Vec} (h : ∀ j, j < W → r j = r' j) (k : ∀ j, j < W → x j = x' j) : dot W r x = dot W r' x' := sm_congr fun j hj => by rw [h j hj, k j hj]
theorem aug_ker {M D : List (List Int)} {C : Nat} (h : Shp M D C 1) (x : Vec) : Ker (C + 1) M.length (mv (aug M D) (C + 1)) (one1 C x) ↔ ∀ i, i < M.length → dot C (mv M C i) x = toE (entry D i 0) := by
 constructor
 ·intro hk i hi
  have h1 := hk i hi
  obtain ⟨a1, a2⟩ := aug_rows h hi
  rw [dot_one1, a2, dot_congr a1 (fun _ _ => rfl)] at h1
  exact add_cancel h1
 ·intro hk i hi
  obtain ⟨a1, a2⟩ := aug_rows h hi
  rw [dot_one1, a2, dot_congr a1 (fun _ _ => rfl), hk i hi, add_self]
theorem red_sol {M D : List (List Int)} {C : Nat} (h : Shp M D C 1) (x : Vec) : (∀ i, i < M.length → dot C (mv M C i) x = toE (entry D i 0)) ↔ ∀ i, i < M.length → dot C (mv (redTo M D C).1.1 C i) x = toE (entry (redTo M D C).1.2 i 0) := by
 have hs := red_shp h C
 have hg := red_aug h C (Nat.le_refl _)
 have hi := redA_inv (Sh.aug h) C (by omega)
 have hl := aug_length h.len
 rw [hg] at hi
 have hsp := hi.span
 rw [hl] at hsp
 have k1 := aug_ker h x
 have k2 := aug_ker hs.1 x
 rw [hs.2.1] at k2
 rw [← k1, ← k2, ker_same hsp]
theorem Y_entry {i : Nat} (hi : i < r) : entry (Ycol y r) i 0 = y.getD i 0 := by
 unfold entry Ycol
 rw [fill_get hi]
 rfl
theorem red_ri {M D : List (List Int)} {C wd : Nat} (h : Shp M D C wd) : RI M (redTo M D C).1.1 C C (redTo M D C).2 := by
 have := redA_inv (Sh.of1 h) C (Nat.le_refl _)
 rw [← red_fst M D C] at this
 exact this
theorem solve_at {P : List Int} {D : List (List Int)} {c : Nat} (hnat : ∀ i, i < P.length → P.getD i 0 = (pv P i : Int)) (hlt : ∀ i, i < P.length → pv P i < c) (hm : ∀ i k, i < k → k < P.length → pv P i < pv P k) :
  ∀ k, k ≤ P.length → (∀ i, i < k → (solveTo P D c k).getD (pv P i) 0 = entry D i 0) ∧ ∀ j, j < c → (∀ i, i < k → j ≠ pv P i) → (solveTo P D c k).getD j 0 = 0
 | 0, _ => ⟨fun i hi => absurd hi (Nat.not_lt_zero _), fun j hj _ => by
  show (List.replicate c (0 : Int)).getD j 0 = 0
  rw [List.getD_eq_getElem?_getD, List.getElem?_replicate_of_lt hj]
  rfl⟩
 | k + 1, hk => by
  obtain ⟨h1, h2⟩ := solve_at (D := D) hnat hlt hm k (by omega)
  have hkP : k < P.length := by omega
  rw [solveTo, if_pos hkP, hnat k hkP, Int.toNat_natCast]
  refine ⟨fun i hi => ?_, fun j hj hn => ?_⟩
  ·by_cases e : i = k
   ·subst e
    exact getD_set_self (by rw [solveTo_length]; exact hlt i hkP)
   ·have := hm i k (by omega) hkP
    rw [getD_set_ne (by omega)]
    exact h1 i (by omega)
  ·rw [getD_set_ne (fun e => hn k (by omega) e.symm)]
   exact h2 j hj fun i hi => hn i (by omega)
theorem solR_good (h : (solR r c l y).2.1 = true) : (solR r c l y).1 = solveTo (redTo (rowsOf c r l) (Ycol y r) c).2 (redTo (rowsOf c r l) (Ycol y r) c).1.2 c r ∧ ¬ badFrom (redTo (rowsOf c r l) (Ycol y r) c).2 (redTo (rowsOf c r l) (Ycol y r) c).1.2 r 0 = true := by
 unfold solR at h ⊢
 simp only [] at h ⊢
 split
 ·rename_i e
  rw [if_pos e] at h; cases h
 ·rename_i e
  exact ⟨rfl, e⟩
theorem solR_sound (hb : bytesB l = true) (hl : l.length = r * c) (hr : r ≤ 64) (hc : c ≤ 64) (hy : y.length = r) (hyb : bytesB y = true) (h : (solR r c l y).2.1 = true) :
  ∀ i, i < r → dot c (mv (rowsOf c r l) c i) (vv (solR r c l y).1) = vv y i := by
 obtain ⟨h1, h2⟩ := solR_good h
 have hS := shp_Y hb hyb hl hr hc hy
 have hlen := rowsOf_length c r l
 have hri := red_ri hS
 have hs := red_shp hS c
 have hsol := red_sol hS (vv (solR r c l y).1)
 rw [h1] at hsol ⊢
 intro i hi
 have goal := hsol.2 ?_ i (by omega)
 ·rw [goal, Y_entry hi]; rfl
 ·intro k hk
  have hrr := hri.rr
  have htn := hri.tn
  have hD : ∀ i', (redTo (rowsOf c r l) (Ycol y r) c).2.length ≤ i' → i' < r → entry (redTo (rowsOf c r l) (Ycol y r) c).1.2 i' 0 = 0 := fun i' a b => Classical.byContradiction fun hn => h2 (bad_iff _ _ |>.2 ⟨i', Nat.zero_le _, by omega, a, hn⟩)
  obtain ⟨s1, s2⟩ := solve_at (D := (redTo (rowsOf c r l) (Ycol y r) c).1.2) hri.nat hri.lt hri.mono (redTo (rowsOf c r l) (Ycol y r) c).2.length (Nat.le_refl _)
  rw [solveTo_more (i := r) (by omega)]
  generalize redTo (rowsOf c r l) (Ycol y r) c = T at *
  by_cases e : k < T.2.length
  ·have hd := hrr.dot_piv (x := vv (solveTo T.2 T.1.2 c T.2.length)) (fun j hj hn => by unfold vv; rw [s2 j hj hn, toE_zero]) e
   rw [hd]
   unfold vv
   rw [s1 k e]
  ·rw [hrr.low k (by omega) hk, hD k (by omega) (by omega), toE_zero]
   exact sm_zero fun j _ => zero_mul _
theorem solR_complete (hb : bytesB l = true) (hl : l.length = r * c) (hr : r ≤ 64) (hc : c ≤ 64) (hy : y.length = r) (hyb : bytesB y = true) {x : Vec} (hx : ∀ i, i < r → dot c (mv (rowsOf c r l) c i) x = vv y i) : (solR r c l y).2.1 = true := by
 have hS := shp_Y hb hyb hl hr hc hy
 have hlen := rowsOf_length c r l
 have hri := red_ri hS
 have hs := red_shp hS c
 have hsol := (red_sol hS x).1 fun i hi => by rw [hx i (by omega), Y_entry (by omega)]; rfl
 have hrr := hri.rr
 unfold solR
 simp only []
 have hbad : ¬ badFrom (redTo (rowsOf c r l) (Ycol y r) c).2 (redTo (rowsOf c r l) (Ycol y r) c).1.2 r 0 = true := by
  rw [bad_iff]
  rintro ⟨i, _, h2, h3, h4⟩
  have hir : i < (rowsOf c r l).length := by omega
  have h5 := hsol i hir
  rw [hrr.low i h3 hir] at h5
  have h6 : dot c zv x = 0 := sm_zero fun j _ => zero_mul _
  rw [h6] at h5
  have hbb := (Sh.of2 hs.1).byte (i := i) (j := 0) (by rw [hs.1.len]; omega) (by decide)
  exact toE_ne hbb h4 h5.symm
 rw [if_neg hbad]
theorem getElem_getD {L : List Int} {q : Nat} (h : q < L.length) : L[q] = L.getD q 0 := by rw [List.getD_eq_getElem?_getD, List.getElem?_eq_getElem h]; rfl
theorem solR_bytes (hb : bytesB l = true) (hl : l.length = r * c) (hr : r ≤ 64) (hc : c ≤ 64) (hy : y.length = r) (hyb : bytesB y = true) (h : (solR r c l y).2.1 = true) : bytesB (solR r c l y).1 = true := by
 have hg := (solR_good h).1
 rw [hg]
 have hS := shp_Y hb hyb hl hr hc hy
 have hs := red_shp hS c
 have hri := red_ri hS
 have htn := hri.tn
 have hrl := rowsOf_length c r l
 rw [solveTo_more (i := r) (by omega)]
 obtain ⟨s1, s2⟩ := solve_at (D := (redTo (rowsOf c r l) (Ycol y r) c).1.2) hri.nat hri.lt hri.mono (redTo (rowsOf c r l) (Ycol y r) c).2.length (Nat.le_refl _)
 unfold bytesB
 rw [List.all_eq_true]
 intro v hv
 obtain ⟨q, hq, rfl⟩ := List.getElem_of_mem hv
 have hqc : q < c := by rw [solveTo_length] at hq; exact hq
 rw [getElem_getD hq, Bool.and_eq_true, decide_eq_true_eq, decide_eq_true_eq]
 by_cases e2 : ∃ i, i < (redTo (rowsOf c r l) (Ycol y r) c).2.length ∧ q = pv (redTo (rowsOf c r l) (Ycol y r) c).2 i
 ·obtain ⟨i, hi, rfl⟩ := e2
  rw [s1 i hi]
  exact (Sh.of2 hs.1).byte (by rw [hs.1.len, hs.2.1]; omega) (by decide)
 ·rw [s2 q hqc fun i hi e3 => e2 ⟨i, hi, e3⟩]
  exact ⟨by decide, by decide⟩
end
end Go.Proofs.YtjgcocfnilhggaaDoor.M
namespace Go.Proofs.YtjgcocfnilhggaaDoor.M
open Go.RowKit Go.Proofs.YtjgcocfnilhggaaDoorW.PrintWords Go.Proofs.YtjgcocfnilhggaaDoorW.PrintLast Go.Proofs.YtjgcocfnilhggaaDoorW.PrintMore Go.Proofs.YtjgcocfnilhggaaDoor.Q
set_option linter.unusedVariables false
theorem redL_rk (r c : Nat) (l : List Int) : (redL r c l).2.length = rk (rowsOf c r l) c := by
 have := (Prod.mk.inj (red_fst (rowsOf c r l) (List.replicate r []) c)).2
 show (redTo (rowsOf c r l) (List.replicate r []) c).2.length = (redA (rowsOf c r l) c).2.length
 rw [this]
end Go.Proofs.YtjgcocfnilhggaaDoor.M
namespace Go.Proofs.YtjgcocfnilhggaaDoor.M
open Go.RowKit Go.Proofs.YtjgcocfnilhggaaDoorW.PrintWords Go.Proofs.YtjgcocfnilhggaaDoorW.PrintLast Go.Proofs.YtjgcocfnilhggaaDoorW.PrintMore Go.Proofs.YtjgcocfnilhggaaDoor.Q
set_option linter.unusedVariables false
def Bit (s : Nat) : Nat → Prop := fun i => s.testBit i = true
section
variable {r c s t : Nat} {l : List Int}
theorem val_bit (hs : s < 2 ^ 64) : Val r s ↔ ∀ i, s.testBit i = true → i < r := by
 unfold Val
 constructor
 ·exact fun h i hi => h i ((mem_setL' hs).2 hi)
 ·exact fun h i hi => h i ((mem_setL' hs).1 hi)
theorem pk_row (hl : l.length = r * c) (h : Val r s) {k : Nat} (hk : k < (setL s).length) : mv (rowsOf c (setL s).length (pk c l s)) c k = mv (rowsOf c r l) c ((setL s).getD k 0) := by
 have hin := val_in h
 have hU := (flat_rowsOf r l hl).2
 have hf : U ((ints (setL s)).map fun x => (rowsOf c r l).getD x.toNat []) c := fun y hy => by
  obtain ⟨x, hx, rfl⟩ := List.mem_map.1 hy
  exact hU.at (by rw [rowsOf_length]; have := hin x hx; omega)
 have e := rows_flat hf
 rw [List.length_map, ints_length] at e
 have e2 : rowsOf c (setL s).length (pk c l s) = (ints (setL s)).map fun x => (rowsOf c r l).getD x.toNat [] := by
  unfold pk
  rw [pick_rows hl hin]
  exact e
 rw [e2]
 have e3 : ((ints (setL s)).map fun x => (rowsOf c r l).getD x.toNat []).getD k [] = (rowsOf c r l).getD ((setL s).getD k 0) [] := by
  unfold ints
  rw [List.getD_eq_getElem?_getD, List.getElem?_map, List.getElem?_map, List.getD_eq_getElem?_getD (l := setL s), List.getElem?_eq_getElem hk]
  rfl
 funext j
 unfold mv entry
 rw [e3]
theorem mem_bit (hs : s < 2 ^ 64) (h : Val r s) (i : Nat) : i ∈ setL s ↔ Bit s i ∧ i < r :=
 ⟨fun hi => ⟨(mem_setL' hs).1 hi, h i hi⟩, fun hi => (mem_setL' hs).2 hi.1⟩
theorem pk_sp (hl : l.length = r * c) (hs : s < 2 ^ 64) (h : Val r s) (v : Vec) : Span (mv (rowsOf c (setL s).length (pk c l s)) c) (setL s).length v ↔ Sp (mv (rowsOf c r l) c) r (Bit s) v := by
 have key : ∀ k, k < (setL s).length → mv (rowsOf c (setL s).length (pk c l s)) c k = rowsL (mv (rowsOf c r l) c) (setL s) k := fun k hk => pk_row hl h hk
 exact (span_congr key v).trans (sp_list (mem_bit hs h) ((val_bit hs).1 h) v)
theorem rho_rk (hb : bytesB l = true) (hl : l.length = r * c) (hr : r ≤ 64) (hc : c ≤ 64) (hs : s < 2 ^ 64) (h : Val r s) : rho c l s = rkS (mv (rowsOf c r l) c) r (Bit s) := by
 have hd := rk_dim (sh_rows (pick_bytes (c := c) hb (ints (setL s))) (pk_len hl h) (setL_length s) hc)
 rw [rowsOf_length] at hd
 have e : rho c l s = rk (rowsOf c (setL s).length (pk c l s)) c := redL_rk _ _ _
 rw [e]
 exact (rkS_eq (dim_congr (pk_sp hl hs h) hd)).symm
theorem val_sub (hs : s < 2 ^ 64) (ht : t < 2 ^ 64) (h : Val r s) (k : ∀ i, t.testBit i = true → s.testBit i = true) : Val r t := by
 rw [val_bit ht]
 exact fun i hi => (val_bit hs).1 h i (k i hi)
theorem bit_one (b i : Nat) : Bit (2 ^ b) i ↔ i = b := by
 unfold Bit
 rw [Nat.testBit_two_pow, decide_eq_true_eq]
 exact ⟨Eq.symm, Eq.symm⟩
def wo (s t : Nat) : Nat := s &&& (2 ^ 64 - 1 - t)
theorem bit_wo (hs : s < 2 ^ 64) (ht : t < 2 ^ 64) (i : Nat) : Bit (wo s t) i ↔ Bit s i ∧ ¬ Bit t i := by
 unfold Bit wo
 rw [testBit_andNot hs ht, Bool.and_eq_true, Bool.not_eq_true']
 simp
theorem wo_lt (hs : s < 2 ^ 64) : wo s t < 2 ^ 64 := lt_and hs
end
end Go.Proofs.YtjgcocfnilhggaaDoor.M
namespace Go.Proofs.YtjgcocfnilhggaaDoor.M
open Go.RowKit Go.Proofs.YtjgcocfnilhggaaDoorW.PrintWords Go.Proofs.YtjgcocfnilhggaaDoorW.PrintLast Go.Proofs.YtjgcocfnilhggaaDoorW.PrintMore Go.Proofs.YtjgcocfnilhggaaDoor.Q
set_option linter.unusedVariables false
theorem lc_pick {b : Nat → Vec} {n t : Nat} {p : Nat → Nat} (hp : ∀ i, i < t → p i < n) (x : Nat → El) : lc b n (fun j => sm t (fun i => if j = p i then x i else 0)) = lc (fun i => b (p i)) t x := by
 rw [show (fun j => sm t (fun i => if j = p i then x i else 0)) = fun j => sm t (fun i => x i * (if j = p i then 1 else 0)) from funext fun j => sm_congr fun i _ => by split <;> simp only [mul_one, mul_zero]]
 exact (lc_lc b (fun i => b (p i)) n t x (fun i j => if j = p i then 1 else 0) fun i hi => (lc_unit b (hp i hi)).symm).symm
section
variable {r c : Nat} {l y : List Int}
theorem put_at {P s : List Int} {n : Nat} (hnat : ∀ i, i < P.length → P.getD i 0 = (pv P i : Int)) (hlt : ∀ i, i < P.length → pv P i < n) (hm : ∀ i k, i < k → k < P.length → pv P i < pv P k) :
  ∀ k, k ≤ P.length → (∀ i, i < k → (putC P s n k).getD (pv P i) 0 = s.getD i 0) ∧ ∀ j, j < n → (∀ i, i < k → j ≠ pv P i) → (putC P s n k).getD j 0 = 0
 | 0, _ => ⟨fun i hi => absurd hi (Nat.not_lt_zero _), fun j hj _ => by
  show (List.replicate n (0 : Int)).getD j 0 = 0
  rw [List.getD_eq_getElem?_getD, List.getElem?_replicate_of_lt hj]
  rfl⟩
 | k + 1, hk => by
  obtain ⟨h1, h2⟩ := put_at (s := s) hnat hlt hm k (by omega)
  have hkP : k < P.length := by omega
  rw [putC, hnat k hkP, Int.toNat_natCast]
  refine ⟨fun i hi => ?_, fun j hj hn => ?_⟩
  ·by_cases e : i = k
   ·subst e
    exact getD_set_self (by rw [putC_length]; exact hlt i hkP)
   ·have := hm i k (by omega) hkP
    rw [getD_set_ne (by omega)]
    exact h1 i (by omega)
  ·rw [getD_set_ne (fun e => hn k (by omega) e.symm)]
   exact h2 j hj fun i hi => hn i (by omega)
theorem rise_inj {t : Nat} {p : Nat → Nat} (hm : ∀ i k, i < k → k < t → p i < p k) {i k : Nat} (hi : i < t) (hk : k < t) (e : p i = p k) : i = k := by
 rcases Nat.lt_trichotomy i k with h1 | h1 | h1
 ·have := hm i k h1 hk; omega
 ·exact h1
 ·have := hm k i h1 hi; omega
theorem vv_put {P s : List Int} {n : Nat} (hnat : ∀ i, i < P.length → P.getD i 0 = (pv P i : Int)) (hlt : ∀ i, i < P.length → pv P i < n) (hm : ∀ i k, i < k → k < P.length → pv P i < pv P k) :
  vv (putC P s n P.length) = fun j => sm P.length (fun i => if j = pv P i then vv s i else 0) := by
 obtain ⟨p1, p2⟩ := put_at (s := s) hnat hlt hm _ (Nat.le_refl _)
 funext j
 by_cases e : ∃ i, i < P.length ∧ j = pv P i
 ·obtain ⟨i, hi, rfl⟩ := e
  show toE _ = _
  rw [p1 i hi, sm_one (k := i) hi fun k hk hne => if_neg fun e => hne (rise_inj hm hi hk e).symm, if_pos rfl]
  rfl
 ·have hn : ∀ i, i < P.length → j ≠ pv P i := fun i hi e2 => e ⟨i, hi, e2⟩
  rw [sm_zero fun i hi => if_neg (hn i hi)]
  by_cases hj : j < n
  ·show toE _ = 0
   rw [p2 j hj hn]
   rfl
  ·exact vv_out (by rw [putC_length]; omega)
theorem put_bytes {P s : List Int} {n : Nat} (hs : bytesB s = true) : ∀ k, bytesB (putC P s n k) = true
 | 0 => by unfold bytesB; rw [List.all_eq_true]; intro x hx; rw [List.eq_of_mem_replicate hx]; rfl
 | k + 1 => by
  have ih := put_bytes (P := P) (n := n) hs k
  unfold bytesB at ih ⊢
  rw [List.all_eq_true] at ih ⊢
  intro x hx
  rw [putC] at hx
  rcases List.mem_or_eq_of_mem_set hx with h | rfl
  ·exact ih x h
  ·have := getD_bytes hs k
   rw [Bool.and_eq_true, decide_eq_true_eq, decide_eq_true_eq]
   exact this
theorem pick_entry (hb : bytesB l = true) (hl : l.length = r * c) (hr : r ≤ 64) (hc : c ≤ 64) {i j : Nat} (hi : i < (fstP r c l).length) (hj : j < c) : entry (rowsOf c (fstP r c l).length (pickL c l (fstP r c l))) i j = entry (rowsOf c r l) (pv (fstP r c l) i) j := by
 have hin := fst_in hb hl hr hc
 have hU := (flat_rowsOf r l hl).2
 have hf : U ((fstP r c l).map fun x => (rowsOf c r l).getD x.toNat []) c := fun y hy => by
  obtain ⟨x, hx, rfl⟩ := List.mem_map.1 hy
  exact hU.at (by rw [rowsOf_length]; have := hin x hx; omega)
 have e := rows_flat hf
 rw [List.length_map] at e
 rw [pick_rows hl hin, e]
 have e3 : ((fstP r c l).map fun x => (rowsOf c r l).getD x.toNat []).getD i [] = (rowsOf c r l).getD (pv (fstP r c l) i) [] := by
  unfold pv
  rw [List.getD_eq_getElem?_getD, List.getElem?_map, List.getD_eq_getElem?_getD (l := fstP r c l), List.getElem?_eq_getElem hi]
  rfl
 unfold entry
 rw [e3]
theorem trans_dot (hl : l.length = r * c) {j : Nat} (hj : j < c) (x : Vec) : dot r (mv (rowsOf r c (transL r c l)) r j) x = lc (mv (rowsOf c r l) c) r x j := by
 refine sm_congr fun b hb => ?_
 rw [mv_at hb, trans_entry hl hj hb, mv_at hj, mul_comm]
theorem pick_dot (hb : bytesB l = true) (hl : l.length = r * c) (hr : r ≤ 64) (hc : c ≤ 64) {j : Nat} (hj : j < c) (x : Vec) :
  dot (fstP r c l).length (mv (rowsOf (fstP r c l).length c (transL (fstP r c l).length c (pickL c l (fstP r c l)))) (fstP r c l).length j) x = lc (fun i => mv (rowsOf c r l) c (pv (fstP r c l) i)) (fstP r c l).length x j := by
 rw [trans_dot (pick_len hl (fst_in hb hl hr hc)) hj]
 refine sm_congr fun i hi => ?_
 show x i * mv (rowsOf c (fstP r c l).length (pickL c l (fstP r c l))) c i j = x i * mv (rowsOf c r l) c (pv (fstP r c l) i) j
 rw [mv_at hj, mv_at hj, pick_entry hb hl hr hc hi hj]
theorem fst_span (hb : bytesB l = true) (hl : l.length = r * c) (hr : r ≤ 64) (hc : c ≤ 64) {v : Vec} (hv : Span (mv (rowsOf c r l) c) r v) : Span (fun i => mv (rowsOf c r l) c (pv (fstP r c l) i)) (fstP r c l).length v := by
 have h := trans_rr hb hl hr hc
 have hn := rowsOf_length r c (transL r c l)
 refine span_trans (fun b hbr => ?_) hv
 have h1 := h.rr.col_span (N := mv (rowsOf r c (transL r c l)) r) (fun v => (h.span v).symm) (b := b) (c := r) hbr hbr
 rw [below_all _ h.lt, hn, col_trans hl hbr] at h1
 exact (span_congr (fun i hi => col_trans hl (h.lt i hi)) _).1 h1
theorem cmb_good (hb : bytesB l = true) (hl : l.length = r * c) (hr : r ≤ 64) (hc : c ≤ 64) (hy : y.length = c) (hyb : bytesB y = true) (hv : Span (mv (rowsOf c r l) c) r (vv y)) :
  (cmbR r c l y).2 = (true, 0) ∧ (cmbR r c l y).1.length = r ∧ bytesB (cmbR r c l y).1 = true ∧ lc (mv (rowsOf c r l) c) r (vv (cmbR r c l y).1) = vv y := by
 have hPl := fst_len hb hl hr hc
 have hP64 : (fstP r c l).length ≤ 64 := by omega
 have hpl := pick_len hl (fst_in hb hl hr hc)
 have hpb := trans_bytes (r := (fstP r c l).length) (c := c) (pick_bytes (c := c) hb (fstP r c l))
 have htl := trans_length (fstP r c l).length c (pickL c l (fstP r c l))
 have hri := trans_rr hb hl hr hc
 obtain ⟨x, hx⟩ := fst_span hb hl hr hc hv
 have hok : (cmbS r c l y).2.1 = true := solR_complete hpb htl hc hP64 hy hyb (x := x) fun j hj => by rw [pick_dot hb hl hr hc hj, hx]
 have hs := solR_sound hpb htl hc hP64 hy hyb hok
 have hsl := solR_len _ _ _ _ hok
 have hsb := solR_bytes hpb htl hc hP64 hy hyb hok
 have e : cmbR r c l y = (putC (fstP r c l) (cmbS r c l y).1 r (fstP r c l).length, true, 0) := by unfold cmbR; rw [if_pos hok]
 rw [e]
 refine ⟨rfl, putC_length _ _ _ _, put_bytes hsb _, ?_⟩
 show lc _ r (vv (putC (fstP r c l) (cmbS r c l y).1 r (fstP r c l).length)) = _
 rw [vv_put hri.nat hri.lt hri.mono, lc_pick hri.lt]
 funext j
 by_cases hj : j < c
 ·rw [← pick_dot hb hl hr hc hj]
  exact hs j hj
 ·rw [vv_out (by omega)]
  exact sm_zero fun i hi => by
   show _ * mv (rowsOf c r l) c (pv (fstP r c l) i) j = 0
   rw [mv_out hj, mul_zero]
end
end Go.Proofs.YtjgcocfnilhggaaDoor.M
namespace Go.Proofs.YtjgcocfnilhggaaDoor.M
open Go.RowKit Go.Proofs.YtjgcocfnilhggaaDoorW.PrintWords Go.Proofs.YtjgcocfnilhggaaDoorW.PrintLast Go.Proofs.YtjgcocfnilhggaaDoorW.PrintMore Go.Proofs.YtjgcocfnilhggaaDoor.Q
set_option linter.unusedVariables false
def sel (p : Nat → Bool) (n : Nat) : Nat := ofL ((List.range n).filter p)
theorem sel_succ (p : Nat → Bool) (n : Nat) : sel p (n + 1) = if p n = true then sel p n ||| 2 ^ n else sel p n := by
 unfold sel
 rw [List.range_succ, List.filter_append]
 by_cases h : p n = true
 ·rw [if_pos h, show List.filter p [n] = [n] from by simp [h], ofL_snoc]
 ·rw [if_neg h, show List.filter p [n] = [] from by simp [h], List.append_nil]
theorem sel_bit (p : Nat → Bool) (n i : Nat) : (sel p n).testBit i = (decide (i < n) && p i) := by
 unfold sel
 rw [testBit_ofL, Bool.eq_iff_iff, Bool.and_eq_true, decide_eq_true_eq, decide_eq_true_eq, List.mem_filter, List.mem_range]
theorem sel_lt (p : Nat → Bool) {n : Nat} (h : n ≤ 64) : sel p n < 2 ^ 64 := ofL_lt _ fun i hi => by
 have := List.mem_range.1 (List.mem_filter.1 hi).1
 omega
theorem sel_Bit (p : Nat → Bool) (n i : Nat) : Bit (sel p n) i ↔ i < n ∧ p i = true := by
 unfold Bit
 rw [sel_bit, Bool.and_eq_true, decide_eq_true_eq]
theorem one_eq {i : Nat} (hi : i < 64) : recoupref07_one.f (i : Int) = some ((2 ^ i : Nat) : Int) := by
 unfold recoupref07_one.f
 rw [wu64 (by omega) (by omega), if_pos (by omega), shl_one hi]
theorem or_one {s i : Nat} (hs : s < 2 ^ 64) (hi : i < 64) : Go.bits .or .u64 (s : Int) ((2 ^ i : Nat) : Int) = ((s ||| 2 ^ i : Nat) : Int) := bor hs (pow_lt hi)
theorem not_one {s i : Nat} (hs : s < 2 ^ 64) (hi : i < 64) : Go.bits .andNot .u64 (s : Int) ((2 ^ i : Nat) : Int) = ((wo s (2 ^ i) : Nat) : Int) := bandNot hs (pow_lt hi)
theorem bit_wo_one {s i : Nat} (hs : s < 2 ^ 64) (hi : i < 64) (k : Nat) : Bit (wo s (2 ^ i)) k ↔ Bit s k ∧ k ≠ i := by rw [bit_wo hs (pow_lt hi), bit_one]
theorem bit_ext {s t : Nat} (h : ∀ i, Bit s i ↔ Bit t i) : s = t := Nat.eq_of_testBit_eq fun i => Bool.eq_iff_iff.2 (h i)
theorem val_wo {r s t : Nat} (hs : s < 2 ^ 64) (ht : t < 2 ^ 64) (h : Val r s) : Val r (wo s t) := val_sub hs (wo_lt hs) h fun i hi => ((bit_wo hs ht i).1 hi).1
section
variable {r c s : Nat} {l : List Int}
theorem wstep {i : Nat} (h : i ≤ 64) : wrap64 ((i : Int) + 1) = ((i + 1 : Nat) : Int) := by rw [w64 (by omega) (by omega)]; omega
def ndP (c : Nat) (l : List Int) (s : Nat) : Nat → Bool := fun i => s.testBit i && decide (rho c l (wo s (2 ^ i)) < rho c l s)
def ndd (r c : Nat) (l : List Int) (s : Nat) : Nat := sel (ndP c l s) r
theorem rNeeded_l0 (hb : bytesB l = true) (hl : l.length = r * c) (hr : r ≤ 64) (hc : c ≤ 64) (hs : s < 2 ^ 64) (h : Val r s) : ∀ d i : Nat, i + d = r →
  Ends (fun k => recoupref07_Needed.l0 k (s : Int) (rho c l s : Int) 0 (sel (ndP c l s) i : Int) (i : Int) (r : Int) (c : Int) l) ((ndd r c l s : Int), 0) := by
 intro d
 induction d with
 | zero =>
  intro i hi
  obtain rfl : i = r := by omega
  refine Ends.succ (fun k => by rw [recoupref07_Needed.l0]) ?_
  refine Ends.neg (by omega) ?_
  refine Ends.succ (fun k => by rw [recoupref07_Needed.j1]) ?_
  refine Ends.neg (by decide) (Ends.const rfl)
 | succ d ih =>
  intro i hi
  have ihn := ih (i + 1) (by omega)
  rw [sel_succ, ← wstep (by omega)] at ihn
  refine Ends.succ (fun k => by rw [recoupref07_Needed.l0]) ?_
  refine Ends.pos (by omega) ?_
  refine Ends.succ (fun k => by rw [recoupref07_Needed.j1]) ?_
  refine Ends.pos rfl ?_
  refine Ends.bind1 (has_eq hs _) ?_
  rw [Int.toNat_natCast]
  by_cases g : s.testBit i = true
  ·refine Ends.pos (by simp [g]) (Ends.bind1 (one_eq (by omega)) ?_)
   rw [not_one hs (by omega)]
   refine Ends.bind (rank7 hb hl hr hc (wo_lt hs) (val_wo hs (pow_lt (by omega)) h)) ?_
   by_cases e : rho c l (wo s (2 ^ i)) < rho c l s
   ·rw [if_pos (by unfold ndP; simp [g, e])] at ihn
    refine Ends.pos (by omega) (Ends.bind1 (one_eq (by omega)) ?_)
    rw [or_one (sel_lt _ (by omega)) (by omega)]
    exact ihn
   ·rw [if_neg (by unfold ndP; simp [g, e])] at ihn
    exact Ends.neg (by omega) ihn
  ·rw [if_neg (by unfold ndP; simp [g])] at ihn
   exact Ends.neg (by simp [g]) ihn
theorem rNeeded7 (hb : bytesB l = true) (hl : l.length = r * c) (hr : r ≤ 64) (hc : c ≤ 64) (hs : s < 2 ^ 64) (h : Val r s) : Ends (fun k => recoupref07_Needed.f k (r : Int) (c : Int) l (s : Int)) ((ndd r c l s : Int), 0) := by
 unfold recoupref07_Needed.f
 exact Ends.bind (rRank7 hb hl hr hc hs h) (rNeeded_l0 hb hl hr hc hs h r 0 (by omega))
theorem setL_at (s : Nat) {i : Nat} (hi : i < (setL s).length) : (setL s).getD i 0 ∈ setL s := by
 rw [List.getD_eq_getElem?_getD, List.getElem?_eq_getElem hi]; exact List.getElem_mem hi
theorem rd_setL (s : Nat) {i : Nat} (hi : i < (setL s).length) : rd (ints (setL s)) (i : Int) = (((setL s).getD i 0 : Nat) : Int) := by
 rw [rd_ints _ _ hi, List.getD_eq_getElem?_getD, List.getElem?_eq_getElem hi]; rfl
end
end Go.Proofs.YtjgcocfnilhggaaDoor.M
namespace Go.Proofs.YtjgcocfnilhggaaDoor.M
open Go.RowKit Go.Proofs.YtjgcocfnilhggaaDoorW.PrintWords Go.Proofs.YtjgcocfnilhggaaDoorW.PrintLast Go.Proofs.YtjgcocfnilhggaaDoorW.PrintMore Go.Proofs.YtjgcocfnilhggaaDoor.Q
set_option linter.unusedVariables false
section
variable {r c s : Nat} {l : List Int}
theorem ndd_bit (hb : bytesB l = true) (hl : l.length = r * c) (hr : r ≤ 64) (hc : c ≤ 64) (hs : s < 2 ^ 64) (h : Val r s) (i : Nat) : Bit (ndd r c l s) i ↔ Bit s i ∧ ¬ Sp (mv (rowsOf c r l) c) r (Bit (wo s (2 ^ i))) (mv (rowsOf c r l) c i) := by
 unfold ndd
 rw [sel_Bit]
 unfold ndP
 rw [Bool.and_eq_true, decide_eq_true_eq]
 have key : Bit s i → i < r := (val_bit hs).1 h i
 constructor
 ·rintro ⟨h1, h2, h3⟩
  refine ⟨h2, ?_⟩
  rw [← rkS_lt h1]
  rw [rho_rk hb hl hr hc hs h, rho_rk hb hl hr hc (wo_lt hs) (val_wo hs (pow_lt (by omega)) h)] at h3
  rwa [show (fun k => Bit (wo s (2 ^ i)) k ∨ k = i) = Bit s from funext fun k => propext (by
   rw [bit_wo_one hs (by omega)]
   by_cases e : k = i
   ·subst e; exact ⟨fun _ => h2, fun _ => .inr rfl⟩
   ·simp [e])]
 ·rintro ⟨h2, h3⟩
  have h1 := key h2
  refine ⟨h1, h2, ?_⟩
  rw [← rkS_lt h1] at h3
  rw [rho_rk hb hl hr hc hs h, rho_rk hb hl hr hc (wo_lt hs) (val_wo hs (pow_lt (by omega)) h)]
  rwa [show (fun k => Bit (wo s (2 ^ i)) k ∨ k = i) = Bit s from funext fun k => propext (by
   rw [bit_wo_one hs (by omega)]
   by_cases e : k = i
   ·subst e; exact ⟨fun _ => h2, fun _ => .inr rfl⟩
   ·simp [e])] at h3
theorem pk_row' (hl : l.length = r * c) (h : Val r s) {k : Nat} (hk : k < (setL s).length) : mv (rowsOf c (setL s).length (pk c l s)) c k = mv (rowsOf c r l) c ((setL s).getD k 0) := pk_row hl h hk
theorem setL_find (hs : s < 2 ^ 64) {j : Nat} (hj : Bit s j) : ∃ k, k < (setL s).length ∧ (setL s).getD k 0 = j := by
 obtain ⟨k, hk, e⟩ := List.getElem_of_mem ((mem_setL' hs).2 hj)
 refine ⟨k, hk, ?_⟩
 rw [List.getD_eq_getElem?_getD, List.getElem?_eq_getElem hk]
 exact e
theorem stop_Needed (a b x n e i o : Int) (he : e ≠ 0) : Ends (fun k => recoupref07_Needed.l0 k x n e o i a b l) (o, e) := by
 have hz : (e == 0) = false := by simpa using he
 refine Ends.succ (fun k => by rw [recoupref07_Needed.l0]) ?_
 by_cases h : i < a
 ·refine Ends.pos h ?_
  refine Ends.succ (fun k => by rw [recoupref07_Needed.j1]) ?_
  exact Ends.neg (by rw [hz]; decide) (Ends.const rfl)
 ·refine Ends.neg h ?_
  refine Ends.succ (fun k => by rw [recoupref07_Needed.j1]) ?_
  exact Ends.neg (by decide) (Ends.const rfl)
theorem rNeeded7_arg (hl : l.length = r * c) (hr : r ≤ 64) (hc : c ≤ 64) (hs : s < 2 ^ 64) (h : ¬ Val r s) : Ends (fun k => recoupref07_Needed.f k (r : Int) (c : Int) l (s : Int)) (0, 2) := by
 unfold recoupref07_Needed.f
 exact Ends.bind (rRank7_arg hl hr hc hs h) (stop_Needed _ _ _ 0 2 0 0 (by decide))
end
end Go.Proofs.YtjgcocfnilhggaaDoor.M
namespace Go.Proofs.YtjgcocfnilhggaaDoor.M
open Go.RowKit Go.Proofs.YtjgcocfnilhggaaDoorW.PrintWords Go.Proofs.YtjgcocfnilhggaaDoorW.PrintLast Go.Proofs.YtjgcocfnilhggaaDoorW.PrintMore Go.Proofs.YtjgcocfnilhggaaDoor.Q
set_option linter.unusedVariables false
section
variable {r c s : Nat} {l y : List Int}
theorem cmb_sound (hb : bytesB l = true) (hl : l.length = r * c) (hr : r ≤ 64) (hc : c ≤ 64) (hy : y.length = c) (hyb : bytesB y = true) (hok : (cmbR r c l y).2.1 = true) :
  (cmbR r c l y).2 = (true, 0) ∧ (cmbR r c l y).1.length = r ∧ bytesB (cmbR r c l y).1 = true ∧ lc (mv (rowsOf c r l) c) r (vv (cmbR r c l y).1) = vv y := by
 have hPl := fst_len hb hl hr hc
 have hP64 : (fstP r c l).length ≤ 64 := by omega
 have hpl := pick_len hl (fst_in hb hl hr hc)
 have hpb := trans_bytes (r := (fstP r c l).length) (c := c) (pick_bytes (c := c) hb (fstP r c l))
 have htl := trans_length (fstP r c l).length c (pickL c l (fstP r c l))
 have hri := trans_rr hb hl hr hc
 have hok : (cmbS r c l y).2.1 = true := by
  unfold cmbR at hok
  by_cases e : (cmbS r c l y).2.1 = true
  ·exact e
  ·rw [if_neg e] at hok; cases hok
 have hs := solR_sound hpb htl hc hP64 hy hyb hok
 have hsb := solR_bytes hpb htl hc hP64 hy hyb hok
 have e : cmbR r c l y = (putC (fstP r c l) (cmbS r c l y).1 r (fstP r c l).length, true, 0) := by unfold cmbR; rw [if_pos hok]
 rw [e]
 refine ⟨rfl, putC_length _ _ _ _, put_bytes hsb _, ?_⟩
 show lc _ r (vv (putC (fstP r c l) (cmbS r c l y).1 r (fstP r c l).length)) = _
 rw [vv_put hri.nat hri.lt hri.mono, lc_pick hri.lt]
 funext j
 by_cases hj : j < c
 ·rw [← pick_dot hb hl hr hc hj]
  exact hs j hj
 ·rw [vv_out (by omega)]
  exact sm_zero fun i hi => by
   show _ * mv (rowsOf c r l) c (pv (fstP r c l) i) j = 0
   rw [mv_out hj, mul_zero]
theorem cmb_err : (cmbR r c l y).2.2 = 0 := by
 unfold cmbR
 split <;> rfl
theorem row_vv (hl : l.length = r * c) {b : Nat} (hbr : b < r) : rowSeg (c : Int) l (b : Int) = (rowsOf c r l).getD b [] ∧ (rowSeg (c : Int) l (b : Int)).length = c ∧ vv (rowSeg (c : Int) l (b : Int)) = mv (rowsOf c r l) c b := by
 have e1 : rowSeg (c : Int) l (b : Int) = (rowsOf c r l).getD b [] := seg_row hl (x := (b : Int)) ⟨by omega, by omega⟩
 have e2 : ((rowsOf c r l).getD b []).length = c := (flat_rowsOf r l hl).2.at (by rw [rowsOf_length]; exact hbr)
 refine ⟨e1, by rw [e1]; exact e2, ?_⟩
 funext j
 by_cases hj : j < c
 ·rw [mv_at hj, e1]
  rfl
 ·rw [mv_out hj, vv_out (by rw [e1]; omega)]
theorem row_bytes (hb : bytesB l = true) (i : Nat) : bytesB (rowSeg (c : Int) l (i : Int)) = true := bytesB_sub hb _ _
theorem rows_pk (hl : l.length = r * c) (h : Val r s) (x : Nat → El) : lc (mv (rowsOf c (setL s).length (pk c l s)) c) (setL s).length x = lc (rowsL (mv (rowsOf c r l) c) (setL s)) (setL s).length x := lc_congr (fun k hk => pk_row' hl h hk) fun _ _ => rfl
theorem list_val (hs : s < 2 ^ 64) (h : Val r s) (i : Nat) : i ∈ setL s ↔ Bit s i ∧ i < r := mem_bit hs h i
open Classical in
end
end Go.Proofs.YtjgcocfnilhggaaDoor.M
namespace Go.Proofs.YtjgcocfnilhggaaDoor.M
open Go.RowKit Go.Proofs.YtjgcocfnilhggaaDoorW.PrintWords Go.Proofs.YtjgcocfnilhggaaDoorW.PrintLast Go.Proofs.YtjgcocfnilhggaaDoorW.PrintMore Go.Proofs.YtjgcocfnilhggaaDoor.Q
set_option linter.unusedVariables false
section
variable {r c s : Nat} {l : List Int}
theorem bad_in (h : ¬ Val r s) : ¬ inB (r : Int) (ints (setL s)) = true := fun hin => h fun i hi => by
  unfold inB at hin
  rw [List.all_eq_true] at hin
  have := hin (i : Int) (List.mem_map.2 ⟨i, hi, rfl⟩)
  rw [Bool.and_eq_true, decide_eq_true_eq, decide_eq_true_eq] at this
  omega
theorem row19 (hl : l.length = r * c) (hr : r ≤ 64) (hc : c ≤ 64) {b : Nat} (hbr : b < r) : shape_rows_row.f (r : Int) (c : Int) l (b : Int) = some (rowSeg (c : Int) l (b : Int)) := by
  unfold shape_rows_row.f
  rw [if_pos ⟨by omega, by omega, by omega, by omega, by omega, by rw [Int.toNat_natCast, Int.toNat_natCast]; exact hl⟩]
theorem span_pk (hl : l.length = r * c) (hs : s < 2 ^ 64) (h : Val r s) (v : Vec) : Span (mv (rowsOf c (setL s).length (pk c l s)) c) (setL s).length v ↔ Sp (mv (rowsOf c r l) c) r (Bit s) v := by
  rw [← sp_list (b := mv (rowsOf c r l) c) (L := setL s) (n := r) (A := Bit s) (fun i => list_val hs h i) (fun i hi => (val_bit hs).1 h i hi) v]
  constructor
  · rintro ⟨x, hx⟩
    exact ⟨x, by rw [hx, rows_pk hl h x]⟩
  · rintro ⟨x, hx⟩
    exact ⟨x, by rw [hx, rows_pk hl h x]⟩
theorem hangs7 (hb : bytesB l = true) (hl : l.length = r * c) (hr : r ≤ 64) (hc : c ≤ 64) (hs : s < 2 ^ 64) (h : Val r s) {b : Nat} (hbr : b < r) :
    ∃ t, Ends (fun k => shape_rows_hangs.f k (r : Int) (c : Int) l (b : Int) (s : Int)) t ∧ (t = true ↔ Sp (mv (rowsOf c r l) c) r (Bit s) (mv (rowsOf c r l) c b)) := by
  obtain ⟨e1, e2, e3⟩ := row_vv hl hbr
  have hpb : bytesB (pk c l s) = true := pick_bytes hb _
  refine ⟨(cmbR (setL s).length c (pk c l s) (rowSeg (c : Int) l (b : Int))).2.1, ?_, ?_⟩
  · unfold shape_rows_hangs.f
    refine Ends.bind (List_eq hs) ?_
    have := gPick_eq hl hr hc (val_in h) (by rw [ints_length]; exact setL_length s)
    rw [ints_length] at this
    refine Ends.bind1 this (Ends.pos rfl ?_)
    refine Ends.bind1 (row19 hl hr hc hbr) ?_
    refine Ends.bind (gComb_ends hpb (pk_len hl h) (setL_length s) hc e2 (row_bytes hb b)) ?_
    exact Ends.pos cmb_err (Ends.const rfl)
  · rw [← span_pk hl hs h, ← e3]
    constructor
    · intro hok
      have := (cmb_sound hpb (pk_len hl h) (setL_length s) hc e2 (row_bytes hb b) hok).2.2.2
      exact ⟨_, this.symm⟩
    · intro hv
      have := (cmb_good hpb (pk_len hl h) (setL_length s) hc e2 (row_bytes hb b) hv).1
      rw [this]
theorem hangs7_bad (hb : bytesB l = true) (hl : l.length = r * c) (hr : r ≤ 64) (hc : c ≤ 64) (hs : s < 2 ^ 64) (h : ¬ Val r s) (b : Int) : Ends (fun k => shape_rows_hangs.f k (r : Int) (c : Int) l b (s : Int)) false := by
  unfold shape_rows_hangs.f
  refine Ends.bind (List_eq hs) ?_
  have : matrix_Pick.f (r : Int) (c : Int) l (ints (setL s)) = some (0, 0, [], 2) := by
    unfold matrix_Pick.f
    rw [(right_of hr hc hl).1, Option.bind_some, if_pos rfl, if_neg (bad_in h)]
  exact Ends.bind1 this (Ends.neg (by decide) (Ends.const rfl))
def Stands (r c : Nat) (l : List Int) (s b : Nat) : Prop := b < r ∧ Val r (wo s (2 ^ b)) ∧ Sp (mv (rowsOf c r l) c) r (Bit (wo s (2 ^ b))) (mv (rowsOf c r l) c b)
theorem group_l0 (hb : bytesB l = true) (hl : l.length = r * c) (hr : r ≤ 64) (hc : c ≤ 64) (hs : s < 2 ^ 64) : ∀ d i : Nat, i + d = (setL s).length →
    ∃ t, Ends (fun k => shape_rows_group.l0 k (s : Int) (ints (setL s)) ((setL s).length : Int) (i : Int) (r : Int) (c : Int) l) t ∧ (t = true ↔ ∀ q, i ≤ q → q < (setL s).length → Stands r c l s ((setL s).getD q 0)) := by
  have h64 := setL_length s
  intro d
  induction d with
  | zero =>
    intro i hi
    refine ⟨true, ?_, fun _ q h1 h2 => by omega, fun _ => rfl⟩
    refine Ends.succ (fun k => by rw [shape_rows_group.l0]) ?_
    exact Ends.neg (by omega) (Ends.const rfl)
  | succ d ih =>
    intro i hi
    obtain ⟨t, ht, htt⟩ := ih (i + 1) (by omega)
    rw [← wstep (by omega)] at ht
    have hi' : i < (setL s).length := by omega
    have hm := setL_at s hi'
    have hL := (mem_setL.1 hm).1
    have hrest : (∀ q, i ≤ q → q < (setL s).length → Stands r c l s ((setL s).getD q 0)) ↔ Stands r c l s ((setL s).getD i 0) ∧ ∀ q, i + 1 ≤ q → q < (setL s).length → Stands r c l s ((setL s).getD q 0) := by
      constructor
      · exact fun H => ⟨H i (Nat.le_refl _) hi', fun q h1 h2 => H q (by omega) h2⟩
      · rintro ⟨H1, H2⟩ q h1 h2
        by_cases e : q = i
        · subst e; exact H1
        · exact H2 q (by omega) h2
    by_cases hbr : (setL s).getD i 0 < r
    · by_cases hv : Val r (wo s (2 ^ (setL s).getD i 0))
      · obtain ⟨u, hu, huu⟩ := hangs7 hb hl hr hc (wo_lt hs (t := 2 ^ (setL s).getD i 0)) hv hbr
        cases u with
        | true =>
          refine ⟨t, ?_, ?_⟩
          · refine Ends.succ (fun k => by rw [shape_rows_group.l0]) ?_
            refine Ends.pos (by omega) (Ends.pos (by omega) (Ends.pos (by rw [ints_length]; omega) ?_))
            rw [rd_setL s hi']
            refine Ends.neg (by omega) (Ends.pos (by omega) ?_)
            rw [shl_one hL, not_one hs hL]
            exact Ends.bind hu (Ends.pos rfl ht)
          · rw [htt, hrest]
            exact ⟨fun H => ⟨⟨hbr, hv, huu.1 rfl⟩, H⟩, fun H => H.2⟩
        | false =>
          refine ⟨false, ?_, ?_⟩
          · refine Ends.succ (fun k => by rw [shape_rows_group.l0]) ?_
            refine Ends.pos (by omega) (Ends.pos (by omega) (Ends.pos (by rw [ints_length]; omega) ?_))
            rw [rd_setL s hi']
            refine Ends.neg (by omega) (Ends.pos (by omega) ?_)
            rw [shl_one hL, not_one hs hL]
            exact Ends.bind hu (Ends.neg (by decide) (Ends.const rfl))
          · rw [hrest]
            exact ⟨fun H => (by cases H), fun H => huu.2 H.1.2.2⟩
      · refine ⟨false, ?_, ?_⟩
        · refine Ends.succ (fun k => by rw [shape_rows_group.l0]) ?_
          refine Ends.pos (by omega) (Ends.pos (by omega) (Ends.pos (by rw [ints_length]; omega) ?_))
          rw [rd_setL s hi']
          refine Ends.neg (by omega) (Ends.pos (by omega) ?_)
          rw [shl_one hL, not_one hs hL]
          exact Ends.bind (hangs7_bad hb hl hr hc (wo_lt hs) hv _) (Ends.neg (by decide) (Ends.const rfl))
        · rw [hrest]
          exact ⟨fun H => (by cases H), fun H => absurd H.1.2.1 hv⟩
    · refine ⟨false, ?_, ?_⟩
      · refine Ends.succ (fun k => by rw [shape_rows_group.l0]) ?_
        refine Ends.pos (by omega) (Ends.pos (by omega) (Ends.pos (by rw [ints_length]; omega) ?_))
        rw [rd_setL s hi']
        exact Ends.pos (by omega) (Ends.const rfl)
      · rw [hrest]
        exact ⟨fun H => (by cases H), fun H => absurd H.1.1 hbr⟩
def okG (r c : Nat) (l : List Int) (s : Nat) : Bool := ((setL s).all fun i => decide (i < r)) && (ndd r c l s == 0)
theorem okG_iff : okG r c l s = true ↔ Val r s ∧ ndd r c l s = 0 := by
  unfold okG Val
  rw [Bool.and_eq_true, List.all_eq_true, beq_iff_eq]
  constructor
  · exact fun h => ⟨fun i hi => of_decide_eq_true (h.1 i hi), h.2⟩
  · exact fun h => ⟨fun i hi => decide_eq_true (h.1 i hi), h.2⟩
theorem group7 (hb : bytesB l = true) (hl : l.length = r * c) (hr : r ≤ 64) (hc : c ≤ 64) (hs : s < 2 ^ 64) : Ends (fun k => shape_rows_group.f k (r : Int) (c : Int) l (s : Int)) (okG r c l s) := by
  obtain ⟨t, ht, htt⟩ := group_l0 hb hl hr hc hs (setL s).length 0 (by omega)
  have e : t = okG r c l s := by
    rw [Bool.eq_iff_iff, htt, okG_iff]
    constructor
    · intro H
      have hv : Val r s := fun i hi => by
        obtain ⟨q, hq, rfl⟩ := List.getElem_of_mem hi
        have := (H q (by omega) hq).1
        rw [List.getD_eq_getElem?_getD, List.getElem?_eq_getElem hq] at this
        exact this
      refine ⟨hv, bit_ext fun i => ?_⟩
      rw [ndd_bit hb hl hr hc hs hv]
      constructor
      · rintro ⟨h1, h2⟩
        obtain ⟨q, hq, rfl⟩ := setL_find hs h1
        exact absurd (H q (by omega) hq).2.2 h2
      · intro h0; unfold Bit at h0; rw [Nat.zero_testBit] at h0; cases h0
    · rintro ⟨hv, hn⟩ q _ hq
      have hm := setL_at s hq
      have hB : Bit s ((setL s).getD q 0) := (mem_setL' hs).1 hm
      refine ⟨hv _ hm, val_wo hs (pow_lt (mem_setL.1 hm).1) hv, Classical.byContradiction fun hc' => ?_⟩
      have := (ndd_bit hb hl hr hc hs hv _).2 ⟨hB, hc'⟩
      rw [hn] at this
      unfold Bit at this
      rw [Nat.zero_testBit] at this
      cases this
  unfold shape_rows_group.f
  refine Ends.bind (List_eq hs) ?_
  rw [ints_length, ← e]
  exact ht
def okI (r c : Nat) (l : List Int) (x : Int) : Bool := okG r c l x.toNat
theorem anyNo_ends {p : Nat → Int → Option Bool} {t : Int → Bool} : ∀ L : List Int, (∀ x ∈ L, Ends (fun k => p k x) (t x)) → Ends (fun k => anyNo (p k) L) (L.any fun x => !t x)
  | [], _ => Ends.const rfl
  | x :: L, h => by
    have ih := anyNo_ends (p := p) (t := t) L fun y hy => h y (List.mem_cons_of_mem _ hy)
    have : ∀ k, anyNo (p k) (x :: L) = (p k x).bind fun a => (anyNo (p k) L).bind fun u => some (!a || u) := fun k => rfl
    refine Ends.congr this ?_
    refine Ends.bind (h x List.mem_cons_self) (Ends.bind ih (Ends.const ?_))
    rw [List.any_cons]
theorem any_not (t : Int → Bool) : ∀ L : List Int, (!(L.any fun x => !t x)) = L.all t
  | [] => rfl
  | x :: L => by rw [List.any_cons, List.all_cons, ← any_not t L]; cases t x <;> simp
theorem rMay_l0 (hb : bytesB l = true) (hl : l.length = r * c) (hr : r ≤ 64) (hc : c ≤ 64) {L : List Int} (hL : ∀ x ∈ L, (Lit.int .u64 x).wf = true) (hlen : L.length * 8 ≤ 140737488351232) : ∀ d i : Nat, i + d = L.length →
    Ends (fun k => recoupref16_May.l0 k (i : Int) (r : Int) (c : Int) l L) ((L.drop i).all (okI r c l)) := by
  intro d
  induction d with
  | zero =>
    intro i hi
    obtain rfl : i = L.length := by omega
    refine Ends.succ (fun k => by rw [recoupref16_May.l0]) ?_
    rw [List.drop_length]
    exact Ends.neg (by omega) (Ends.const rfl)
  | succ d ih =>
    intro i hi
    have ihn := ih (i + 1) (by omega)
    have hi' : i < L.length := by omega
    rw [show ((i + 1 : Nat) : Int) = wrap64 ((i : Int) + 1) from by rw [w64 (by omega) (by omega)]; omega] at ihn
    rw [List.drop_eq_getElem_cons hi', List.all_cons]
    refine Ends.succ (fun k => by rw [recoupref16_May.l0]) ?_
    refine Ends.pos (by omega) (Ends.pos (by omega) ?_)
    rw [rd_nat, List.getD_eq_getElem?_getD, List.getElem?_eq_getElem hi', Option.getD_some]
    obtain ⟨s, e, hs⟩ := u64_nat (hL _ (List.getElem_mem hi'))
    rw [e]
    have eo : okI r c l (s : Int) = okG r c l s := by unfold okI; rw [Int.toNat_natCast]
    rw [eo]
    by_cases hv : Val r s
    · refine Ends.bind (rNeeded7 hb hl hr hc hs hv) (Ends.pos rfl ?_)
      by_cases hn : ndd r c l s = 0
      · rw [okG_iff.2 ⟨hv, hn⟩, Bool.true_and]
        exact Ends.pos (by show ((ndd r c l s : Nat) : Int) = 0; rw [hn]; rfl) ihn
      · rw [show okG r c l s = false from by rw [← Bool.not_eq_true, okG_iff]; exact fun h => hn h.2, Bool.false_and]
        exact Ends.neg (by show ¬ ((ndd r c l s : Nat) : Int) = 0; omega) (Ends.const rfl)
    · rw [show okG r c l s = false from by rw [← Bool.not_eq_true, okG_iff]; exact fun h => hv h.1, Bool.false_and]
      exact Ends.bind (rNeeded7_arg hl hr hc hs hv) (Ends.neg (by show ¬ (2 : Int) = 0; decide) (Ends.const rfl))
end
theorem both_may {a b : Int} {l L : List Int} (ha : (Lit.int .i64 a).wf = true) (hb : bytesB l = true) (hL : ∀ x ∈ L, (Lit.int .u64 x).wf = true) (hlen : L.length * 8 ≤ 140737488351232) :
    ∃ t, Ends (fun k => shape_May.f k a b l L) t ∧ Ends (fun k => recoupref16_May.f k a b l L) t ∧ (t = true → ∃ r c : Nat, a = (r : Int) ∧ b = (c : Int) ∧ r ≤ 64 ∧ 1 ≤ c ∧ c ≤ r ∧ l.length = r * c ∧ L.all (okI r c l) = true) := by
  rcases args7 (b := b) (l := l) ha (x := 0) (by decide) with ⟨h1, h2⟩ | ⟨r, c, s, rfl, rfl, _, hr, hc, hl, hs⟩
  · refine ⟨false, ?_, ?_, fun h => by cases h⟩
    · unfold shape_May.f shape_tall.f
      rw [h2]
      exact Ends.const rfl
    · unfold recoupref16_May.f recoupref16_Generator.f
      rw [h1]
      exact Ends.const rfl
  · obtain ⟨g1, g2⟩ := right_of hr hc hl
    have eT : shape_tall.f (r : Int) (c : Int) l = some (decide (1 ≤ c ∧ c ≤ r)) := by
      unfold shape_tall.f
      rw [g1, Option.bind_some, if_pos rfl]
      by_cases e1 : 1 ≤ c
      · rw [if_pos (by omega)]
        exact congrArg some (decide_eq_decide.2 (by omega))
      · rw [if_neg (by omega)]
        exact congrArg some (decide_eq_false (by omega)).symm
    have eG : recoupref16_Generator.f (r : Int) (c : Int) l = some (decide (1 ≤ c ∧ c ≤ r)) := by
      unfold recoupref16_Generator.f
      rw [g2, Option.bind_some, if_pos rfl]
      by_cases e1 : 1 ≤ c
      · rw [if_pos (by omega)]
        exact congrArg some (decide_eq_decide.2 (by omega))
      · rw [if_neg (by omega)]
        exact congrArg some (decide_eq_false (by omega)).symm
    by_cases hg : 1 ≤ c ∧ c ≤ r
    · refine ⟨L.all (okI r c l), ?_, ?_, fun h => ⟨r, c, rfl, rfl, hr, hg.1, hg.2, hl, h⟩⟩
      · unfold shape_May.f
        refine Ends.bind1 (eT.trans (congrArg some (decide_eq_true hg))) (Ends.pos rfl ?_)
        have : Ends (fun k => api_Set.f k L (r : Int) (c : Int) l) (L.any fun x => !okI r c l x) := by
          unfold api_Set.f
          refine Ends.pos (by omega) (anyNo_ends (p := fun k x => shape_rows_group.f k (r : Int) (c : Int) l x) L fun x hx => ?_)
          obtain ⟨s, rfl, hs⟩ := u64_nat (hL x hx)
          have := group7 hb hl hr hc hs
          unfold okI
          rw [Int.toNat_natCast]
          exact this
        refine Ends.bind this (Ends.const ?_)
        rw [any_not]
      · unfold recoupref16_May.f
        refine Ends.bind1 (eG.trans (congrArg some (decide_eq_true hg))) (Ends.pos rfl ?_)
        exact rMay_l0 hb hl hr hc hL hlen L.length 0 (by omega)
    · refine ⟨false, ?_, ?_, fun h => by cases h⟩
      · unfold shape_May.f
        exact Ends.bind1 (eT.trans (congrArg some (decide_eq_false hg))) (Ends.neg (by decide) (Ends.const rfl))
      · unfold recoupref16_May.f
        exact Ends.bind1 (eG.trans (congrArg some (decide_eq_false hg))) (Ends.neg (by decide) (Ends.const rfl))
def grpL (b : Nat) : List Int → Int × Bool × Int
  | [] => (0, false, 0)
  | x :: L => if x.toNat.testBit b = true then (((wo x.toNat (2 ^ b) : Nat) : Int), true, 0) else grpL b L
theorem Group_l0 {L : List Int} (hL : ∀ x ∈ L, (Lit.int .u64 x).wf = true) (hlen : L.length * 8 ≤ 140737488351232) {b : Nat} (hb : b < 64) : ∀ d i : Nat, i + d = L.length →
    Ends (fun k => local_Group.l0 k (b : Int) L (L.length : Int) (i : Int)) (grpL b (L.drop i)) := by
  intro d
  induction d with
  | zero =>
    intro i hi
    obtain rfl : i = L.length := by omega
    refine Ends.succ (fun k => by rw [local_Group.l0]) ?_
    rw [List.drop_length]
    exact Ends.neg (by omega) (Ends.const rfl)
  | succ d ih =>
    intro i hi
    have ihn := ih (i + 1) (by omega)
    have hi' : i < L.length := by omega
    rw [show ((i + 1 : Nat) : Int) = wrap64 ((i : Int) + 1) from by rw [w64 (by omega) (by omega)]; omega] at ihn
    rw [List.drop_eq_getElem_cons hi']
    refine Ends.succ (fun k => by rw [local_Group.l0]) ?_
    refine Ends.pos (by omega) (Ends.pos (by omega) (Ends.pos (by omega) ?_))
    rw [rd_nat, List.getD_eq_getElem?_getD, List.getElem?_eq_getElem hi', Option.getD_some]
    obtain ⟨s, e, hs⟩ := u64_nat (hL _ (List.getElem_mem hi'))
    rw [e]
    unfold grpL
    rw [Int.toNat_natCast]
    refine Ends.bind1 (Has_eq hs _) ?_
    rw [Int.toNat_natCast]
    by_cases ht : s.testBit b = true
    · rw [if_pos ht]
      refine Ends.pos (by rw [ht]; simp) (Ends.pos (by omega) (Ends.const ?_))
      rw [shl_one hb, not_one hs hb]
    · rw [if_neg ht]
      exact Ends.neg (by simp [ht]) ihn
theorem rGroup_l0 {L : List Int} (hL : ∀ x ∈ L, (Lit.int .u64 x).wf = true) (hlen : L.length * 8 ≤ 140737488351232) {b : Nat} (hb : b < 64) (a c : Int) (l : List Int) : ∀ d i : Nat, i + d = L.length →
    Ends (fun k => recoupref19_Group.l0 k (b : Int) (i : Int) a c l L) (grpL b (L.drop i)) := by
  intro d
  induction d with
  | zero =>
    intro i hi
    obtain rfl : i = L.length := by omega
    refine Ends.succ (fun k => by rw [recoupref19_Group.l0]) ?_
    rw [List.drop_length]
    exact Ends.neg (by omega) (Ends.const rfl)
  | succ d ih =>
    intro i hi
    have ihn := ih (i + 1) (by omega)
    have hi' : i < L.length := by omega
    rw [show ((i + 1 : Nat) : Int) = wrap64 ((i : Int) + 1) from by rw [w64 (by omega) (by omega)]; omega] at ihn
    rw [List.drop_eq_getElem_cons hi']
    refine Ends.succ (fun k => by rw [recoupref19_Group.l0]) ?_
    refine Ends.pos (by omega) (Ends.pos (by omega) ?_)
    rw [rd_nat, List.getD_eq_getElem?_getD, List.getElem?_eq_getElem hi', Option.getD_some]
    obtain ⟨s, e, hs⟩ := u64_nat (hL _ (List.getElem_mem hi'))
    rw [e]
    unfold grpL
    rw [Int.toNat_natCast]
    refine Ends.bind1 (has_eq hs _) ?_
    rw [Int.toNat_natCast]
    by_cases ht : s.testBit b = true
    · rw [if_pos ht]
      rw [wu64 (by omega) (by omega)]
      refine Ends.pos (by rw [ht]; simp) (Ends.pos (by omega) (Ends.const ?_))
      rw [shl_one hb, not_one hs hb]
    · rw [if_neg ht]
      exact Ends.neg (by simp [ht]) ihn
theorem both_group {a b : Int} {l L : List Int} (ha : (Lit.int .i64 a).wf = true) (hb : bytesB l = true) (hL : ∀ x ∈ L, (Lit.int .u64 x).wf = true) (hlen : L.length * 8 ≤ 140737488351232) (x : Int) :
    ∃ t, Ends (fun k => local_Group.f k a b l L x) t ∧ Ends (fun k => recoupref19_Group.f k a b l L x) t := by
  obtain ⟨t, h1, h2, h3⟩ := both_may (b := b) ha hb hL hlen
  cases t with
  | false =>
    refine ⟨(0, false, 3), ?_, ?_⟩
    · unfold local_Group.f
      exact Ends.bind h1 (Ends.neg (by decide) (Ends.const rfl))
    · unfold recoupref19_Group.f
      exact Ends.bind h2 (Ends.neg (by decide) (Ends.const rfl))
  | true =>
    obtain ⟨r, c, rfl, rfl, hr, hc1, hc2, hl, _⟩ := h3 rfl
    by_cases hx : 0 ≤ x ∧ x < (r : Int)
    · obtain ⟨q, rfl⟩ := Int.eq_ofNat_of_zero_le hx.1
      have hq : q < 64 := by omega
      refine ⟨grpL q L, ?_, ?_⟩
      · unfold local_Group.f
        refine Ends.bind h1 (Ends.pos rfl (Ends.neg (by omega) (Ends.neg (by omega) ?_)))
        exact Group_l0 hL hlen hq L.length 0 (by omega)
      · unfold recoupref19_Group.f
        refine Ends.bind h2 (Ends.pos rfl (Ends.neg (by omega) ?_))
        refine Ends.succ (fun k => by rw [recoupref19_Group.j0]) ?_
        refine Ends.neg (by simpa using hx.2) ?_
        exact rGroup_l0 hL hlen hq _ _ _ L.length 0 (by omega)
    · refine ⟨(0, false, 2), ?_, ?_⟩
      · unfold local_Group.f
        refine Ends.bind h1 (Ends.pos rfl ?_)
        by_cases h0 : x < 0
        · exact Ends.pos h0 (Ends.const rfl)
        · exact Ends.neg h0 (Ends.pos (by omega) (Ends.const rfl))
      · unfold recoupref19_Group.f
        refine Ends.bind h2 (Ends.pos rfl ?_)
        by_cases h0 : x < 0
        · refine Ends.pos h0 ?_
          refine Ends.succ (fun k => by rw [recoupref19_Group.j0]) ?_
          exact Ends.pos rfl (Ends.const rfl)
        · refine Ends.neg h0 ?_
          refine Ends.succ (fun k => by rw [recoupref19_Group.j0]) ?_
          exact Ends.pos (by simpa using (by omega : (r : Int) ≤ x)) (Ends.const rfl)
end Go.Proofs.YtjgcocfnilhggaaDoor.M
