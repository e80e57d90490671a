/- Rounds: that a printed function answers from some number of rounds on; plain lemmas. -/
import Derived.Laws.Bits64
import Derived.Laws.Bits64b
import Derived.RowKit
import GoSem.Claim
import Derived.Lib.TrailingZeros
import Derived.Test.YtccfbhnhedoggaaV
namespace Go.Proofs.Ytccfbhnhedoggaa.M
set_option linter.unusedVariables false
set_option linter.unusedSimpArgs false
open Go.RowKit Go.Proofs.YtccfbhnhedoggaaW.PrintWords Go.Proofs.YtccfbhnhedoggaaW.PrintMore

/-- From some number of rounds on the answer is r. -/
def Ends {α : Type} (g : Nat → Option α) (r : α) : Prop := ∃ K, ∀ k, K ≤ k → g k = some r
theorem Ends.of {α : Type} {g : Nat → Option α} {r : α} (h : ∀ k, g k = some r) : Ends g r := ⟨0, fun k _ => h k⟩
theorem Ends.const {α : Type} {x : Option α} {r : α} (h : x = some r) : Ends (fun _ => x) r := ⟨0, fun _ _ => h⟩
theorem Ends.exists {α : Type} {g : Nat → Option α} {r : α} (h : Ends g r) : ∃ k, g k = some r := by
 obtain ⟨K, h⟩ := h
 exact ⟨K, h K (Nat.le_refl _)⟩
theorem Ends.bind {α β : Type} {f : Nat → Option α} {h : Nat → α → Option β} {x : α} {r : β} (hf : Ends f x) (hh : Ends (fun k => h k x) r) : Ends (fun k => (f k).bind (h k)) r := by
 obtain ⟨K, hf⟩ := hf
 obtain ⟨L, hh⟩ := hh
 refine ⟨max K L, fun k hk => ?_⟩
 show (f k).bind (h k) = some r
 rw [hf k (by omega)]
 exact hh k (by omega)
theorem Ends.bind1 {α β : Type} {x : Option α} {h : Nat → α → Option β} {a : α} {r : β} (hx : x = some a) (hh : Ends (fun k => h k a) r) : Ends (fun k => x.bind (h k)) r := by
 subst hx
 exact hh
theorem Ends.pos {α : Type} {f g : Nat → Option α} {c : Prop} [Decidable c] {r : α} (hc : c) (hf : Ends f r) : Ends (fun k => if c then f k else g k) r := by
 simp only [if_pos hc]
 exact hf
theorem Ends.neg {α : Type} {f g : Nat → Option α} {c : Prop} [Decidable c] {r : α} (hc : ¬ c) (hg : Ends g r) : Ends (fun k => if c then f k else g k) r := by
 simp only [if_neg hc]
 exact hg
theorem Ends.succ {α : Type} {l body : Nat → Option α} {r : α} (hs : ∀ k, l (k + 1) = body k) (hb : Ends body r) : Ends l r := by
 obtain ⟨K, hb⟩ := hb
 refine ⟨K + 1, fun k hk => ?_⟩
 obtain ⟨j, rfl⟩ : ∃ j, k = j + 1 := ⟨k - 1, by omega⟩
 rw [hs]
 exact hb j (by omega)
theorem Ends.congr {α : Type} {f g : Nat → Option α} {r : α} (h : ∀ k, f k = g k) (hg : Ends g r) : Ends f r := by
 obtain ⟨K, hg⟩ := hg
 exact ⟨K, fun k hk => by rw [h, hg k hk]⟩
theorem Ends.eq {α : Type} {g : Nat → Option α} {r r' : α} (h : Ends g r) (e : r = r') : Ends g r' := e ▸ h
theorem Ends.same {α : Type} {g : Nat → Option α} {r r' : α} (h : Ends g r) (h' : Ends g r') : r = r' := by
 obtain ⟨K, h⟩ := h
 obtain ⟨L, h'⟩ := h'
 have a := h (max K L) (by omega)
 have b := h' (max K L) (by omega)
 rw [a] at b
 exact Option.some.inj b

theorem w64 {x : Int} (h0 : -9223372036854775808 ≤ x) (h1 : x ≤ 9223372036854775807) : wrap64 x = x := by unfold wrap64; omega
theorem wu64 {x : Int} (h0 : 0 ≤ x) (h1 : x < 18446744073709551616) : IntKind.u64.wrap x = x := by rw [IntKind.wrap_u64]; omega
theorem wuN {y : Nat} (h : y < 2 ^ 64) : IntKind.u64.wrap (y : Int) = (y : Int) := by
 have h1 : (y : Int) < 18446744073709551616 := by omega
 exact wu64 (by omega) h1
theorem rd_nat (l : List Int) (i : Nat) : rd l (i : Int) = l.getD i 0 := by simp [rd]
theorem rd_map (l : List Nat) (i : Nat) (h : i < l.length) : rd (l.map fun (x : Nat) => (x : Int)) (i : Int) = ((l[i] : Nat) : Int) := by
 rw [rd_nat, List.getD_eq_getElem?_getD, List.getElem?_map, List.getElem?_eq_getElem h]
 rfl

theorem wf_u64 {n : Int} (h : (Lit.int .u64 n).wf = true) : 0 ≤ n ∧ n ≤ 18446744073709551615 := by
 simp [Lit.wf, IntKind.min, IntKind.max, IntKind.signed, IntKind.bits] at h
 omega
theorem wf_i64 {n : Int} (h : (Lit.int .i64 n).wf = true) : -9223372036854775808 ≤ n ∧ n ≤ 9223372036854775807 := by
 simp [Lit.wf, IntKind.min, IntKind.max, IntKind.signed, IntKind.bits] at h
 omega
theorem wf_u8 {n : Int} (h : (Lit.int .u8 n).wf = true) : 0 ≤ n ∧ n ≤ 255 := by
 simp [Lit.wf, IntKind.min, IntKind.max, IntKind.signed, IntKind.bits] at h
 omega
theorem u64_nat {s : Int} (h : (Lit.int .u64 s).wf = true) : ∃ m : Nat, s = (m : Int) ∧ m < 2 ^ 64 := by
 have h2 := wf_u64 h
 obtain ⟨m, rfl⟩ := Int.eq_ofNat_of_zero_le h2.1
 exact ⟨m, rfl, by omega⟩

/-! ### bits of a word -/
theorem pow64 : (2 : Nat) ^ 64 = 18446744073709551616 := by decide
theorem lt_or {a b : Nat} (ha : a < 2 ^ 64) (hb : b < 2 ^ 64) : a ||| b < 2 ^ 64 := Nat.or_lt_two_pow ha hb
theorem lt_and {a b : Nat} (ha : a < 2 ^ 64) : a &&& b < 2 ^ 64 := Nat.lt_of_le_of_lt Nat.and_le_left ha
theorem lt_and' {a b : Nat} (hb : b < 2 ^ 64) : a &&& b < 2 ^ 64 := Nat.and_lt_two_pow _ hb
theorem band {a b : Nat} (ha : a < 2 ^ 64) (hb : b < 2 ^ 64) : Go.bits .and .u64 (a : Int) (b : Int) = ((a &&& b : Nat) : Int) := bits_and_u64_nat a b (by omega) (by omega)
theorem bor {a b : Nat} (ha : a < 2 ^ 64) (hb : b < 2 ^ 64) : Go.bits .or .u64 (a : Int) (b : Int) = ((a ||| b : Nat) : Int) := bits_or_u64_nat a b (by omega) (by omega)
theorem bandNot {a b : Nat} (ha : a < 2 ^ 64) (hb : b < 2 ^ 64) : Go.bits .andNot .u64 (a : Int) (b : Int) = ((a &&& (2 ^ 64 - 1 - b) : Nat) : Int) := by
 have h1 : (BitVec.ofInt 64 (a : Int)).toNat = a := by
  rw [BitVec.ofInt_natCast, BitVec.toNat_ofNat]; exact Nat.mod_eq_of_lt ha
 have h2 : (BitVec.ofInt 64 (b : Int)).toNat = b := by
  rw [BitVec.ofInt_natCast, BitVec.toNat_ofNat]; exact Nat.mod_eq_of_lt hb
 show IntKind.u64.wrap ((BitVec.ofInt 64 (a : Int) &&& ~~~ BitVec.ofInt 64 (b : Int)).toNat : Int) = _
 rw [BitVec.toNat_and, BitVec.toNat_not, h1, h2]
 exact wu64 (by omega) (by have := lt_and (b := 2 ^ 64 - 1 - b) ha; omega)
theorem testBit_compl {b : Nat} (hb : b < 2 ^ 64) (i : Nat) : (2 ^ 64 - 1 - b).testBit i = (decide (i < 64) && !b.testBit i) := by
 rw [show 2 ^ 64 - 1 - b = 2 ^ 64 - (b + 1) from by omega, Nat.testBit_two_pow_sub_succ hb]
theorem testBit_andNot {a b : Nat} (ha : a < 2 ^ 64) (hb : b < 2 ^ 64) (i : Nat) : (a &&& (2 ^ 64 - 1 - b)).testBit i = (a.testBit i && !b.testBit i) := by
 rw [Nat.testBit_and, testBit_compl hb]
 by_cases h : i < 64
 ·simp [h]
 ·have : a.testBit i = false := Nat.testBit_lt_two_pow (Nat.lt_of_lt_of_le ha (Nat.pow_le_pow_right (by decide) (by omega)))
  simp [this]
theorem testBit_big {a : Nat} (ha : a < 2 ^ 64) {i : Nat} (hi : 64 ≤ i) : a.testBit i = false :=
 Nat.testBit_lt_two_pow (Nat.lt_of_lt_of_le ha (Nat.pow_le_pow_right (by decide) hi))
theorem shl_one {i : Nat} (hi : i < 64) : shl .u64 1 (i : Int) = ((2 ^ i : Nat) : Int) := by
 unfold shl
 have e : min (i : Int).toNat IntKind.u64.bits = i := by simp [IntKind.bits]; omega
 rw [e, Int.one_mul]
 have h : (2 : Nat) ^ i < 2 ^ 64 := Nat.pow_lt_pow_right (by decide) hi
 rw [show ((2 : Int) ^ i) = ((2 ^ i : Nat) : Int) from by simp]
 exact wu64 (Int.natCast_nonneg _) (Int.ofNat_lt.mpr h)
theorem shl_one_64 {i : Int} (hi : 64 ≤ i) : shl .u64 1 i = 0 := by
 unfold shl
 have e : min i.toNat IntKind.u64.bits = 64 := by simp [IntKind.bits]; omega
 rw [e]
 decide
theorem pow_lt {i : Nat} (hi : i < 64) : 2 ^ i < 2 ^ 64 := Nat.pow_lt_pow_right (by decide) hi
theorem shr_nat {n i : Nat} (hi : i ≤ 64) : shr .u64 (n : Int) (i : Int) = ((n >>> i : Nat) : Int) := by
 unfold shr
 have e : min (i : Int).toNat IntKind.u64.bits = i := by simp [IntKind.bits]; omega
 rw [e, Nat.shiftRight_eq_div_pow]
 simp
/-- Is i in the set n? as the program asks. -/
theorem bit_asked {n i : Nat} (hn : n < 2 ^ 64) (hi : i ≤ 64) : (Go.bits .and .u64 (shr .u64 (n : Int) (i : Int)) 1 == 1) = n.testBit i := by
 rw [shr_nat hi]
 have h1 : n >>> i < 2 ^ 64 := by
  rw [Nat.shiftRight_eq_div_pow]
  exact Nat.lt_of_le_of_lt (Nat.div_le_self _ _) hn
 have e := band h1 (show 1 < 2 ^ 64 by decide)
 simp only [Int.natCast_one] at e
 rw [e, Nat.and_one_is_mod, Bool.eq_iff_iff, beq_iff_eq, Nat.testBit_eq_decide_div_mod_eq, Nat.shiftRight_eq_div_pow, decide_eq_true_eq]
 omega

/-! ### rising lists; a set's list -/
theorem sorted_ext : ∀ {l m : List Nat}, l.Pairwise (· < ·) → m.Pairwise (· < ·) → (∀ x, x ∈ l ↔ x ∈ m) → l = m
 | [], [], _, _, _ => rfl
 | [], b :: m, _, _, h => absurd ((h b).2 List.mem_cons_self) (by simp)
 | a :: l, [], _, _, h => absurd ((h a).1 List.mem_cons_self) (by simp)
 | a :: l, b :: m, hl, hm, h => by
  rw [List.pairwise_cons] at hl hm
  have hab : a = b := by
   have h1 := (h a).1 List.mem_cons_self
   have h2 := (h b).2 List.mem_cons_self
   rw [List.mem_cons] at h1 h2
   rcases h1 with h1 | h1
   ·exact h1
   ·rcases h2 with h2 | h2
    ·exact h2.symm
    ·have := hm.1 a h1
     have := hl.1 b h2
     omega
  subst hab
  congr 1
  refine sorted_ext hl.2 hm.2 fun x => ?_
  have hx := h x
  rw [List.mem_cons, List.mem_cons] at hx
  constructor
  ·intro hxl
   rcases hx.1 (Or.inr hxl) with rfl | h1
   ·have := hl.1 _ hxl
    omega
   ·exact h1
  ·intro hxm
   rcases hx.2 (Or.inr hxm) with rfl | h1
   ·have := hm.1 _ hxm
    omega
   ·exact h1
/-- A set's list: its numbers, rising. -/
def setL (n : Nat) : List Nat := (List.range 64).filter fun i => n.testBit i
theorem setL_sorted (n : Nat) : (setL n).Pairwise (· < ·) := List.Pairwise.filter _ List.pairwise_lt_range
theorem mem_setL {n i : Nat} : i ∈ setL n ↔ i < 64 ∧ n.testBit i = true := by simp [setL]
theorem mem_setL' {n i : Nat} (hn : n < 2 ^ 64) : i ∈ setL n ↔ n.testBit i = true := by
 rw [mem_setL]
 constructor
 ·exact fun h => h.2
 ·intro h
  refine ⟨?_, h⟩
  rcases Nat.lt_or_ge i 64 with h1 | h1
  ·exact h1
  ·rw [testBit_big hn h1] at h
   cases h
theorem setL_length (n : Nat) : (setL n).length ≤ 64 := by
 have := List.length_filter_le (fun i => n.testBit i) (List.range 64)
 simpa [setL] using this
theorem setL_zero : setL 0 = [] := by simp [setL]
theorem setL_ext {a b : Nat} (ha : a < 2 ^ 64) (hb : b < 2 ^ 64) (h : setL a = setL b) : a = b := by
 apply Nat.eq_of_testBit_eq
 intro i
 rw [Bool.eq_iff_iff, ← mem_setL' ha, ← mem_setL' hb, h]
/-- A number's lowest bit, and what is left without it. -/
theorem lowest {n : Nat} (h0 : n ≠ 0) (hn : n < 2 ^ 64) : Lib.ctz 64 n < 64 ∧ n.testBit (Lib.ctz 64 n) = true ∧ (∀ i, i < Lib.ctz 64 n → n.testBit i = false) ∧ ∀ i, (n &&& (n - 1)).testBit i = (n.testBit i && decide (i ≠ Lib.ctz 64 n)) := by
 have hc : Lib.ctz 64 n = Lib.ctzFrom 64 n := by unfold Lib.ctz; rw [if_neg h0]
 obtain ⟨m, hm, hlt⟩ := Lib.ctzFrom_spec 64 n (by omega) hn
 rw [hc]
 generalize Lib.ctzFrom 64 n = c at hm hlt
 have hp : 0 < 2 ^ c := Nat.pow_pos (by decide)
 have e1 : n - 1 = 2 ^ c * (2 * m) + (2 ^ c - 1) := by rw [hm, Nat.mul_add]; omega
 have b1 : ∀ i, n.testBit i = if i < c then false else (2 * m + 1).testBit (i - c) := by
  intro i
  rw [hm, Nat.testBit_two_pow_mul]
  by_cases h : i < c
  ·rw [if_pos h]
   simp; omega
  ·rw [if_neg h]
   simp; omega
 have b2 : ∀ i, (n - 1).testBit i = if i < c then true else (2 * m).testBit (i - c) := by
  intro i
  rw [e1, Nat.testBit_two_pow_mul_add _ (by omega)]
  by_cases h : i < c
  ·rw [if_pos h, if_pos h, Nat.testBit_two_pow_sub_one]
   simp [h]
  ·rw [if_neg h, if_neg h]
 refine ⟨hlt, ?_, ?_, ?_⟩
 ·rw [b1, if_neg (by omega), Nat.sub_self, Nat.testBit_zero]
  simp
 ·intro i hi
  rw [b1, if_pos hi]
 ·intro i
  rw [Nat.testBit_and, b1, b2]
  by_cases h : i < c
  ·rw [if_pos h]; simp
  ·rw [if_neg h, if_neg h]
   by_cases h2 : i = c
   ·subst h2
    rw [Nat.sub_self, Nat.testBit_zero, Nat.testBit_zero]
    simp
   ·obtain ⟨j, hj⟩ : ∃ j, i - c = j + 1 := ⟨i - c - 1, by omega⟩
    rw [hj, Nat.testBit_succ, Nat.testBit_succ, show (2 * m + 1) / 2 = m from by omega, show 2 * m / 2 = m from by omega]
    simp [h2]
theorem setL_step {n : Nat} (h0 : n ≠ 0) (hn : n < 2 ^ 64) : setL n = Lib.ctz 64 n :: setL (n &&& (n - 1)) := by
 obtain ⟨h1, h2, h3, h4⟩ := lowest h0 hn
 have hn' : n &&& (n - 1) < 2 ^ 64 := lt_and hn
 refine sorted_ext (setL_sorted _) ?_ fun x => ?_
 ·rw [List.pairwise_cons]
  refine ⟨fun x hx => ?_, setL_sorted _⟩
  rw [mem_setL' hn', h4] at hx
  simp only [Bool.and_eq_true, decide_eq_true_eq] at hx
  rcases Nat.lt_or_ge x (Lib.ctz 64 n) with h | h
  ·rw [h3 x h] at hx
   exact absurd hx.1 (by simp)
  ·omega
 ·rw [List.mem_cons, mem_setL' hn, mem_setL' hn', h4]
  simp only [Bool.and_eq_true, decide_eq_true_eq]
  by_cases hx : x = Lib.ctz 64 n
  ·subst hx
   simp [h2]
  ·simp [hx]
/-- A list of numbers below 64 as integers. -/
def ints (l : List Nat) : List Int := l.map fun (x : Nat) => (x : Int)
theorem ints_length (l : List Nat) : (ints l).length = l.length := List.length_map _
theorem ints_append (a b : List Nat) : ints (a ++ b) = ints a ++ ints b := List.map_append
theorem rd_ints (l : List Nat) (i : Nat) (h : i < l.length) : rd (ints l) (i : Int) = ((l[i] : Nat) : Int) := rd_map l i h
theorem ints_getD (l : List Nat) (i : Nat) : (ints l).getD i 0 = ((l.getD i 0 : Nat) : Int) := by
 unfold ints
 rw [List.getD_eq_getElem?_getD, List.getD_eq_getElem?_getD, List.getElem?_map]
 cases l[i]? <;> rfl
/-- The set of a list. -/
def ofL (l : List Nat) : Nat := l.foldl (fun s i => s ||| 2 ^ i) 0
theorem foldl_or (l : List Nat) : ∀ s : Nat, l.foldl (fun s i => s ||| 2 ^ i) s = s ||| ofL l := by
 induction l with
 | nil => intro s; simp [ofL]
 | cons a l ih =>
  intro s
  have h1 := ih (s ||| 2 ^ a)
  have h2 := ih (0 ||| 2 ^ a)
  unfold ofL
  rw [List.foldl_cons, h1, List.foldl_cons, h2, Nat.zero_or, Nat.or_assoc]
theorem ofL_nil : ofL [] = 0 := rfl
theorem ofL_snoc (l : List Nat) (a : Nat) : ofL (l ++ [a]) = ofL l ||| 2 ^ a := by simp [ofL, List.foldl_append]
theorem ofL_cons (a : Nat) (l : List Nat) : ofL (a :: l) = 2 ^ a ||| ofL l := by
 have := foldl_or l (0 ||| 2 ^ a)
 rw [Nat.zero_or] at this
 unfold ofL at this ⊢
 rw [List.foldl_cons, Nat.zero_or]
 exact this
theorem testBit_ofL (l : List Nat) (i : Nat) : (ofL l).testBit i = decide (i ∈ l) := by
 induction l with
 | nil => simp [ofL]
 | cons a l ih =>
  rw [ofL_cons, Nat.testBit_or, ih, Nat.testBit_two_pow, Bool.eq_iff_iff, Bool.or_eq_true, decide_eq_true_eq, decide_eq_true_eq, decide_eq_true_eq, List.mem_cons]
  constructor
  ·rintro (h | h)
   ·exact Or.inl h.symm
   ·exact Or.inr h
  ·rintro (h | h)
   ·exact Or.inl h.symm
   ·exact Or.inr h
theorem ofL_lt (l : List Nat) (h : ∀ i ∈ l, i < 64) : ofL l < 2 ^ 64 := by
 apply Nat.lt_pow_two_of_testBit
 intro i hi
 rw [testBit_ofL]
 simp
 intro hm
 have := h i hm
 omega
theorem setL_ofL {l : List Nat} (h : l.Pairwise (· < ·)) (h2 : ∀ i ∈ l, i < 64) : setL (ofL l) = l := by
 refine sorted_ext (setL_sorted _) h fun x => ?_
 rw [mem_setL, testBit_ofL]
 simp
 exact h2 x
theorem ofL_setL {n : Nat} (hn : n < 2 ^ 64) : ofL (setL n) = n := by
 apply Nat.eq_of_testBit_eq
 intro i
 rw [testBit_ofL, Bool.eq_iff_iff, decide_eq_true_eq, mem_setL' hn]
end Go.Proofs.Ytccfbhnhedoggaa.M
