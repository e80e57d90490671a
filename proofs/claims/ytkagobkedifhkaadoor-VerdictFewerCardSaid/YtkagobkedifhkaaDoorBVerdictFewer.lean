/- Plain facts behind the law VerdictFewer: what its printed functions answer, as lists of whole numbers and as vectors over the field of 256 elements. -/
import Derived.Test.YtkagobkedifhkaaDoorV
import Derived.Laws.Bits64
import Derived.Laws.Bits64b
import Derived.RowKit
import GoSem.Claim
import Derived.Lib.TrailingZeros
import Derived.Test.YtkagobkedifhkaaDoorQx109
import Derived.Test.YtkagobkedifhkaaDoorQx111
import Derived.Test.YtkagobkedifhkaaDoorQx113
import Derived.Test.YtkagobkedifhkaaDoorQx114
import Derived.Test.YtkagobkedifhkaaDoorQx115
import Derived.Test.YtkagobkedifhkaaDoorQx116
import Derived.Test.YtkagobkedifhkaaDoorQx126
import Derived.Test.YtkagobkedifhkaaDoorQx133
import Derived.Test.YtkagobkedifhkaaDoorQx138
import Derived.Test.YtkagobkedifhkaaDoorQx139
import Derived.Test.YtkagobkedifhkaaDoorQx146
import Derived.Test.YtkagobkedifhkaaDoorQx154
import Derived.Test.YtkagobkedifhkaaDoorQx155
import Derived.Test.YtkagobkedifhkaaDoorQx156
import Derived.Test.YtkagobkedifhkaaDoorQx157
import Derived.Test.YtkagobkedifhkaaDoorQx158
import Derived.Test.YtkagobkedifhkaaDoorQx160
import Derived.Test.YtkagobkedifhkaaDoorQx162
import Derived.Test.YtkagobkedifhkaaDoorQx168
import Derived.Test.YtkagobkedifhkaaDoorQx169
import Derived.Test.YtkagobkedifhkaaDoorQx178
import Derived.Test.YtkagobkedifhkaaDoorQx179
import Derived.Test.YtkagobkedifhkaaDoorQx180
import Derived.Test.YtkagobkedifhkaaDoorQx181
import Derived.Test.YtkagobkedifhkaaDoorQx188
import Derived.Test.YtkagobkedifhkaaDoorQx189
import Derived.Test.YtkagobkedifhkaaDoorQx193
import Derived.Test.YtkagobkedifhkaaDoorQx200
namespace Go.Proofs.YtkagobkedifhkaaDoor.M
set_option linter.unusedVariables false
set_option linter.unusedSimpArgs false
open Go.RowKit Go.Proofs.YtkagobkedifhkaaDoorW.PrintWords Go.Proofs.YtkagobkedifhkaaDoorW.PrintMore
def Ends {α : Type} (g : Nat → Option α) (r : α) : Prop := ∃ K, ∀ k, K ≤ k → g k = some r
theorem Ends.const {α : Type} {x : Option α} {r : α} (h : x = some r) : Ends (fun _ => x) r := ⟨0, fun _ _ => h⟩
theorem Ends.exists {α : Type} {g : Nat → Option α} {r : α} (h : Ends g r) : ∃ k, g k = some r := by
 obtain ⟨K, h⟩ := h
 exact ⟨K, h K (Nat.le_refl _)⟩
theorem Ends.bind {α β : Type} {f : Nat → Option α} {h : Nat → α → Option β} {x : α} {r : β} (hf : Ends f x) (hh : Ends (fun k => h k x) r) : Ends (fun k => (f k).bind (h k)) r := by
 obtain ⟨K, hf⟩ := hf
 obtain ⟨L, hh⟩ := hh
 refine ⟨max K L, fun k hk => ?_⟩
 show (f k).bind (h k) = some r
 rw [hf k (by omega)]
 exact hh k (by omega)
theorem Ends.bind1 {α β : Type} {x : Option α} {h : Nat → α → Option β} {a : α} {r : β} (hx : x = some a) (hh : Ends (fun k => h k a) r) : Ends (fun k => x.bind (h k)) r := by
 subst hx
 exact hh
theorem Ends.pos {α : Type} {f g : Nat → Option α} {c : Prop} [Decidable c] {r : α} (hc : c) (hf : Ends f r) : Ends (fun k => if c then f k else g k) r := by
 simp only [if_pos hc]
 exact hf
theorem Ends.neg {α : Type} {f g : Nat → Option α} {c : Prop} [Decidable c] {r : α} (hc : ¬ c) (hg : Ends g r) : Ends (fun k => if c then f k else g k) r := by
 simp only [if_neg hc]
 exact hg
theorem Ends.succ {α : Type} {l body : Nat → Option α} {r : α} (hs : ∀ k, l (k + 1) = body k) (hb : Ends body r) : Ends l r := by
 obtain ⟨K, hb⟩ := hb
 refine ⟨K + 1, fun k hk => ?_⟩
 obtain ⟨j, rfl⟩ : ∃ j, k = j + 1 := ⟨k - 1, by omega⟩
 rw [hs]
 exact hb j (by omega)
theorem Ends.eq {α : Type} {g : Nat → Option α} {r r' : α} (h : Ends g r) (e : r = r') : Ends g r' := e ▸ h
theorem w64 {x : Int} (h0 : -9223372036854775808 ≤ x) (h1 : x ≤ 9223372036854775807) : wrap64 x = x := by unfold wrap64; omega
theorem wu64 {x : Int} (h0 : 0 ≤ x) (h1 : x < 18446744073709551616) : IntKind.u64.wrap x = x := by rw [IntKind.wrap_u64]; omega
theorem wuN {y : Nat} (h : y < 2 ^ 64) : IntKind.u64.wrap (y : Int) = (y : Int) := by
 have h1 : (y : Int) < 18446744073709551616 := by omega
 exact wu64 (by omega) h1
theorem rd_nat (l : List Int) (i : Nat) : rd l (i : Int) = l.getD i 0 := by simp [rd]
theorem rd_map (l : List Nat) (i : Nat) (h : i < l.length) : rd (l.map fun (x : Nat) => (x : Int)) (i : Int) = ((l[i] : Nat) : Int) := by
 rw [rd_nat, List.getD_eq_getElem?_getD, List.getElem?_map, List.getElem?_eq_getElem h]
 rfl
theorem wf_u64 {n : Int} (h : (Lit.int .u64 n).wf = true) : 0 ≤ n ∧ n ≤ 18446744073709551615 := by
 simp [Lit.wf, IntKind.min, IntKind.max, IntKind.signed, IntKind.bits] at h
 omega
theorem wf_i64 {n : Int} (h : (Lit.int .i64 n).wf = true) : -9223372036854775808 ≤ n ∧ n ≤ 9223372036854775807 := by
 simp [Lit.wf, IntKind.min, IntKind.max, IntKind.signed, IntKind.bits] at h
 omega
theorem wf_u8 {n : Int} (h : (Lit.int .u8 n).wf = true) : 0 ≤ n ∧ n ≤ 255 := by
 simp [Lit.wf, IntKind.min, IntKind.max, IntKind.signed, IntKind.bits] at h
 omega
theorem u64_nat {s : Int} (h : (Lit.int .u64 s).wf = true) : ∃ m : Nat, s = (m : Int) ∧ m < 2 ^ 64 := by
 have h2 := wf_u64 h
 obtain ⟨m, rfl⟩ := Int.eq_ofNat_of_zero_le h2.1
 exact ⟨m, rfl, by omega⟩
theorem lt_or {a b : Nat} (ha : a < 2 ^ 64) (hb : b < 2 ^ 64) : a ||| b < 2 ^ 64 := Nat.or_lt_two_pow ha hb
theorem lt_and {a b : Nat} (ha : a < 2 ^ 64) : a &&& b < 2 ^ 64 := Nat.lt_of_le_of_lt Nat.and_le_left ha
theorem band {a b : Nat} (ha : a < 2 ^ 64) (hb : b < 2 ^ 64) : Go.bits .and .u64 (a : Int) (b : Int) = ((a &&& b : Nat) : Int) := bits_and_u64_nat a b (by omega) (by omega)
theorem bor {a b : Nat} (ha : a < 2 ^ 64) (hb : b < 2 ^ 64) : Go.bits .or .u64 (a : Int) (b : Int) = ((a ||| b : Nat) : Int) := bits_or_u64_nat a b (by omega) (by omega)
theorem bandNot {a b : Nat} (ha : a < 2 ^ 64) (hb : b < 2 ^ 64) : Go.bits .andNot .u64 (a : Int) (b : Int) = ((a &&& (2 ^ 64 - 1 - b) : Nat) : Int) := by
 have h1 : (BitVec.ofInt 64 (a : Int)).toNat = a := by
  rw [BitVec.ofInt_natCast, BitVec.toNat_ofNat]; exact Nat.mod_eq_of_lt ha
 have h2 : (BitVec.ofInt 64 (b : Int)).toNat = b := by
  rw [BitVec.ofInt_natCast, BitVec.toNat_ofNat]; exact Nat.mod_eq_of_lt hb
 show IntKind.u64.wrap ((BitVec.ofInt 64 (a : Int) &&& ~~~ BitVec.ofInt 64 (b : Int)).toNat : Int) = _
 rw [BitVec.toNat_and, BitVec.toNat_not, h1, h2]
 exact wu64 (by omega) (by have := lt_and (b := 2 ^ 64 - 1 - b) ha; omega)
theorem testBit_compl {b : Nat} (hb : b < 2 ^ 64) (i : Nat) : (2 ^ 64 - 1 - b).testBit i = (decide (i < 64) && !b.testBit i) := by
 rw [show 2 ^ 64 - 1 - b = 2 ^ 64 - (b + 1) from by omega, Nat.testBit_two_pow_sub_succ hb]
theorem testBit_andNot {a b : Nat} (ha : a < 2 ^ 64) (hb : b < 2 ^ 64) (i : Nat) : (a &&& (2 ^ 64 - 1 - b)).testBit i = (a.testBit i && !b.testBit i) := by
 rw [Nat.testBit_and, testBit_compl hb]
 by_cases h : i < 64
 ·simp [h]
 ·have : a.testBit i = false := Nat.testBit_lt_two_pow (Nat.lt_of_lt_of_le ha (Nat.pow_le_pow_right (by decide) (by omega)))
  simp [this]
theorem testBit_big {a : Nat} (ha : a < 2 ^ 64) {i : Nat} (hi : 64 ≤ i) : a.testBit i = false :=
 Nat.testBit_lt_two_pow (Nat.lt_of_lt_of_le ha (Nat.pow_le_pow_right (by decide) hi))
theorem shl_one {i : Nat} (hi : i < 64) : shl .u64 1 (i : Int) = ((2 ^ i : Nat) : Int) := by
 unfold shl
 have e : min (i : Int).toNat IntKind.u64.bits = i := by simp [IntKind.bits]; omega
 rw [e, Int.one_mul]
 have h : (2 : Nat) ^ i < 2 ^ 64 := Nat.pow_lt_pow_right (by decide) hi
 rw [show ((2 : Int) ^ i) = ((2 ^ i : Nat) : Int) from by simp]
 exact wu64 (Int.natCast_nonneg _) (Int.ofNat_lt.mpr h)
theorem shl_one_64 {i : Int} (hi : 64 ≤ i) : shl .u64 1 i = 0 := by
 unfold shl
 have e : min i.toNat IntKind.u64.bits = 64 := by simp [IntKind.bits]; omega
 rw [e]
 decide
theorem pow_lt {i : Nat} (hi : i < 64) : 2 ^ i < 2 ^ 64 := Nat.pow_lt_pow_right (by decide) hi
theorem shr_nat {n i : Nat} (hi : i ≤ 64) : shr .u64 (n : Int) (i : Int) = ((n >>> i : Nat) : Int) := by
 unfold shr
 have e : min (i : Int).toNat IntKind.u64.bits = i := by simp [IntKind.bits]; omega
 rw [e, Nat.shiftRight_eq_div_pow]
 simp
theorem bit_asked {n i : Nat} (hn : n < 2 ^ 64) (hi : i ≤ 64) : (Go.bits .and .u64 (shr .u64 (n : Int) (i : Int)) 1 == 1) = n.testBit i := by
 rw [shr_nat hi]
 have h1 : n >>> i < 2 ^ 64 := by
  rw [Nat.shiftRight_eq_div_pow]
  exact Nat.lt_of_le_of_lt (Nat.div_le_self _ _) hn
 have e := band h1 (show 1 < 2 ^ 64 by decide)
 simp only [Int.natCast_one] at e
 rw [e, Nat.and_one_is_mod, Bool.eq_iff_iff, beq_iff_eq, Nat.testBit_eq_decide_div_mod_eq, Nat.shiftRight_eq_div_pow, decide_eq_true_eq]
 omega
theorem sorted_ext : ∀ {l m : List Nat}, l.Pairwise (· < ·) → m.Pairwise (· < ·) → (∀ x, x ∈ l ↔ x ∈ m) → l = m
 | [], [], _, _, _ => rfl
 | [], b :: m, _, _, h => absurd ((h b).2 List.mem_cons_self) (by simp)
 | a :: l, [], _, _, h => absurd ((h a).1 List.mem_cons_self) (by simp)
 | a :: l, b :: m, hl, hm, h => by
  rw [List.pairwise_cons] at hl hm
  have hab : a = b := by
   have h1 := (h a).1 List.mem_cons_self
   have h2 := (h b).2 List.mem_cons_self
   rw [List.mem_cons] at h1 h2
   rcases h1 with h1 | h1
   ·exact h1
   ·rcases h2 with h2 | h2
    ·exact h2.symm
    ·have := hm.1 a h1
     have := hl.1 b h2
     omega
  subst hab
  congr 1
  refine sorted_ext hl.2 hm.2 fun x => ?_
  have hx := h x
  rw [List.mem_cons, List.mem_cons] at hx
  constructor
  ·intro hxl
   rcases hx.1 (Or.inr hxl) with rfl | h1
   ·have := hl.1 _ hxl
    omega
   ·exact h1
  ·intro hxm
   rcases hx.2 (Or.inr hxm) with rfl | h1
   ·have := hm.1 _ hxm
    omega
   ·exact h1
def setL (n : Nat) : List Nat := (List.range 64).filter fun i => n.testBit i
theorem setL_sorted (n : Nat) : (setL n).Pairwise (· < ·) := List.Pairwise.filter _ List.pairwise_lt_range
theorem mem_setL {n i : Nat} : i ∈ setL n ↔ i < 64 ∧ n.testBit i = true := by simp [setL]
theorem mem_setL' {n i : Nat} (hn : n < 2 ^ 64) : i ∈ setL n ↔ n.testBit i = true := by
 rw [mem_setL]
 constructor
 ·exact fun h => h.2
 ·intro h
  refine ⟨?_, h⟩
  rcases Nat.lt_or_ge i 64 with h1 | h1
  ·exact h1
  ·rw [testBit_big hn h1] at h
   cases h
theorem setL_length (n : Nat) : (setL n).length ≤ 64 := by
 have := List.length_filter_le (fun i => n.testBit i) (List.range 64)
 simpa [setL] using this
theorem setL_zero : setL 0 = [] := by simp [setL]
theorem lowest {n : Nat} (h0 : n ≠ 0) (hn : n < 2 ^ 64) : Lib.ctz 64 n < 64 ∧ n.testBit (Lib.ctz 64 n) = true ∧ (∀ i, i < Lib.ctz 64 n → n.testBit i = false) ∧ ∀ i, (n &&& (n - 1)).testBit i = (n.testBit i && decide (i ≠ Lib.ctz 64 n)) := by
 have hc : Lib.ctz 64 n = Lib.ctzFrom 64 n := by unfold Lib.ctz; rw [if_neg h0]
 obtain ⟨m, hm, hlt⟩ := Lib.ctzFrom_spec 64 n (by omega) hn
 rw [hc]
 generalize Lib.ctzFrom 64 n = c at hm hlt
 have hp : 0 < 2 ^ c := Nat.pow_pos (by decide)
 have e1 : n - 1 = 2 ^ c * (2 * m) + (2 ^ c - 1) := by rw [hm, Nat.mul_add]; omega
 have b1 : ∀ i, n.testBit i = if i < c then false else (2 * m + 1).testBit (i - c) := by
  intro i
  rw [hm, Nat.testBit_two_pow_mul]
  by_cases h : i < c
  ·rw [if_pos h]
   simp; omega
  ·rw [if_neg h]
   simp; omega
 have b2 : ∀ i, (n - 1).testBit i = if i < c then true else (2 * m).testBit (i - c) := by
  intro i
  rw [e1, Nat.testBit_two_pow_mul_add _ (by omega)]
  by_cases h : i < c
  ·rw [if_pos h, if_pos h, Nat.testBit_two_pow_sub_one]
   simp [h]
  ·rw [if_neg h, if_neg h]
 refine ⟨hlt, ?_, ?_, ?_⟩
 ·rw [b1, if_neg (by omega), Nat.sub_self, Nat.testBit_zero]
  simp
 ·intro i hi
  rw [b1, if_pos hi]
 ·intro i
  rw [Nat.testBit_and, b1, b2]
  by_cases h : i < c
  ·rw [if_pos h]; simp
  ·rw [if_neg h, if_neg h]
   by_cases h2 : i = c
   ·subst h2
    rw [Nat.sub_self, Nat.testBit_zero, Nat.testBit_zero]
    simp
   ·obtain ⟨j, hj⟩ : ∃ j, i - c = j + 1 := ⟨i - c - 1, by omega⟩
    rw [hj, Nat.testBit_succ, Nat.testBit_succ, show (2 * m + 1) / 2 = m from by omega, show 2 * m / 2 = m from by omega]
    simp [h2]
theorem setL_step {n : Nat} (h0 : n ≠ 0) (hn : n < 2 ^ 64) : setL n = Lib.ctz 64 n :: setL (n &&& (n - 1)) := by
 obtain ⟨h1, h2, h3, h4⟩ := lowest h0 hn
 have hn' : n &&& (n - 1) < 2 ^ 64 := lt_and hn
 refine sorted_ext (setL_sorted _) ?_ fun x => ?_
 ·rw [List.pairwise_cons]
  refine ⟨fun x hx => ?_, setL_sorted _⟩
  rw [mem_setL' hn', h4] at hx
  simp only [Bool.and_eq_true, decide_eq_true_eq] at hx
  rcases Nat.lt_or_ge x (Lib.ctz 64 n) with h | h
  ·rw [h3 x h] at hx
   exact absurd hx.1 (by simp)
  ·omega
 ·rw [List.mem_cons, mem_setL' hn, mem_setL' hn', h4]
  simp only [Bool.and_eq_true, decide_eq_true_eq]
  by_cases hx : x = Lib.ctz 64 n
  ·subst hx
   simp [h2]
  ·simp [hx]
def ints (l : List Nat) : List Int := l.map fun (x : Nat) => (x : Int)
theorem ints_length (l : List Nat) : (ints l).length = l.length := List.length_map _
theorem ints_append (a b : List Nat) : ints (a ++ b) = ints a ++ ints b := List.map_append
theorem rd_ints (l : List Nat) (i : Nat) (h : i < l.length) : rd (ints l) (i : Int) = ((l[i] : Nat) : Int) := rd_map l i h
def ofL (l : List Nat) : Nat := l.foldl (fun s i => s ||| 2 ^ i) 0
theorem foldl_or (l : List Nat) : ∀ s : Nat, l.foldl (fun s i => s ||| 2 ^ i) s = s ||| ofL l := by
 induction l with
 | nil => intro s; simp [ofL]
 | cons a l ih =>
  intro s
  have h1 := ih (s ||| 2 ^ a)
  have h2 := ih (0 ||| 2 ^ a)
  unfold ofL
  rw [List.foldl_cons, h1, List.foldl_cons, h2, Nat.zero_or, Nat.or_assoc]
theorem ofL_nil : ofL [] = 0 := rfl
theorem ofL_snoc (l : List Nat) (a : Nat) : ofL (l ++ [a]) = ofL l ||| 2 ^ a := by simp [ofL, List.foldl_append]
theorem ofL_cons (a : Nat) (l : List Nat) : ofL (a :: l) = 2 ^ a ||| ofL l := by
 have := foldl_or l (0 ||| 2 ^ a)
 rw [Nat.zero_or] at this
 unfold ofL at this ⊢
 rw [List.foldl_cons, Nat.zero_or]
 exact this
theorem testBit_ofL (l : List Nat) (i : Nat) : (ofL l).testBit i = decide (i ∈ l) := by
 induction l with
 | nil => simp [ofL]
 | cons a l ih =>
  rw [ofL_cons, Nat.testBit_or, ih, Nat.testBit_two_pow, Bool.eq_iff_iff, Bool.or_eq_true, decide_eq_true_eq, decide_eq_true_eq, decide_eq_true_eq, List.mem_cons]
  constructor
  ·rintro (h | h)
   ·exact Or.inl h.symm
   ·exact Or.inr h
  ·rintro (h | h)
   ·exact Or.inl h.symm
   ·exact Or.inr h
theorem ofL_lt (l : List Nat) (h : ∀ i ∈ l, i < 64) : ofL l < 2 ^ 64 := by
 apply Nat.lt_pow_two_of_testBit
 intro i hi
 rw [testBit_ofL]
 simp
 intro hm
 have := h i hm
 omega
theorem setL_ofL {l : List Nat} (h : l.Pairwise (· < ·)) (h2 : ∀ i ∈ l, i < 64) : setL (ofL l) = l := by
 refine sorted_ext (setL_sorted _) h fun x => ?_
 rw [mem_setL, testBit_ofL]
 simp
 exact h2 x
end Go.Proofs.YtkagobkedifhkaaDoor.M
namespace Go.Proofs.YtkagobkedifhkaaDoor.M
set_option linter.unusedVariables false
open Go.RowKit Go.Proofs.YtkagobkedifhkaaDoorW.PrintWords Go.Proofs.YtkagobkedifhkaaDoorW.PrintMore
def ofD (B : Nat) : List Nat → Nat
  | [] => 0
  | c :: r => c + B * ofD B r
def evens : List Nat → List Nat
  | a :: _ :: r => a :: evens r
  | _ => []
def pairs : List Nat → List Nat
  | a :: b :: r => (a + b) :: pairs r
  | _ => []
def maskD (B : Nat) (n : Nat) : Nat := ofD (B * B) (List.replicate n (B - 1))
theorem ofD_lt {B : Nat} (hB : 0 < B) : ∀ {l : List Nat}, (∀ c ∈ l, c < B) → ofD B l < B ^ l.length
  | [], _ => by simp [ofD]
  | c :: r, h => by
    have h1 := ofD_lt hB (l := r) fun x hx => h x (List.mem_cons_of_mem _ hx)
    have h2 := h c List.mem_cons_self
    have h3 : B * (ofD B r + 1) ≤ B * B ^ r.length := Nat.mul_le_mul_left _ h1
    rw [List.length_cons, Nat.pow_succ, Nat.mul_comm (B ^ r.length)]
    simp only [ofD]
    rw [Nat.mul_add] at h3
    omega
theorem and_split {k a x c y : Nat} (ha : a < 2 ^ k) (hc : c < 2 ^ k) : (a + 2 ^ k * x) &&& (c + 2 ^ k * y) = (a &&& c) + 2 ^ k * (x &&& y) := by
  apply Nat.eq_of_testBit_eq
  intro i
  rw [Nat.add_comm a, Nat.add_comm c, Nat.add_comm (a &&& c), Nat.testBit_and, Nat.testBit_two_pow_mul_add _ ha, Nat.testBit_two_pow_mul_add _ hc, Nat.testBit_two_pow_mul_add _ (Nat.lt_of_le_of_lt Nat.and_le_left ha)]
  by_cases h : i < k
  · simp [h]
  · simp [h]
theorem mask_evens {w : Nat} : ∀ (n : Nat) (l : List Nat), l.length = 2 * n → (∀ c ∈ l, c < 2 ^ w) → ofD (2 ^ w) l &&& maskD (2 ^ w) n = ofD (2 ^ w * 2 ^ w) (evens l)
  | 0, [], _, _ => by simp [ofD, maskD, evens]
  | 0, _ :: _, h, _ => by simp at h
  | n + 1, [], h, _ => by simp at h
  | n + 1, [_], h, _ => by simp at h; omega
  | n + 1, a :: b :: r, h, hl => by
    have ih := mask_evens n r (by simp at h; omega) fun x hx => hl x (List.mem_cons_of_mem _ (List.mem_cons_of_mem _ hx))
    have ha := hl a List.mem_cons_self
    have hb := hl b (List.mem_cons_of_mem _ List.mem_cons_self)
    have hp : 0 < 2 ^ w := Nat.pow_pos (by decide)
    have e1 : ofD (2 ^ w) (a :: b :: r) = (a + 2 ^ w * b) + 2 ^ (w + w) * ofD (2 ^ w) r := by
      simp only [ofD]
      rw [Nat.mul_add, Nat.pow_add, Nat.mul_assoc]
      omega
    have e2 : maskD (2 ^ w) (n + 1) = (2 ^ w - 1) + 2 ^ (w + w) * maskD (2 ^ w) n := by
      unfold maskD
      rw [List.replicate_succ, ofD, Nat.pow_add]
    have hab : a + 2 ^ w * b < 2 ^ (w + w) := by
      have : 2 ^ w * (b + 1) ≤ 2 ^ w * 2 ^ w := Nat.mul_le_mul_left _ hb
      rw [Nat.mul_add] at this
      rw [Nat.pow_add]
      omega
    have hm : 2 ^ w - 1 < 2 ^ (w + w) := by
      have : 2 ^ w * 1 ≤ 2 ^ w * 2 ^ w := Nat.mul_le_mul_left _ hp
      rw [Nat.pow_add]
      omega
    rw [e1, e2, and_split hab hm, ih, Nat.and_two_pow_sub_one_eq_mod, Nat.add_mul_mod_self_left, Nat.mod_eq_of_lt ha, evens, ofD, Nat.pow_add]
theorem ofD_shift {w : Nat} {c : Nat} {r : List Nat} (hc : c < 2 ^ w) : ofD (2 ^ w) (c :: r) / 2 ^ w = ofD (2 ^ w) r := by
  simp only [ofD]
  rw [Nat.add_mul_div_left _ _ (Nat.pow_pos (by decide)), Nat.div_eq_of_lt hc, Nat.zero_add]
theorem ofD_snoc_zero (B : Nat) : ∀ l : List Nat, ofD B (l ++ [0]) = ofD B l
  | [] => by simp [ofD]
  | c :: r => by simp only [List.cons_append, ofD, ofD_snoc_zero B r]
theorem pairs_sum : ∀ (n : Nat) (l : List Nat), l.length = 2 * n → (pairs l).sum = l.sum ∧ (pairs l).length = n
  | 0, [], _ => by simp [pairs]
  | 0, _ :: _, h => by simp at h
  | n + 1, [], h => by simp at h
  | n + 1, [_], h => by simp at h; omega
  | n + 1, a :: b :: r, h => by
    have ih := pairs_sum n r (by simp at h; omega)
    exact ⟨by simp only [pairs, List.sum_cons, ih.1, Nat.add_assoc], by simp only [pairs, List.length_cons, ih.2]⟩
theorem pairs_le {B : Nat} : ∀ (l : List Nat), (∀ c ∈ l, c ≤ B) → ∀ c ∈ pairs l, c ≤ 2 * B
  | [], _, c, hc => by simp [pairs] at hc
  | [_], _, c, hc => by simp [pairs] at hc
  | a :: b :: r, h, c, hc => by
    simp only [pairs, List.mem_cons] at hc
    have ha := h a List.mem_cons_self
    have hb := h b (List.mem_cons_of_mem _ List.mem_cons_self)
    rcases hc with rfl | hc
    · omega
    · exact pairs_le r (fun x hx => h x (List.mem_cons_of_mem _ (List.mem_cons_of_mem _ hx))) c hc
theorem evens_odds (B : Nat) : ∀ (n : Nat) (l : List Nat), l.length = 2 * n → ofD B (evens (l.tail ++ [0])) + ofD B (evens l) = ofD B (pairs l)
  | 0, [], _ => by simp [evens, pairs, ofD]
  | 0, _ :: _, h => by simp at h
  | n + 1, [], h => by simp at h
  | n + 1, [_], h => by simp at h; omega
  | n + 1, [a, b], _ => by simp [evens, pairs, ofD]; omega
  | n + 1, a :: b :: c :: r, h => by
    have ih := evens_odds B n (c :: r) (by simp at h ⊢; omega)
    simp only [List.tail_cons, List.cons_append, evens, pairs, ofD] at ih ⊢
    rw [← ih, Nat.mul_add]
    omega
theorem fields_add {w n : Nat} {l : List Nat} (hl : l.length = 2 * n) (h : ∀ c ∈ l, c < 2 ^ w) :
    ((ofD (2 ^ w) l / 2 ^ w) &&& maskD (2 ^ w) n) + (ofD (2 ^ w) l &&& maskD (2 ^ w) n) = ofD (2 ^ w * 2 ^ w) (pairs l) := by
  cases l with
  | nil =>
    obtain rfl : n = 0 := by simp at hl; omega
    simp [ofD, maskD, pairs]
  | cons c r =>
    rw [ofD_shift (h c List.mem_cons_self), ← ofD_snoc_zero, mask_evens n (r ++ [0]) (by simp at hl ⊢; omega), mask_evens n (c :: r) hl h, ← evens_odds _ n _ hl, List.tail_cons]
    intro x hx
    rw [List.mem_append] at hx
    rcases hx with hx | hx
    · exact h x (List.mem_cons_of_mem _ hx)
    · simp at hx
      subst hx
      exact Nat.pow_pos (by decide)
def bitsD (n : Nat) (i : Nat) : Nat → List Nat
  | 0 => []
  | c + 1 => (if n.testBit i then 1 else 0) :: bitsD n (i + 1) c
theorem ofD_bitsD (n : Nat) : ∀ (c i : Nat), ofD 2 (bitsD n i c) = n / 2 ^ i % 2 ^ c
  | 0, i => by simp [bitsD, ofD, Nat.mod_one]
  | c + 1, i => by
    simp only [bitsD, ofD]
    rw [ofD_bitsD n c (i + 1), Nat.testBit_eq_decide_div_mod_eq, Nat.pow_succ 2 i, ← Nat.div_div_eq_div_mul]
    have h := Nat.mod_mul (a := 2) (b := 2 ^ c) (x := n / 2 ^ i)
    rw [Nat.pow_succ, Nat.mul_comm (2 ^ c) 2, h]
    have : n / 2 ^ i % 2 < 2 := Nat.mod_lt _ (by decide)
    by_cases h1 : n / 2 ^ i % 2 = 1
    · simp [h1]
    · have : n / 2 ^ i % 2 = 0 := by omega
      simp [this]
theorem bitsD_length (n : Nat) : ∀ c i, (bitsD n i c).length = c
  | 0, _ => rfl
  | c + 1, i => by simp [bitsD, bitsD_length n c (i + 1)]
theorem bitsD_le (n : Nat) : ∀ c i, ∀ x ∈ bitsD n i c, x ≤ 1
  | 0, _, x, hx => by simp [bitsD] at hx
  | c + 1, i, x, hx => by
    simp only [bitsD, List.mem_cons] at hx
    rcases hx with rfl | hx
    · split <;> omega
    · exact bitsD_le n c (i + 1) x hx
theorem bitsD_sum (n : Nat) : ∀ c i, (bitsD n i c).sum = ((List.range' i c).filter fun j => n.testBit j).length
  | 0, i => by simp [bitsD]
  | c + 1, i => by
    simp only [bitsD, List.sum_cons, bitsD_sum n c (i + 1), List.range'_succ, List.filter_cons]
    split <;> simp <;> omega
theorem mask1 : maskD (2 ^ 1) 32 = 6148914691236517205 := by decide
theorem mask2 : maskD (2 ^ 2) 16 = 3689348814741910323 := by decide
theorem mask4 : maskD (2 ^ 4) 8 = 1085102592571150095 := by decide
theorem ofD_zip {B : Nat} : ∀ (a b : List Nat), a.length = b.length → ofD B (List.zipWith (· + ·) a b) = ofD B a + ofD B b
  | [], [], _ => rfl
  | [], _ :: _, h => by simp at h
  | _ :: _, [], h => by simp at h
  | x :: a, y :: b, h => by
    have ih := ofD_zip (B := B) a b (by simpa using h)
    simp only [List.zipWith_cons_cons, ofD, ih, Nat.mul_add]
    omega
theorem zip_le {A B : Nat} : ∀ (a b : List Nat), (∀ c ∈ a, c ≤ A) → (∀ c ∈ b, c ≤ B) → ∀ c ∈ List.zipWith (· + ·) a b, c ≤ A + B
  | [], _, _, _, c, hc => by simp at hc
  | _ :: _, [], _, _, c, hc => by simp at hc
  | x :: a, y :: b, ha, hb, c, hc => by
    simp only [List.zipWith_cons_cons, List.mem_cons] at hc
    have h1 := ha x List.mem_cons_self
    have h2 := hb y List.mem_cons_self
    rcases hc with rfl | hc
    · omega
    · exact zip_le a b (fun z hz => ha z (List.mem_cons_of_mem _ hz)) (fun z hz => hb z (List.mem_cons_of_mem _ hz)) c hc
theorem evens_zip : ∀ (n : Nat) (m : List Nat), m.length = 2 * n → evens (List.zipWith (· + ·) (m.tail ++ [0]) m) = pairs m
  | 0, [], _ => rfl
  | 0, _ :: _, h => by simp at h
  | n + 1, [], h => by simp at h
  | n + 1, [_], h => by simp at h; omega
  | n + 1, [a, b], _ => by simp [evens, pairs, Nat.add_comm]
  | n + 1, a :: b :: c :: r, h => by
    have ih := evens_zip n (c :: r) (by simp at h ⊢; omega)
    simp only [List.tail_cons, List.cons_append, List.zipWith_cons_cons, evens, pairs] at ih ⊢
    rw [ih, Nat.add_comm a b]
theorem steps (x : Nat) (hx : x < 2 ^ 64) : ∃ l1 l2 l3 : List Nat, l1.length = 32 ∧ (∀ c ∈ l1, c ≤ 2) ∧ l2.length = 16 ∧ (∀ c ∈ l2, c ≤ 4) ∧ l3.length = 8 ∧ (∀ c ∈ l3, c ≤ 8) ∧ l3.sum = (setL x).length ∧
    (x / 2 &&& 6148914691236517205) + (x &&& 6148914691236517205) = ofD 4 l1 ∧ (ofD 4 l1 / 4 &&& 3689348814741910323) + (ofD 4 l1 &&& 3689348814741910323) = ofD 16 l2 ∧
    (ofD 16 l2 / 16 + ofD 16 l2) &&& 1085102592571150095 = ofD 256 l3 := by
  have hb := ofD_bitsD x 64 0
  rw [Nat.pow_zero, Nat.div_one, Nat.mod_eq_of_lt hx] at hb
  have hl := bitsD_length x 64 0
  have hs := bitsD_sum x 64 0
  have hle := bitsD_le x 64 0
  generalize bitsD x 0 64 = l at hb hl hs hle
  have p1 := pairs_sum 32 l hl
  have q1 := pairs_le (B := 1) l hle
  have p2 := pairs_sum 16 (pairs l) p1.2
  have q2 := pairs_le (B := 2) (pairs l) q1
  have p3 := pairs_sum 8 (pairs (pairs l)) p2.2
  have q3 := pairs_le (B := 4) (pairs (pairs l)) q2
  refine ⟨pairs l, pairs (pairs l), pairs (pairs (pairs l)), p1.2, q1, p2.2, q2, p3.2, q3, ?_, ?_, ?_, ?_⟩
  · rw [p3.1, p2.1, p1.1, hs, setL, List.range_eq_range']
  · have := fields_add (w := 1) (n := 32) hl (fun c hc => by have := hle c hc; omega)
    rw [mask1, show (2 : Nat) ^ 1 = 2 from rfl, hb] at this
    exact this
  · have := fields_add (w := 2) (n := 16) p1.2 (fun c hc => by have := q1 c hc; omega)
    rw [mask2] at this
    exact this
  · -- the sums of neighbours have room in their fields
    have hm := fields_add (w := 4) (n := 8) p2.2 (fun c hc => by have := q2 c hc; omega)
    have hlen : (pairs (pairs l)).length = 16 := p2.2
    generalize pairs (pairs l) = m at hm hlen q2
    have hz : ofD 16 m / 16 + ofD 16 m = ofD 16 (List.zipWith (· + ·) (m.tail ++ [0]) m) ∧ (∀ c ∈ List.zipWith (· + ·) (m.tail ++ [0]) m, c < 16) ∧ evens (List.zipWith (· + ·) (m.tail ++ [0]) m) = pairs m := by
      refine ⟨?_, ?_, evens_zip 8 m hlen⟩
      · cases m with
        | nil => simp at hlen
        | cons c r =>
          have h := ofD_shift (w := 4) (c := c) (r := r) (by have := q2 c List.mem_cons_self; omega)
          rw [show (2 : Nat) ^ 4 = 16 from rfl] at h
          rw [h, ofD_zip _ _ (by simp), List.tail_cons, ofD_snoc_zero]
      · intro c hc
        have := zip_le (A := 4) (B := 4) (m.tail ++ [0]) m (fun x hx => by
          rw [List.mem_append] at hx
          rcases hx with hx | hx
          · exact q2 x (List.mem_of_mem_tail hx)
          · simp at hx
            omega) q2 c hc
        omega
    rw [hz.1]
    have := mask_evens (w := 4) 8 (List.zipWith (· + ·) (m.tail ++ [0]) m) (by simp [hlen]) hz.2.1
    rw [mask4] at this
    rw [show (16 : Nat) = 2 ^ 4 from rfl, this, hz.2.2]
theorem t1 (c0 c1 c2 c3 c4 c5 c6 c7 X Y : Nat) (hY : Y = c1 + 256 * c2 + 65536 * c3 + 16777216 * c4 + 4294967296 * c5 + 1099511627776 * c6 + 281474976710656 * c7) (hX : X = c0 + 256 * c1 + 65536 * c2 + 16777216 * c3 + 4294967296 * c4 + 1099511627776 * c5 + 281474976710656 * c6 + 72057594037927936 * c7) : X = c0 + 256 * Y := by omega
theorem t2 (c0 c1 c2 c3 c4 c5 c6 c7 X Y Z : Nat) (hY : Y = c1 + 256 * c2 + 65536 * c3 + 16777216 * c4 + 4294967296 * c5 + 1099511627776 * c6 + 281474976710656 * c7) (hX : X = c0 + 256 * c1 + 65536 * c2 + 16777216 * c3 + 4294967296 * c4 + 1099511627776 * c5 + 281474976710656 * c6 + 72057594037927936 * c7) (hZ : Z = (c2 + c3) + 256 * (c3 + c4) + 65536 * (c4 + c5) + 16777216 * (c5 + c6) + 4294967296 * (c6 + c7) + 1099511627776 * c7) : X + Y = ((c0 + c1) + 256 * (c1 + c2)) + 65536 * Z := by omega
theorem t3 (c0 c1 c2 c3 c4 c5 c6 c7 X Y Z V : Nat) (hY : Y = c1 + 256 * c2 + 65536 * c3 + 16777216 * c4 + 4294967296 * c5 + 1099511627776 * c6 + 281474976710656 * c7) (hX : X = c0 + 256 * c1 + 65536 * c2 + 16777216 * c3 + 4294967296 * c4 + 1099511627776 * c5 + 281474976710656 * c6 + 72057594037927936 * c7) (hZ : Z = (c2 + c3) + 256 * (c3 + c4) + 65536 * (c4 + c5) + 16777216 * (c5 + c6) + 4294967296 * (c6 + c7) + 1099511627776 * c7)
  (hV : V = (c4 + c5 + c6 + c7) + 256 * (c5 + c6 + c7) + 65536 * (c6 + c7) + 16777216 * c7) : X + Y + Z = ((c0 + c1 + c2 + c3) + 256 * (c1 + c2 + c3 + c4) + 65536 * (c2 + c3 + c4 + c5) + 16777216 * (c3 + c4 + c5 + c6)) + 4294967296 * V := by omega
theorem t4 (c0 c1 c2 c3 c4 c5 c6 c7 X Y Z V : Nat) (hV : V = (c4 + c5 + c6 + c7) + 256 * (c5 + c6 + c7) + 65536 * (c6 + c7) + 16777216 * c7) (h : X + Y + Z = ((c0 + c1 + c2 + c3) + 256 * (c1 + c2 + c3 + c4) + 65536 * (c2 + c3 + c4 + c5) + 16777216 * (c3 + c4 + c5 + c6)) + 4294967296 * V) : X + Y + Z + V = (c0 + c1 + c2 + c3 + c4 + c5 + c6 + c7) + 128 * (2 * ((c1 + c2 + c3 + c4) + 256 * (c2 + c3 + c4 + c5) + 65536 * (c3 + c4 + c5 + c6) + 16777216 * V + ((c5 + c6 + c7) + 256 * (c6 + c7) + 65536 * c7))) := by omega
theorem t5 (c0 c1 c2 c3 c4 c5 c6 c7 X : Nat) (h0 : c0 ≤ 8) (h1 : c1 ≤ 8) (h2 : c2 ≤ 8) (h3 : c3 ≤ 8)(h4 : c4 ≤ 8)(h5 : c5 ≤ 8)(h6 : c6 ≤ 8)(h7 : c7 ≤ 8) (hX : X = c0 + 256 * c1 + 65536 * c2 + 16777216 * c3 + 4294967296 * c4 + 1099511627776 * c5 + 281474976710656 * c6 + 72057594037927936 * c7) : X < 578721382704613385 := by omega
theorem t6 (c2 c3 c4 c5 c6 c7 Z : Nat) (h2 : c2 ≤ 8) (h3 : c3 ≤ 8)(h4 : c4 ≤ 8)(h5 : c5 ≤ 8)(h6 : c6 ≤ 8)(h7 : c7 ≤ 8) (hZ : Z = (c2 + c3) + 256 * (c3 + c4) + 65536 * (c4 + c5) + 16777216 * (c5 + c6) + 4294967296 * (c6 + c7) + 1099511627776 * c7) : Z ≤ 9000000000000 := by omega
theorem t0 (c0 c1 c2 c3 c4 c5 c6 c7 : Nat) : ofD 256 [c0, c1, c2, c3, c4, c5, c6, c7] = c0 + 256 * c1 + 65536 * c2 + 16777216 * c3 + 4294967296 * c4 + 1099511627776 * c5 + 281474976710656 * c6 + 72057594037927936 * c7 := by
  simp only [ofD, Nat.mul_zero, Nat.add_zero]
  omega
theorem t7 (c1 c2 c3 c4 c5 c6 c7 Y : Nat) (h1 : c1 ≤ 8) (h2 : c2 ≤ 8) (h3 : c3 ≤ 8) (h4 : c4 ≤ 8) (h5 : c5 ≤ 8) (h6 : c6 ≤ 8) (h7 : c7 ≤ 8) (hY : Y = c1 + 256 * c2 + 65536 * c3 + 16777216 * c4 + 4294967296 * c5 + 1099511627776 * c6 + 281474976710656 * c7) : Y ≤ 3000000000000000 := by omega
theorem last (l : List Nat) (hl : l.length = 8) (h : ∀ c ∈ l, c ≤ 8) : ofD 256 l < 578721382704613385 ∧ (ofD 256 l + ofD 256 l / 256) + (ofD 256 l + ofD 256 l / 256) / 65536 < 2 ^ 63 ∧
    ((ofD 256 l + ofD 256 l / 256) + (ofD 256 l + ofD 256 l / 256) / 65536 + ((ofD 256 l + ofD 256 l / 256) + (ofD 256 l + ofD 256 l / 256) / 65536) / 4294967296) % 128 = l.sum := by
  match l, hl with
  | [c0, c1, c2, c3, c4, c5, c6, c7], _ =>
    simp only [List.mem_cons, List.not_mem_nil, or_false, forall_eq_or_imp, forall_eq] at h
    obtain ⟨h0, h1, h2, h3, h4, h5, h6, h7⟩ := h
    have hs : [c0, c1, c2, c3, c4, c5, c6, c7].sum = c0 + c1 + c2 + c3 + c4 + c5 + c6 + c7 := by
      simp only [List.sum_cons, List.sum_nil]
      omega
    rw [hs, t0]
    generalize hX : c0 + 256 * c1 + 65536 * c2 + 16777216 * c3 + 4294967296 * c4 + 1099511627776 * c5 + 281474976710656 * c6 + 72057594037927936 * c7 = X
    obtain ⟨Y, hY⟩ : ∃ Y, Y = c1 + 256 * c2 + 65536 * c3 + 16777216 * c4 + 4294967296 * c5 + 1099511627776 * c6 + 281474976710656 * c7 := ⟨_, rfl⟩
    obtain ⟨Z, hZ⟩ : ∃ Z, Z = (c2 + c3) + 256 * (c3 + c4) + 65536 * (c4 + c5) + 16777216 * (c5 + c6) + 4294967296 * (c6 + c7) + 1099511627776 * c7 := ⟨_, rfl⟩
    obtain ⟨V, hV⟩ : ∃ V, V = (c4 + c5 + c6 + c7) + 256 * (c5 + c6 + c7) + 65536 * (c6 + c7) + 16777216 * c7 := ⟨_, rfl⟩
    have b1 := t5 c0 c1 c2 c3 c4 c5 c6 c7 X h0 h1 h2 h3 h4 h5 h6 h7 hX.symm
    have b2 := t7 c1 c2 c3 c4 c5 c6 c7 Y h1 h2 h3 h4 h5 h6 h7 hY
    have b3 := t6 c2 c3 c4 c5 c6 c7 Z h2 h3 h4 h5 h6 h7 hZ
    have e1 := t1 c0 c1 c2 c3 c4 c5 c6 c7 X Y hY hX.symm
    have e2 := t2 c0 c1 c2 c3 c4 c5 c6 c7 X Y Z hY hX.symm hZ
    have e3 := t3 c0 c1 c2 c3 c4 c5 c6 c7 X Y Z V hY hX.symm hZ hV
    have e4 := t4 c0 c1 c2 c3 c4 c5 c6 c7 X Y Z V hV e3
    clear hX hY hZ hV
    have d1 : X / 256 = Y := by
      rw [e1, Nat.add_mul_div_left _ _ (by decide), Nat.div_eq_of_lt (by omega), Nat.zero_add]
    have d2 : (X + Y) / 65536 = Z := by
      rw [e2, Nat.add_mul_div_left _ _ (by decide), Nat.div_eq_of_lt (by omega), Nat.zero_add]
    have d3 : (X + Y + Z) / 4294967296 = V := by
      rw [e3, Nat.add_mul_div_left _ _ (by decide), Nat.div_eq_of_lt (by omega), Nat.zero_add]
    clear e1 e2 e3
    rw [d1, d2, d3, e4, Nat.add_mul_mod_self_left, Nat.mod_eq_of_lt (by omega)]
    exact ⟨b1, by omega, rfl⟩
theorem last16 (l : List Nat) (hl : l.length = 16) (h : ∀ c ∈ l, c ≤ 4) : ofD 16 l ≤ 4919131752989213764 := by
  match l, hl with
  | [c0, c1, c2, c3, c4, c5, c6, c7, c8, c9, c10, c11, c12, c13, c14, c15], _ =>
    simp only [List.mem_cons, List.not_mem_nil, or_false, forall_eq_or_imp, forall_eq] at h
    simp only [ofD, Nat.mul_zero, Nat.add_zero]
    omega
end Go.Proofs.YtkagobkedifhkaaDoor.M
namespace Go.Proofs.YtkagobkedifhkaaDoor.M
set_option linter.unusedVariables false
set_option linter.unusedSimpArgs false
open Go.RowKit Go.Proofs.YtkagobkedifhkaaDoor.Q Go.Proofs.YtkagobkedifhkaaDoorW.PrintWords Go.Proofs.YtkagobkedifhkaaDoorW.PrintMore
theorem low_lt {n : Nat} (hn : n ≤ 64) : 2 ^ n - 1 < 2 ^ 64 := by
 have : 2 ^ n ≤ 2 ^ 64 := Nat.pow_le_pow_right (by decide) hn
 have : 0 < 2 ^ n := Nat.pow_pos (by decide)
 omega
theorem testBit_low (n i : Nat) : (2 ^ n - 1).testBit i = decide (i < n) := Nat.testBit_two_pow_sub_one n i
theorem refFull_l0 {n : Nat} (hn : n ≤ 64) (d : Nat) : ∀ i, i + d = n → Ends (fun k => recoupref06_Full.l0 k (n : Int) ((2 ^ i - 1 : Nat) : Int) (i : Int)) (((2 ^ n - 1 : Nat) : Int), 0) := by
 induction d with
 | zero =>
  intro i hi
  obtain rfl : i = n := by omega
  refine Ends.succ (fun k => by rw [recoupref06_Full.l0]) ?_
  exact Ends.neg (by omega) (Ends.const rfl)
 | succ d ih =>
  intro i hi
  refine Ends.succ (fun k => by rw [recoupref06_Full.l0]) ?_
  rw [show IntKind.u64.wrap (i : Int) = (i : Int) from wu64 (by omega) (by omega), show wrap64 ((i : Int) + 1) = ((i + 1 : Nat) : Int) from by rw [w64 (by omega) (by omega)]; omega]
  refine Ends.pos (by omega) (Ends.pos (by omega) ?_)
  have e : Go.bits .or .u64 ((2 ^ i - 1 : Nat) : Int) (shl .u64 1 (i : Int)) = ((2 ^ (i + 1) - 1 : Nat) : Int) := by
   rw [shl_one (by omega), bor (low_lt (by omega)) (pow_lt (by omega))]
   congr 1
   apply Nat.eq_of_testBit_eq
   intro j
   rw [Nat.testBit_or, testBit_low, testBit_low, Nat.testBit_two_pow, Bool.eq_iff_iff, Bool.or_eq_true, decide_eq_true_eq, decide_eq_true_eq, decide_eq_true_eq]
   omega
  rw [e]
  exact ih (i + 1) (by omega)
def fullV (n : Int) : Int × Int := if 0 ≤ n ∧ n ≤ 64 then (((2 ^ n.toNat - 1 : Nat) : Int), 0) else (0, 2)
theorem refFull_eq (n : Int) : Ends (fun k => recoupref06_Full.f k n) (fullV n) := by
 unfold recoupref06_Full.f fullV
 by_cases h0 : n < 0
 ·refine Ends.pos h0 (Ends.succ (fun j => by rw [recoupref06_Full.j0]) (Ends.pos rfl (Ends.const ?_)))
  rw [if_neg (by omega)]
 ·refine Ends.neg h0 ?_
  by_cases h1 : n > 64
  ·refine Ends.succ (fun j => by rw [recoupref06_Full.j0]) (Ends.pos (by simpa using h1) (Ends.const ?_))
   rw [if_neg (by omega)]
  ·rw [if_pos (by omega)]
   refine Ends.succ (fun j => by rw [recoupref06_Full.j0]) (Ends.neg (by simpa using h1) ?_)
   obtain ⟨m, rfl⟩ := Int.eq_ofNat_of_zero_le (show 0 ≤ n by omega)
   exact refFull_l0 (by omega) _ 0 (Nat.zero_add _)
theorem has_eq {s : Nat} (hs : s < 2 ^ 64) (i : Int) : recoupref06_Has.f (s : Int) i = some (decide (0 ≤ i) && s.testBit i.toNat) := by
 unfold recoupref06_Has.f
 by_cases h0 : i ≥ 0
 ·rw [if_pos h0]
  obtain ⟨j, rfl⟩ := Int.eq_ofNat_of_zero_le h0
  by_cases h1 : (j : Int) < 64
  ·rw [if_pos h1, show IntKind.u64.wrap (j : Int) = (j : Int) from wu64 (by omega) (by omega), if_pos (by omega), bit_asked hs (by omega)]
   simp
  ·rw [if_neg h1, Int.toNat_natCast, testBit_big hs (by omega)]
   simp
 ·rw [if_neg h0, show decide (0 ≤ i) = false from by simpa using h0]
  rfl
theorem refList_l0 {s : Nat} (hs : s < 2 ^ 64) (d : Nat) : ∀ i, i + d = 64 → Ends (fun k => recoupref06_List.l0 k (s : Int) (ints ((List.range i).filter fun j => s.testBit j)) (i : Int)) (ints (setL s)) := by
 induction d with
 | zero =>
  intro i hi
  obtain rfl : i = 64 := by omega
  refine Ends.succ (fun k => by rw [recoupref06_List.l0]) ?_
  exact Ends.neg (by omega) (Ends.const rfl)
 | succ d ih =>
  intro i hi
  have ihn := ih (i + 1) (by omega)
  refine Ends.succ (fun k => by rw [recoupref06_List.l0]) ?_
  rw [show wrap64 ((i : Int) + 1) = ((i + 1 : Nat) : Int) from by rw [w64 (by omega) (by omega)]; omega]
  refine Ends.pos (by omega) (Ends.bind1 (has_eq hs _) ?_)
  have hl : (ints ((List.range i).filter fun j => s.testBit j)).length < 17592186044416 := by
   rw [ints_length]
   have := List.length_filter_le (fun j => s.testBit j) (List.range i)
   rw [List.length_range] at this
   omega
  rw [List.range_succ, List.filter_append] at ihn
  by_cases hb : s.testBit i = true
  ·refine Ends.pos (by simp [hb]) (Ends.pos hl ?_)
   rw [show List.filter (fun j => s.testBit j) [i] = [i] from by simp [hb], ints_append] at ihn
   exact ihn
  ·refine Ends.neg (by simp [hb]) ?_
   rw [show List.filter (fun j => s.testBit j) [i] = [] from by simp [hb], List.append_nil] at ihn
   exact ihn
theorem refList_eq {s : Nat} (hs : s < 2 ^ 64) : Ends (fun k => recoupref06_List.f k (s : Int)) (ints (setL s)) := by
 unfold recoupref06_List.f
 exact refList_l0 hs 64 0 (by omega)
theorem List_l0 (d : Nat) : ∀ (s : Nat) (acc : List Nat), s < 2 ^ 64 → (setL s).length ≤ d → acc.length + (setL s).length ≤ 64 → Ends (fun k => subset_List.l0 k (s : Int) (ints acc)) (ints (acc ++ setL s)) := by
 induction d with
 | zero =>
  intro s acc hs hd hl
  have h0 : s = 0 := by
   apply Classical.byContradiction
   intro h
   rw [setL_step h hs] at hd
   simp at hd
  subst h0
  refine Ends.succ (fun k => by rw [subset_List.l0]) ?_
  refine Ends.pos (by rfl) (Ends.const ?_)
  rw [setL_zero, List.append_nil]
 | succ d ih =>
  intro s acc hs hd hl
  by_cases h0 : s = 0
  ·subst h0
   refine Ends.succ (fun k => by rw [subset_List.l0]) ?_
   refine Ends.pos (by rfl) (Ends.const ?_)
   rw [setL_zero, List.append_nil]
  ·have hst := setL_step h0 hs
   rw [hst, List.length_cons] at hd hl
   refine Ends.succ (fun k => by rw [subset_List.l0]) (Ends.neg (by omega) ?_)
   have ht : bits_TrailingZeros64.f (s : Int) = some ((Lib.ctz 64 s : Nat) : Int) := by
    unfold bits_TrailingZeros64.f
    rw [if_pos (by unfold u64B; simp; omega), Int.toNat_natCast]
   refine Ends.bind1 ht (Ends.pos (by rw [ints_length]; omega) ?_)
   have e : Go.bits .and .u64 (s : Int) (IntKind.u64.wrap ((s : Int) - 1)) = ((s &&& (s - 1) : Nat) : Int) := by
    rw [wu64 (by omega) (by omega), show ((s : Int) - 1) = ((s - 1 : Nat) : Int) from by omega, band hs (by omega)]
   rw [e, show ints acc ++ [((Lib.ctz 64 s : Nat) : Int)] = ints (acc ++ [Lib.ctz 64 s]) from by rw [ints_append]; rfl]
   refine (ih (s &&& (s - 1)) (acc ++ [Lib.ctz 64 s]) (lt_and hs) (by omega) (by simp; omega)).eq ?_
   rw [hst, List.append_assoc]
   rfl
theorem List_eq {s : Nat} (hs : s < 2 ^ 64) : Ends (fun k => subset_List.f k (s : Int)) (ints (setL s)) := by
 unfold subset_List.f
 exact List_l0 64 s [] hs (setL_length s) (by have := setL_length s; simpa using this)
def setOk (n : Int) (s : Nat) : Prop := 0 ≤ n ∧ n ≤ 64 ∧ ∀ i ∈ setL s, (i : Int) < n
instance (n : Int) (s : Nat) : Decidable (setOk n s) := by unfold setOk; infer_instance
theorem within {n s : Nat} (hn : n ≤ 64) (hs : s < 2 ^ 64) : (s &&& (2 ^ 64 - 1 - (2 ^ n - 1)) = 0) ↔ ∀ i ∈ setL s, i < n := by
 constructor
 ·intro h i hi
  have h1 := congrArg (fun x => x.testBit i) h
  simp only [Nat.zero_testBit] at h1
  rw [testBit_andNot hs (low_lt hn), (mem_setL.1 hi).2, testBit_low] at h1
  simpa using h1
 ·intro h
  apply Nat.eq_of_testBit_eq
  intro i
  rw [testBit_andNot hs (low_lt hn), testBit_low, Nat.zero_testBit]
  by_cases hb : s.testBit i = true
  ·have := h i ((mem_setL' hs).2 hb)
   simp [this]
  ·simp [hb]
theorem asked {n s : Nat} (hn : n ≤ 64) (hs : s < 2 ^ 64) : (Go.bits .andNot .u64 (s : Int) ((2 ^ n - 1 : Nat) : Int) = 0) ↔ setOk (n : Int) s := by
 rw [bandNot hs (low_lt hn)]
 have h := within hn hs
 unfold setOk
 constructor
 ·intro h1
  have h2 := h.1 (by omega)
  exact ⟨by omega, by omega, fun i hi => by have := h2 i hi; omega⟩
 ·rintro ⟨_, _, h1⟩
  have := h.2 fun i hi => by have := h1 i hi; omega
  omega
theorem Has_eq {s : Nat} (hs : s < 2 ^ 64) (i : Int) : subset_Has.f (s : Int) i = some (decide (0 ≤ i) && s.testBit i.toNat) := by
 unfold subset_Has.f
 by_cases h0 : i ≥ 0
 ·rw [if_pos h0]
  obtain ⟨j, rfl⟩ := Int.eq_ofNat_of_zero_le h0
  by_cases h1 : (j : Int) < 64
  ·rw [if_pos h1, if_pos (by omega), bit_asked hs (by omega)]
   simp
  ·rw [if_neg h1, Int.toNat_natCast, testBit_big hs (by omega)]
   simp
 ·rw [if_neg h0, show decide (0 ≤ i) = false from by simpa using h0]
  rfl
theorem div_nat (a b : Nat) : ((a : Nat) : Int) / (b : Int) = ((a / b : Nat) : Int) := by simp
theorem band127 {x : Nat} (hx : x < 2 ^ 63) : Go.bits .and .i64 (x : Int) 127 = ((x % 128 : Nat) : Int) := by
 have h1 : (BitVec.ofInt 64 (x : Int)).toNat = x := by
  rw [BitVec.ofInt_natCast, BitVec.toNat_ofNat]; exact Nat.mod_eq_of_lt (by omega)
 have h2 : (BitVec.ofInt 64 (127 : Int)).toNat = 127 := by decide
 show IntKind.i64.wrap ((BitVec.ofInt 64 (x : Int) &&& BitVec.ofInt 64 127).toNat : Int) = _
 rw [BitVec.toNat_and, h1, h2, show (127 : Nat) = 2 ^ 7 - 1 from rfl, Nat.and_two_pow_sub_one_eq_mod]
 have : x % 2 ^ 7 < 128 := Nat.mod_lt _ (by decide)
 have e : IntKind.i64.wrap ((x % 2 ^ 7 : Nat) : Int) = wrap64 ((x % 2 ^ 7 : Nat) : Int) := Go.Proofs.YtkagobkedifhkaaDoorW.PrintLast.i64_w _
 rw [e, w64 (by omega) (by omega)]
theorem ones_eq {s : Nat} (hs : s < 2 ^ 64) : bits_OnesCount64.f (s : Int) = some (((setL s).length : Nat) : Int) := by
 obtain ⟨l1, l2, l3, p1, q1, p2, q2, p3, q3, hsum, e1, e2, e3⟩ := steps s hs
 have b1 : ofD 4 l1 < 2 ^ 64 := by
  have := ofD_lt (B := 4) (by decide) (l := l1) fun c hc => by have := q1 c hc; omega
  rw [p1] at this
  exact this
 have b2 : ofD 16 l2 < 2 ^ 64 := by
  have := ofD_lt (B := 16) (by decide) (l := l2) fun c hc => by have := q2 c hc; omega
  rw [p2] at this
  exact this
 obtain ⟨c1, c2, c3⟩ := last l3 p3 q3
 have X1 : IntKind.u64.wrap ((Go.bits .and .u64 ((s : Int) / 2) 6148914691236517205) + (Go.bits .and .u64 (s : Int) 6148914691236517205)) = ((ofD 4 l1 : Nat) : Int) := by
  rw [show ((s : Int) / 2) = ((s / 2 : Nat) : Int) from div_nat s 2, show (6148914691236517205 : Int) = ((6148914691236517205 : Nat) : Int) from rfl, band (by omega) (by decide), band hs (by decide), ← Int.natCast_add, e1]
  exact wuN b1
 have X2 : IntKind.u64.wrap ((Go.bits .and .u64 (((ofD 4 l1 : Nat) : Int) / 4) 3689348814741910323) + (Go.bits .and .u64 ((ofD 4 l1 : Nat) : Int) 3689348814741910323)) = ((ofD 16 l2 : Nat) : Int) := by
  rw [show (((ofD 4 l1 : Nat) : Int) / 4) = ((ofD 4 l1 / 4 : Nat) : Int) from div_nat _ 4, show (3689348814741910323 : Int) = ((3689348814741910323 : Nat) : Int) from rfl, band (by omega) (by decide), band b1 (by decide), ← Int.natCast_add, e2]
  exact wuN b2
 have b3 : ofD 16 l2 / 16 + ofD 16 l2 < 2 ^ 64 := by
  have h := last16 l2 p2 q2
  omega
 have X3 : Go.bits .and .u64 (IntKind.u64.wrap (((ofD 16 l2 : Nat) : Int) / 16 + ((ofD 16 l2 : Nat) : Int))) 1085102592571150095 = ((ofD 256 l3 : Nat) : Int) := by
  rw [show (((ofD 16 l2 : Nat) : Int) / 16) = ((ofD 16 l2 / 16 : Nat) : Int) from div_nat _ 16, ← Int.natCast_add, wuN b3, show (1085102592571150095 : Int) = ((1085102592571150095 : Nat) : Int) from rfl, band b3 (by decide), e3]
 have X4 : IntKind.u64.wrap (((ofD 256 l3 : Nat) : Int) + ((ofD 256 l3 : Nat) : Int) / 256) = ((ofD 256 l3 + ofD 256 l3 / 256 : Nat) : Int) := by
  rw [show (((ofD 256 l3 : Nat) : Int) / 256) = ((ofD 256 l3 / 256 : Nat) : Int) from div_nat _ 256, ← Int.natCast_add]
  exact wuN (by omega)
 have X5 : ∀ y : Nat, y + y / 65536 < 2 ^ 63 → IntKind.u64.wrap ((y : Int) + (y : Int) / 65536) = ((y + y / 65536 : Nat) : Int) := by
  intro y hy
  rw [show ((y : Int) / 65536) = ((y / 65536 : Nat) : Int) from div_nat _ 65536, ← Int.natCast_add]
  exact wuN (by omega)
 have X6 : ∀ y : Nat, y < 2 ^ 63 → y + y / 4294967296 < 2 ^ 63 → wrap64 (IntKind.u64.wrap ((y : Int) + (y : Int) / 4294967296)) = ((y + y / 4294967296 : Nat) : Int) := by
  intro y _ hy
  rw [show ((y : Int) / 4294967296) = ((y / 4294967296 : Nat) : Int) from div_nat _ 4294967296, ← Int.natCast_add, wuN (by omega)]
  exact w64 (by omega) (by omega)
 unfold bits_OnesCount64.f
 rw [X1, X2, X3, X4, X5 _ c2]
 have b7 : (ofD 256 l3 + ofD 256 l3 / 256 + (ofD 256 l3 + ofD 256 l3 / 256) / 65536) < 2 ^ 60 := by omega
 rw [X6 _ (by omega) (by omega), band127 (by omega), c3, hsum]
theorem Count_eq {s : Nat} (hs : s < 2 ^ 64) : subset_Count.f (s : Int) = some (((setL s).length : Nat) : Int) := by
 unfold subset_Count.f
 rw [ones_eq hs]
 rfl
end Go.Proofs.YtkagobkedifhkaaDoor.M
namespace Go.Proofs.YtkagobkedifhkaaDoor.M
structure El where
 v : BitVec 8
deriving DecidableEq
theorem El.eq {a b : El} (h : a.v = b.v) : a = b := by cases a; cases b; cases h; rfl
instance : Add El := ⟨fun a b => ⟨a.v ^^^ b.v⟩⟩
instance : Zero El := ⟨⟨0⟩⟩
instance : OfNat El 0 := ⟨⟨0⟩⟩
instance : OfNat El 1 := ⟨⟨1⟩⟩
theorem add_comm (a b : El) : a + b = b + a := El.eq (BitVec.xor_comm _ _)
theorem add_assoc (a b c : El) : a + b + c = a + (b + c) := El.eq (BitVec.xor_assoc _ _ _)
theorem add_self (a : El) : a + a = 0 := El.eq BitVec.xor_self
theorem add_zero (a : El) : a + 0 = a := El.eq BitVec.xor_zero
theorem zero_add (a : El) : 0 + a = a := El.eq BitVec.zero_xor
instance : Std.Commutative (α := El) (· + ·) := ⟨add_comm⟩
instance : Std.Associative (α := El) (· + ·) := ⟨add_assoc⟩
theorem add_cancel {a b : El} (h : a + b = 0) : a = b := by
 have : a + b + b = 0 + b := by rw [h]
 rw [add_assoc, add_self, add_zero, zero_add] at this
 exact this
def xt (a : BitVec 8) : BitVec 8 := (a <<< 1) ^^^ (if a.getLsbD 7 then 0x1d#8 else 0#8)
theorem xt_xor (a b : BitVec 8) : xt (a ^^^ b) = xt a ^^^ xt b := by
 unfold xt
 rw [BitVec.shiftLeft_xor_distrib, BitVec.getLsbD_xor]
 cases a.getLsbD 7 <;> cases b.getLsbD 7 <;> simp <;> first | ac_rfl | skip
 ·rw [show a <<< 1 ^^^ 29#8 ^^^ (b <<< 1 ^^^ 29#8) = (a <<< 1 ^^^ b <<< 1) ^^^ (29#8 ^^^ 29#8) from by ac_rfl]
  simp
def xtn : Nat → BitVec 8 → BitVec 8
 | 0, a => a
 | n + 1, a => xt (xtn n a)
theorem xtn_xor : ∀ n a b, xtn n (a ^^^ b) = xtn n a ^^^ xtn n b
 | 0, _, _ => rfl
 | n + 1, a, b => by
  show xt (xtn n (a ^^^ b)) = _
  rw [xtn_xor n, xt_xor]
  rfl
theorem xtn_xt : ∀ n a, xtn n (xt a) = xt (xtn n a)
 | 0, _ => rfl
 | n + 1, a => by
  show xt (xtn n (xt a)) = _
  rw [xtn_xt n]
  rfl
theorem xtn_add : ∀ m n a, xtn (m + n) a = xtn m (xtn n a)
 | 0, n, a => by rw [Nat.zero_add]; rfl
 | m + 1, n, a => by
  rw [show m + 1 + n = (m + n) + 1 from by omega]
  show xt (xtn (m + n) a) = xt (xtn m (xtn n a))
  rw [xtn_add m]
def gmN (a b : BitVec 8) : Nat → BitVec 8
 | 0 => 0
 | n + 1 => gmN a b n ^^^ (if b.getLsbD n then xtn n a else 0)
def gm (a b : BitVec 8) : BitVec 8 := gmN a b 8
theorem gmN_xor_right (a b c : BitVec 8) : ∀ n, gmN a (b ^^^ c) n = gmN a b n ^^^ gmN a c n
 | 0 => by simp [gmN]
 | n + 1 => by
  show gmN a (b ^^^ c) n ^^^ _ = (gmN a b n ^^^ _) ^^^ (gmN a c n ^^^ _)
  rw [gmN_xor_right a b c n, BitVec.getLsbD_xor, show (gmN a b n ^^^ if b.getLsbD n = true then xtn n a else 0) ^^^ (gmN a c n ^^^ if c.getLsbD n = true then xtn n a else 0) = (gmN a b n ^^^ gmN a c n) ^^^ ((if b.getLsbD n = true then xtn n a else 0) ^^^ (if c.getLsbD n = true then xtn n a else 0)) from by ac_rfl]
  cases b.getLsbD n <;> cases c.getLsbD n <;> simp
theorem gmN_xor_left (a b c : BitVec 8) : ∀ n, gmN (a ^^^ b) c n = gmN a c n ^^^ gmN b c n
 | 0 => by simp [gmN]
 | n + 1 => by
  show gmN (a ^^^ b) c n ^^^ _ = (gmN a c n ^^^ _) ^^^ (gmN b c n ^^^ _)
  rw [gmN_xor_left a b c n, show (gmN a c n ^^^ if c.getLsbD n = true then xtn n a else 0) ^^^ (gmN b c n ^^^ if c.getLsbD n = true then xtn n b else 0) = (gmN a c n ^^^ gmN b c n) ^^^ ((if c.getLsbD n = true then xtn n a else 0) ^^^ (if c.getLsbD n = true then xtn n b else 0)) from by ac_rfl, xtn_xor]
  cases c.getLsbD n <;> simp
theorem gmN_xt (a b : BitVec 8) : ∀ n, gmN (xt a) b n = xt (gmN a b n)
 | 0 => show (0 : BitVec 8) = xt 0 by decide
 | n + 1 => by
  show gmN (xt a) b n ^^^ _ = xt (gmN a b n ^^^ _)
  rw [gmN_xt a b n, xt_xor, xtn_xt]
  cases b.getLsbD n
  ·have : xt (0 : BitVec 8) = 0 := by decide
   simp only [Bool.false_eq_true, if_false]
   rw [this]
  ·simp
theorem gm_one_left : ∀ b : BitVec 8, gm 1 b = b := by decide +kernel
theorem gm_one_right : ∀ a : BitVec 8, gm a 1 = a := by decide +kernel
def pw (n : Nat) : BitVec 8 := xtn n 1
theorem gm_pw : ∀ i b, gm (pw i) b = xtn i b
 | 0, b => gm_one_left b
 | i + 1, b => by
  show gmN (xt (pw i)) b 8 = _
  rw [gmN_xt]
  show xt (gm (pw i) b) = _
  rw [gm_pw i b]
  rfl
theorem gm_pw_pw (i j : Nat) : gm (pw i) (pw j) = pw (i + j) := by
 rw [gm_pw]
 unfold pw
 rw [xtn_add]
theorem pw_255 : pw 255 = 1 := by decide +kernel
theorem pw_add_255 (n : Nat) : pw (n + 255) = pw n := by
 unfold pw
 rw [xtn_add]
 exact congrArg _ pw_255
def lgFrom (a : BitVec 8) : Nat → Nat → BitVec 8 → Nat
 | 0, i, _ => i
 | f + 1, i, p => if p = a then i else lgFrom a f (i + 1) (xt p)
def lg (a : BitVec 8) : Nat := lgFrom a 254 0 1
theorem lgFrom_le (a : BitVec 8) : ∀ f i p, lgFrom a f i p ≤ i + f
 | 0, i, p => Nat.le_refl _
 | f + 1, i, p => by
  unfold lgFrom
  split
  ·omega
  ·have := lgFrom_le a f (i + 1) (xt p)
   omega
theorem lg_le (a : BitVec 8) : lg a ≤ 254 := by have := lgFrom_le a 254 0 1; unfold lg; omega
theorem pw_lg : ∀ a : BitVec 8, a ≠ 0 → pw (lg a) = a := by decide +kernel
theorem gm_zero_right (a : BitVec 8) : gm a 0 = 0 := by
 have := gmN_xor_right a 0 0 8
 simpa [gm] using this
theorem gm_zero_left (b : BitVec 8) : gm 0 b = 0 := by
 have := gmN_xor_left 0 0 b 8
 simpa [gm] using this
theorem gm_comm (a b : BitVec 8) : gm a b = gm b a := by
 by_cases ha : a = 0
 ·subst ha; rw [gm_zero_left, gm_zero_right]
 ·by_cases hb : b = 0
  ·subst hb; rw [gm_zero_left, gm_zero_right]
  ·rw [← pw_lg a ha, ← pw_lg b hb, gm_pw_pw, gm_pw_pw, Nat.add_comm]
theorem gm_assoc (a b c : BitVec 8) : gm (gm a b) c = gm a (gm b c) := by
 by_cases ha : a = 0
 ·subst ha; rw [gm_zero_left, gm_zero_left, gm_zero_left]
 ·by_cases hb : b = 0
  ·subst hb; rw [gm_zero_right, gm_zero_left, gm_zero_right]
  ·by_cases hc : c = 0
   ·subst hc; rw [gm_zero_right, gm_zero_right, gm_zero_right]
   ·rw [← pw_lg a ha, ← pw_lg b hb, ← pw_lg c hc, gm_pw_pw, gm_pw_pw, gm_pw_pw, gm_pw_pw, Nat.add_assoc]
def ginv (a : BitVec 8) : BitVec 8 := if a = 0 then 0 else pw (255 - lg a)
theorem gm_inv (a : BitVec 8) (h : a ≠ 0) : gm a (ginv a) = 1 := by
 unfold ginv
 have hl := lg_le a
 rw [if_neg h]
 conv => lhs; arg 1; rw [← pw_lg a h]
 rw [gm_pw_pw, show lg a + (255 - lg a) = 255 from by omega, pw_255]
instance : Mul El := ⟨fun a b => ⟨gm a.v b.v⟩⟩
def El.inv (a : El) : El := ⟨ginv a.v⟩
theorem mul_comm (a b : El) : a * b = b * a := El.eq (gm_comm _ _)
theorem mul_assoc (a b c : El) : a * b * c = a * (b * c) := El.eq (gm_assoc _ _ _)
instance : Std.Commutative (α := El) (· * ·) := ⟨mul_comm⟩
instance : Std.Associative (α := El) (· * ·) := ⟨mul_assoc⟩
theorem mul_one (a : El) : a * 1 = a := El.eq (gm_one_right _)
theorem one_mul (a : El) : 1 * a = a := El.eq (gm_one_left _)
theorem mul_zero (a : El) : a * 0 = 0 := El.eq (gm_zero_right _)
theorem zero_mul (a : El) : 0 * a = 0 := El.eq (gm_zero_left _)
theorem mul_add (a b c : El) : a * (b + c) = a * b + a * c := El.eq (gmN_xor_right _ _ _ 8)
theorem add_mul (a b c : El) : (a + b) * c = a * c + b * c := El.eq (gmN_xor_left _ _ _ 8)
theorem one_ne_zero : (1 : El) ≠ 0 := by decide
theorem v_ne {a : El} (h : a ≠ 0) : a.v ≠ 0 := fun e => h (El.eq e)
theorem mul_inv {a : El} (h : a ≠ 0) : a * a.inv = 1 := El.eq (gm_inv _ (v_ne h))
theorem inv_mul {a : El} (h : a ≠ 0) : a.inv * a = 1 := by rw [mul_comm, mul_inv h]
theorem inv_ne {a : El} (h : a ≠ 0) : a.inv ≠ 0 := fun e => by
 have := mul_inv h
 rw [e, mul_zero] at this
 exact one_ne_zero this.symm
theorem inv_unique {a b : El} (h : a * b = 1) : b = a.inv := by
 have ha : a ≠ 0 := fun e => by rw [e, zero_mul] at h; exact one_ne_zero h.symm
 rw [← one_mul b, ← inv_mul ha, mul_assoc, h, mul_one]
def sm : Nat → (Nat → El) → El
 | 0, _ => 0
 | n + 1, f => sm n f + f n
theorem sm_congr {f g : Nat → El} : ∀ {n}, (∀ i, i < n → f i = g i) → sm n f = sm n g
 | 0, _ => rfl
 | n + 1, h => by
  show sm n f + f n = sm n g + g n
  rw [sm_congr (fun i hi => h i (by omega)), h n (by omega)]
theorem sm_zero {f : Nat → El} {n : Nat} (h : ∀ i, i < n → f i = 0) : sm n f = 0 := by
 induction n with
 | zero => rfl
 | succ n ih =>
  show sm n f + f n = 0
  rw [ih (fun i hi => h i (by omega)), h n (by omega), add_zero]
theorem sm_add (f g : Nat → El) : ∀ n, sm n (fun i => f i + g i) = sm n f + sm n g
 | 0 => (add_zero 0).symm
 | n + 1 => by
  show sm n (fun i => f i + g i) + (f n + g n) = (sm n f + f n) + (sm n g + g n)
  rw [sm_add f g n]
  ac_rfl
theorem sm_mul (a : El) (f : Nat → El) : ∀ n, sm n (fun i => a * f i) = a * sm n f
 | 0 => (mul_zero a).symm
 | n + 1 => by
  show sm n (fun i => a * f i) + a * f n = a * (sm n f + f n)
  rw [sm_mul a f n, mul_add]
theorem sm_mul_right (a : El) (f : Nat → El) (n : Nat) : sm n (fun i => f i * a) = sm n f * a := by
 rw [mul_comm, ← sm_mul]
 exact sm_congr fun i _ => mul_comm _ _
theorem sm_swap (f : Nat → Nat → El) : ∀ m n, sm m (fun i => sm n (fun j => f i j)) = sm n (fun j => sm m (fun i => f i j))
 | 0, n => (sm_zero fun _ _ => rfl).symm
 | m + 1, n => by
  show sm m (fun i => sm n (fun j => f i j)) + sm n (fun j => f m j) = sm n (fun j => sm m (fun i => f i j) + f m j)
  rw [sm_swap f m n, sm_add]
theorem sm_one {f : Nat → El} {n k : Nat} (hk : k < n) (h : ∀ i, i < n → i ≠ k → f i = 0) : sm n f = f k := by
 induction n with
 | zero => omega
 | succ n ih =>
  show sm n f + f n = f k
  by_cases e : k = n
  ·subst e
   rw [sm_zero fun i hi => h i (by omega) (by omega), zero_add]
  ·rw [ih (by omega) (fun i hi hne => h i (by omega) hne), h n (by omega) (fun x => e x.symm), add_zero]
theorem sm_split (f : Nat → El) (m : Nat) : ∀ n, sm (m + n) f = sm m f + sm n (fun i => f (m + i))
 | 0 => (add_zero _).symm
 | n + 1 => by
  show sm (m + n) f + f (m + n) = sm m f + (sm n (fun i => f (m + i)) + f (m + n))
  rw [sm_split f m n, add_assoc]
theorem sm_take {f : Nat → El} {m n : Nat} (h : m ≤ n) (hz : ∀ i, m ≤ i → i < n → f i = 0) : sm n f = sm m f := by
 obtain ⟨d, rfl⟩ : ∃ d, n = m + d := ⟨n - m, by omega⟩
 rw [sm_split, sm_zero (n := d) fun i hi => hz _ (by omega) (by omega), add_zero]
end Go.Proofs.YtkagobkedifhkaaDoor.M
namespace Go.Proofs.YtkagobkedifhkaaDoor.M
open Go.RowKit Go.Proofs.YtkagobkedifhkaaDoorW.PrintWords Go.Proofs.YtkagobkedifhkaaDoorW.PrintLast Go.Proofs.YtkagobkedifhkaaDoorW.PrintMore Go.Proofs.YtkagobkedifhkaaDoor.Q
theorem wi64 {x : Nat} (h : x < 2 ^ 63) : IntKind.i64.wrap (x : Int) = (x : Int) := by
  rw [show IntKind.i64.wrap (x : Int) = wrap64 (x : Int) from i64_w _]
  exact w64 (by omega) (by omega)
theorem toNat64 {a : Nat} (h : a < 2 ^ 63) : (BitVec.ofInt 64 (a : Int)).toNat = a := by
  rw [BitVec.ofInt_natCast, BitVec.toNat_ofNat]; exact Nat.mod_eq_of_lt (by omega)
theorem band64 {a b : Nat} (ha : a < 2 ^ 63) (hb : b < 2 ^ 63) : Go.bits .and .i64 (a : Int) (b : Int) = ((a &&& b : Nat) : Int) := by
  show IntKind.i64.wrap ((BitVec.ofInt 64 (a : Int) &&& BitVec.ofInt 64 (b : Int)).toNat : Int) = _
  rw [BitVec.toNat_and, toNat64 ha, toNat64 hb]
  exact wi64 (Nat.lt_of_le_of_lt Nat.and_le_left ha)
theorem bxor64 {a b : Nat} (ha : a < 2 ^ 63) (hb : b < 2 ^ 63) : Go.bits .xor .i64 (a : Int) (b : Int) = ((a ^^^ b : Nat) : Int) := by
  show IntKind.i64.wrap ((BitVec.ofInt 64 (a : Int) ^^^ BitVec.ofInt 64 (b : Int)).toNat : Int) = _
  rw [BitVec.toNat_xor, toNat64 ha, toNat64 hb]
  exact wi64 (Nat.xor_lt_two_pow ha hb)
theorem shr64 {n i : Nat} (hi : i ≤ 64) : shr .i64 (n : Int) (i : Int) = ((n >>> i : Nat) : Int) := by
  unfold shr
  have e : min (i : Int).toNat IntKind.i64.bits = i := by simp [IntKind.bits]; omega
  rw [e, Nat.shiftRight_eq_div_pow]
  simp
theorem shr8 {n i : Nat} (hi : i ≤ 8) : shr .u8 (n : Int) (i : Int) = ((n >>> i : Nat) : Int) := by
  unfold shr
  have e : min (i : Int).toNat IntKind.u8.bits = i := by simp [IntKind.bits]; omega
  rw [e, Nat.shiftRight_eq_div_pow]
  simp
theorem shl64 {n i : Nat} (hn : n < 2 ^ 16) (hi : i ≤ 16) : shl .i64 (n : Int) (i : Int) = ((n <<< i : Nat) : Int) := by
  unfold shl
  have e : min (i : Int).toNat IntKind.i64.bits = i := by simp [IntKind.bits]; omega
  rw [e, Nat.shiftLeft_eq]
  have h : n * 2 ^ i < 2 ^ 63 := Nat.lt_of_lt_of_le (Nat.mul_lt_mul_of_lt_of_le hn (Nat.pow_le_pow_right (by decide) hi) (by decide)) (by decide)
  rw [show ((n : Int) * 2 ^ i) = ((n * 2 ^ i : Nat) : Int) from by simp]
  exact wi64 h
theorem and_one (n i : Nat) : (((n >>> i) &&& 1 : Nat) : Int) = 1 ↔ n.testBit i = true := by
  unfold Nat.testBit
  rw [Nat.and_comm 1 (n >>> i), bne_iff_ne, Nat.and_one_is_mod]
  omega
theorem bit64 {n i : Nat} (hn : n < 2 ^ 63) (hi : i ≤ 64) : (Go.bits .and .i64 (shr .i64 (n : Int) (i : Int)) 1 = 1) ↔ n.testBit i = true := by
  rw [shr64 hi, show (1 : Int) = ((1 : Nat) : Int) from rfl, band64 (Nat.lt_of_le_of_lt (Nat.shiftRight_le _ _) hn) (by decide)]
  exact and_one n i
theorem bit8 {n i : Nat} (hn : n < 256) (hi : i ≤ 8) : (Go.bits .and .u8 (shr .u8 (n : Int) (i : Int)) 1 = 1) ↔ n.testBit i = true := by
  rw [shr8 hi]
  have h1 : n >>> i < 256 := Nat.lt_of_le_of_lt (Nat.shiftRight_le _ _) hn
  have e : Go.bits .and .u8 ((n >>> i : Nat) : Int) 1 = (((n >>> i) &&& 1 : Nat) : Int) := by
    show IntKind.u8.wrap ((BitVec.ofInt 8 ((n >>> i : Nat) : Int) &&& BitVec.ofInt 8 ((1 : Nat) : Int)).toNat : Int) = _
    rw [BitVec.toNat_and, BitVec.ofInt_natCast, BitVec.ofInt_natCast, BitVec.toNat_ofNat, BitVec.toNat_ofNat, Nat.mod_eq_of_lt (by omega : n >>> i < 2 ^ 8), show 1 % 2 ^ 8 = 1 from rfl]
    have : (n >>> i) &&& 1 ≤ 1 := Nat.and_le_right
    rw [IntKind.wrap_u8]
    omega
  rw [e]
  exact and_one n i
def acc (a b : Nat) : Nat → Nat
  | 0 => 0
  | i + 1 => if b.testBit i then acc a b i ^^^ (a <<< i) else acc a b i
def rst (i p : Nat) : Nat := if p.testBit (i + 8) then p ^^^ (285 <<< i) else p
def red : Nat → Nat → Nat
  | 0, p => p
  | i + 1, p => red i (rst i p)
theorem rst_xor (i x y : Nat) : rst i (x ^^^ y) = rst i x ^^^ rst i y := by
  unfold rst
  rw [Nat.testBit_xor]
  cases x.testBit (i + 8) <;> cases y.testBit (i + 8) <;> simp
  · rw [Nat.xor_assoc]
  · rw [Nat.xor_assoc, Nat.xor_comm y, Nat.xor_assoc]
  · rw [Nat.xor_assoc, Nat.xor_comm (285 <<< i) , Nat.xor_assoc, Nat.xor_self, Nat.xor_zero]
theorem red_xor : ∀ i x y, red i (x ^^^ y) = red i x ^^^ red i y
  | 0, _, _ => rfl
  | i + 1, x, y => by unfold red; rw [rst_xor, red_xor i]
theorem red_zero : ∀ i, red i 0 = 0
  | 0 => rfl
  | i + 1 => by unfold red rst; simp [red_zero i]
theorem red_shl : ∀ a : BitVec 8, ∀ i : Fin 8, red 7 (a.toNat <<< i.val) = (xtn i.val a).toNat := by decide +kernel
theorem acc_lt {a b : Nat} (ha : a < 256) : ∀ i, i ≤ 8 → acc a b i < 2 ^ 16
  | 0, _ => by unfold acc; decide
  | i + 1, h => by
    unfold acc
    split
    · refine Nat.xor_lt_two_pow (acc_lt ha i (by omega)) ?_
      rw [Nat.shiftLeft_eq]
      exact Nat.lt_of_lt_of_le (Nat.mul_lt_mul_of_lt_of_le ha (Nat.pow_le_pow_right (by decide) (by omega : i ≤ 8)) (by decide)) (by decide)
    · exact acc_lt ha i (by omega)
theorem red_acc (a b : BitVec 8) : ∀ i, i ≤ 8 → red 7 (acc a.toNat b.toNat i) = (gmN a b i).toNat
  | 0, _ => by unfold acc gmN; rw [red_zero]; rfl
  | i + 1, h => by
    unfold acc gmN
    have e : b.getLsbD i = b.toNat.testBit i := rfl
    rw [e]
    split
    · rw [red_xor, red_acc a b i (by omega), red_shl a ⟨i, by omega⟩]
      simp
    · rw [red_acc a b i (by omega)]
      simp
theorem rst_lt {i p : Nat} (hp : p < 2 ^ 16) (hi : i ≤ 7) : rst i p < 2 ^ 16 := by
  unfold rst
  split
  · refine Nat.xor_lt_two_pow hp ?_
    rw [Nat.shiftLeft_eq]
    exact Nat.lt_of_lt_of_le (Nat.mul_lt_mul_of_lt_of_le (by decide : 285 < 512) (Nat.pow_le_pow_right (by decide) hi) (by decide)) (by decide)
  · exact hp
theorem Mul_l1 : ∀ i p : Nat, i ≤ 7 → p < 2 ^ 16 → Ends (fun k => recoupref01_Mul.l1 k (p : Int) ((i : Int) + 7)) (((red i p) % 256 : Nat) : Int)
  | 0, p, _, _ => Ends.succ (fun k => by rw [recoupref01_Mul.l1]) (Ends.neg (by omega) (Ends.const (by unfold red; simp)))
  | i + 1, p, hi, hp => by
    refine Ends.succ (fun k => by rw [recoupref01_Mul.l1]) (Ends.pos (by omega) ?_)
    have e0 : ((i + 1 : Nat) : Int) + 7 = ((i + 8 : Nat) : Int) := by omega
    have e1 : IntKind.u64.wrap (((i + 1 : Nat) : Int) + 7) = ((i + 8 : Nat) : Int) := by rw [e0]; exact wu64 (by omega) (by omega)
    have e2 : wrap64 (((i + 1 : Nat) : Int) + 7 - 1) = (i : Int) + 7 := by rw [w64 (by omega) (by omega)]; omega
    have e3 : IntKind.u64.wrap (wrap64 (((i + 1 : Nat) : Int) + 7 - 8)) = (i : Int) := by rw [w64 (by omega) (by omega), wu64 (by omega) (by omega)]; omega
    rw [e1, e2, e3]
    refine Ends.pos (Int.natCast_nonneg _) ?_
    have hb := bit64 (n := p) (i := i + 8) (by omega) (by omega)
    by_cases h : p.testBit (i + 8) = true
    · refine Ends.pos (hb.2 h) (Ends.pos (Int.natCast_nonneg _) ?_)
      have e4 : Go.bits .xor .i64 (p : Int) (shl .i64 285 (i : Int)) = ((rst i p : Nat) : Int) := by
        rw [show (285 : Int) = ((285 : Nat) : Int) from rfl, shl64 (by decide) (by omega), bxor64 (by omega) (by
          rw [Nat.shiftLeft_eq]
          exact Nat.lt_of_lt_of_le (Nat.mul_lt_mul_of_lt_of_le (by decide : 285 < 512) (Nat.pow_le_pow_right (by decide) (by omega : i ≤ 7)) (by decide)) (by decide))]
        unfold rst
        rw [if_pos h]
      rw [e4]
      exact Mul_l1 i (rst i p) (by omega) (rst_lt hp (by omega))
    · refine Ends.neg (fun e => h (hb.1 e)) ?_
      have e4 : rst i p = p := by unfold rst; rw [if_neg h]
      have := Mul_l1 i p (by omega) hp
      unfold red
      rw [e4]
      exact this
theorem Mul_l0 {a b : Nat} (ha : a < 256) (hb : b < 256) : ∀ n i : Nat, i + n = 8 → Ends (fun k => recoupref01_Mul.l0 k (a : Int) (b : Int) ((acc a b i : Nat) : Int) (i : Int)) (((red 7 (acc a b 8)) % 256 : Nat) : Int)
  | 0, i, h => by
    obtain rfl : i = 8 := by omega
    refine Ends.succ (fun k => by rw [recoupref01_Mul.l0]) (Ends.neg (by decide) ?_)
    exact Mul_l1 7 _ (by omega) (acc_lt ha 8 (Nat.le_refl _))
  | n + 1, i, h => by
    refine Ends.succ (fun k => by rw [recoupref01_Mul.l0]) (Ends.pos (by omega) ?_)
    have e1 : IntKind.u64.wrap (i : Int) = (i : Int) := wu64 (by omega) (by omega)
    have e2 : wrap64 ((i : Int) + 1) = ((i + 1 : Nat) : Int) := by rw [w64 (by omega) (by omega)]; omega
    rw [e1, e2]
    refine Ends.pos (Int.natCast_nonneg _) ?_
    have hbt := bit8 (n := b) (i := i) hb (by omega)
    have ih := Mul_l0 ha hb n (i + 1) (by omega)
    by_cases h1 : b.testBit i = true
    · refine Ends.pos (hbt.2 h1) ?_
      have e4 : Go.bits .xor .i64 ((acc a b i : Nat) : Int) (shl .i64 (wrap64 (a : Int)) (i : Int)) = ((acc a b (i + 1) : Nat) : Int) := by
        rw [w64 (by omega) (by omega), shl64 (by omega) (by omega), bxor64 (by have := acc_lt (b := b) ha i (by omega); omega) (by
          rw [Nat.shiftLeft_eq]
          exact Nat.lt_of_lt_of_le (Nat.mul_lt_mul_of_lt_of_le ha (Nat.pow_le_pow_right (by decide) (by omega : i ≤ 8)) (by decide)) (by decide))]
        conv => rhs; rw [acc]
        rw [if_pos h1]
      rw [e4]
      exact ih
    · refine Ends.neg (fun e => h1 (hbt.1 e)) ?_
      have e4 : acc a b (i + 1) = acc a b i := by conv => lhs; rw [acc]
                                                  rw [if_neg h1]
      rw [e4] at ih
      exact ih
def toE (x : Int) : El := ⟨BitVec.ofInt 8 x⟩
def ofE (e : El) : Int := ((e.v.toNat : Nat) : Int)
theorem ofE_toE {x : Int} (h : 0 ≤ x ∧ x < 256) : ofE (toE x) = x := by
  obtain ⟨n, rfl⟩ := Int.eq_ofNat_of_zero_le h.1
  unfold ofE toE
  rw [BitVec.ofInt_natCast, BitVec.toNat_ofNat, Nat.mod_eq_of_lt (by omega)]
theorem toE_inj {x y : Int} (hx : 0 ≤ x ∧ x < 256) (hy : 0 ≤ y ∧ y < 256) (h : toE x = toE y) : x = y := by rw [← ofE_toE hx, ← ofE_toE hy, h]
theorem Mul_ends {a b : Int} (ha : 0 ≤ a ∧ a < 256) (hb : 0 ≤ b ∧ b < 256) : Ends (fun k => recoupref01_Mul.f k a b) (ofE (toE a * toE b)) := by
  obtain ⟨x, rfl⟩ := Int.eq_ofNat_of_zero_le ha.1
  obtain ⟨y, rfl⟩ := Int.eq_ofNat_of_zero_le hb.1
  have hx : x < 256 := by omega
  have hy : y < 256 := by omega
  have h := Mul_l0 hx hy 8 0 rfl
  have e := red_acc (BitVec.ofNat 8 x) (BitVec.ofNat 8 y) 8 (Nat.le_refl _)
  rw [BitVec.toNat_ofNat, BitVec.toNat_ofNat, Nat.mod_eq_of_lt (by omega : x < 2 ^ 8), Nat.mod_eq_of_lt (by omega : y < 2 ^ 8)] at e
  refine Ends.eq h ?_
  rw [e, Nat.mod_eq_of_lt (gmN _ _ 8).isLt]
  unfold ofE toE
  rw [BitVec.ofInt_natCast, BitVec.ofInt_natCast]
  rfl
theorem xor_el {a b : Int} : toE (Go.bits .xor .u8 a b) = toE a + toE b := by
  refine El.eq ?_
  show BitVec.ofInt 8 (IntKind.u8.wrap ((BitVec.ofInt 8 a ^^^ BitVec.ofInt 8 b).toNat : Int)) = BitVec.ofInt 8 a ^^^ BitVec.ofInt 8 b
  have h := (BitVec.ofInt 8 a ^^^ BitVec.ofInt 8 b).isLt
  rw [IntKind.wrap_u8, Int.emod_eq_of_lt (by omega) (by omega), BitVec.ofInt_natCast, BitVec.ofNat_toNat, BitVec.setWidth_eq]
theorem xor_range (a b : Int) : 0 ≤ Go.bits .xor .u8 a b ∧ Go.bits .xor .u8 a b < 256 := by
  show 0 ≤ IntKind.u8.wrap _ ∧ IntKind.u8.wrap _ < 256
  rw [IntKind.wrap_u8]
  omega
end Go.Proofs.YtkagobkedifhkaaDoor.M
namespace Go.Proofs.YtkagobkedifhkaaDoor.M
open Go.RowKit Go.Proofs.YtkagobkedifhkaaDoorW.PrintWords Go.Proofs.YtkagobkedifhkaaDoorW.PrintLast Go.Proofs.YtkagobkedifhkaaDoorW.PrintMore Go.Proofs.YtkagobkedifhkaaDoor.Q
theorem exps_ok : (field_build.st 255).1 = (List.range 510).map fun i => ((pw i).toNat : Int) := by decide +kernel
theorem logs_ok : ((List.zip (field_build.st 255).2.1 (List.range 256)).all fun x => x.2 == 0 || (pw x.1.toNat).toNat == x.2) = true := by decide +kernel
theorem exp_el {n : Nat} (h : n < 510) : toE (field_build.exp n) = ⟨pw n⟩ := by
  unfold field_build.exp
  rw [exps_ok, List.getD_eq_getElem?_getD, List.getElem?_map, List.getElem?_range h]
  refine El.eq ?_
  unfold toE
  simp [BitVec.ofInt_natCast]
theorem log_el {a : Int} (h : 0 ≤ a ∧ a < 256) (h0 : a ≠ 0) : (⟨pw (field_build.log a.toNat).toNat⟩ : El) = toE a := by
  obtain ⟨n, rfl⟩ := Int.eq_ofNat_of_zero_le h.1
  have hn : n < 256 := by omega
  have hl : n < (field_build.st 255).2.1.length := by rw [(field_build.st_length 255).2]; exact hn
  have hz : n < (List.zip (field_build.st 255).2.1 (List.range 256)).length := by rw [List.length_zip, List.length_range]; omega
  have := List.all_eq_true.1 logs_ok _ (List.getElem_mem hz)
  rw [List.getElem_zip, List.getElem_range] at this
  simp only [Bool.or_eq_true, beq_iff_eq] at this
  rcases this with e | e
  · exact absurd (by rw [e]; rfl) h0
  · refine El.eq ?_
    unfold field_build.log toE
    rw [Int.toNat_natCast, List.getD_eq_getElem?_getD, List.getElem?_eq_getElem hl, Option.getD_some, BitVec.ofInt_natCast]
    refine BitVec.eq_of_toNat_eq ?_
    rw [e, BitVec.toNat_ofNat, Nat.mod_eq_of_lt (by omega)]
theorem toE_zero : toE 0 = 0 := rfl
theorem toE_ne {a : Int} (h : 0 ≤ a ∧ a < 256) (h0 : a ≠ 0) : toE a ≠ 0 := fun e => h0 (toE_inj h (by omega) (e.trans toE_zero.symm))
theorem mulT_el {a b : Int} (ha : 0 ≤ a ∧ a < 256) (hb : 0 ≤ b ∧ b < 256) : toE (mulT a b) = toE a * toE b := by
  unfold mulT
  by_cases h1 : a = 0
  · rw [if_pos h1, h1, toE_zero, zero_mul]
  · rw [if_neg h1]
    by_cases h2 : b = 0
    · rw [if_pos h2, h2, toE_zero, mul_zero]
    · rw [if_neg h2]
      obtain ⟨x0, x1⟩ := field_build.log_range (i := a.toNat) (by omega)
      obtain ⟨y0, y1⟩ := field_build.log_range (i := b.toNat) (by omega)
      rw [exp_el (by omega), ← log_el ha h1, ← log_el hb h2, show (field_build.log a.toNat + field_build.log b.toNat).toNat = (field_build.log a.toNat).toNat + (field_build.log b.toNat).toNat from by omega]
      generalize (field_build.log a.toNat).toNat = i
      generalize (field_build.log b.toNat).toNat = j
      exact El.eq (gm_pw_pw i j).symm
theorem exp_range {n : Nat} (h : n < 510) : 0 ≤ field_build.exp n ∧ field_build.exp n < 256 := by
  unfold field_build.exp
  rw [exps_ok, List.getD_eq_getElem?_getD, List.getElem?_map, List.getElem?_range h]
  have := (pw n).isLt
  simp
  omega
theorem mulT_range {a b : Int} (ha : 0 ≤ a ∧ a < 256) (hb : 0 ≤ b ∧ b < 256) : 0 ≤ mulT a b ∧ mulT a b < 256 := by
  unfold mulT
  split
  · omega
  · split
    · omega
    · obtain ⟨x0, x1⟩ := field_build.log_range (i := a.toNat) (by omega)
      obtain ⟨y0, y1⟩ := field_build.log_range (i := b.toNat) (by omega)
      exact exp_range (by omega)
theorem mulT_ends {a b : Int} (ha : 0 ≤ a ∧ a < 256) (hb : 0 ≤ b ∧ b < 256) : Ends (fun k => recoupref01_Mul.f k a b) (mulT a b) := by
  refine Ends.eq (Mul_ends ha hb) ?_
  rw [← mulT_el ha hb, ofE_toE (mulT_range ha hb)]
theorem pw_255k : ∀ k, pw (255 * k) = 1
  | 0 => rfl
  | k + 1 => by rw [Nat.mul_succ, pw_add_255, pw_255k k]
theorem invT_el {a : Int} (ha : 0 ≤ a ∧ a < 256) (h0 : a ≠ 0) : toE (invT a) = (toE a).inv := by
  have e : field_bounded.f (-1) = some 254 := by kernel_rfl
  have e2 : field_Inv.f a = some (field_build.exp ((field_build.log a.toNat * 254) % 255).toNat, 0) := by
    unfold field_Inv.f field_Pow.f
    rw [if_neg (by omega), if_neg h0, if_pos ha, e]
    simp
  have e3 : invT a = field_build.exp ((field_build.log a.toNat * 254) % 255).toNat := by unfold invT; rw [e2, Option.getD_some]
  rw [e3]
  obtain ⟨x0, x1⟩ := field_build.log_range (i := a.toNat) (by omega)
  rw [exp_el (by omega), ← log_el ha h0]
  obtain ⟨n, hn⟩ := Int.eq_ofNat_of_zero_le x0
  rw [hn, Int.toNat_natCast]
  refine inv_unique (El.eq ?_)
  show gm (pw n) (pw _) = 1
  rw [gm_pw_pw]
  have : n + (((n : Int) * 254) % 255).toNat = 255 * ((n + (((n : Int) * 254) % 255).toNat) / 255) := by omega
  rw [this]
  exact pw_255k _
theorem invT_range {a : Int} (ha : 0 ≤ a ∧ a < 256) (h0 : a ≠ 0) : 0 ≤ invT a ∧ invT a < 256 := (inv_some ha h0).2
theorem Inv_from {a : Int} (ha : 0 ≤ a ∧ a < 256) (h0 : a ≠ 0) : ∀ n x : Nat, x + n = (invT a).toNat → 1 ≤ x → Ends (fun k => recoupref01_Inv.l0 k a (x : Int)) (invT a, 0)
  | n, x, h, hx => by
    obtain ⟨r0, r1⟩ := invT_range ha h0
    have hlt : x < 256 := by omega
    refine Ends.succ (fun k => by rw [recoupref01_Inv.l0]) (Ends.pos (by omega) ?_)
    have e1 : (x : Int) % 256 = (x : Int) := by omega
    rw [e1]
    refine Ends.bind (mulT_ends ha (b := (x : Int)) (by omega)) ?_
    cases n with
    | zero =>
      have hxi : (x : Int) = invT a := by omega
      refine Ends.pos ?_ (Ends.const (by rw [hxi]))
      rw [hxi]
      refine toE_inj (mulT_range ha ⟨r0, r1⟩) (by omega) ?_
      rw [mulT_el ha ⟨r0, r1⟩, invT_el ha h0, mul_inv (toE_ne ha h0)]
      rfl
    | succ n =>
      refine Ends.neg ?_ ?_
      · intro e
        have hb : 0 ≤ (x : Int) ∧ (x : Int) < 256 := by omega
        have := mulT_el ha hb
        rw [e] at this
        have h2 := inv_unique this.symm
        rw [← invT_el ha h0] at h2
        have := toE_inj hb ⟨r0, r1⟩ h2
        omega
      · have e2 : wrap64 ((x : Int) + 1) = ((x + 1 : Nat) : Int) := by rw [w64 (by omega) (by omega)]; omega
        rw [e2]
        exact Inv_from ha h0 n (x + 1) (by omega) (by omega)
theorem Inv_ends {a : Int} (ha : 0 ≤ a ∧ a < 256) (h0 : a ≠ 0) : Ends (fun k => recoupref01_Inv.f k a) (invT a, 0) := by
  have hr := invT_range ha h0
  have hn : invT a ≠ 0 := by
    intro e
    have := invT_el ha h0
    rw [e, toE_zero] at this
    exact inv_ne (toE_ne ha h0) this.symm
  have := Inv_from ha h0 ((invT a).toNat - 1) 1 (by omega) (Nat.le_refl _)
  exact this
theorem Scale_l0 {c : Int} (hc : 0 ≤ c ∧ c < 256) {l : List Int} (hl : bytesB l = true) (hm : l.length ≤ 4096) : ∀ n i : Nat, i + n = l.length → Ends (fun k => recoupref01_Scale.l0 k c l ((l.take i).map (mulT c)) (i : Int)) (l.map (mulT c))
  | 0, i, h => by
    obtain rfl : i = l.length := by omega
    exact Ends.succ (fun k => by rw [recoupref01_Scale.l0]) (Ends.neg (by omega) (Ends.const (by simp)))
  | n + 1, i, h => by
    have hi : i < l.length := by omega
    refine Ends.succ (fun k => by rw [recoupref01_Scale.l0]) (Ends.pos (by omega) (Ends.pos (Int.natCast_nonneg _) ?_))
    have hb := bytesB_at hl hi
    rw [rd_nat]
    refine Ends.bind (mulT_ends hc hb) (Ends.pos (by simp; omega) ?_)
    have e2 : wrap64 ((i : Int) + 1) = ((i + 1 : Nat) : Int) := by rw [w64 (by omega) (by omega)]; omega
    have e3 : (l.take i).map (mulT c) ++ [mulT c (l.getD i 0)] = (l.take (i + 1)).map (mulT c) := by
      rw [List.take_succ_eq_append_getElem hi, List.map_append, List.getD_eq_getElem?_getD, List.getElem?_eq_getElem hi]
      rfl
    rw [e2, e3]
    exact Scale_l0 hc hl hm n (i + 1) (by omega)
theorem Scale_ends {c : Int} (hc : 0 ≤ c ∧ c < 256) {l : List Int} (hl : bytesB l = true) (hm : l.length ≤ 4096) : Ends (fun k => recoupref01_Scale.f k c l) (l.map (mulT c)) := by
  have := Scale_l0 hc hl hm l.length 0 (by omega)
  unfold recoupref01_Scale.f
  simpa using this
end Go.Proofs.YtkagobkedifhkaaDoor.M
namespace Go.Proofs.YtkagobkedifhkaaDoor.M
open Go.RowKit Go.Proofs.YtkagobkedifhkaaDoorW.PrintWords Go.Proofs.YtkagobkedifhkaaDoorW.PrintLast Go.Proofs.YtkagobkedifhkaaDoorW.PrintMore Go.Proofs.YtkagobkedifhkaaDoor.Q
def U (M : List (List Int)) (c : Nat) : Prop := ∀ r ∈ M, r.length = c
theorem U.cons {r : List Int} {M : List (List Int)} {c : Nat} (h : U (r :: M) c) : r.length = c ∧ U M c := ⟨h r (List.mem_cons_self ..), fun x hx => h x (List.mem_cons_of_mem _ hx)⟩
theorem U.set {M : List (List Int)} {c k : Nat} {r : List Int} (h : U M c) (hr : r.length = c) : U (M.set k r) c := fun x hx => by
  rcases List.mem_or_eq_of_mem_set hx with hx | rfl
  · exact h x hx
  · exact hr
theorem U.at {M : List (List Int)} {c i : Nat} (h : U M c) (hi : i < M.length) : (M.getD i []).length = c := by
  rw [List.getD_eq_getElem?_getD, List.getElem?_eq_getElem hi]
  exact h _ (List.getElem_mem hi)
theorem flat_len {c : Nat} : ∀ {M : List (List Int)}, U M c → M.flatten.length = M.length * c
  | [], _ => by simp
  | r :: M, h => by
    rw [List.flatten_cons, List.length_append, flat_len h.cons.2, h.cons.1, List.length_cons, Nat.succ_mul, Nat.add_comm]
theorem flat_drop {c : Nat} : ∀ {M : List (List Int)} (i : Nat), U M c → M.flatten.drop (i * c) = (M.drop i).flatten
  | [], i, _ => by simp
  | r :: M, 0, h => by simp
  | r :: M, i + 1, h => by
    rw [List.flatten_cons, Nat.succ_mul, Nat.add_comm, List.drop_succ_cons, ← flat_drop i h.cons.2]
    have := h.cons.1
    rw [List.drop_append, List.drop_eq_nil_of_le (by omega), List.nil_append, this, Nat.add_sub_cancel_left]
theorem flat_take {c : Nat} : ∀ {M : List (List Int)} (i : Nat), U M c → M.flatten.take (i * c) = (M.take i).flatten
  | [], i, _ => by simp
  | r :: M, 0, h => by simp
  | r :: M, i + 1, h => by
    rw [List.flatten_cons, Nat.succ_mul, Nat.add_comm, List.take_succ_cons, List.flatten_cons, ← flat_take i h.cons.2]
    have := h.cons.1
    rw [List.take_append, List.take_of_length_le (by omega), this, Nat.add_sub_cancel_left]
theorem flat_get {c i j : Nat} {M : List (List Int)} (h : U M c) (hi : i < M.length) (hj : j < c) : M.flatten.getD (i * c + j) 0 = entry M i j := by
  have e : M.flatten.getD (i * c + j) 0 = (M.flatten.drop (i * c)).getD j 0 := by
    rw [List.getD_eq_getElem?_getD, List.getD_eq_getElem?_getD, List.getElem?_drop]
  have hl := h.at hi
  rw [e, flat_drop i h, List.drop_eq_getElem_cons hi, List.flatten_cons]
  unfold entry
  rw [List.getD_eq_getElem?_getD, List.getD_eq_getElem?_getD, List.getD_eq_getElem?_getD, List.getElem?_eq_getElem hi, Option.getD_some]
  rw [List.getD_eq_getElem?_getD, List.getElem?_eq_getElem hi, Option.getD_some] at hl
  rw [List.getElem?_append_left (by omega)]
theorem flat_row {c i : Nat} {M : List (List Int)} (h : U M c) (hi : i < M.length) : (M.flatten.drop (i * c)).take c = M.getD i [] := by
  have hl := h.at hi
  rw [flat_drop i h, List.drop_eq_getElem_cons hi, List.flatten_cons]
  rw [List.getD_eq_getElem?_getD, List.getElem?_eq_getElem hi, Option.getD_some] at hl ⊢
  rw [List.take_append, List.take_of_length_le (by omega), hl, Nat.sub_self, List.take_zero, List.append_nil]
theorem flat_splice {c k : Nat} {M : List (List Int)} {r : List Int} (h : U M c) (hk : k < M.length) (hr : r.length = c) : splice M.flatten (k * c) r = (M.set k r).flatten := by
  unfold splice
  rw [flat_take k h, hr, show k * c + c = (k + 1) * c from (Nat.succ_mul k c).symm, flat_drop (k + 1) h, List.set_eq_take_append_cons_drop, if_pos hk, List.flatten_append, List.flatten_cons]
theorem flat_set {c k j : Nat} {M : List (List Int)} (v : Int) (h : U M c) (hk : k < M.length) (hj : j < c) : M.flatten.set (k * c + j) v = (M.set k ((M.getD k []).set j v)).flatten := by
  have hl := h.at hk
  rw [← flat_splice h hk (by rw [List.length_set]; exact hl)]
  unfold splice
  rw [List.length_set, hl, List.set_eq_take_append_cons_drop]
  have hlen : k * c + j < M.flatten.length := by
    rw [flat_len h]
    have : (k + 1) * c ≤ M.length * c := Nat.mul_le_mul_right _ hk
    rw [Nat.succ_mul] at this
    omega
  rw [if_pos hlen, List.set_eq_take_append_cons_drop, if_pos (by omega), ← flat_row h hk, List.take_take, Nat.min_eq_left (by omega), List.append_assoc, List.cons_append]
  have e1 : M.flatten.take (k * c + j) = M.flatten.take (k * c) ++ (M.flatten.drop (k * c)).take j := by
    rw [List.take_add]
  have e2 : ((M.flatten.drop (k * c)).take c).drop (j + 1) ++ M.flatten.drop (k * c + c) = M.flatten.drop (k * c + j + 1) := by
    rw [List.drop_take, List.drop_drop, ← List.drop_drop (i := c), ← List.drop_drop (i := j + 1)]
    rw [show M.flatten.drop (k * c + j + 1) = ((M.flatten.drop (k * c)).drop (j + 1)) from by rw [List.drop_drop]; congr 1, show (M.flatten.drop (k * c)).drop c = ((M.flatten.drop (k * c)).drop (j + 1)).drop (c - (j + 1)) from by simp only [List.drop_drop]; congr 1; omega]
    rw [List.take_append_drop]
  rw [e1, ← e2]
  simp [List.append_assoc]
theorem flat_rowsOf {c : Nat} : ∀ (r : Nat) (l : List Int), l.length = r * c → (rowsOf c r l).flatten = l ∧ U (rowsOf c r l) c := by
  intro r
  have key : ∀ r (l : List Int), l.length = r * c → ((List.range r).map fun i => (l.drop (i * c)).take c).flatten = l := by
    intro r
    induction r with
    | zero => intro l hl; rw [Nat.zero_mul] at hl; simp [List.length_eq_zero_iff.1 hl]
    | succ r ih =>
      intro l hl
      rw [Nat.succ_mul] at hl
      rw [List.range_succ, List.map_append, List.flatten_append]
      have := ih (l.take (r * c)) (by rw [List.length_take]; omega)
      have e : ((List.range r).map fun i => (l.drop (i * c)).take c) = ((List.range r).map fun i => ((l.take (r * c)).drop (i * c)).take c) := by
        refine List.map_congr_left fun i hi => ?_
        have hir : i < r := by simpa using hi
        have : (i + 1) * c ≤ r * c := Nat.mul_le_mul_right _ hir
        rw [Nat.succ_mul] at this
        rw [List.drop_take, List.take_take, Nat.min_eq_left (by omega)]
      rw [e, this]
      simp only [List.map_cons, List.map_nil, List.flatten_cons, List.flatten_nil, List.append_nil]
      rw [List.take_of_length_le (l := l.drop (r * c)) (by rw [List.length_drop]; omega), List.take_append_drop]
  intro l hl
  refine ⟨key r l hl, fun x hx => ?_⟩
  obtain ⟨i, hi, rfl⟩ := List.mem_map.1 hx
  have hir : i < r := by simpa using hi
  have : (i + 1) * c ≤ r * c := Nat.mul_le_mul_right _ hir
  rw [Nat.succ_mul] at this
  rw [List.length_take, List.length_drop]
  omega
theorem idx_small {i c j : Nat} (hi : i ≤ 64) (hc : c ≤ 64) (hj : j ≤ 64) : wrap64 ((i : Int) * (c : Int)) = ((i * c : Nat) : Int) ∧ wrap64 (wrap64 ((i : Int) * (c : Int)) + (j : Int)) = ((i * c + j : Nat) : Int) := by
  have hm : i * c ≤ 64 * 64 := Nat.mul_le_mul hi hc
  rw [← Int.natCast_mul]
  generalize i * c = p at *
  rw [w64 (by omega) (by omega), w64 (by omega) (by omega)]
  exact ⟨rfl, by omega⟩
theorem idx_lt {i c j n : Nat} (hi : i < n) (hj : j < c) : i * c + j < n * c := by
  have : (i + 1) * c ≤ n * c := Nat.mul_le_mul_right _ hi
  rw [Nat.succ_mul] at this
  omega
theorem At_eq {c i j : Nat} {M : List (List Int)} (h : U M c) (hm : M.length ≤ 64) (hc : c ≤ 64) (hi : i < M.length) (hj : j < c) (a : Int) : recoupref03_At.f a (c : Int) M.flatten (i : Int) (j : Int) = some (entry M i j) := by
  obtain ⟨_, e⟩ := idx_small (i := i) (c := c) (j := j) (by omega) hc (by omega)
  have hl := idx_lt hi hj
  unfold recoupref03_At.f
  rw [e, flat_len h, if_pos (Int.natCast_nonneg _), if_pos (Int.ofNat_lt.2 hl), rd_nat, flat_get h hi hj]
theorem Right_true {c : Nat} {M : List (List Int)} (h : U M c) (hm : M.length ≤ 64) (hc : c ≤ 64) : recoupref03_Right.f (M.length : Int) (c : Int) M.flatten = some true := by
  obtain ⟨e, _⟩ := idx_small (i := M.length) (c := c) (j := 0) hm hc (by omega)
  unfold recoupref03_Right.f
  rw [if_pos (by omega), if_pos (by omega), if_pos (by omega), if_pos (by omega), e, flat_len h]
  simp
theorem Row_l0 {c i : Nat} {M : List (List Int)} (h : U M c) (hm : M.length ≤ 64) (hc : c ≤ 64) (hi : i < M.length) : ∀ n j : Nat, j + n = c → Ends (fun k => recoupref03_Row.l0 k (i : Int) ((M.getD i []).take j) (j : Int) (M.length : Int) (c : Int) M.flatten) (M.getD i [], 0)
  | 0, j, hj => by
    obtain rfl : j = c := by omega
    refine Ends.succ (fun k => by rw [recoupref03_Row.l0]) (Ends.neg (by omega) (Ends.const ?_))
    rw [List.take_of_length_le (by rw [h.at hi]; exact Nat.le_refl _)]
  | n + 1, j, hj => by
    refine Ends.succ (fun k => by rw [recoupref03_Row.l0]) (Ends.pos (by omega) ?_)
    refine Ends.bind1 (At_eq h hm hc hi (by omega : j < c) _) ?_
    refine Ends.pos (by rw [List.length_take]; omega) ?_
    have e2 : wrap64 ((j : Int) + 1) = ((j + 1 : Nat) : Int) := by rw [w64 (by omega) (by omega)]; omega
    have e3 : (M.getD i []).take j ++ [entry M i j] = (M.getD i []).take (j + 1) := by
      have hl := h.at hi
      rw [List.take_succ_eq_append_getElem (by omega)]
      unfold entry
      rw [List.getD_eq_getElem?_getD (l := M.getD i []), List.getElem?_eq_getElem (by omega : j < (M.getD i []).length), Option.getD_some]
    rw [e2, e3]
    exact Row_l0 h hm hc hi n (j + 1) (by omega)
theorem Row_ends {c i : Nat} {M : List (List Int)} (h : U M c) (hm : M.length ≤ 64) (hc : c ≤ 64) (hi : i < M.length) : Ends (fun k => recoupref03_Row.f k (M.length : Int) (c : Int) M.flatten (i : Int)) (M.getD i [], 0) := by
  unfold recoupref03_Row.f
  refine Ends.bind1 (Right_true h hm hc) (Ends.pos rfl (Ends.neg (by omega) ?_))
  refine Ends.succ (fun k => by rw [recoupref03_Row.j0]) (Ends.neg (by rw [decide_eq_true_eq]; omega) ?_)
  simpa using Row_l0 h hm hc hi c 0 (by omega)
end Go.Proofs.YtkagobkedifhkaaDoor.M
namespace Go.Proofs.YtkagobkedifhkaaDoor.M
open Go.RowKit Go.Proofs.YtkagobkedifhkaaDoorW.PrintWords Go.Proofs.YtkagobkedifhkaaDoorW.PrintLast Go.Proofs.YtkagobkedifhkaaDoorW.PrintMore Go.Proofs.YtkagobkedifhkaaDoor.Q
set_option linter.unusedVariables false
theorem U.of {M D : List (List Int)} {cols wd : Nat} (h : Shp M D cols wd) : U M cols := fun r hr => by
 obtain ⟨i, hi, rfl⟩ := List.getElem_of_mem hr
 have := h.eM i hi
 rwa [List.getD_eq_getElem?_getD, List.getElem?_eq_getElem hi, Option.getD_some] at this
theorem Pick_l1 {c : Nat} {M : List (List Int)} (h : U M c) (hm : M.length ≤ 64) (hc : c ≤ 64) {L : List Int} (hL : ∀ x ∈ L, 0 ≤ x ∧ x < (M.length : Int)) (hl : L.length ≤ 64) (a b : Int) : ∀ n i : Nat, i + n = L.length →
  Ends (fun k => recoupref03_Pick.l1 k L (i : Int) (M.length : Int) (c : Int) M.flatten a b ((L.take i).map fun x => M.getD x.toNat []).flatten) (a, b, (L.map fun x => M.getD x.toNat []).flatten, 0)
 | 0, i, hi => by
  refine Ends.succ (fun k => by rw [recoupref03_Pick.l1]) (Ends.neg (by omega) (Ends.const ?_))
  rw [List.take_of_length_le (by omega)]
 | n + 1, i, hi => by
  have hiL : i < L.length := by omega
  refine Ends.succ (fun k => by rw [recoupref03_Pick.l1]) (Ends.pos (by omega) ?_)
  refine Ends.pos (Int.natCast_nonneg _) ?_
  have hx := hL _ (List.getElem_mem hiL)
  obtain ⟨x, hx'⟩ := Int.eq_ofNat_of_zero_le hx.1
  rw [rd_nat, List.getD_eq_getElem?_getD, List.getElem?_eq_getElem hiL, Option.getD_some, hx']
  have hxm : x < M.length := by omega
  refine Ends.bind (Row_ends h hm hc hxm) ?_
  have hfl : ((L.take i).map fun x => M.getD x.toNat []).flatten.length = i * c := by
   have hu : U ((L.take i).map fun x => M.getD x.toNat []) c := fun r hr => by
    obtain ⟨y, hy, rfl⟩ := List.mem_map.1 hr
    have := hL y (List.mem_of_mem_take hy)
    exact h.at (by omega)
   rw [flat_len hu, List.length_map, List.length_take, Nat.min_eq_left (by omega)]
  have hic : i * c ≤ 64 * 64 := Nat.mul_le_mul (by omega) hc
  have hrl := h.at hxm
  refine Ends.pos (by rw [hfl, hrl]; omega) ?_
  have e2 : wrap64 ((i : Int) + 1) = ((i + 1 : Nat) : Int) := by rw [w64 (by omega) (by omega)]; omega
  have e3 : ((L.take i).map fun x => M.getD x.toNat []).flatten ++ M.getD x [] = ((L.take (i + 1)).map fun x => M.getD x.toNat []).flatten := by
   rw [List.take_succ_eq_append_getElem hiL, List.map_append, List.flatten_append, hx']
   simp
  rw [e2, e3]
  exact Pick_l1 h hm hc hL hl a b n (i + 1) (by omega)
theorem Pick_l0 {c : Nat} {M : List (List Int)} (h : U M c) (hm : M.length ≤ 64) (hc : c ≤ 64) {L : List Int} (hL : ∀ x ∈ L, 0 ≤ x ∧ x < (M.length : Int)) (hl : L.length ≤ 64) : ∀ n i : Nat, i + n = L.length →
  Ends (fun k => recoupref03_Pick.l0 k L (i : Int) (M.length : Int) (c : Int) M.flatten) ((L.length : Int), (c : Int), (L.map fun x => M.getD x.toNat []).flatten, 0)
 | 0, i, hi => by
  refine Ends.succ (fun k => by rw [recoupref03_Pick.l0]) (Ends.neg (by omega) (Ends.neg (by omega) ?_))
  exact Pick_l1 h hm hc hL hl _ _ L.length 0 (by omega)
 | n + 1, i, hi => by
  have hiL : i < L.length := by omega
  have hx := hL _ (List.getElem_mem hiL)
  refine Ends.succ (fun k => by rw [recoupref03_Pick.l0]) (Ends.pos (by omega) ?_)
  refine Ends.pos (Int.natCast_nonneg _) ?_
  have e : rd L (i : Int) = L[i] := by rw [rd_nat, List.getD_eq_getElem?_getD, List.getElem?_eq_getElem hiL, Option.getD_some]
  rw [e]
  refine Ends.neg (by omega) (Ends.neg (by omega) ?_)
  have e2 : wrap64 ((i : Int) + 1) = ((i + 1 : Nat) : Int) := by rw [w64 (by omega) (by omega)]; omega
  rw [e2]
  exact Pick_l0 h hm hc hL hl n (i + 1) (by omega)
theorem Pick_ends {c : Nat} {M : List (List Int)} (h : U M c) (hm : M.length ≤ 64) (hc : c ≤ 64) {L : List Int} (hL : ∀ x ∈ L, 0 ≤ x ∧ x < (M.length : Int)) (hl : L.length ≤ 64) :
  Ends (fun k => recoupref03_Pick.f k (M.length : Int) (c : Int) M.flatten L) ((L.length : Int), (c : Int), (L.map fun x => M.getD x.toNat []).flatten, 0) := by
 unfold recoupref03_Pick.f
 exact Ends.bind1 (Right_true h hm hc) (Ends.pos rfl (Pick_l0 h hm hc hL hl L.length 0 (by omega)))
def sw (M : List (List Int)) (top i : Nat) : List (List Int) := (M.set i (M.getD top [])).set top (M.getD i [])
def ordL (n top i : Nat) : List Int := (((List.range n).map fun (x : Nat) => (x : Int)).set top (i : Int)).set i (top : Int)
theorem ordL_map {M : List (List Int)} {top i : Nat} (ht : top < M.length) (hi : i < M.length) : ((ordL M.length top i).map fun x => M.getD x.toNat []) = sw M top i := by
 unfold ordL sw
 refine List.ext_getElem (by simp) fun p h1 h2 => ?_
 have hp : p < M.length := by simpa using h2
 rw [List.getElem_map, List.getElem_set, List.getElem_set, List.getElem_set, List.getElem_set, List.getElem_map, List.getElem_range]
 by_cases e1 : i = p
 ·subst e1
  by_cases e2 : top = i
  ·subst e2; simp
  ·rw [if_pos rfl, if_neg e2, if_pos rfl]; simp
 ·by_cases e2 : top = p
  ·subst e2
   rw [if_neg e1, if_pos rfl, if_pos rfl]; simp
  ·rw [if_neg e1, if_neg e2, if_neg e2, if_neg e1]
   simp [List.getElem?_eq_getElem hp]
theorem ordL_range {n top i : Nat} (ht : top < n) (hi : i < n) : ∀ x ∈ ordL n top i, 0 ≤ x ∧ x < (n : Int) := fun x hx => by
 unfold ordL at hx
 rcases List.mem_or_eq_of_mem_set hx with hx | rfl
 ·rcases List.mem_or_eq_of_mem_set hx with hx | rfl
  ·obtain ⟨y, hy, rfl⟩ := List.mem_map.1 hx
   have : y < n := by simpa using hy
   omega
  ·omega
 ·omega
theorem mid_set {g r : List Int} {l : Nat} (hg : l < g.length) (hr : g.length = r.length) : (g.take l ++ r.drop l).set l (g.getD l 0) = g.take (l + 1) ++ r.drop (l + 1) := by
 rw [List.set_append_right _ _ (by rw [List.length_take]; omega), List.length_take, Nat.min_eq_left (by omega), Nat.sub_self, List.drop_eq_getElem_cons (by omega : l < r.length), List.set_cons_zero, List.take_succ_eq_append_getElem hg, List.append_assoc, List.getD_eq_getElem?_getD, List.getElem?_eq_getElem hg]
 rfl
theorem mid_get {g r : List Int} {l : Nat} (hg : l < g.length) (hr : g.length = r.length) : (g.take l ++ r.drop l).getD l 0 = r.getD l 0 := by
 rw [List.getD_eq_getElem?_getD, List.getD_eq_getElem?_getD, List.getElem?_append_right (by rw [List.length_take]; omega), List.length_take, Nat.min_eq_left (by omega), Nat.sub_self, List.getElem?_drop, Nat.add_zero]
def xrow (c : Int) (r s : List Int) : List Int := List.zipWith (fun x y => Go.bits .xor .u8 x (mulT c y)) r s
theorem xrow_mac (c : Int) (r s : List Int) : xrow c r s = xorL (s.map (mulT c)) r := by
 unfold xrow xorL
 rw [List.zipWith_map_left, List.zipWith_comm]
 congr 1
 funext a b
 show IntKind.u8.wrap ((BitVec.ofInt 8 _ ^^^ BitVec.ofInt 8 _).toNat : Int) = IntKind.u8.wrap ((BitVec.ofInt 8 _ ^^^ BitVec.ofInt 8 _).toNat : Int)
 rw [BitVec.xor_comm]
theorem xrow_zero {r s : List Int} (hr : bytesB r = true) (hl : r.length = s.length) : xrow 0 r s = r := by
 unfold xrow
 refine List.ext_getElem (by simp [hl]) fun p h1 h2 => ?_
 rw [List.getElem_zipWith]
 have hb := bytesB_at hr h2
 rw [List.getD_eq_getElem?_getD, List.getElem?_eq_getElem h2, Option.getD_some] at hb
 refine toE_inj (xor_range _ _) hb ?_
 rw [xor_el]
 show toE r[p] + toE (mulT 0 _) = _
 rw [show mulT 0 (s[p]'(by omega)) = 0 from by unfold mulT; rw [if_pos rfl], toE_zero, add_zero]
end Go.Proofs.YtkagobkedifhkaaDoor.M
namespace Go.Proofs.YtkagobkedifhkaaDoor.M
open Go.RowKit Go.Proofs.YtkagobkedifhkaaDoorW.PrintWords Go.Proofs.YtkagobkedifhkaaDoorW.PrintLast Go.Proofs.YtkagobkedifhkaaDoorW.PrintMore Go.Proofs.YtkagobkedifhkaaDoor.Q
set_option linter.unusedVariables false
theorem i64_succ {i : Nat} (h : i ≤ 4096) : wrap64 ((i : Int) + 1) = ((i + 1 : Nat) : Int) := by rw [w64 (by omega) (by omega)]; omega
theorem getD_set_self {α : Type} {l : List α} {i : Nat} {v d : α} (h : i < l.length) : (l.set i v).getD i d = v := by
 rw [List.getD_eq_getElem?_getD, List.getElem?_set_self h, Option.getD_some]
theorem getD_set_ne {α : Type} {l : List α} {i j : Nat} {v d : α} (h : i ≠ j) : (l.set i v).getD j d = l.getD j d := by
 rw [List.getD_eq_getElem?_getD, List.getD_eq_getElem?_getD, List.getElem?_set_ne h]
theorem set_getD_self {α : Type} {l : List α} {i : Nat} {d : α} (h : i < l.length) : l.set i (l.getD i d) = l := by
 rw [List.getD_eq_getElem?_getD, List.getElem?_eq_getElem h, Option.getD_some, List.set_getElem_self]
theorem xrow_length {c : Int} {r s : List Int} (h : r.length = s.length) : (xrow c r s).length = r.length := by unfold xrow; rw [List.length_zipWith]; omega
theorem xrow_get {c : Int} {r s : List Int} {l : Nat} (h1 : l < r.length) (h2 : l < s.length) : (xrow c r s).getD l 0 = Go.bits .xor .u8 (r.getD l 0) (mulT c (s.getD l 0)) := by
 unfold xrow
 rw [List.getD_eq_getElem?_getD, List.getD_eq_getElem?_getD, List.getD_eq_getElem?_getD, List.getElem?_zipWith, List.getElem?_eq_getElem h1, List.getElem?_eq_getElem h2]
 rfl
theorem Red_l4 {C : Nat} {M : List (List Int)} (h : U M C) (hm : M.length ≤ 64) (hc : C ≤ 64) {kk : Nat} (hk : kk < M.length) {s : List Int} (hs : s.length = C) (hsb : bytesB s = true) {c : Int} (hcb : 0 ≤ c ∧ c < 256) (x6 : List Int) (x7 x8 : Int) {R : Int × Int × List Int × List Int × Int}
  (hR : Ends (fun q => recoupref04_Reduce.l3 q x6 x7 x8 s ((kk + 1 : Nat) : Int) (M.length : Int) (C : Int) (M.set kk (xrow c (M.getD kk []) s)).flatten) R) :
  ∀ n l : Nat, l + n = C → Ends (fun q => recoupref04_Reduce.l4 q x6 x7 x8 s (kk : Int) c (l : Int) (M.length : Int) (C : Int) (M.set kk ((xrow c (M.getD kk []) s).take l ++ (M.getD kk []).drop l)).flatten) R
 | 0, l, hl => by
  obtain rfl : l = C := by omega
  have hr := h.at hk
  have hg := xrow_length (c := c) (hr.trans hs.symm)
  refine Ends.succ (fun k => by rw [recoupref04_Reduce.l4]) (Ends.neg (by omega) ?_)
  have e1 : (xrow c (M.getD kk []) s).take l = xrow c (M.getD kk []) s := List.take_of_length_le (by rw [hg, hr]; exact Nat.le_refl _)
  have e2 : (M.getD kk []).drop l = [] := List.drop_of_length_le (by rw [hr]; exact Nat.le_refl _)
  have e3 := i64_succ (i := kk) (by clear hR e1 e2 hg hr hcb; omega)
  rw [e1, e2, List.append_nil, e3]
  exact hR
 | n + 1, l, hl => by
  have hr := h.at hk
  have hg := xrow_length (c := c) (hr.trans hs.symm)
  have hlC : l < C := by omega
  have hk64 : kk ≤ 64 := by omega
  have hl64 : l ≤ 64 := by omega
  have hmid : ((xrow c (M.getD kk []) s).take l ++ (M.getD kk []).drop l).length = C := by rw [List.length_append, List.length_take, List.length_drop]; omega
  have hU := h.set (k := kk) hmid
  have hlen : (M.set kk ((xrow c (M.getD kk []) s).take l ++ (M.getD kk []).drop l)).length = M.length := List.length_set
  refine Ends.succ (fun k => by rw [recoupref04_Reduce.l4]) (Ends.pos (by omega) ?_)
  rw [(idx_small (i := kk) (c := C) (j := l) hk64 hc hl64).2]
  refine Ends.pos (Int.natCast_nonneg _) ?_
  have hix := idx_lt (c := C) hk hlC
  refine Ends.pos (by rw [flat_len hU, hlen]; exact Int.ofNat_lt.2 hix) ?_
  refine Ends.pos (Int.natCast_nonneg _) ?_
  have hls : l < s.length := by rw [hs]; exact hlC
  refine Ends.pos (Int.ofNat_lt.2 hls) ?_
  rw [rd_nat]
  refine Ends.bind (mulT_ends hcb (bytesB_at hsb hls)) ?_
  have e2 : (M.set kk ((xrow c (M.getD kk []) s).take l ++ (M.getD kk []).drop l)).flatten.set (((kk * C + l : Nat) : Int)).toNat (Go.bits .xor .u8 (rd (M.set kk ((xrow c (M.getD kk []) s).take l ++ (M.getD kk []).drop l)).flatten ((kk * C + l : Nat) : Int)) (mulT c (s.getD l 0))) = (M.set kk ((xrow c (M.getD kk []) s).take (l + 1) ++ (M.getD kk []).drop (l + 1))).flatten := by
   rw [rd_nat, Int.toNat_natCast, flat_get hU (by omega) hlC, flat_set _ hU (by omega) hlC, getD_set_self hk, List.set_set]
   have e3 : entry (M.set kk ((xrow c (M.getD kk []) s).take l ++ (M.getD kk []).drop l)) kk l = (M.getD kk []).getD l 0 := by
    unfold entry
    rw [getD_set_self hk, mid_get (by omega) (by omega)]
   rw [e3, ← xrow_get (by omega) (by omega), mid_set (by omega) (by omega)]
  rw [e2, i64_succ (by omega)]
  exact Red_l4 h hm hc hk hs hsb hcb x6 x7 x8 hR n (l + 1) (by omega)
theorem elim_top {col top : Nat} {s : List (List Int) × List (List Int)} : ∀ k, (elimTo col top k s).1.getD top [] = s.1.getD top []
 | 0 => rfl
 | k + 1 => by
  unfold elimTo
  simp only []
  split
  ·rename_i hh
   unfold macS
   rw [getD_set_ne hh.1]
   exact elim_top k
  ·exact elim_top k
theorem rows_bytes {M : List (List Int)} (h : rowsB M = true) (i : Nat) : bytesB (M.getD i []) = true := rowsB_at h i
theorem Red_l3 {C wd : Nat} {S D : List (List Int)} (h : Shp S D C wd) {top j : Nat} (ht : top < S.length) (hj : j < C) (x6 : List Int) (h6 : x6.length ≤ 64) {R : Int × Int × List Int × List Int × Int}
  (hR : Ends (fun q => recoupref04_Reduce.l0 q (x6 ++ [(j : Int)]) ((j + 1 : Nat) : Int) (S.length : Int) (C : Int) (elimTo j top S.length (S, D)).1.flatten) R) :
  ∀ n k : Nat, k + n = S.length → Ends (fun q => recoupref04_Reduce.l3 q x6 (j : Int) (top : Int) (S.getD top []) (k : Int) (S.length : Int) (C : Int) (elimTo j top k (S, D)).1.flatten) R
 | 0, k, hk => by
  obtain rfl : k = S.length := by omega
  refine Ends.succ (fun k => by rw [recoupref04_Reduce.l3]) (Ends.neg (by omega) (Ends.pos (by omega) ?_))
  have := h.small.2.1
  rw [i64_succ (by omega)]
  exact hR
 | n + 1, k, hk => by
  have hkS : k < S.length := by omega
  obtain ⟨hT, hTl⟩ := elim_shp (col := j) h ht k (by omega)
  have hm := h.small.1
  have hc := h.small.2.1
  have ih := Red_l3 h ht hj x6 h6 hR n (k + 1) (by omega)
  refine Ends.succ (fun k => by rw [recoupref04_Reduce.l3]) (Ends.pos (by omega) ?_)
  by_cases e : k = top
  ·refine Ends.pos (by omega) ?_
   rw [i64_succ (by omega)]
   have e1 : elimTo j top (k + 1) (S, D) = elimTo j top k (S, D) := by
    conv => lhs; unfold elimTo
    simp only []
    rw [if_neg (fun hh => hh.1 e)]
   rw [e1] at ih
   exact ih
  ·refine Ends.neg (by omega) ?_
   have hst := elim_top (col := j) (top := top) (s := (S, D)) k
   have hEx : elimTo j top (k + 1) (S, D) = (if k ≠ top ∧ entry (elimTo j top k (S, D)).1 k j ≠ 0 then (macS (elimTo j top k (S, D)).1 k top (entry (elimTo j top k (S, D)).1 k j), macS (elimTo j top k (S, D)).2 k top (entry (elimTo j top k (S, D)).1 k j)) else elimTo j top k (S, D)) := by
    conv => lhs; unfold elimTo
   rw [hEx] at ih
   generalize elimTo j top k (S, D) = T at *
   have hUT := U.of hT
   rw [← hTl]
   refine Ends.bind1 (At_eq hUT (by omega) hc (by omega) hj _) ?_
   have hcb := entry_byte hT (i := k) (j := j) (by omega) hj
   have hst' : T.1.getD top [] = S.getD top [] := hst
   have hs : (S.getD top []).length = C := h.eM top ht
   have h0 := Red_l4 hUT (by omega) hc (kk := k) (by omega) hs (rows_bytes h.bM top) hcb x6 (j : Int) (top : Int) (R := R) ?_ C 0 (by omega)
   ·rw [List.take_zero, List.nil_append, List.drop_zero, set_getD_self (by omega)] at h0
    exact h0
   ·rw [hTl]
    by_cases e0 : entry T.1 k j = 0
    ·rw [if_neg (fun hh => hh.2 e0)] at ih
     rw [e0, xrow_zero (rows_bytes hT.bM k) (by rw [hT.eM k (by omega), hs]), set_getD_self (by omega)]
     exact ih
    ·rw [if_pos ⟨e, e0⟩] at ih
     unfold macS at ih
     rw [hst'] at ih
     rw [xrow_mac]
     exact ih
theorem Red_l2 {C wd : Nat} {M D : List (List Int)} (h : Shp M D C wd) {top i j : Nat} (ht : top < M.length) (hi : i < M.length) (hj : j < C) (h0 : entry M i j ≠ 0) (x6 : List Int) (h6 : x6.length ≤ 64) {R : Int × Int × List Int × List Int × Int}
  (hR : Ends (fun q => recoupref04_Reduce.l0 q (x6 ++ [(j : Int)]) ((j + 1 : Nat) : Int) (M.length : Int) (C : Int) (stepAt M D top i j).1.flatten) R) :
  ∀ n k : Nat, k + n = M.length → Ends (fun q => recoupref04_Reduce.l2 q x6 (j : Int) (top : Int) (i : Int) (((List.range M.length).map fun (x : Nat) => (x : Int)).take k ++ (List.replicate M.length (0 : Int)).drop k) (k : Int) (M.length : Int) (C : Int) M.flatten) R
 | 0, k, hk => by
  obtain rfl : k = M.length := by omega
  have hm := h.small.1
  have hc := h.small.2.1
  have hU := U.of h
  have hlen : (((List.range M.length).map fun (x : Nat) => (x : Int)).take M.length ++ (List.replicate M.length (0 : Int)).drop M.length) = ((List.range M.length).map fun (x : Nat) => (x : Int)) := by
   rw [List.take_of_length_le (by simp), List.drop_of_length_le (by simp), List.append_nil]
  refine Ends.succ (fun k => by rw [recoupref04_Reduce.l2]) (Ends.neg (by omega) ?_)
  rw [hlen]
  have hl2 : (((List.range M.length).map fun (x : Nat) => (x : Int)).length : Int) = (M.length : Int) := by simp
  rw [hl2]
  refine Ends.pos (Int.natCast_nonneg _) (Ends.pos (by omega) (Ends.pos (Int.natCast_nonneg _) (Ends.pos (by omega) ?_)))
  have ho : ((((List.range M.length).map fun (x : Nat) => (x : Int)).set ((top : Int)).toNat (i : Int)).set ((i : Int)).toNat (top : Int)) = ordL M.length top i := rfl
  rw [ho]
  have hol : (ordL M.length top i).length = M.length := by simp [ordL]
  refine Ends.bind (Pick_ends hU hm hc (ordL_range ht hi) (by omega)) ?_
  rw [ordL_map ht hi, hol]
  have hsl : (sw M top i).length = M.length := by simp [sw]
  have hUs : U (sw M top i) C := (hU.set (k := i) (hU.at ht)).set (hU.at hi)
  have hst : (sw M top i).getD top [] = M.getD i [] := by unfold sw; rw [getD_set_self (by simpa using ht)]
  have hA := At_eq hUs (by omega) hc (i := top) (by omega) hj (M.length : Int)
  have he : entry (sw M top i) top j = entry M i j := by unfold entry; rw [hst]
  rw [he] at hA
  refine Ends.bind1 hA ?_
  have hb := entry_byte h hi hj
  refine Ends.bind (Inv_ends hb h0) ?_
  have hRw := Row_ends hUs (by omega) hc (i := top) (by omega)
  rw [hsl, hst] at hRw
  refine Ends.bind hRw ?_
  refine Ends.bind (Scale_ends (invT_range hb h0) (rows_bytes h.bM i) (by rw [h.eM i hi]; omega)) ?_
  have ht64 : top ≤ 64 := by omega
  have hix := idx_lt (c := C) ht (by omega : 0 < C)
  have hfl : (sw M top i).flatten.length = M.length * C := by rw [flat_len hUs, hsl]
  show Ends (fun k => if 0 ≤ wrap64 ((top : Int) * (C : Int)) then if wrap64 ((top : Int) * (C : Int)) < ((sw M top i).flatten.length : Int) then recoupref04_Reduce.l3 k x6 (j : Int) (top : Int) ((M.getD i []).map (mulT (invT (entry M i j)))) 0 (M.length : Int) (C : Int) (copyL (sw M top i).flatten (wrap64 ((top : Int) * (C : Int))) ((M.getD i []).map (mulT (invT (entry M i j))))) else none else none) R
  rw [(idx_small (i := top) (c := C) (j := 0) ht64 hc (by decide)).1, hfl]
  refine Ends.pos (Int.natCast_nonneg _) (Ends.pos (Int.ofNat_lt.2 (by omega)) ?_)
  have hrl : ((M.getD i []).map (mulT (invT (entry M i j)))).length = C := by rw [List.length_map]; exact h.eM i hi
  have hcp : copyL (sw M top i).flatten ((top * C : Nat) : Int) ((M.getD i []).map (mulT (invT (entry M i j)))) = (swapS (invT (entry M i j)) M top i).flatten := by
   unfold copyL
   have : (top + 1) * C ≤ M.length * C := Nat.mul_le_mul_right _ ht
   rw [Nat.succ_mul] at this
   rw [Int.toNat_natCast, hfl, List.take_of_length_le (by omega), flat_splice hUs (by omega) hrl]
   rfl
  rw [hcp]
  have hS := h.swap (o := invT (entry M i j)) ht hi
  have hSl : (swapS (invT (entry M i j)) M top i).length = M.length := by simp [swapS]
  have hSt : (swapS (invT (entry M i j)) M top i).getD top [] = (M.getD i []).map (mulT (invT (entry M i j))) := by
   unfold swapS
   rw [getD_set_self (by simpa using ht)]
  have := Red_l3 hS (by omega : top < _) hj x6 h6 (R := R) (by rw [hSl]; exact hR) M.length 0 (by omega)
  rw [hSl, hSt] at this
  exact this
 | n + 1, k, hk => by
  have hm := h.small.1
  refine Ends.succ (fun k => by rw [recoupref04_Reduce.l2]) (Ends.pos (by omega) (Ends.pos (Int.natCast_nonneg _) ?_))
  refine Ends.pos (by simp; omega) ?_
  have e := mid_set (g := (List.range M.length).map fun (x : Nat) => (x : Int)) (r := List.replicate M.length (0 : Int)) (l := k) (by simp; omega) (by simp)
  have e1 : ((List.range M.length).map fun (x : Nat) => (x : Int)).getD k 0 = (k : Int) := by
   rw [List.getD_eq_getElem?_getD, List.getElem?_map, List.getElem?_range (by omega)]
   rfl
  rw [e1] at e
  rw [Int.toNat_natCast, e, i64_succ (by omega)]
  exact Red_l2 h ht hi hj h0 x6 h6 hR n (k + 1) (by omega)
end Go.Proofs.YtkagobkedifhkaaDoor.M
namespace Go.Proofs.YtkagobkedifhkaaDoor.M
open Go.RowKit Go.Proofs.YtkagobkedifhkaaDoorW.PrintWords Go.Proofs.YtkagobkedifhkaaDoorW.PrintLast Go.Proofs.YtkagobkedifhkaaDoorW.PrintMore Go.Proofs.YtkagobkedifhkaaDoor.Q
set_option linter.unusedVariables false
theorem Red_l1 {C : Nat} {S : List (List Int)} (h : U S C) (hm : S.length ≤ 64) (hc : C ≤ 64) {j : Nat} (hj : j < C) (x6 : List Int) (top : Int) {R : Int × Int × List Int × List Int × Int} :
    ∀ n i : Nat, i + n = S.length → Ends (fun q => recoupref04_Reduce.j3 q x6 (j : Int) top (((seekCol S j n i).getD S.length : Nat) : Int) (S.length : Int) (C : Int) S.flatten) R →
      Ends (fun q => recoupref04_Reduce.l1 q x6 (j : Int) top (i : Int) (S.length : Int) (C : Int) S.flatten) R
  | 0, i, hi, hJ => by
    obtain rfl : i = S.length := by omega
    refine Ends.succ (fun k => by rw [recoupref04_Reduce.l1]) ?_
    exact Ends.neg (by omega) hJ
  | n + 1, i, hi, hJ => by
    refine Ends.succ (fun k => by rw [recoupref04_Reduce.l1]) (Ends.pos (by omega) ?_)
    refine Ends.bind1 (At_eq h hm hc (by omega) hj _) ?_
    unfold seekCol at hJ
    by_cases e : entry S i j = 0
    · rw [if_neg (fun x => x e)] at hJ
      refine Ends.pos e ?_
      rw [i64_succ (by omega)]
      exact Red_l1 h hm hc hj x6 top n (i + 1) (by omega) hJ
    · rw [if_pos e] at hJ
      exact Ends.neg e hJ
theorem red_done {M D : List (List Int)} {C wd : Nat} (h : Shp M D C wd) {j : Nat} (hf : M.length ≤ (redTo M D j).2.length) (n : Nat) : redTo M D (j + n) = redTo M D j :=
  red_skip n fun j' _ _ i' a b => by rw [(red_shp h j).2.1] at b; omega
theorem Red_l0 {C wd : Nat} {M D : List (List Int)} (h : Shp M D C wd) : ∀ n j : Nat, j + n = C →
    Ends (fun q => recoupref04_Reduce.l0 q (redTo M D j).2 (j : Int) (M.length : Int) (C : Int) (redTo M D j).1.1.flatten) ((M.length : Int), (C : Int), (redTo M D C).1.1.flatten, (redTo M D C).2, 0)
  | 0, j, hj => by
    obtain rfl : j = C := by omega
    refine Ends.succ (fun k => by rw [recoupref04_Reduce.l0]) (Ends.neg (by omega) ?_)
    exact Ends.succ (fun k => by rw [recoupref04_Reduce.j1]) (Ends.neg (by decide) (Ends.const rfl))
  | n + 1, j, hj => by
    have hs := red_shp h j
    have hm := h.small.1
    have hc := h.small.2.1
    have ih := Red_l0 h n (j + 1) (by omega)
    refine Ends.succ (fun k => by rw [recoupref04_Reduce.l0]) (Ends.pos (by omega) ?_)
    by_cases hf : M.length ≤ (redTo M D j).2.length
    · refine Ends.succ (fun k => by rw [recoupref04_Reduce.j1]) (Ends.neg (by rw [decide_eq_true_eq]; omega) (Ends.const ?_))
      have := red_done h hf (n + 1)
      rw [hj] at this
      rw [this]
    · refine Ends.succ (fun k => by rw [recoupref04_Reduce.j1]) (Ends.pos (by rw [decide_eq_true_eq]; omega) ?_)
      have hE : redTo M D (j + 1) = redStep j (redTo M D j) := rfl
      rw [hE] at ih
      obtain ⟨hS, hSl, _, hpj⟩ := hs
      generalize hT : redTo M D j = T at *
      have hU := U.of hS
      have hp64 : T.2.length ≤ 64 := by omega
      have h1 := Red_l1 hU (by omega) hc (j := j) (by omega) T.2 (T.2.length : Int) (R := ((M.length : Int), (C : Int), (redTo M D C).1.1.flatten, (redTo M D C).2, 0)) (T.1.1.length - T.2.length) T.2.length (by omega) ?_
      · rw [hSl] at h1
        exact h1
      · show Ends (fun q => recoupref04_Reduce.j3 q T.2 (j : Int) (T.2.length : Int) (((firstIn T.1.1 T.2.length j).getD T.1.1.length : Nat) : Int) (T.1.1.length : Int) (C : Int) T.1.1.flatten) _
        cases hfi : firstIn T.1.1 T.2.length j with
        | none =>
          rw [redStep_none hfi] at ih
          refine Ends.succ (fun k => by rw [recoupref04_Reduce.j3]) ?_
          refine Ends.pos (by rw [Option.getD_none]) ?_
          rw [i64_succ (by omega), hSl]
          exact ih
        | some i =>
          rw [redStep_some hfi] at ih
          obtain ⟨q1, q2, q3, _⟩ := seekCol_spec _ _ hfi
          refine Ends.succ (fun k => by rw [recoupref04_Reduce.j3]) (Ends.neg (by rw [Option.getD_some]; omega) ?_)
          refine Ends.pos (Int.natCast_nonneg _) (Ends.pos (by rw [Int.toNat_natCast]; omega) ?_)
          rw [Int.toNat_natCast, Option.getD_some]
          have h2 := Red_l2 hS (top := T.2.length) (i := i) (j := j) (by omega) (by omega) (by omega) q3 T.2 hp64 (R := ((M.length : Int), (C : Int), (redTo M D C).1.1.flatten, (redTo M D C).2, 0)) (by rw [hSl]; exact ih) T.1.1.length 0 (by omega)
          rw [List.take_zero, List.nil_append, List.drop_zero] at h2
          exact h2
theorem Right_eq {a b : Int} {l : List Int} (ha : -9223372036854775808 ≤ a ∧ a ≤ 9223372036854775807) : recoupref03_Right.f a b l = matrix_Right.f a b l := by
  unfold recoupref03_Right.f matrix_Right.f matrix_side.f
  by_cases h1 : a ≥ 0 <;> by_cases h2 : a ≤ 64 <;> by_cases h3 : b ≥ 0 <;> by_cases h4 : b ≤ 64 <;> simp only [h1, h2, h3, h4, if_true, if_false, Option.bind_some, decide_true, decide_false, Bool.false_eq_true]
theorem Right_cases (a b : Int) (l : List Int) : recoupref03_Right.f a b l = some true ∨ recoupref03_Right.f a b l = some false := by
  unfold recoupref03_Right.f
  split
  · split
    · split
      · split
        · by_cases h : ((l.length : Int) == wrap64 (a * b)) = true
          · left; rw [h]
          · right; rw [Bool.not_eq_true] at h; rw [h]
        · exact .inr rfl
      · exact .inr rfl
    · exact .inr rfl
  · exact .inr rfl
theorem bytesB_wf {l : List Int} (h : ∀ x ∈ l, (Lit.int .u8 x).wf = true) : bytesB l = true := by
  unfold bytesB
  rw [List.all_eq_true]
  intro x hx
  have := wf_u8 (h x hx)
  simp
  omega
theorem Copy_eq {a b : Int} {l : List Int} (h : l.length ≤ 4096) : recoupref03_Copy.f a b l = some (a, b, l) := by
  unfold recoupref03_Copy.f recoupref01_Copy.f
  rw [Option.bind_some, if_pos (by rw [List.length_nil]; omega)]
  rfl
theorem right_nat {a b : Int} {l : List Int} (h : matrix_Right.f a b l = some true) : ∃ r c : Nat, a = (r : Int) ∧ b = (c : Int) ∧ r ≤ 64 ∧ c ≤ 64 ∧ l.length = r * c ∧ l.length ≤ 4096 := by
  obtain ⟨h1, h2, h3, h4, h5⟩ := right_true h
  obtain ⟨r, rfl⟩ := Int.eq_ofNat_of_zero_le h1
  obtain ⟨c, rfl⟩ := Int.eq_ofNat_of_zero_le h3
  rw [Int.toNat_natCast, Int.toNat_natCast] at h5
  have : r * c ≤ 64 * 64 := Nat.mul_le_mul (by omega) (by omega)
  exact ⟨r, c, rfl, rfl, by omega, by omega, h5, by omega⟩
def redL (r c : Nat) (l : List Int) : (List (List Int) × List (List Int)) × List Int := redTo (rowsOf c r l) (List.replicate r []) c
theorem Reduce_ends {r c : Nat} {l : List Int} (hr : r ≤ 64) (hc : c ≤ 64) (hl : l.length = r * c) (hb : bytesB l = true) : Ends (fun k => recoupref04_Reduce.f k (r : Int) (c : Int) l) ((r : Int), (c : Int), (redL r c l).1.1.flatten, (redL r c l).2, 0) := by
  have hf := flat_rowsOf r l hl
  have hlen := rowsOf_length c r l
  have hm : r * c ≤ 64 * 64 := Nat.mul_le_mul hr hc
  unfold recoupref04_Reduce.f
  have h1 := Right_true hf.2 (by omega) hc
  rw [hf.1, hlen] at h1
  refine Ends.bind1 h1 (Ends.pos rfl ?_)
  refine Ends.bind1 (Copy_eq (by omega)) ?_
  have := Red_l0 (shp_nil hb hl ⟨hr, hc⟩) c 0 (by omega)
  rw [hlen] at this
  show Ends (fun k => recoupref04_Reduce.l0 k [] 0 (r : Int) (c : Int) l) _
  have e : (redTo (rowsOf c r l) (List.replicate r []) 0).1.1.flatten = l := hf.1
  rw [e] at this
  exact this
theorem gReduce_eq {r c : Nat} {l : List Int} (hR : matrix_Right.f (r : Int) (c : Int) l = some true) (hb : bytesB l = true) : gauss_Reduce.f (r : Int) (c : Int) l = some ((r : Int), (c : Int), (redL r c l).1.1.flatten, (redL r c l).2, 0) := by
  unfold gauss_Reduce.f
  rw [hR, Option.bind_some, if_pos rfl, if_pos hb]
  rfl
end Go.Proofs.YtkagobkedifhkaaDoor.M
namespace Go.Proofs.YtkagobkedifhkaaDoor.M
open Go.RowKit Go.Proofs.YtkagobkedifhkaaDoorW.PrintWords Go.Proofs.YtkagobkedifhkaaDoorW.PrintLast Go.Proofs.YtkagobkedifhkaaDoorW.PrintMore Go.Proofs.YtkagobkedifhkaaDoor.Q
theorem Rank_ends {r c : Nat} {l : List Int} (hr : r ≤ 64) (hc : c ≤ 64) (hl : l.length = r * c) (hb : bytesB l = true) : Ends (fun k => recoupref04_Rank.f k (r : Int) (c : Int) l) (((redL r c l).2.length : Int), 0) := by
 unfold recoupref04_Rank.f
 exact Ends.bind (Reduce_ends hr hc hl hb) (Ends.const rfl)
end Go.Proofs.YtkagobkedifhkaaDoor.M
namespace Go.Proofs.YtkagobkedifhkaaDoor.M
open Go.RowKit Go.Proofs.YtkagobkedifhkaaDoorW.PrintWords Go.Proofs.YtkagobkedifhkaaDoorW.PrintLast Go.Proofs.YtkagobkedifhkaaDoorW.PrintMore Go.Proofs.YtkagobkedifhkaaDoor.Q
set_option linter.unusedVariables false
def el1 (col top : Nat) : Nat → List (List Int) → List (List Int)
 | 0, A => A
 | k + 1, A => let t := el1 col top k A; if k ≠ top ∧ entry t k col ≠ 0 then macS t k top (entry t k col) else t
def stepA (j : Nat) (s : List (List Int) × List Int) : List (List Int) × List Int := match firstIn s.1 s.2.length j with
 | none => s
 | some i => (el1 j s.2.length s.1.length (swapS (invT (entry s.1 i j)) s.1 s.2.length i), s.2 ++ [(j : Int)])
def redA (A : List (List Int)) : Nat → List (List Int) × List Int
 | 0 => (A, [])
 | j + 1 => stepA j (redA A j)
theorem stepA_none {j : Nat} {s : List (List Int) × List Int} (h : firstIn s.1 s.2.length j = none) : stepA j s = s := by unfold stepA; rw [h]
theorem stepA_some {j i : Nat} {s : List (List Int) × List Int} (h : firstIn s.1 s.2.length j = some i) : stepA j s = (el1 j s.2.length s.1.length (swapS (invT (entry s.1 i j)) s.1 s.2.length i), s.2 ++ [(j : Int)]) := by unfold stepA; rw [h]
structure Sh (A : List (List Int)) (W : Nat) : Prop where
 u : U A W
 b : rowsB A = true
 m : A.length ≤ 64
 w : W ≤ 65
theorem Sh.set {A : List (List Int)} {W k : Nat} {r : List Int} (h : Sh A W) (hr : r.length = W) (hb : bytesB r = true) : Sh (A.set k r) W := by
 refine ⟨h.u.set hr, ?_, by rw [List.length_set]; exact h.m, h.w⟩
 have := h.b
 rw [rowsB, List.all_eq_true] at this ⊢
 intro x hx
 rcases List.mem_or_eq_of_mem_set hx with hx | rfl
 ·exact this x hx
 ·exact hb
theorem scale_bytes {o : Int} (ho : 0 ≤ o ∧ o < 256) {r : List Int} (h : bytesB r = true) : bytesB (r.map (mulT o)) = true := by
 unfold bytesB
 rw [List.all_eq_true]
 intro x hx
 obtain ⟨y, hy, rfl⟩ := List.mem_map.1 hx
 unfold bytesB at h
 rw [List.all_eq_true] at h
 have hy2 := h y hy
 simp only [Bool.and_eq_true, decide_eq_true_eq] at hy2
 have := mulT_range ho hy2
 simp
 omega
theorem xorL_bytes {r s : List Int} : bytesB (xorL r s) = true := by
 unfold bytesB xorL
 rw [List.all_eq_true]
 intro x hx
 obtain ⟨i, hi, rfl⟩ := List.getElem_of_mem hx
 rw [List.getElem_zipWith]
 have := xor_range (r[i]'(by simp at hi; omega)) (s[i]'(by simp at hi; omega))
 simp
 omega
theorem Sh.byte {A : List (List Int)} {W i j : Nat} (h : Sh A W) (hi : i < A.length) (hj : j < W) : 0 ≤ entry A i j ∧ entry A i j < 256 := bytesB_at (rows_bytes h.b i) (by rw [h.u.at hi]; exact hj)
theorem Sh.swap {A : List (List Int)} {W top i : Nat} {o : Int} (h : Sh A W) (ho : 0 ≤ o ∧ o < 256) (ht : top < A.length) (hi : i < A.length) : Sh (swapS o A top i) W := by
 unfold swapS
 exact ((h.set (h.u.at ht) (rows_bytes h.b top)).set (h.u.at hi) (rows_bytes h.b i)).set (by rw [List.length_map]; exact h.u.at hi) (scale_bytes ho (rows_bytes h.b i))
theorem Sh.mac {A : List (List Int)} {W k top : Nat} (h : Sh A W) (hk : k < A.length) (ht : top < A.length) (c : Int) : Sh (macS A k top c) W := by
 unfold macS
 refine h.set ?_ xorL_bytes
 unfold xorL
 rw [List.length_zipWith, List.length_map, h.u.at ht, h.u.at hk]
 omega
theorem Sh.el {A : List (List Int)} {W col top : Nat} (h : Sh A W) (ht : top < A.length) : ∀ k, k ≤ A.length → Sh (el1 col top k A) W ∧ (el1 col top k A).length = A.length
 | 0, _ => ⟨h, rfl⟩
 | k + 1, hk => by
  obtain ⟨ih, il⟩ := Sh.el (col := col) h ht k (by omega)
  show Sh (if k ≠ top ∧ entry (el1 col top k A) k col ≠ 0 then macS (el1 col top k A) k top (entry (el1 col top k A) k col) else el1 col top k A) W ∧ (if k ≠ top ∧ entry (el1 col top k A) k col ≠ 0 then macS (el1 col top k A) k top (entry (el1 col top k A) k col) else el1 col top k A).length = A.length
  split
  ·exact ⟨ih.mac (by omega) (by omega) _, by simp [macS, il]⟩
  ·exact ⟨ih, il⟩
end Go.Proofs.YtkagobkedifhkaaDoor.M
namespace Go.Proofs.YtkagobkedifhkaaDoor.M
open Go.RowKit Go.Proofs.YtkagobkedifhkaaDoorW.PrintWords Go.Proofs.YtkagobkedifhkaaDoorW.PrintLast Go.Proofs.YtkagobkedifhkaaDoorW.PrintMore Go.Proofs.YtkagobkedifhkaaDoor.Q
set_option linter.unusedVariables false
theorem map_getD {f : Int → Int} {l : List Int} {i : Nat} (h : i < l.length) : (l.map f).getD i 0 = f (l.getD i 0) := by
 rw [List.getD_eq_getElem?_getD, List.getD_eq_getElem?_getD, List.getElem?_map, List.getElem?_eq_getElem h]
 rfl
theorem bytesB_take {a : List Int} (h : bytesB a = true) (n : Nat) : bytesB (a.take n) = true := by
 have := bytesB_sub h 0 n
 rwa [List.drop_zero] at this
end Go.Proofs.YtkagobkedifhkaaDoor.M
namespace Go.Proofs.YtkagobkedifhkaaDoor.M
open Go.RowKit Go.Proofs.YtkagobkedifhkaaDoorW.PrintWords Go.Proofs.YtkagobkedifhkaaDoorW.PrintLast Go.Proofs.YtkagobkedifhkaaDoorW.PrintMore Go.Proofs.YtkagobkedifhkaaDoor.Q
set_option linter.unusedVariables false
theorem seek_zero {M : List (List Int)} {j : Nat} : ∀ f i, seekCol M j f i = none → ∀ i', i ≤ i' → i' < i + f → entry M i' j = 0
 | 0, i, _, i', a, b => by omega
 | f + 1, i, h, i', a, b => by
  unfold seekCol at h
  by_cases e : entry M i j = 0
  ·rw [if_neg (fun x => x e)] at h
   by_cases e2 : i' = i
   ·rw [e2]; exact e
   ·exact seek_zero f (i + 1) h i' (by omega) (by omega)
  ·rw [if_pos e] at h; cases h
end Go.Proofs.YtkagobkedifhkaaDoor.M
namespace Go.Proofs.YtkagobkedifhkaaDoor.M
open Go.RowKit Go.Proofs.YtkagobkedifhkaaDoorW.PrintWords Go.Proofs.YtkagobkedifhkaaDoorW.PrintLast Go.Proofs.YtkagobkedifhkaaDoorW.PrintMore Go.Proofs.YtkagobkedifhkaaDoor.Q
set_option linter.unusedVariables false
theorem entry_set {A : List (List Int)} {i a b : Nat} {r : List Int} (hi : i < A.length) : entry (A.set i r) a b = if a = i then r.getD b 0 else entry A a b := by
  unfold entry
  by_cases e : a = i
  · subst e
    rw [if_pos rfl, getD_set_self hi]
  · rw [if_neg e, getD_set_ne (fun x => e x.symm)]
theorem xor_getD {r s : List Int} {b : Nat} (h1 : b < r.length) (h2 : b < s.length) : (xorL r s).getD b 0 = Go.bits .xor .u8 (r.getD b 0) (s.getD b 0) := by
  unfold xorL
  rw [List.getD_eq_getElem?_getD, List.getD_eq_getElem?_getD, List.getD_eq_getElem?_getD, List.getElem?_zipWith, List.getElem?_eq_getElem h1, List.getElem?_eq_getElem h2]
  rfl
theorem entry_swap {A : List (List Int)} {W top i a b : Nat} {o : Int} (h : Sh A W) (ht : top < A.length) (hi : i < A.length) (hb : b < W) : entry (swapS o A top i) a b = if a = top then mulT o (entry A i b) else if a = i then entry A top b else entry A a b := by
  unfold swapS
  have h2 := h.u.at hi
  rw [entry_set (by simpa using ht), map_getD (by omega), entry_set (by simpa using ht), entry_set hi]
  by_cases e : a = top
  · rw [if_pos e, if_pos e]; rfl
  · rw [if_neg e, if_neg e, if_neg e]; rfl
theorem entry_mac {A : List (List Int)} {W top k a b : Nat} {c : Int} (h : Sh A W) (ht : top < A.length) (hk : k < A.length) (hb : b < W) : entry (macS A k top c) a b = if a = k then Go.bits .xor .u8 (mulT c (entry A top b)) (entry A k b) else entry A a b := by
  unfold macS
  have h1 := h.u.at ht
  have h2 := h.u.at hk
  rw [entry_set hk, xor_getD (by rw [List.length_map]; omega) (by omega), map_getD (by omega)]
  rfl
theorem Sh.of1 {M D : List (List Int)} {C wd : Nat} (h : Shp M D C wd) : Sh M C := ⟨U.of h, h.bM, h.small.1, by have := h.small.2.1; omega⟩
theorem elim_fst (col top : Nat) (M D : List (List Int)) : ∀ k, (elimTo col top k (M, D)).1 = el1 col top k M
  | 0 => rfl
  | k + 1 => by
    have ih := elim_fst col top M D k
    show (if k ≠ top ∧ entry (elimTo col top k (M, D)).1 k col ≠ 0 then (macS (elimTo col top k (M, D)).1 k top (entry (elimTo col top k (M, D)).1 k col), macS (elimTo col top k (M, D)).2 k top (entry (elimTo col top k (M, D)).1 k col)) else elimTo col top k (M, D)).1 = (if k ≠ top ∧ entry (el1 col top k M) k col ≠ 0 then macS (el1 col top k M) k top (entry (el1 col top k M) k col) else el1 col top k M)
    rw [← ih]
    split <;> rfl
theorem red_fst (M D : List (List Int)) : ∀ j, ((redTo M D j).1.1, (redTo M D j).2) = redA M j
  | 0 => rfl
  | j + 1 => by
    have ih := red_fst M D j
    show ((redStep j (redTo M D j)).1.1, (redStep j (redTo M D j)).2) = stepA j (redA M j)
    rw [← ih]
    generalize redTo M D j = T
    cases hf : firstIn T.1.1 T.2.length j with
    | none => rw [redStep_none hf, stepA_none (s := (T.1.1, T.2)) hf]
    | some i =>
      rw [redStep_some hf, stepA_some (s := (T.1.1, T.2)) hf]
      show ((elimTo j T.2.length T.1.1.length (_, _)).1, _) = _
      rw [elim_fst]
end Go.Proofs.YtkagobkedifhkaaDoor.M
namespace Go.Proofs.YtkagobkedifhkaaDoor.M
set_option linter.unusedVariables false
abbrev Vec := Nat → El
def zv : Vec := fun _ => 0
def lc (b : Nat → Vec) (n : Nat) (x : Nat → El) : Vec := fun j => sm n (fun i => x i * b i j)
def Span (b : Nat → Vec) (n : Nat) (v : Vec) : Prop := ∃ x : Nat → El, v = lc b n x
def Indep (b : Nat → Vec) (n : Nat) : Prop := ∀ x : Nat → El, lc b n x = zv → ∀ i, i < n → x i = 0
theorem lc_congr {b c : Nat → Vec} {n : Nat} {x y : Nat → El} (h : ∀ i, i < n → b i = c i) (k : ∀ i, i < n → x i = y i) : lc b n x = lc c n y :=
  funext fun j => sm_congr fun i hi => by rw [h i hi, k i hi]
theorem lc_add (b : Nat → Vec) (n : Nat) (x y : Nat → El) : lc b n (fun i => x i + y i) = fun j => lc b n x j + lc b n y j := by
  funext j
  unfold lc
  rw [← sm_add]
  exact sm_congr fun i _ => add_mul _ _ _
theorem lc_mul (b : Nat → Vec) (n : Nat) (a : El) (x : Nat → El) : lc b n (fun i => a * x i) = fun j => a * lc b n x j := by
  funext j
  unfold lc
  rw [← sm_mul]
  exact sm_congr fun i _ => mul_assoc _ _ _
theorem lc_zero (b : Nat → Vec) (n : Nat) : lc b n (fun _ => 0) = zv := funext fun j => sm_zero fun i _ => zero_mul _
theorem lc_unit (b : Nat → Vec) {n k : Nat} (hk : k < n) : lc b n (fun i => if i = k then 1 else 0) = b k := by
  funext j
  show sm n (fun i => (if i = k then 1 else 0) * b i j) = b k j
  rw [sm_one hk (fun i _ hne => by rw [if_neg hne, zero_mul]), if_pos rfl, one_mul]
theorem lc_lc (b u : Nat → Vec) (n m : Nat) (x : Nat → El) (a : Nat → Nat → El) (h : ∀ i, i < m → u i = lc b n (a i)) : lc u m x = lc b n (fun k => sm m (fun i => x i * a i k)) := by
  funext j
  unfold lc
  have e : sm m (fun i => x i * u i j) = sm m (fun i => sm n (fun k => x i * a i k * b k j)) := sm_congr fun i hi => by
    rw [h i hi]
    unfold lc
    rw [← sm_mul]
    exact sm_congr fun k _ => (mul_assoc _ _ _).symm
  rw [e, sm_swap]
  exact sm_congr fun k _ => sm_mul_right _ _ _
theorem span_mem (b : Nat → Vec) {n k : Nat} (hk : k < n) : Span b n (b k) := ⟨_, (lc_unit b hk).symm⟩
theorem span_zero (b : Nat → Vec) (n : Nat) : Span b n zv := ⟨_, (lc_zero b n).symm⟩
theorem span_add {b : Nat → Vec} {n : Nat} {u v : Vec} (h : Span b n u) (k : Span b n v) : Span b n (fun j => u j + v j) := by
  obtain ⟨x, rfl⟩ := h
  obtain ⟨y, rfl⟩ := k
  exact ⟨_, (lc_add b n x y).symm⟩
theorem span_mul {b : Nat → Vec} {n : Nat} {u : Vec} (a : El) (h : Span b n u) : Span b n (fun j => a * u j) := by
  obtain ⟨x, rfl⟩ := h
  exact ⟨_, (lc_mul b n a x).symm⟩
theorem span_lc {b u : Nat → Vec} {n m : Nat} (h : ∀ i, i < m → Span b n (u i)) (x : Nat → El) : Span b n (lc u m x) := by
  have h' : ∀ i, ∃ a : Nat → El, i < m → u i = lc b n a := fun i => by
    by_cases hi : i < m
    · obtain ⟨a, ha⟩ := h i hi
      exact ⟨a, fun _ => ha⟩
    · exact ⟨fun _ => 0, fun e => absurd e hi⟩
  obtain ⟨a, ha⟩ := Classical.axiomOfChoice h'
  exact ⟨_, lc_lc b u n m x a ha⟩
theorem span_trans {b u : Nat → Vec} {n m : Nat} {v : Vec} (h : ∀ i, i < m → Span b n (u i)) (k : Span u m v) : Span b n v := by
  obtain ⟨x, rfl⟩ := k
  exact span_lc h x
theorem span_le {b : Nat → Vec} {n m : Nat} (h : n ≤ m) {v : Vec} (k : Span b n v) : Span b m v := span_trans (fun i hi => span_mem b (by omega)) k
def skip (p i : Nat) : Nat := if i < p then i else i + 1
theorem unskip (p i : Nat) : (if skip p i < p then skip p i else skip p i - 1) = i := by
  unfold skip
  by_cases h : i < p
  · rw [if_pos h, if_pos h]
  · rw [if_neg h, if_neg (by omega)]
    omega
theorem sm_succ_left (f : Nat → El) (n : Nat) : sm (n + 1) f = f 0 + sm n (fun i => f (i + 1)) := by
  rw [Nat.add_comm n 1, sm_split]
  have : sm 1 f = f 0 := zero_add _
  rw [this]
  congr 1
  exact sm_congr fun i _ => by rw [Nat.add_comm]
theorem sm_skip (f : Nat → El) (n p : Nat) (h : p ≤ n) : sm (n + 1) f = f p + sm n (fun i => f (skip p i)) := by
  obtain ⟨d, rfl⟩ : ∃ d, n = p + d := ⟨n - p, by omega⟩
  rw [show p + d + 1 = p + (d + 1) from by omega, sm_split f p (d + 1), sm_split (fun i => f (skip p i)) p d, sm_succ_left (fun i => f (p + i)) d]
  have e1 : sm p (fun i => f (skip p i)) = sm p f := sm_congr fun i hi => by unfold skip; rw [if_pos hi]
  have e2 : sm d (fun i => f (skip p (p + i))) = sm d (fun i => f (p + (i + 1))) := sm_congr fun i _ => by unfold skip; rw [if_neg (by omega)]; rfl
  rw [e1, e2, Nat.add_zero]
  ac_rfl
theorem hom : ∀ (n m : Nat), n < m → ∀ a : Nat → Nat → El, ∃ x : Nat → El, (∃ i, i < m ∧ x i ≠ 0) ∧ ∀ k, k < n → sm m (fun i => x i * a i k) = 0
  | 0, m, h, a => ⟨fun _ => 1, ⟨0, h, one_ne_zero⟩, fun k hk => by omega⟩
  | n + 1, m, h, a => by
    by_cases hz : ∀ i, i < m → a i n = 0
    · obtain ⟨x, hx, he⟩ := hom n m (by omega) a
      refine ⟨x, hx, fun k hk => ?_⟩
      by_cases e : k = n
      · subst e
        exact sm_zero fun i hi => by rw [hz i hi, mul_zero]
      · exact he k (by omega)
    · obtain ⟨p, hp, hpn⟩ : ∃ p, p < m ∧ a p n ≠ 0 := Classical.byContradiction fun hc => hz fun i hi => Classical.byContradiction fun hne => hc ⟨i, hi, hne⟩
      obtain ⟨m', rfl⟩ : ∃ m', m = m' + 1 := ⟨m - 1, by omega⟩
      obtain ⟨x, ⟨i0, hi0, hx0⟩, he⟩ := hom n m' (by omega) (fun i k => a (skip p i) k + a (skip p i) n * ((a p n).inv * a p k))
      have hsk : ∀ i, skip p i ≠ p := fun i => by unfold skip; split <;> omega
      refine ⟨fun j => if j = p then (a p n).inv * sm m' (fun i => x i * a (skip p i) n) else x (if j < p then j else j - 1), ⟨skip p i0, by unfold skip; split <;> omega, ?_⟩, fun k hk => ?_⟩
      · show (if skip p i0 = p then _ else _) ≠ 0
        rw [if_neg (hsk i0)]
        have : (if skip p i0 < p then skip p i0 else skip p i0 - 1) = i0 := unskip p i0
        rw [this]
        exact hx0
      · rw [sm_skip _ m' p (by omega)]
        have e1 : sm m' (fun i => (if skip p i = p then (a p n).inv * sm m' (fun i => x i * a (skip p i) n) else x (if skip p i < p then skip p i else skip p i - 1)) * a (skip p i) k) = sm m' (fun i => x i * a (skip p i) k) := sm_congr fun i _ => by
          have : (if skip p i < p then skip p i else skip p i - 1) = i := unskip p i
          rw [if_neg (hsk i), this]
        rw [e1]
        show (if p = p then (a p n).inv * sm m' (fun i => x i * a (skip p i) n) else _) * a p k + _ = 0
        rw [if_pos rfl]
        by_cases e : k = n
        · subst e
          rw [mul_comm, ← mul_assoc, mul_inv hpn, one_mul, add_self]
        · have h2 := he k (by omega)
          have e2 : sm m' (fun i => x i * (a (skip p i) k + a (skip p i) n * ((a p n).inv * a p k))) = sm m' (fun i => x i * a (skip p i) k) + sm m' (fun i => x i * a (skip p i) n) * ((a p n).inv * a p k) := by
            rw [← sm_mul_right, ← sm_add]
            exact sm_congr fun i _ => by rw [mul_add, mul_assoc]
          rw [e2] at h2
          rw [← h2, add_comm]
          congr 1
          ac_rfl
theorem steinitz {v u : Nat → Vec} {m n : Nat} (hi : Indep v m) (hs : ∀ i, i < m → Span u n (v i)) : m ≤ n := by
  apply Classical.byContradiction
  intro hlt
  have h' : ∀ i, ∃ a : Nat → El, i < m → v i = lc u n a := fun i => by
    by_cases h : i < m
    · obtain ⟨a, ha⟩ := hs i h
      exact ⟨a, fun _ => ha⟩
    · exact ⟨fun _ => 0, fun e => absurd e h⟩
  obtain ⟨a, ha⟩ := Classical.axiomOfChoice h'
  obtain ⟨x, ⟨i, him, hx⟩, he⟩ := hom n m (by omega) a
  refine hx (hi x ?_ i him)
  rw [lc_lc u v n m x a ha, ← lc_zero u n]
  exact lc_congr (fun _ _ => rfl) he
def snoc (b : Nat → Vec) (n : Nat) (v : Vec) : Nat → Vec := fun i => if i < n then b i else v
theorem snoc_lt {b : Nat → Vec} {n : Nat} {v : Vec} {i : Nat} (h : i < n) : snoc b n v i = b i := if_pos h
theorem snoc_at (b : Nat → Vec) (n : Nat) (v : Vec) : snoc b n v n = v := if_neg (Nat.lt_irrefl n)
theorem lc_snoc (b : Nat → Vec) (n : Nat) (v : Vec) (x : Nat → El) : lc (snoc b n v) (n + 1) x = fun j => lc b n x j + x n * v j := by
  funext j
  show sm n (fun i => x i * snoc b n v i j) + x n * snoc b n v n j = _
  rw [snoc_at]
  congr 1
  exact sm_congr fun i hi => by rw [snoc_lt hi]
theorem indep_snoc {b : Nat → Vec} {n : Nat} {v : Vec} (h : Indep b n) (hv : ¬ Span b n v) : Indep (snoc b n v) (n + 1) := by
  intro x hx i hi
  rw [lc_snoc] at hx
  have hn : x n = 0 := by
    apply Classical.byContradiction
    intro hne
    apply hv
    refine ⟨fun i => (x n).inv * x i, ?_⟩
    rw [lc_mul]
    funext j
    have := congrFun hx j
    have e : x n * v j = lc b n x j := by
      have h2 : lc b n x j + x n * v j = 0 := this
      rw [add_comm] at h2
      exact add_cancel h2
    show v j = (x n).inv * lc b n x j
    rw [← e, ← mul_assoc, inv_mul hne, one_mul]
  by_cases e : i = n
  · rw [e, hn]
  · refine h x ?_ i (by omega)
    rw [← hx]
    funext j
    show _ = lc b n x j + x n * v j
    rw [hn, zero_mul, add_zero]
theorem indep_zero (b : Nat → Vec) : Indep b 0 := fun x _ i hi => by omega
theorem extend {P : Vec → Prop} {u : Nat → Vec} {m : Nat} (hP : ∀ v, P v → Span u m v) : ∀ (d : Nat) (b : Nat → Vec) (n : Nat), m - n ≤ d → Indep b n → (∀ i, i < n → P (b i)) →
    ∃ b' n', n ≤ n' ∧ (∀ i, i < n → b' i = b i) ∧ Indep b' n' ∧ (∀ i, i < n' → P (b' i)) ∧ ∀ v, P v → Span b' n' v
  | d, b, n, hd, hi, hb => by
    by_cases hall : ∀ v, P v → Span b n v
    · exact ⟨b, n, Nat.le_refl _, fun _ _ => rfl, hi, hb, hall⟩
    · obtain ⟨v, hv, hns⟩ : ∃ v, P v ∧ ¬ Span b n v := Classical.byContradiction fun hc => hall fun v hv => Classical.byContradiction fun hne => hc ⟨v, hv, hne⟩
      have hi2 := indep_snoc hi hns
      have hb2 : ∀ i, i < n + 1 → P (snoc b n v i) := fun i h => by
        by_cases e : i < n
        · rw [snoc_lt e]; exact hb i e
        · obtain rfl : i = n := by omega
          rw [snoc_at]; exact hv
      have hle := steinitz hi2 fun i h => hP _ (hb2 i h)
      match d with
      | 0 => omega
      | d + 1 =>
        obtain ⟨b', n', h1, h2, h3⟩ := extend hP d (snoc b n v) (n + 1) (by omega) hi2 hb2
        exact ⟨b', n', by omega, fun i h => by rw [h2 i (by omega), snoc_lt h], h3⟩
def Dim (P : Vec → Prop) (n : Nat) : Prop := ∃ b, Indep b n ∧ (∀ i, i < n → P (b i)) ∧ ∀ v, P v → Span b n v
theorem dim_le {P Q : Vec → Prop} {m n : Nat} (hP : Dim P m) (hQ : Dim Q n) (h : ∀ v, P v → Q v) : m ≤ n := by
  obtain ⟨b, b1, b2, b3⟩ := hP
  obtain ⟨c, c1, c2, c3⟩ := hQ
  exact steinitz b1 fun i hi => c3 _ (h _ (b2 i hi))
theorem dim_unique {P : Vec → Prop} {m n : Nat} (h : Dim P m) (k : Dim P n) : m = n := Nat.le_antisymm (dim_le h k fun _ h => h) (dim_le k h fun _ h => h)
theorem dim_exists {P : Vec → Prop} {u : Nat → Vec} {m : Nat} (hP : ∀ v, P v → Span u m v) : ∃ n, n ≤ m ∧ Dim P n := by
  obtain ⟨b, n, _, _, h3, h4, h5⟩ := extend hP m (fun _ => zv) 0 (by omega) (indep_zero _) (fun i h => by omega)
  exact ⟨n, steinitz h3 fun i h => hP _ (h4 i h), b, h3, h4, h5⟩
theorem dim_congr {P Q : Vec → Prop} {n : Nat} (h : ∀ v, P v ↔ Q v) (k : Dim P n) : Dim Q n := by
  obtain ⟨b, b1, b2, b3⟩ := k
  exact ⟨b, b1, fun i hi => (h _).1 (b2 i hi), fun v hv => b3 v ((h v).2 hv)⟩
theorem dim_full {P : Vec → Prop} {n : Nat} (h : Dim P n) {b : Nat → Vec} (hi : Indep b n) (hb : ∀ i, i < n → P (b i)) : ∀ v, P v → Span b n v := by
  intro v hv
  apply Classical.byContradiction
  intro hns
  obtain ⟨c, c1, c2, c3⟩ := h
  have := steinitz (indep_snoc hi hns) (u := c) (n := n) fun i hlt => by
    by_cases e : i < n
    · rw [snoc_lt e]; exact c3 _ (hb i e)
    · obtain rfl : i = n := by omega
      rw [snoc_at]; exact c3 _ hv
  omega
end Go.Proofs.YtkagobkedifhkaaDoor.M
namespace Go.Proofs.YtkagobkedifhkaaDoor.M
set_option linter.unusedVariables false
structure RR (n W t : Nat) (S : Nat → Vec) (p : Nat → Nat) : Prop where
 tn : t ≤ n
 lt : ∀ i, i < t → p i < W
 mono : ∀ i k, i < k → k < t → p i < p k
 one : ∀ i, i < t → ∀ a, a < n → S a (p i) = if a = i then 1 else 0
 low : ∀ a, t ≤ a → a < n → S a = zv
 lead : ∀ i, i < t → ∀ b, b < p i → S i b = 0
 sup : ∀ a, a < n → ∀ b, W ≤ b → S a b = 0
section
variable {n W t : Nat} {S : Nat → Vec} {p : Nat → Nat}
theorem lc_low (hl : ∀ a, t ≤ a → a < n → S a = zv) (ht : t ≤ n) (x : Nat → El) : lc S n x = lc S t x := by
 funext j
 exact sm_take ht fun i h1 h2 => by rw [hl i h1 h2]; exact mul_zero _
theorem RR.at_piv (h : RR n W t S p) (x : Nat → El) {i : Nat} (hi : i < t) : lc S n x (p i) = x i := by
 have htn := h.tn
 show sm n (fun a => x a * S a (p i)) = x i
 rw [sm_one (k := i) (by omega) fun a ha hne => by rw [h.one i hi a ha, if_neg hne, mul_zero]]
 rw [h.one i hi i (by omega), if_pos rfl, mul_one]
theorem RR.coord (h : RR n W t S p) {v : Vec} (hv : Span S n v) : v = lc S t (fun i => v (p i)) := by
 obtain ⟨x, rfl⟩ := hv
 have : lc S n x = lc S t x := lc_low h.low h.tn x
 rw [this]
 refine lc_congr (fun _ _ => rfl) fun i hi => ?_
 rw [← this]
 exact (h.at_piv x hi).symm
theorem RR.indep (h : RR n W t S p) : Indep S t := by
 intro x hx i hi
 have e : lc S n (fun a => if a < t then x a else 0) = zv := by
  rw [lc_low h.low h.tn, ← hx]
  exact lc_congr (fun _ _ => rfl) fun a ha => if_pos ha
 have := h.at_piv (fun a => if a < t then x a else 0) hi
 rw [e, if_pos hi] at this
 exact this.symm
theorem RR.dim (h : RR n W t S p) : Dim (Span S n) t := ⟨S, h.indep, fun i hi => span_mem S (by have := h.tn; omega), fun v hv => ⟨_, h.coord hv⟩⟩
end
def dot (W : Nat) (r x : Vec) : El := sm W (fun b => r b * x b)
theorem dot_lc (W : Nat) (b : Nat → Vec) (n : Nat) (y : Nat → El) (x : Vec) : dot W (lc b n y) x = sm n (fun i => y i * dot W (b i) x) := by
 unfold dot lc
 have e : sm W (fun j => sm n (fun i => y i * b i j) * x j) = sm W (fun j => sm n (fun i => y i * (b i j * x j))) := sm_congr fun j _ => by
  rw [← sm_mul_right]
  exact sm_congr fun i _ => mul_assoc _ _ _
 rw [e, ← sm_swap]
 exact sm_congr fun i _ => by rw [sm_mul]
theorem dot_add (W : Nat) (r x y : Vec) : dot W r (fun j => x j + y j) = dot W r x + dot W r y := by
 unfold dot
 rw [← sm_add]
 exact sm_congr fun _ _ => mul_add _ _ _
def Ker (W n : Nat) (b : Nat → Vec) (x : Vec) : Prop := ∀ i, i < n → dot W (b i) x = 0
theorem ker_span {W n m : Nat} {b c : Nat → Vec} {x : Vec} (h : ∀ i, i < m → Span b n (c i)) (k : Ker W n b x) : Ker W m c x := fun i hi => by
 obtain ⟨y, e⟩ := h i hi
 rw [e, dot_lc]
 exact sm_zero fun a ha => by rw [k a ha, mul_zero]
theorem ker_same {W n m : Nat} {b c : Nat → Vec} {x : Vec} (h : ∀ v, Span b n v ↔ Span c m v) : Ker W n b x ↔ Ker W m c x :=
 ⟨ker_span fun i hi => (h _).2 (span_mem c hi), ker_span fun i hi => (h _).1 (span_mem b hi)⟩
section
variable {n W t : Nat} {S : Nat → Vec} {p : Nat → Nat}
def RR.kv (S : Nat → Vec) (p : Nat → Nat) (t b : Nat) : Vec := fun j => (if j = b then 1 else 0) + sm t (fun i => if j = p i then S i b else 0)
theorem RR.dot_piv (h : RR n W t S p) {x : Vec} (hx : ∀ j, j < W → (∀ i, i < t → j ≠ p i) → x j = 0) {a : Nat} (ha : a < t) : dot W (S a) x = x (p a) := by
 have htn := h.tn
 unfold dot
 rw [sm_one (k := p a) (h.lt a ha) fun j hj hne => ?_]
 ·rw [h.one a ha a (by omega), if_pos rfl, one_mul]
 ·by_cases e : ∃ i, i < t ∧ j = p i
  ·obtain ⟨i, hi, rfl⟩ := e
   rw [h.one i hi a (by omega), if_neg (fun e => hne (by rw [e])), zero_mul]
  ·rw [hx j hj fun i hi e2 => e ⟨i, hi, e2⟩, mul_zero]
theorem RR.inj (h : RR n W t S p) {i k : Nat} (hi : i < t) (hk : k < t) (e : p i = p k) : i = k := by
 rcases Nat.lt_trichotomy i k with h1 | h1 | h1
 ·have := h.mono i k h1 hk; omega
 ·exact h1
 ·have := h.mono k i h1 hi; omega
theorem RR.kv_ker (h : RR n W t S p) {b : Nat} (hbW : b < W) (hb : ∀ i, i < t → b ≠ p i) : Ker W n S (RR.kv S p t b) := fun a ha => by
 by_cases hat : a < t
 ·have e : RR.kv S p t b = fun j => (if j = b then 1 else 0) + sm t (fun i => if j = p i then S i b else 0) := rfl
  rw [e, dot_add]
  have e1 : dot W (S a) (fun j => if j = b then 1 else 0) = S a b := by
   show sm W (fun j => S a j * (if j = b then 1 else 0)) = S a b
   rw [sm_one (k := b) hbW fun j hj hne => by rw [if_neg hne, mul_zero], if_pos rfl, mul_one]
  have e2 := h.dot_piv (x := fun j => sm t (fun i => if j = p i then S i b else 0)) (fun j hj hn => sm_zero fun i hi => if_neg (hn i hi)) hat
  rw [e1, e2]
  show S a b + sm t (fun i => if p a = p i then S i b else 0) = 0
  rw [sm_one (k := a) hat fun k hk hne => if_neg fun e => hne (h.inj hat hk e).symm, if_pos rfl, add_self]
 ·rw [h.low a (by omega) ha]
  exact sm_zero fun j _ => zero_mul _
theorem RR.ker_at (h : RR n W t S p) {x : Vec} (hx : Ker W n S x) {a : Nat} (ha : a < t) : x (p a) = sm W (fun j => if ∃ i, i < t ∧ j = p i then 0 else S a j * x j) := by
 have htn := h.tn
 have e := hx a (by omega)
 unfold dot at e
 have e1 : sm W (fun b => S a b * x b) = sm W (fun j => (if ∃ i, i < t ∧ j = p i then S a j * x j else 0) + (if ∃ i, i < t ∧ j = p i then 0 else S a j * x j)) := sm_congr fun j _ => by
  split
  ·rw [add_zero]
  ·rw [zero_add]
 rw [e1, sm_add] at e
 have e2 : sm W (fun j => if ∃ i, i < t ∧ j = p i then S a j * x j else 0) = x (p a) := by
  rw [sm_one (k := p a) (h.lt a ha) fun j hj hne => ?_]
  ·rw [if_pos ⟨a, ha, rfl⟩, h.one a ha a (by omega), if_pos rfl, one_mul]
  ·split
   ·rename_i hh
    obtain ⟨i, hi, rfl⟩ := hh
    rw [h.one i hi a (by omega), if_neg (fun e => hne (by rw [e])), zero_mul]
   ·rfl
 rw [e2] at e
 exact add_cancel e
theorem RR.ker_zero (h : RR n W t S p) {x : Vec} (hx : Ker W n S x) (h0 : ∀ j, j < W → (∀ i, i < t → j ≠ p i) → x j = 0) : ∀ j, j < W → x j = 0 := fun j hj => by
 by_cases e : ∃ i, i < t ∧ j = p i
 ·obtain ⟨i, hi, rfl⟩ := e
  rw [h.ker_at hx hi]
  refine sm_zero fun k hk => ?_
  split
  ·rfl
  ·rename_i hh
   rw [h0 k hk fun i hi e => hh ⟨i, hi, e⟩, mul_zero]
 ·exact h0 j hj fun i hi e2 => e ⟨i, hi, e2⟩
end
def col (n : Nat) (N : Nat → Vec) (b : Nat) : Vec := fun a => if a < n then N a b else 0
theorem lc_col {n W : Nat} {N : Nat → Vec} {x : Nat → El} : lc (col n N) W x = fun a => if a < n then dot W (N a) x else 0 := by
 funext a
 unfold lc col dot
 split
 ·exact sm_congr fun i _ => mul_comm _ _
 ·exact sm_zero fun i _ => mul_zero _
theorem col_zero {n W : Nat} {N : Nat → Vec} {x : Nat → El} : lc (col n N) W x = zv ↔ Ker W n N x := by
 rw [lc_col]
 constructor
 ·intro h a ha
  have := congrFun h a
  rwa [if_pos ha] at this
 ·intro h
  funext a
  split
  ·rename_i ha; exact h a ha
  ·rfl
section
variable {n W t : Nat} {S N : Nat → Vec} {p : Nat → Nat}
theorem RR.col_indep (h : RR n W t S p) (hs : ∀ v, Span N n v ↔ Span S n v) {k : Nat} (hk : k ≤ t) : Indep (fun i => col n N (p i)) k := by
 intro x hx i hi
 have e : lc (col n N) W (fun j => sm k (fun i => if j = p i then x i else 0)) = lc (fun i => col n N (p i)) k x := by
  rw [show (fun j => sm k (fun i => if j = p i then x i else 0)) = fun j => sm k (fun i => x i * (if j = p i then 1 else 0)) from funext fun j => sm_congr fun i _ => by split <;> simp only [mul_one, mul_zero]]
  refine (lc_lc (col n N) (fun i => col n N (p i)) W k x (fun i j => if j = p i then 1 else 0) fun i hi => (lc_unit (col n N) (h.lt i (by omega))).symm).symm
 rw [hx, col_zero, ker_same hs] at e
 have h0 := h.ker_zero e (fun j hj hn => sm_zero fun i hi => if_neg (hn i (by omega)))
 have hit : i < t := by omega
 have h1 := e i (by have := h.tn; omega)
 have h2 := h.dot_piv (x := fun j => sm k (fun i => if j = p i then x i else 0)) (fun j hj hn => sm_zero fun i hi => if_neg (hn i (by omega))) hit
 rw [h1] at h2
 have h3 : sm k (fun i' => if p i = p i' then x i' else 0) = x i := by
  rw [sm_one (k := i) hi fun k' hk' hne => if_neg fun e => hne (h.inj hit (by omega) e).symm, if_pos rfl]
 rw [← h3]
 exact h2.symm
def below (p : Nat → Nat) (b : Nat) : Nat → Nat
 | 0 => 0
 | t + 1 => below p b t + if p t < b then 1 else 0
theorem below_le (p : Nat → Nat) (b : Nat) : ∀ t, below p b t ≤ t
 | 0 => Nat.le_refl _
 | t + 1 => by
  have := below_le p b t
  unfold below
  split <;> omega
theorem below_iff {p : Nat → Nat} {b t : Nat} (m : ∀ i k, i < k → k < t → p i < p k) : ∀ i, i < t → (i < below p b t ↔ p i < b) := by
 induction t with
 | zero => intro i hi; omega
 | succ t ih =>
  have ih := ih fun i k a c => m i k a (by omega)
  intro i hi
  have hle := below_le p b t
  unfold below
  by_cases e : i = t
  ·subst e
   by_cases h : p i < b
   ·rw [if_pos h]
    have : below p b i = i := by
     rcases Nat.lt_or_ge (below p b i) i with h1 | h1
     ·have h2 := (ih (below p b i) h1)
      have h3 := m (below p b i) i h1 (by omega)
      have := h2.2 (by omega)
      omega
     ·omega
    exact ⟨fun _ => h, fun _ => by omega⟩
   ·rw [if_neg h]
    exact ⟨fun x => absurd x (by omega), fun x => absurd x h⟩
  ·have h1 := ih i (by omega)
   by_cases h : p t < b
   ·rw [if_pos h]
    have h3 := m i t (by omega) (by omega)
    have := h1.2 (by omega)
    exact ⟨fun _ => by omega, fun _ => by omega⟩
   ·rw [if_neg h, Nat.add_zero]
    exact h1
theorem RR.col_span (h : RR n W t S p) (hs : ∀ v, Span N n v ↔ Span S n v) {b c : Nat} (hb : b < W) (hbc : b < c) : Span (fun i => col n N (p i)) (below p c t) (col n N b) := by
 by_cases e : ∃ i, i < t ∧ b = p i
 ·obtain ⟨i, hi, rfl⟩ := e
  exact span_mem (fun i => col n N (p i)) ((below_iff h.mono i hi).2 hbc)
 ·have hb2 : ∀ i, i < t → b ≠ p i := fun i hi e2 => e ⟨i, hi, e2⟩
  have hk : lc (col n N) W (RR.kv S p t b) = zv := by rw [col_zero, ker_same hs]; exact h.kv_ker hb hb2
  have e1 : RR.kv S p t b = fun j => (if j = b then 1 else 0) + sm t (fun i => if j = p i then S i b else 0) := rfl
  rw [e1, lc_add] at hk
  refine ⟨fun i => S i b, ?_⟩
  have e2 : lc (col n N) W (fun j => sm t (fun i => if j = p i then S i b else 0)) = lc (fun i => col n N (p i)) t (fun i => S i b) := by
   rw [show (fun j => sm t (fun i => if j = p i then S i b else 0)) = fun j => sm t (fun i => S i b * (if j = p i then 1 else 0)) from funext fun j => sm_congr fun i _ => by split <;> simp only [mul_one, mul_zero]]
   exact (lc_lc (col n N) (fun i => col n N (p i)) W t (fun i => S i b) (fun i j => if j = p i then 1 else 0) fun i hi => (lc_unit (col n N) (h.lt i hi)).symm).symm
  have e3 : lc (fun i => col n N (p i)) t (fun i => S i b) = lc (fun i => col n N (p i)) (below p c t) (fun i => S i b) := by
   funext a
   refine sm_take (below_le p c t) fun i h1 h2 => ?_
   have : ¬ p i < c := fun h3 => by have := (below_iff h.mono i h2).2 h3; omega
   show S i b * _ = 0
   rw [h.lead i h2 b (by omega), zero_mul]
  funext a
  have e4 := congrFun hk a
  rw [lc_unit (col n N) hb, e2, e3] at e4
  exact add_cancel e4
theorem RR.col_dim (h : RR n W t S p) (hs : ∀ v, Span N n v ↔ Span S n v) {c : Nat} (hc : c ≤ W) : Dim (Span (col n N) c) (below p c t) := by
 refine ⟨fun i => col n N (p i), h.col_indep hs (below_le p c t), fun i hi => ?_, fun v hv => span_trans (fun b hb => h.col_span hs (by omega) hb) hv⟩
 have hit : i < t := Nat.lt_of_lt_of_le hi (below_le p c t)
 exact span_mem (col n N) ((below_iff h.mono i hit).1 hi)
end
end Go.Proofs.YtkagobkedifhkaaDoor.M
namespace Go.Proofs.YtkagobkedifhkaaDoor.M
open Go.RowKit Go.Proofs.YtkagobkedifhkaaDoorW.PrintWords Go.Proofs.YtkagobkedifhkaaDoorW.PrintLast Go.Proofs.YtkagobkedifhkaaDoorW.PrintMore Go.Proofs.YtkagobkedifhkaaDoor.Q
set_option linter.unusedVariables false
def mv (A : List (List Int)) (W : Nat) : Nat → Vec := fun i j => if j < W then toE (entry A i j) else 0
theorem mv_at {A : List (List Int)} {W i j : Nat} (h : j < W) : mv A W i j = toE (entry A i j) := if_pos h
theorem mv_out {A : List (List Int)} {W i j : Nat} (h : ¬ j < W) : mv A W i j = 0 := if_neg h
theorem invT_mul {a : Int} (h : 0 ≤ a ∧ a < 256) (h0 : a ≠ 0) : toE (invT a) * toE a = 1 := by rw [invT_el h h0, inv_mul (toE_ne h h0)]
theorem invT_ne {a : Int} (h : 0 ≤ a ∧ a < 256) (h0 : a ≠ 0) : toE (invT a) ≠ 0 := by rw [invT_el h h0]; exact inv_ne (toE_ne h h0)
theorem mv_swap {A : List (List Int)} {W top i : Nat} {o : Int} (h : Sh A W) (ho : 0 ≤ o ∧ o < 256) (ht : top < A.length) (hi : i < A.length) (a : Nat) : mv (swapS o A top i) W a = if a = top then (fun b => toE o * mv A W i b) else if a = i then mv A W top else mv A W a := by
  funext b
  by_cases hb : b < W
  · rw [mv_at hb, entry_swap h ht hi hb]
    by_cases e1 : a = top
    · rw [if_pos e1, if_pos e1, mv_at hb, mulT_el ho (h.byte hi hb)]
    · rw [if_neg e1, if_neg e1]
      by_cases e2 : a = i
      · rw [if_pos e2, if_pos e2, mv_at hb]
      · rw [if_neg e2, if_neg e2, mv_at hb]
  · rw [mv_out hb]
    by_cases e1 : a = top
    · rw [if_pos e1, mv_out hb, mul_zero]
    · rw [if_neg e1]
      by_cases e2 : a = i
      · rw [if_pos e2, mv_out hb]
      · rw [if_neg e2, mv_out hb]
theorem mv_mac {A : List (List Int)} {W top k : Nat} {c : Int} (h : Sh A W) (hc : 0 ≤ c ∧ c < 256) (ht : top < A.length) (hk : k < A.length) (a : Nat) : mv (macS A k top c) W a = if a = k then (fun b => toE c * mv A W top b + mv A W k b) else mv A W a := by
  funext b
  by_cases hb : b < W
  · rw [mv_at hb, entry_mac h ht hk hb]
    by_cases e1 : a = k
    · rw [if_pos e1, if_pos e1, mv_at hb, mv_at hb, xor_el, mulT_el hc (h.byte ht hb)]
    · rw [if_neg e1, if_neg e1, mv_at hb]
  · rw [mv_out hb]
    by_cases e1 : a = k
    · rw [if_pos e1, mv_out hb, mv_out hb, mul_zero, add_zero]
    · rw [if_neg e1, mv_out hb]
theorem mv_el {A : List (List Int)} {W top col : Nat} (h : Sh A W) (ht : top < A.length) (hc : col < W) : ∀ k, k ≤ A.length → ∀ a, mv (el1 col top k A) W a = if a < k ∧ a ≠ top then (fun b => mv A W a col * mv A W top b + mv A W a b) else mv A W a
  | 0, _, a => by rw [if_neg (by omega)]; rfl
  | k + 1, hk, a => by
    have ih := mv_el h ht hc k (by omega)
    obtain ⟨hT, hTl⟩ := h.el (col := col) ht k (by omega)
    have hE : el1 col top (k + 1) A = (if k ≠ top ∧ entry (el1 col top k A) k col ≠ 0 then macS (el1 col top k A) k top (entry (el1 col top k A) k col) else el1 col top k A) := rfl
    have hk2 : mv (el1 col top k A) W k = mv A W k := by rw [ih, if_neg (by omega)]
    have ht2 : mv (el1 col top k A) W top = mv A W top := by rw [ih, if_neg (by omega)]
    have hkc : toE (entry (el1 col top k A) k col) = mv A W k col := by rw [← hk2, mv_at hc]
    rw [hE]
    generalize el1 col top k A = T at *
    by_cases e : k ≠ top ∧ entry T k col ≠ 0
    · rw [if_pos e, mv_mac hT (hT.byte (by omega) hc) (by omega) (by omega)]
      by_cases e2 : a = k
      · subst e2
        rw [if_pos rfl, if_pos ⟨by omega, e.1⟩, hkc, ht2, hk2]
      · rw [if_neg e2, ih]
        by_cases e3 : a < k ∧ a ≠ top
        · rw [if_pos e3, if_pos ⟨by omega, e3.2⟩]
        · rw [if_neg e3, if_neg (by omega)]
    · rw [if_neg e, ih]
      by_cases e3 : a < k ∧ a ≠ top
      · rw [if_pos e3, if_pos ⟨by omega, e3.2⟩]
      · rw [if_neg e3]
        by_cases e4 : a < k + 1 ∧ a ≠ top
        · rw [if_pos e4]
          obtain rfl : a = k := by omega
          have h0 : entry T a col = 0 := Classical.byContradiction fun hn => e ⟨e4.2, hn⟩
          rw [h0, toE_zero] at hkc
          funext b
          rw [← hkc, zero_mul, zero_add]
        · rw [if_neg e4]
theorem span_iff {b c : Nat → Vec} {n : Nat} (h1 : ∀ i, i < n → Span b n (c i)) (h2 : ∀ i, i < n → Span c n (b i)) (v : Vec) : Span c n v ↔ Span b n v := ⟨span_trans h1, span_trans h2⟩
theorem span_swap {A : List (List Int)} {W top i : Nat} {o : Int} (h : Sh A W) (ho : 0 ≤ o ∧ o < 256) (h0 : toE o ≠ 0) (ht : top < A.length) (hi : i < A.length) (v : Vec) : Span (mv (swapS o A top i) W) A.length v ↔ Span (mv A W) A.length v := by
  have hm := mv_swap h ho ht hi
  refine span_iff (fun a ha => ?_) (fun a ha => ?_) v
  · rw [hm]
    split
    · exact span_mul _ (span_mem _ hi)
    · split
      · exact span_mem _ ht
      · exact span_mem _ ha
  · by_cases e1 : a = i
    · subst e1
      have : mv A W a = fun b => (toE o).inv * mv (swapS o A top a) W top b := by
        funext b
        rw [hm, if_pos rfl, ← mul_assoc, inv_mul h0, one_mul]
      rw [this]
      exact span_mul _ (span_mem _ ht)
    · by_cases e2 : a = top
      · subst e2
        have : mv A W a = mv (swapS o A a i) W i := by rw [hm, if_neg (fun e => e1 e.symm), if_pos rfl]
        rw [this]
        exact span_mem _ hi
      · have : mv A W a = mv (swapS o A top i) W a := by rw [hm, if_neg e2, if_neg e1]
        rw [this]
        exact span_mem _ ha
theorem span_el {A : List (List Int)} {W top col : Nat} (h : Sh A W) (ht : top < A.length) (hc : col < W) (v : Vec) : Span (mv (el1 col top A.length A) W) A.length v ↔ Span (mv A W) A.length v := by
  have hm := mv_el h ht hc A.length (Nat.le_refl _)
  refine span_iff (fun a ha => ?_) (fun a ha => ?_) v
  · rw [hm]
    split
    · exact span_add (span_mul _ (span_mem _ ht)) (span_mem _ ha)
    · exact span_mem _ ha
  · by_cases e : a = top
    · subst e
      have : mv A W a = mv (el1 col a A.length A) W a := by rw [hm, if_neg (fun hh => hh.2 rfl)]
      rw [this]
      exact span_mem _ ha
    · have : mv A W a = fun b => mv A W a col * mv (el1 col top A.length A) W top b + mv (el1 col top A.length A) W a b := by
        funext b
        rw [hm, hm, if_neg (fun hh => hh.2 rfl), if_pos ⟨ha, e⟩, ← add_assoc, add_self, zero_add]
      rw [this]
      exact span_add (span_mul _ (span_mem _ ht)) (span_mem _ ha)
def pv (P : List Int) (i : Nat) : Nat := (P.getD i 0).toNat
theorem pv_last (P : List Int) (j : Nat) : pv (P ++ [(j : Int)]) P.length = j := by
  unfold pv
  rw [List.getD_eq_getElem?_getD, List.getElem?_append_right (Nat.le_refl _), Nat.sub_self]
  rfl
theorem pv_init {P : List Int} {j i : Nat} (hi : i < P.length) : pv (P ++ [(j : Int)]) i = pv P i := by
  unfold pv
  rw [List.getD_eq_getElem?_getD, List.getElem?_append_left hi, ← List.getD_eq_getElem?_getD]
structure RI (A S : List (List Int)) (W j : Nat) (P : List Int) : Prop where
  sh : Sh S W
  len : S.length = A.length
  tn : P.length ≤ A.length
  nat : ∀ i, i < P.length → P.getD i 0 = (pv P i : Int)
  lt : ∀ i, i < P.length → pv P i < j
  mono : ∀ i k, i < k → k < P.length → pv P i < pv P k
  one : ∀ i, i < P.length → ∀ a, a < A.length → mv S W a (pv P i) = if a = i then 1 else 0
  low : ∀ a, P.length ≤ a → a < A.length → ∀ b, b < j → mv S W a b = 0
  lead : ∀ i, i < P.length → ∀ b, b < pv P i → mv S W i b = 0
  span : ∀ v, Span (mv S W) A.length v ↔ Span (mv A W) A.length v
theorem RI.step {A S : List (List Int)} {W j : Nat} {P : List Int} (h : RI A S W j P) (hj : j < W) {x : Nat} (hx : P.length ≤ x) (hxn : x < A.length) (h0 : entry S x j ≠ 0) :
    RI A (el1 j P.length S.length (swapS (invT (entry S x j)) S P.length x)) W (j + 1) (P ++ [(j : Int)]) := by
  have hlen := h.len
  have hb := h.sh.byte (i := x) (j := j) (by omega) hj
  have ho := invT_range hb h0
  have hxl : x < S.length := by omega
  have htl : P.length < S.length := by omega
  have hsw := h.sh.swap ho htl hxl
  have hsl : (swapS (invT (entry S x j)) S P.length x).length = S.length := by simp [swapS]
  have hB := mv_swap h.sh ho htl hxl
  have hel := hsw.el (col := j) (top := P.length) (by omega) S.length (by omega)
  have hmE := mv_el hsw (top := P.length) (col := j) (by omega) hj S.length (by omega)
  have hsp1 := span_swap h.sh ho (invT_ne hb h0) htl hxl
  have hsp2 := span_el hsw (top := P.length) (col := j) (by omega) hj
  have hp1 : toE (invT (entry S x j)) * mv S W x j = 1 := by rw [mv_at hj]; exact invT_mul hb h0
  rw [hsl] at hsp2
  generalize swapS (invT (entry S x j)) S P.length x = B at *
  generalize toE (invT (entry S x j)) = o at *
  -- the row that has come up
  have hT : ∀ b, b < j → mv B W P.length b = 0 := fun b hbj => by
    rw [hB, if_pos rfl]
    show o * mv S W x b = 0
    rw [h.low x hx hxn b hbj, mul_zero]
  have hTj : mv B W P.length j = 1 := by rw [hB, if_pos rfl]; exact hp1
  have hlow : ∀ a, P.length < a → a < A.length → ∀ b, b < j → mv B W a b = 0 := fun a h1 h2 b hbj => by
    rw [hB, if_neg (by omega)]
    split
    · exact h.low _ (Nat.le_refl _) (by omega) b hbj
    · exact h.low a (by omega) h2 b hbj
  have htop : ∀ a, a < P.length → mv B W a = mv S W a := fun a ha => by rw [hB, if_neg (by omega), if_neg (by omega)]
  have hcol : ∀ i, i < P.length → ∀ a, a < A.length → mv B W a (pv P i) = if a = i then 1 else 0 := fun i hi a ha => by
    have hpj := h.lt i hi
    by_cases e : a < P.length
    · rw [htop a e]; exact h.one i hi a ha
    · rw [if_neg (by omega)]
      by_cases e2 : a = P.length
      · subst e2; exact hT _ hpj
      · exact hlow a (by omega) ha _ hpj
  have hE : ∀ a, a < A.length → mv (el1 j P.length S.length B) W a = if a ≠ P.length then (fun b => mv B W a j * mv B W P.length b + mv B W a b) else mv B W a := fun a ha => by
    rw [hmE]
    by_cases e : a = P.length
    · rw [if_neg (fun hh => hh.2 e), if_neg (fun hh => hh e)]
    · rw [if_pos ⟨by omega, e⟩, if_pos e]
  have hEj : ∀ a, a < A.length → mv (el1 j P.length S.length B) W a j = if a = P.length then 1 else 0 := fun a ha => by
    rw [hE a ha]
    by_cases e : a = P.length
    · subst e
      rw [if_neg (fun hh => hh rfl), if_pos rfl, hTj]
    · rw [if_pos e, if_neg e]
      show mv B W a j * mv B W P.length j + mv B W a j = 0
      rw [hTj, mul_one, add_self]
  have hElo : ∀ a, a < A.length → ∀ b, b < j → mv (el1 j P.length S.length B) W a b = mv B W a b := fun a ha b hb => by
    rw [hE a ha]
    split
    · show mv B W a j * mv B W P.length b + mv B W a b = _
      rw [hT b hb, mul_zero, zero_add]
    · rfl
  have hL : (P ++ [(j : Int)]).length = P.length + 1 := by simp
  refine ⟨hel.1, by omega, by omega, fun i hi => ?_, fun i hi => ?_, fun i k hik hk => ?_, fun i hi a ha => ?_, fun a h1 h2 b hbj => ?_, fun i hi b hbi => ?_, fun v => ?_⟩
  · rw [hL] at hi
    by_cases e : i = P.length
    · subst e
      rw [pv_last, List.getD_eq_getElem?_getD, List.getElem?_append_right (Nat.le_refl _), Nat.sub_self]
      rfl
    · rw [pv_init (by omega), ← h.nat i (by omega), List.getD_eq_getElem?_getD, List.getElem?_append_left (by omega), ← List.getD_eq_getElem?_getD]
  · rw [hL] at hi
    by_cases e : i = P.length
    · subst e; rw [pv_last]; omega
    · rw [pv_init (by omega)]; have := h.lt i (by omega); omega
  · rw [hL] at hk
    by_cases e : k = P.length
    · subst e; rw [pv_last, pv_init hik]; exact h.lt i hik
    · rw [pv_init (by omega), pv_init (by omega)]; exact h.mono i k hik (by omega)
  · rw [hL] at hi
    by_cases e : i = P.length
    · subst e; rw [pv_last]; exact hEj a ha
    · rw [pv_init (by omega), hElo a ha _ (h.lt i (by omega))]
      exact hcol i (by omega) a ha
  · rw [hL] at h1
    by_cases e : b = j
    · subst e
      rw [hEj a h2, if_neg (by omega)]
    · rw [hElo a h2 b (by omega)]
      exact hlow a (by omega) h2 b (by omega)
  · rw [hL] at hi
    by_cases e : i = P.length
    · subst e
      rw [pv_last] at hbi
      rw [hElo _ (by omega) b hbi]
      exact hT b hbi
    · rw [pv_init (by omega)] at hbi
      have hlt := h.lt i (by omega)
      rw [hElo i (by omega) b (by omega), htop i (by omega)]
      exact h.lead i (by omega) b hbi
  · rw [← h.span, ← hlen, hsp2 v]
    exact hsp1 v
theorem redA_inv {A : List (List Int)} {W : Nat} (h : Sh A W) : ∀ j, j ≤ W → RI A (redA A j).1 W j (redA A j).2
  | 0, _ => ⟨h, rfl, Nat.zero_le _, fun i hi => absurd hi (Nat.not_lt_zero _), fun i hi => absurd hi (Nat.not_lt_zero _), fun i k _ hk => absurd hk (Nat.not_lt_zero _), fun i hi => absurd hi (Nat.not_lt_zero _), fun a _ _ b hb => absurd hb (Nat.not_lt_zero _), fun i hi => absurd hi (Nat.not_lt_zero _), fun v => Iff.rfl⟩
  | j + 1, hj => by
    have ih := redA_inv h j (by omega)
    show RI A (stepA j (redA A j)).1 W (j + 1) (stepA j (redA A j)).2
    generalize redA A j = T at *
    cases hf : firstIn T.1 T.2.length j with
    | none =>
      rw [stepA_none hf]
      have hz := seek_zero _ _ hf
      have hlen := ih.len
      exact ⟨ih.sh, ih.len, ih.tn, ih.nat, fun i hi => Nat.lt_succ_of_lt (ih.lt i hi), ih.mono, ih.one, fun a h1 h2 b hb => by
        by_cases e : b = j
        · subst e
          rw [mv_at (by omega), hz a h1 (by have := ih.tn; omega), toE_zero]
        · exact ih.low a h1 h2 b (by omega), ih.lead, ih.span⟩
    | some x =>
      obtain ⟨q1, q2, q3, _⟩ := seekCol_spec _ _ hf
      have hlen := ih.len
      have htn := ih.tn
      rw [stepA_some hf]
      exact ih.step (by omega) q1 (by omega) q3
theorem RI.rr {A S : List (List Int)} {W : Nat} {P : List Int} (h : RI A S W W P) : RR A.length W P.length (mv S W) (pv P) :=
  ⟨h.tn, h.lt, h.mono, h.one, fun a h1 h2 => funext fun b => by
    by_cases e : b < W
    · exact h.low a h1 h2 b e
    · exact mv_out e, h.lead, fun a _ b hb => mv_out (by omega)⟩
def rk (A : List (List Int)) (W : Nat) : Nat := (redA A W).2.length
theorem redA_rr {A : List (List Int)} {W : Nat} (h : Sh A W) : RR A.length W (rk A W) (mv (redA A W).1 W) (pv (redA A W).2) := (redA_inv h W (Nat.le_refl _)).rr
theorem redA_span {A : List (List Int)} {W : Nat} (h : Sh A W) (v : Vec) : Span (mv (redA A W).1 W) A.length v ↔ Span (mv A W) A.length v := (redA_inv h W (Nat.le_refl _)).span v
theorem rk_dim {A : List (List Int)} {W : Nat} (h : Sh A W) : Dim (Span (mv A W) A.length) (rk A W) := dim_congr (redA_span h) (redA_rr h).dim
end Go.Proofs.YtkagobkedifhkaaDoor.M
namespace Go.Proofs.YtkagobkedifhkaaDoor.M
open Go.RowKit Go.Proofs.YtkagobkedifhkaaDoorW.PrintWords Go.Proofs.YtkagobkedifhkaaDoorW.PrintLast Go.Proofs.YtkagobkedifhkaaDoorW.PrintMore Go.Proofs.YtkagobkedifhkaaDoor.Q
set_option linter.unusedVariables false
theorem right_of {r c : Nat} {l : List Int} (hr : r ≤ 64) (hc : c ≤ 64) (hl : l.length = r * c) : matrix_Right.f (r : Int) (c : Int) l = some true ∧ recoupref03_Right.f (r : Int) (c : Int) l = some true := by
 have hf := flat_rowsOf r l hl
 have hlen := rowsOf_length c r l
 have h1 := Right_true hf.2 (by omega) hc
 rw [hf.1, hlen] at h1
 exact ⟨(Right_eq (a := (r : Int)) (b := (c : Int)) (l := l) (by omega)) ▸ h1, h1⟩
theorem trans_length (r c : Nat) (l : List Int) : (transL r c l).length = c * r := by simp [transL]
theorem trans_getD {r c i j : Nat} {l : List Int} (hi : i < c) (hj : j < r) : (transL r c l).getD (i * r + j) 0 = l.getD (j * c + i) 0 := by
 have hq := idx_lt (c := r) hi hj
 unfold transL
 rw [List.getD_eq_getElem?_getD, List.getElem?_map, List.getElem?_range hq]
 show l.getD ((i * r + j) % r * c + (i * r + j) / r) 0 = _
 have e1 : (i * r + j) % r = j := by rw [Nat.mul_comm, Nat.mul_add_mod, Nat.mod_eq_of_lt hj]
 have e2 : (i * r + j) / r = i := by
  rw [Nat.mul_comm, Nat.mul_add_div (by omega), Nat.div_eq_of_lt hj, Nat.add_zero]
 rw [e1, e2]
theorem rows_entry {r c i j : Nat} {l : List Int} (hl : l.length = r * c) (hi : i < r) (hj : j < c) : entry (rowsOf c r l) i j = l.getD (i * c + j) 0 := by
 have hf := flat_rowsOf r l hl
 have := flat_get hf.2 (by rw [rowsOf_length]; exact hi) hj
 rw [hf.1] at this
 exact this.symm
theorem trans_entry {r c i j : Nat} {l : List Int} (hl : l.length = r * c) (hi : i < c) (hj : j < r) : entry (rowsOf r c (transL r c l)) i j = entry (rowsOf c r l) j i := by
 rw [rows_entry (trans_length r c l) hi hj, rows_entry hl hj hi, trans_getD hi hj]
theorem getD_bytes {l : List Int} (h : bytesB l = true) (q : Nat) : 0 ≤ l.getD q 0 ∧ l.getD q 0 < 256 := by
 by_cases e : q < l.length
 ·exact bytesB_at h e
 ·rw [List.getD_eq_getElem?_getD, List.getElem?_eq_none (by omega)]
  exact ⟨by decide, by decide⟩
theorem trans_bytes {r c : Nat} {l : List Int} (h : bytesB l = true) : bytesB (transL r c l) = true := by
 unfold bytesB
 rw [List.all_eq_true]
 intro x hx
 unfold transL at hx
 obtain ⟨q, _, rfl⟩ := List.mem_map.1 hx
 have := getD_bytes h (q % r * c + q / r)
 rw [Bool.and_eq_true, decide_eq_true_eq, decide_eq_true_eq]
 exact this
theorem gTrans_eq {r c : Nat} {l : List Int} (h : matrix_Right.f (r : Int) (c : Int) l = some true) : matrix_Transpose.f (r : Int) (c : Int) l = some ((c : Int), (r : Int), transL r c l, 0) := by
 unfold matrix_Transpose.f
 rw [h, Option.bind_some, if_pos rfl]
 rfl
theorem sh_rows {r c : Nat} {l : List Int} (hb : bytesB l = true) (hl : l.length = r * c) (hr : r ≤ 64) (hc : c ≤ 64) : Sh (rowsOf c r l) c := Sh.of1 (shp_nil hb hl ⟨hr, hc⟩)
theorem col_trans {r c b : Nat} {l : List Int} (hl : l.length = r * c) (hb : b < r) : col c (mv (rowsOf r c (transL r c l)) r) b = mv (rowsOf c r l) c b := by
 funext a
 unfold col mv
 by_cases ha : a < c
 ·rw [if_pos ha, if_pos hb, if_pos ha, trans_entry hl ha hb]
 ·rw [if_neg ha, if_neg ha]
theorem span_congr {b c : Nat → Vec} {n : Nat} (h : ∀ i, i < n → b i = c i) (v : Vec) : Span b n v ↔ Span c n v :=
 ⟨fun ⟨x, e⟩ => ⟨x, e.trans (lc_congr h fun _ _ => rfl)⟩, fun ⟨x, e⟩ => ⟨x, e.trans (lc_congr (fun i hi => (h i hi).symm) fun _ _ => rfl)⟩⟩
def fstP (r c : Nat) (l : List Int) : List Int := (redA (rowsOf r c (transL r c l)) r).2
theorem trans_rr {r c : Nat} {l : List Int} (hb : bytesB l = true) (hl : l.length = r * c) (hr : r ≤ 64) (hc : c ≤ 64) :
  RI (rowsOf r c (transL r c l)) (redA (rowsOf r c (transL r c l)) r).1 r r (fstP r c l) := redA_inv (sh_rows (trans_bytes hb) (trans_length r c l) hc hr) r (Nat.le_refl _)
theorem prefix_dim {r c i : Nat} {l : List Int} (hb : bytesB l = true) (hl : l.length = r * c) (hr : r ≤ 64) (hc : c ≤ 64) (hi : i ≤ r) :
  Dim (Span (mv (rowsOf c r l) c) i) (below (pv (fstP r c l)) i (fstP r c l).length) := by
 have h := trans_rr hb hl hr hc
 have hd := h.rr.col_dim (N := mv (rowsOf r c (transL r c l)) r) (fun v => (h.span v).symm) hi
 have hn := rowsOf_length r c (transL r c l)
 rw [hn] at hd
 exact dim_congr (span_congr fun b hb' => col_trans hl (by omega)) hd
theorem rowsOf_elem {r c p : Nat} {l : List Int} (h : p < (rowsOf c r l).length) : (rowsOf c r l)[p] = (l.drop (p * c)).take c := by simp [rowsOf]
theorem prefix_rows {r c i : Nat} {l : List Int} (hl : l.length = r * c) (hi : i ≤ r) : rowsOf c i (l.take (i * c)) = (rowsOf c r l).take i := by
 have hic : i * c ≤ r * c := Nat.mul_le_mul_right _ hi
 refine List.ext_getElem (by rw [rowsOf_length, List.length_take, rowsOf_length]; omega) fun p h1 h2 => ?_
 rw [List.getElem_take, rowsOf_elem, rowsOf_elem, List.drop_take, List.take_take]
 rw [rowsOf_length] at h1
 have : (p + 1) * c ≤ i * c := Nat.mul_le_mul_right _ h1
 rw [Nat.succ_mul] at this
 rw [Nat.min_eq_left (by omega)]
theorem prefix_rk {r c i : Nat} {l : List Int} (hb : bytesB l = true) (hl : l.length = r * c) (hr : r ≤ 64) (hc : c ≤ 64) (hi : i ≤ r) : (redL i c (l.take (i * c))).2.length = below (pv (fstP r c l)) i (fstP r c l).length := by
 have hic : i * c ≤ r * c := Nat.mul_le_mul_right _ hi
 have hl2 : (l.take (i * c)).length = i * c := by rw [List.length_take]; omega
 have hsh := sh_rows (bytesB_take hb (i * c)) hl2 (by omega : i ≤ 64) hc
 have hd := rk_dim hsh
 have e : (redL i c (l.take (i * c))).2 = (redA (rowsOf c i (l.take (i * c))) c).2 := (Prod.mk.inj (red_fst (rowsOf c i (l.take (i * c))) (List.replicate i []) c)).2
 rw [e]
 show rk (rowsOf c i (l.take (i * c))) c = _
 rw [rowsOf_length] at hd
 refine dim_unique hd (dim_congr (span_congr fun a ha => ?_) (prefix_dim hb hl hr hc hi))
 funext b
 unfold mv
 by_cases hbc : b < c
 ·rw [if_pos hbc, if_pos hbc, prefix_rows hl hi]
  unfold entry
  rw [List.getD_eq_getElem?_getD, List.getD_eq_getElem?_getD (l := (rowsOf c r l).take i), List.getElem?_take_of_lt ha]
  rfl
 ·rw [if_neg hbc, if_neg hbc]
theorem below_step {p : Nat → Nat} {t i : Nat} (m : ∀ i k, i < k → k < t → p i < p k) : below p (i + 1) t = if below p i t < t ∧ p (below p i t) = i then below p i t + 1 else below p i t := by
 have l1 := below_le p i t
 have l2 := below_le p (i + 1) t
 have b1 := below_iff (b := i) m
 have b2 := below_iff (b := i + 1) m
 have key : ∀ s' s : Nat, s ≤ t → s' ≤ t → (∀ k, k < t → (k < s ↔ k < s')) → s = s' := fun s' s h1 h2 h => by
  rcases Nat.lt_trichotomy s s' with h3 | h3 | h3
  ·have := (h s (by omega)).2 h3; omega
  ·exact h3
  ·have := (h s' (by omega)).1 h3; omega
 by_cases e : below p i t < t ∧ p (below p i t) = i
 ·rw [if_pos e]
  refine key _ _ l2 (by omega) fun k hk => ?_
  rw [b2 k hk]
  constructor
  ·intro h
   by_cases h1 : k < below p i t
   ·omega
   ·by_cases h2 : k = below p i t
    ·omega
    ·have := m (below p i t) k (by omega) hk; omega
  ·intro h
   by_cases h1 : k < below p i t
   ·have := (b1 k hk).1 h1; omega
   ·have : k = below p i t := by omega
    rw [this, e.2]; omega
 ·rw [if_neg e]
  refine key _ _ l2 l1 fun k hk => ?_
  rw [b2 k hk, b1 k hk]
  constructor
  ·intro h
   by_cases h1 : p k = i
   ·exfalso
    refine e ?_
    have h2 : ¬ k < below p i t := fun h3 => by have := (b1 k hk).1 h3; omega
    have h4 : below p i t = k := by
     rcases Nat.lt_or_ge (below p i t) k with h5 | h5
     ·have h6 := m _ k h5 hk
      have := (b1 (below p i t) (by omega)).2 (by omega)
      omega
     ·omega
    rw [h4]
    exact ⟨hk, h1⟩
   ·omega
  ·intro h; omega
theorem below_all {p : Nat → Nat} {b : Nat} : ∀ t, (∀ i, i < t → p i < b) → below p b t = t
 | 0, _ => rfl
 | t + 1, h => by
  have := below_all t fun i hi => h i (by omega)
  unfold below
  rw [if_pos (h t (by omega)), this]
end Go.Proofs.YtkagobkedifhkaaDoor.M
namespace Go.Proofs.YtkagobkedifhkaaDoor.M
open Go.RowKit Go.Proofs.YtkagobkedifhkaaDoorW.PrintWords Go.Proofs.YtkagobkedifhkaaDoorW.PrintLast Go.Proofs.YtkagobkedifhkaaDoorW.PrintMore Go.Proofs.YtkagobkedifhkaaDoor.Q
set_option linter.unusedVariables false
theorem fstP_red {r c : Nat} {l : List Int} : (redL c r (transL r c l)).2 = fstP r c l := (Prod.mk.inj (red_fst (rowsOf r c (transL r c l)) (List.replicate c []) r)).2
theorem gFirst_eq {r c : Nat} {l : List Int} (hb : bytesB l = true) (hl : l.length = r * c) (hr : r ≤ 64) (hc : c ≤ 64) : gauss_First.f (r : Int) (c : Int) l = some (fstP r c l, 0) := by
 unfold gauss_First.f
 rw [gTrans_eq (right_of hr hc hl).1, Option.bind_some, if_pos rfl, gReduce_eq (right_of hc hr (trans_length r c l)).1 (trans_bytes hb), Option.bind_some, fstP_red]
section
variable {r c : Nat} {l : List Int}
theorem fst_len (hb : bytesB l = true) (hl : l.length = r * c) (hr : r ≤ 64) (hc : c ≤ 64) : (fstP r c l).length ≤ c := by
 have := (trans_rr hb hl hr hc).tn
 rwa [rowsOf_length] at this
theorem fst_in (hb : bytesB l = true) (hl : l.length = r * c) (hr : r ≤ 64) (hc : c ≤ 64) : ∀ x ∈ fstP r c l, 0 ≤ x ∧ x < (r : Int) := fun x hx => by
 obtain ⟨i, hi, rfl⟩ := List.getElem_of_mem hx
 have h1 := (trans_rr hb hl hr hc).nat i hi
 have h2 := (trans_rr hb hl hr hc).lt i hi
 rw [List.getD_eq_getElem?_getD, List.getElem?_eq_getElem hi, Option.getD_some] at h1
 omega
theorem inB_of {L : List Int} (h : ∀ x ∈ L, 0 ≤ x ∧ x < (r : Int)) : inB (r : Int) L = true := by
 unfold inB
 rw [List.all_eq_true]
 intro x hx
 rw [Bool.and_eq_true, decide_eq_true_eq, decide_eq_true_eq]
 exact h x hx
theorem seg_row (hl : l.length = r * c) {x : Int} (h : 0 ≤ x ∧ x < (r : Int)) : segP c l x = (rowsOf c r l).getD x.toNat [] := by
 have hx : x.toNat < r := by omega
 unfold segP
 rw [List.getD_eq_getElem?_getD, List.getElem?_eq_getElem (by rw [rowsOf_length]; exact hx), Option.getD_some, rowsOf_elem]
theorem pick_rows (hl : l.length = r * c) {L : List Int} (h : ∀ x ∈ L, 0 ≤ x ∧ x < (r : Int)) : pickL c l L = (L.map fun x => (rowsOf c r l).getD x.toNat []).flatten := by
 unfold pickL
 congr 1
 exact List.map_congr_left fun x hx => seg_row hl (h x hx)
theorem pick_len (hl : l.length = r * c) {L : List Int} (h : ∀ x ∈ L, 0 ≤ x ∧ x < (r : Int)) : (pickL c l L).length = L.length * c := by
 have hU := (flat_rowsOf r l hl).2
 rw [pick_rows hl h, flat_len (M := L.map fun x => (rowsOf c r l).getD x.toNat []) (c := c) (fun y hy => by
  obtain ⟨x, hx, rfl⟩ := List.mem_map.1 hy
  exact hU.at (by rw [rowsOf_length]; have := h x hx; omega)), List.length_map]
theorem bytes_flat {M : List (List Int)} (h : rowsB M = true) : bytesB M.flatten = true := by
 unfold rowsB at h
 unfold bytesB
 rw [List.all_eq_true] at h ⊢
 intro x hx
 obtain ⟨y, hy, hxy⟩ := List.mem_flatten.1 hx
 have := h y hy
 unfold bytesB at this
 rw [List.all_eq_true] at this
 exact this x hxy
theorem pick_bytes (hb : bytesB l = true) (L : List Int) : bytesB (pickL c l L) = true := by
 unfold pickL
 refine bytes_flat ?_
 rw [rowsB, List.all_eq_true]
 intro y hy
 obtain ⟨x, _, rfl⟩ := List.mem_map.1 hy
 exact bytesB_sub hb _ _
theorem gPick_eq (hl : l.length = r * c) (hr : r ≤ 64) (hc : c ≤ 64) {L : List Int} (h : ∀ x ∈ L, 0 ≤ x ∧ x < (r : Int)) (hL : L.length ≤ 64) : matrix_Pick.f (r : Int) (c : Int) l L = some ((L.length : Int), (c : Int), pickL c l L, 0) := by
 unfold matrix_Pick.f
 rw [(right_of hr hc hl).1, Option.bind_some, if_pos rfl, if_pos (inB_of h), if_pos hL]
 rfl
theorem rPick_ends (hl : l.length = r * c) (hr : r ≤ 64) (hc : c ≤ 64) {L : List Int} (h : ∀ x ∈ L, 0 ≤ x ∧ x < (r : Int)) (hL : L.length ≤ 64) : Ends (fun k => recoupref03_Pick.f k (r : Int) (c : Int) l L) ((L.length : Int), (c : Int), pickL c l L, 0) := by
 have hf := flat_rowsOf r l hl
 have hlen := rowsOf_length c r l
 have := Pick_ends hf.2 (by omega) hc (L := L) (fun x hx => by have := h x hx; omega) hL
 rw [hf.1, hlen, ← pick_rows hl h] at this
 exact this
end
end Go.Proofs.YtkagobkedifhkaaDoor.M
namespace Go.Proofs.YtkagobkedifhkaaDoor.M
set_option linter.unusedVariables false
def Sp (b : Nat → Vec) (n : Nat) (A : Nat → Prop) (v : Vec) : Prop := ∃ x : Nat → El, (∀ i, ¬ A i → x i = 0) ∧ v = lc b n x
section
variable {b : Nat → Vec} {n : Nat} {A B : Nat → Prop} {v w : Vec}
theorem sp_mono (h : ∀ i, i < n → A i → B i) (hv : Sp b n A v) : Sp b n B v := by
 obtain ⟨x, h1, rfl⟩ := hv
 refine ⟨fun i => if i < n then x i else 0, fun i hi => ?_, lc_congr (fun _ _ => rfl) fun i hi => (if_pos hi).symm⟩
 show (if i < n then x i else 0) = 0
 by_cases hn : i < n
 ·rw [if_pos hn]
  exact h1 i fun hA => hi (h i hn hA)
 ·exact if_neg hn
theorem sp_span (hv : Sp b n A v) : Span b n v := by
 obtain ⟨x, _, rfl⟩ := hv
 exact ⟨x, rfl⟩
theorem sp_row {i : Nat} (hi : i < n) (hA : A i) : Sp b n A (b i) :=
 ⟨fun k => if k = i then 1 else 0, fun k hk => if_neg fun e => hk (by rw [e]; exact hA), (lc_unit b hi).symm⟩
theorem sp_zero : Sp b n A zv := ⟨fun _ => 0, fun _ _ => rfl, (lc_zero b n).symm⟩
theorem sp_add (h : Sp b n A v) (k : Sp b n A w) : Sp b n A (fun j => v j + w j) := by
 obtain ⟨x, x1, rfl⟩ := h
 obtain ⟨y, y1, rfl⟩ := k
 exact ⟨fun i => x i + y i, fun i hi => by show x i + y i = 0; rw [x1 i hi, y1 i hi, add_zero], (lc_add b n x y).symm⟩
theorem sp_mul (a : El) (h : Sp b n A v) : Sp b n A (fun j => a * v j) := by
 obtain ⟨x, x1, rfl⟩ := h
 exact ⟨fun i => a * x i, fun i hi => by show a * x i = 0; rw [x1 i hi, mul_zero], (lc_mul b n a x).symm⟩
theorem sp_lc {u : Nat → Vec} : ∀ (m : Nat) (x : Nat → El), (∀ i, i < m → Sp b n A (u i)) → Sp b n A (lc u m x)
 | 0, x, _ => sp_zero
 | m + 1, x, h => sp_add (sp_lc m x fun i hi => h i (by omega)) (sp_mul (x m) (h m (by omega)))
theorem sp_of_span {u : Nat → Vec} {m : Nat} (h : ∀ i, i < m → Sp b n A (u i)) (hv : Span u m v) : Sp b n A v := by
 obtain ⟨x, rfl⟩ := hv
 exact sp_lc m x h
theorem sp_congr (h : ∀ i, i < n → (A i ↔ B i)) : Sp b n A v ↔ Sp b n B v := ⟨sp_mono fun i hi => (h i hi).1, sp_mono fun i hi => (h i hi).2⟩
theorem span_of_sp {u : Nat → Vec} {m : Nat} (h : ∀ i, i < n → A i → Span u m (b i)) (hv : Sp b n A v) : Span u m v := by
 obtain ⟨x, h1, rfl⟩ := hv
 have : lc b n x = lc (fun i => if x i = 0 then zv else b i) n x := by
  funext j
  refine sm_congr fun i hi => ?_
  show x i * b i j = x i * (if x i = 0 then zv else b i) j
  by_cases e : x i = 0
  ·rw [if_pos e, e, zero_mul, zero_mul]
  ·rw [if_neg e]
 rw [this]
 refine span_lc (fun i hi => ?_) x
 show Span u m (if x i = 0 then zv else b i)
 by_cases e : x i = 0
 ·rw [if_pos e]; exact span_zero u m
 ·rw [if_neg e]
  exact h i hi (Classical.byContradiction fun hn => e (h1 i hn))
theorem sp_sub (h : ∀ i, i < n → A i → Sp b n B (b i)) (hv : Sp b n A v) : Sp b n B v := by
 obtain ⟨x, h1, rfl⟩ := hv
 have : lc b n x = lc (fun i => if x i = 0 then zv else b i) n x := by
  funext j
  refine sm_congr fun i hi => ?_
  show x i * b i j = x i * (if x i = 0 then zv else b i) j
  by_cases e : x i = 0
  ·rw [if_pos e, e, zero_mul, zero_mul]
  ·rw [if_neg e]
 rw [this]
 refine sp_lc n x fun i hi => ?_
 show Sp b n B (if x i = 0 then zv else b i)
 by_cases e : x i = 0
 ·rw [if_pos e]; exact sp_zero
 ·rw [if_neg e]
  exact h i hi (Classical.byContradiction fun hn => e (h1 i hn))
theorem sp_dim (b : Nat → Vec) (n : Nat) (A : Nat → Prop) : ∃ k, k ≤ n ∧ Dim (Sp b n A) k := dim_exists (u := b) (m := n) fun v hv => sp_span hv
noncomputable def rkS (b : Nat → Vec) (n : Nat) (A : Nat → Prop) : Nat := Classical.choose (sp_dim b n A)
theorem rkS_dim (b : Nat → Vec) (n : Nat) (A : Nat → Prop) : Dim (Sp b n A) (rkS b n A) := (Classical.choose_spec (sp_dim b n A)).2
theorem rkS_eq {k : Nat} (h : Dim (Sp b n A) k) : rkS b n A = k := dim_unique (rkS_dim b n A) h
theorem rkS_mono (h : ∀ i, i < n → A i → B i) : rkS b n A ≤ rkS b n B := dim_le (rkS_dim b n A) (rkS_dim b n B) fun v hv => sp_mono h hv
theorem rkS_span (h : ∀ v, Sp b n A v ↔ Sp b n B v) : rkS b n A = rkS b n B := dim_unique (rkS_dim b n A) (dim_congr (fun v => (h v).symm) (rkS_dim b n B))
theorem rkS_full (h : ∀ i, i < n → A i → B i) (e : rkS b n B ≤ rkS b n A) : Sp b n B v → Sp b n A v := fun hv => by
 obtain ⟨u, u1, u2, u3⟩ := rkS_dim b n A
 have hB := rkS_dim b n B
 have e2 := rkS_mono (b := b) h
 rw [show rkS b n B = rkS b n A from by omega] at hB
 exact sp_of_span u2 (dim_full hB u1 (fun i hi => sp_mono h (u2 i hi)) v hv)
theorem rkS_in {i : Nat} (hi : i < n) : rkS b n (fun k => A k ∨ k = i) = rkS b n A ↔ Sp b n A (b i) := by
 constructor
 ·intro e
  exact rkS_full (fun k _ h => .inl h) (Nat.le_of_eq e) (sp_row hi (.inr rfl))
 ·intro h
  exact rkS_span fun v => ⟨sp_sub fun k hk hA => by
   rcases hA with hA | rfl
   ·exact sp_row hk hA
   ·exact h, sp_mono fun k _ hA => .inl hA⟩
theorem rkS_lt {i : Nat} (hi : i < n) : rkS b n (fun k => A k ∨ k = i) > rkS b n A ↔ ¬ Sp b n A (b i) := by
 have h1 := rkS_mono (b := b) (A := A) (B := fun k => A k ∨ k = i) (n := n) fun k _ h => .inl h
 rw [← rkS_in hi]
 omega
end
section
variable {b : Nat → Vec} {n : Nat} {A : Nat → Prop} {L : List Nat}
def rowsL (b : Nat → Vec) (L : List Nat) : Nat → Vec := fun k => b (L.getD k 0)
theorem sp_list (hL : ∀ i, i ∈ L ↔ A i ∧ i < n) (hA : ∀ i, A i → i < n) (v : Vec) : Span (rowsL b L) L.length v ↔ Sp b n A v := by
 have hm : ∀ k, k < L.length → L.getD k 0 ∈ L := fun k hk => by
  rw [List.getD_eq_getElem?_getD, List.getElem?_eq_getElem hk]; exact List.getElem_mem hk
 constructor
 ·exact sp_of_span fun k hk => sp_row ((hL _).1 (hm k hk)).2 ((hL _).1 (hm k hk)).1
 ·refine span_of_sp fun i hi hAi => ?_
  obtain ⟨k, hk, e⟩ := List.getElem_of_mem ((hL i).2 ⟨hAi, hi⟩)
  have h1 := span_mem (rowsL b L) hk
  have h2 : rowsL b L k = b i := by
   unfold rowsL
   rw [List.getD_eq_getElem?_getD, List.getElem?_eq_getElem hk]
   exact congrArg b e
  rwa [h2] at h1
end
end Go.Proofs.YtkagobkedifhkaaDoor.M
namespace Go.Proofs.YtkagobkedifhkaaDoor.M
open Go.RowKit Go.Proofs.YtkagobkedifhkaaDoorW.PrintWords Go.Proofs.YtkagobkedifhkaaDoorW.PrintLast Go.Proofs.YtkagobkedifhkaaDoorW.PrintMore Go.Proofs.YtkagobkedifhkaaDoor.Q
set_option linter.unusedVariables false
def pk (c : Nat) (l : List Int) (s : Nat) : List Int := pickL c l (ints (setL s))
def rho (c : Nat) (l : List Int) (s : Nat) : Nat := (redL (setL s).length c (pk c l s)).2.length
def Val (r s : Nat) : Prop := ∀ i ∈ setL s, i < r
section
variable {r c s : Nat} {l : List Int}
theorem val_in (h : Val r s) : ∀ x ∈ ints (setL s), 0 ≤ x ∧ x < (r : Int) := fun x hx => by
 obtain ⟨i, hi, rfl⟩ := List.mem_map.1 hx
 have := h i hi
 omega
theorem pk_len (hl : l.length = r * c) (h : Val r s) : (pk c l s).length = (setL s).length * c := by
 have := pick_len hl (val_in h)
 rwa [ints_length] at this
theorem pick7 (hb : bytesB l = true) (hl : l.length = r * c) (hr : r ≤ 64) (hc : c ≤ 64) (hs : s < 2 ^ 64) (h : Val r s) : Ends (fun k => matroid_pick.f k (r : Int) (c : Int) l (s : Int)) (((setL s).length : Int), (c : Int), pk c l s, 0) := by
 unfold matroid_pick.f
 refine Ends.bind1 (right_of hr hc hl).1 (Ends.pos rfl ?_)
 refine Ends.bind (List_eq hs) ?_
 have := gPick_eq hl hr hc (val_in h) (by rw [ints_length]; exact setL_length s)
 rw [ints_length] at this
 exact Ends.bind1 this (Ends.const rfl)
theorem rank7 (hb : bytesB l = true) (hl : l.length = r * c) (hr : r ≤ 64) (hc : c ≤ 64) (hs : s < 2 ^ 64) (h : Val r s) : Ends (fun k => recoupref07_rank.f k (r : Int) (c : Int) l (s : Int)) (rho c l s : Int) := by
 unfold recoupref07_rank.f
 refine Ends.bind (refList_eq hs) ?_
 have := rPick_ends hl hr hc (val_in h) (by rw [ints_length]; exact setL_length s)
 rw [ints_length] at this
 refine Ends.bind this ?_
 exact Ends.bind (Rank_ends (setL_length s) hc (pk_len hl h) (pick_bytes hb _)) (Ends.const rfl)
theorem val_iff (hr : r ≤ 64) (hs : s < 2 ^ 64) : (Go.bits .andNot .u64 (s : Int) ((2 ^ r - 1 : Nat) : Int) = 0) ↔ Val r s := by
 rw [asked hr hs]
 unfold setOk Val
 constructor
 ·rintro ⟨_, _, h⟩ i hi
  have := h i hi
  omega
 ·exact fun h => ⟨by omega, by omega, fun i hi => by have := h i hi; omega⟩
theorem bad7 (hl : l.length = r * c) (hr : r ≤ 64) (hc : c ≤ 64) (hs : s < 2 ^ 64) : Ends (fun k => recoupref07_bad.f k (r : Int) (c : Int) l (s : Int)) (if Go.bits .andNot .u64 (s : Int) ((2 ^ r - 1 : Nat) : Int) = 0 then 0 else 2) := by
 unfold recoupref07_bad.f
 refine Ends.bind1 (right_of hr hc hl).2 (Ends.pos rfl ?_)
 have hf := refFull_eq (r : Int)
 have e : fullV (r : Int) = (((2 ^ r - 1 : Nat) : Int), 0) := by unfold fullV; rw [if_pos ⟨by omega, by omega⟩, Int.toNat_natCast]
 rw [e] at hf
 refine Ends.bind hf ?_
 by_cases h : Go.bits .andNot .u64 (s : Int) ((2 ^ r - 1 : Nat) : Int) = 0
 ·rw [if_pos h, if_pos h]; exact Ends.const rfl
 ·rw [if_neg h, if_neg h]; exact Ends.const rfl
theorem bad7_ok (hl : l.length = r * c) (hr : r ≤ 64) (hc : c ≤ 64) (hs : s < 2 ^ 64) (h : Val r s) : Ends (fun k => recoupref07_bad.f k (r : Int) (c : Int) l (s : Int)) 0 := by
 have := bad7 hl hr hc hs
 rwa [if_pos ((val_iff hr hs).2 h)] at this
theorem rRank7 (hb : bytesB l = true) (hl : l.length = r * c) (hr : r ≤ 64) (hc : c ≤ 64) (hs : s < 2 ^ 64) (h : Val r s) : Ends (fun k => recoupref07_Rank.f k (r : Int) (c : Int) l (s : Int)) ((rho c l s : Int), 0) := by
 unfold recoupref07_Rank.f
 exact Ends.bind (bad7_ok hl hr hc hs h) (Ends.pos rfl (Ends.bind (rank7 hb hl hr hc hs h) (Ends.const rfl)))
theorem args7 {a b x : Int} {l : List Int} (ha : (Lit.int .i64 a).wf = true) (hx : (Lit.int .u64 x).wf = true) :
  (recoupref03_Right.f a b l = some false ∧ matrix_Right.f a b l = some false) ∨ ∃ r c s : Nat, a = (r : Int) ∧ b = (c : Int) ∧ x = (s : Int) ∧ r ≤ 64 ∧ c ≤ 64 ∧ l.length = r * c ∧ s < 2 ^ 64 := by
 have hR : recoupref03_Right.f a b l = matrix_Right.f a b l := Right_eq (wf_i64 ha)
 obtain ⟨s, rfl, hs⟩ := u64_nat hx
 rcases Right_cases a b l with h | h
 ·obtain ⟨r, c, rfl, rfl, hr, hc, hlen, _⟩ := right_nat (hR ▸ h)
  exact .inr ⟨r, c, s, rfl, rfl, rfl, hr, hc, hlen, hs⟩
 ·exact .inl ⟨h, hR ▸ h⟩
theorem rCovers7 {k0 : Int × Int} {a b x : Int} (h : Ends (fun k => recoupref07_Rank.f k a b l x) k0) : Ends (fun k => recoupref07_Covers.f k a b l x) (if k0.2 = 0 then (k0.1 == b, 0) else (false, k0.2)) := by
 unfold recoupref07_Covers.f
 refine Ends.bind h ?_
 by_cases e : k0.2 = 0
 ·rw [if_pos e, if_pos e, e]
  exact Ends.const rfl
 ·rw [if_neg e, if_neg e]
  exact Ends.const rfl
end
end Go.Proofs.YtkagobkedifhkaaDoor.M
namespace Go.Proofs.YtkagobkedifhkaaDoor.M
open Go.RowKit Go.Proofs.YtkagobkedifhkaaDoorW.PrintWords Go.Proofs.YtkagobkedifhkaaDoorW.PrintLast Go.Proofs.YtkagobkedifhkaaDoorW.PrintMore Go.Proofs.YtkagobkedifhkaaDoor.Q
set_option linter.unusedVariables false
theorem rows_flat {M : List (List Int)} {c : Nat} (h : U M c) : rowsOf c M.length M.flatten = M := by
 refine List.ext_getElem (by rw [rowsOf_length]) fun i h1 h2 => ?_
 rw [rowsOf_elem, flat_row h h2, List.getD_eq_getElem?_getD, List.getElem?_eq_getElem h2, Option.getD_some]
end Go.Proofs.YtkagobkedifhkaaDoor.M
namespace Go.Proofs.YtkagobkedifhkaaDoor.M
open Go.RowKit Go.Proofs.YtkagobkedifhkaaDoorW.PrintWords Go.Proofs.YtkagobkedifhkaaDoorW.PrintLast Go.Proofs.YtkagobkedifhkaaDoorW.PrintMore Go.Proofs.YtkagobkedifhkaaDoor.Q
set_option linter.unusedVariables false
theorem redL_rk (r c : Nat) (l : List Int) : (redL r c l).2.length = rk (rowsOf c r l) c := by
 have := (Prod.mk.inj (red_fst (rowsOf c r l) (List.replicate r []) c)).2
 show (redTo (rowsOf c r l) (List.replicate r []) c).2.length = (redA (rowsOf c r l) c).2.length
 rw [this]
section
variable {n m p : Nat} {a b : List Int}
theorem rk_trans (hb : bytesB b = true) (hl : b.length = m * p) (hm : m ≤ 64) (hp : p ≤ 64) : (fstP m p b).length = rk (rowsOf p m b) p := by
 have h := prefix_rk hb hl hm hp (i := m) (Nat.le_refl _)
 rw [List.take_of_length_le (Nat.le_of_eq hl), below_all _ (trans_rr hb hl hm hp).lt, redL_rk] at h
 exact h.symm
end
end Go.Proofs.YtkagobkedifhkaaDoor.M
namespace Go.Proofs.YtkagobkedifhkaaDoor.M
open Go.RowKit Go.Proofs.YtkagobkedifhkaaDoorW.PrintWords Go.Proofs.YtkagobkedifhkaaDoorW.PrintLast Go.Proofs.YtkagobkedifhkaaDoorW.PrintMore Go.Proofs.YtkagobkedifhkaaDoor.Q
set_option linter.unusedVariables false
def Bit (s : Nat) : Nat → Prop := fun i => s.testBit i = true
section
variable {r c s t : Nat} {l : List Int}
theorem val_bit (hs : s < 2 ^ 64) : Val r s ↔ ∀ i, s.testBit i = true → i < r := by
 unfold Val
 constructor
 ·exact fun h i hi => h i ((mem_setL' hs).2 hi)
 ·exact fun h i hi => h i ((mem_setL' hs).1 hi)
theorem pk_row (hl : l.length = r * c) (h : Val r s) {k : Nat} (hk : k < (setL s).length) : mv (rowsOf c (setL s).length (pk c l s)) c k = mv (rowsOf c r l) c ((setL s).getD k 0) := by
 have hin := val_in h
 have hU := (flat_rowsOf r l hl).2
 have hf : U ((ints (setL s)).map fun x => (rowsOf c r l).getD x.toNat []) c := fun y hy => by
  obtain ⟨x, hx, rfl⟩ := List.mem_map.1 hy
  exact hU.at (by rw [rowsOf_length]; have := hin x hx; omega)
 have e := rows_flat hf
 rw [List.length_map, ints_length] at e
 have e2 : rowsOf c (setL s).length (pk c l s) = (ints (setL s)).map fun x => (rowsOf c r l).getD x.toNat [] := by
  unfold pk
  rw [pick_rows hl hin]
  exact e
 rw [e2]
 have e3 : ((ints (setL s)).map fun x => (rowsOf c r l).getD x.toNat []).getD k [] = (rowsOf c r l).getD ((setL s).getD k 0) [] := by
  unfold ints
  rw [List.getD_eq_getElem?_getD, List.getElem?_map, List.getElem?_map, List.getD_eq_getElem?_getD (l := setL s), List.getElem?_eq_getElem hk]
  rfl
 funext j
 unfold mv entry
 rw [e3]
theorem mem_bit (hs : s < 2 ^ 64) (h : Val r s) (i : Nat) : i ∈ setL s ↔ Bit s i ∧ i < r :=
 ⟨fun hi => ⟨(mem_setL' hs).1 hi, h i hi⟩, fun hi => (mem_setL' hs).2 hi.1⟩
theorem pk_sp (hl : l.length = r * c) (hs : s < 2 ^ 64) (h : Val r s) (v : Vec) : Span (mv (rowsOf c (setL s).length (pk c l s)) c) (setL s).length v ↔ Sp (mv (rowsOf c r l) c) r (Bit s) v := by
 have key : ∀ k, k < (setL s).length → mv (rowsOf c (setL s).length (pk c l s)) c k = rowsL (mv (rowsOf c r l) c) (setL s) k := fun k hk => pk_row hl h hk
 exact (span_congr key v).trans (sp_list (mem_bit hs h) ((val_bit hs).1 h) v)
theorem rho_rk (hb : bytesB l = true) (hl : l.length = r * c) (hr : r ≤ 64) (hc : c ≤ 64) (hs : s < 2 ^ 64) (h : Val r s) : rho c l s = rkS (mv (rowsOf c r l) c) r (Bit s) := by
 have hd := rk_dim (sh_rows (pick_bytes (c := c) hb (ints (setL s))) (pk_len hl h) (setL_length s) hc)
 rw [rowsOf_length] at hd
 have e : rho c l s = rk (rowsOf c (setL s).length (pk c l s)) c := redL_rk _ _ _
 rw [e]
 exact (rkS_eq (dim_congr (pk_sp hl hs h) hd)).symm
theorem val_sub (hs : s < 2 ^ 64) (ht : t < 2 ^ 64) (h : Val r s) (k : ∀ i, t.testBit i = true → s.testBit i = true) : Val r t := by
 rw [val_bit ht]
 exact fun i hi => (val_bit hs).1 h i (k i hi)
theorem bit_or (s t i : Nat) : Bit (s ||| t) i ↔ Bit s i ∨ Bit t i := by
 unfold Bit
 rw [Nat.testBit_or, Bool.or_eq_true]
theorem bit_and (s t i : Nat) : Bit (s &&& t) i ↔ Bit s i ∧ Bit t i := by
 unfold Bit
 rw [Nat.testBit_and, Bool.and_eq_true]
theorem bit_one (b i : Nat) : Bit (2 ^ b) i ↔ i = b := by
 unfold Bit
 rw [Nat.testBit_two_pow, decide_eq_true_eq]
 exact ⟨Eq.symm, Eq.symm⟩
def wo (s t : Nat) : Nat := s &&& (2 ^ 64 - 1 - t)
theorem bit_wo (hs : s < 2 ^ 64) (ht : t < 2 ^ 64) (i : Nat) : Bit (wo s t) i ↔ Bit s i ∧ ¬ Bit t i := by
 unfold Bit wo
 rw [testBit_andNot hs ht, Bool.and_eq_true, Bool.not_eq_true']
 simp
theorem wo_lt (hs : s < 2 ^ 64) : wo s t < 2 ^ 64 := lt_and hs
end
end Go.Proofs.YtkagobkedifhkaaDoor.M
namespace Go.Proofs.YtkagobkedifhkaaDoor.M
open Go.RowKit Go.Proofs.YtkagobkedifhkaaDoorW.PrintWords Go.Proofs.YtkagobkedifhkaaDoorW.PrintLast Go.Proofs.YtkagobkedifhkaaDoorW.PrintMore Go.Proofs.YtkagobkedifhkaaDoor.Q
set_option linter.unusedVariables false
theorem Ends.of_mono {α : Type} {f : Nat → Option α} {r : α} (hm : ∀ k, LeO (f k) (f (k + 1))) {K : Nat} (h : f K = some r) : Ends f r := by
 refine ⟨K, fun k hk => ?_⟩
 obtain ⟨d, rfl⟩ := Nat.exists_eq_add_of_le hk
 induction d with
 | zero => exact h
 | succ d ih => exact hm (K + d) r (ih (by omega))
end Go.Proofs.YtkagobkedifhkaaDoor.M
namespace Go.Proofs.YtkagobkedifhkaaDoor.M
open Go.RowKit Go.Proofs.YtkagobkedifhkaaDoorW.PrintWords Go.Proofs.YtkagobkedifhkaaDoorW.PrintLast Go.Proofs.YtkagobkedifhkaaDoorW.PrintMore Go.Proofs.YtkagobkedifhkaaDoor.Q
set_option linter.unusedVariables false
theorem or_one {s i : Nat} (hs : s < 2 ^ 64) (hi : i < 64) : Go.bits .or .u64 (s : Int) ((2 ^ i : Nat) : Int) = ((s ||| 2 ^ i : Nat) : Int) := bor hs (pow_lt hi)
theorem lt_one {s i : Nat} (hs : s < 2 ^ 64) (hi : i < 64) : s ||| 2 ^ i < 2 ^ 64 := lt_or hs (pow_lt hi)
theorem bit_or_one (s i k : Nat) : Bit (s ||| 2 ^ i) k ↔ Bit s k ∨ k = i := by rw [bit_or, bit_one]
theorem bit_ext {s t : Nat} (h : ∀ i, Bit s i ↔ Bit t i) : s = t := Nat.eq_of_testBit_eq fun i => Bool.eq_iff_iff.2 (h i)
theorem val_one {r s i : Nat} (hr : r ≤ 64) (hs : s < 2 ^ 64) (h : Val r s) (hi : i < r) : Val r (s ||| 2 ^ i) := by
 rw [val_bit (lt_one hs (by omega))]
 intro k hk
 rcases (bit_or_one s i k).1 hk with h1 | h1
 ·exact (val_bit hs).1 h k h1
 ·omega
section
variable {r c s : Nat} {l : List Int}
theorem wstep {i : Nat} (h : i ≤ 64) : wrap64 ((i : Int) + 1) = ((i + 1 : Nat) : Int) := by rw [w64 (by omega) (by omega)]; omega
theorem setL_at (s : Nat) {i : Nat} (hi : i < (setL s).length) : (setL s).getD i 0 ∈ setL s := by
 rw [List.getD_eq_getElem?_getD, List.getElem?_eq_getElem hi]; exact List.getElem_mem hi
theorem rd_setL (s : Nat) {i : Nat} (hi : i < (setL s).length) : rd (ints (setL s)) (i : Int) = (((setL s).getD i 0 : Nat) : Int) := by
 rw [rd_ints _ _ hi, List.getD_eq_getElem?_getD, List.getElem?_eq_getElem hi]; rfl
def grd (c : Nat) (l : List Int) (s : Nat) : Nat → Nat
 | 0 => 0
 | i + 1 => if s.testBit i = true ∧ rho c l (grd c l s i ||| 2 ^ i) > rho c l (grd c l s i) then grd c l s i ||| 2 ^ i else grd c l s i
theorem grd_bit : ∀ i k, Bit (grd c l s i) k → Bit s k ∧ k < i
 | 0, k, h => by unfold Bit grd at h; rw [Nat.zero_testBit] at h; cases h
 | i + 1, k, h => by
  rw [grd] at h
  split at h
  ·next g =>
   rcases (bit_or_one _ _ _).1 h with h1 | rfl
   ·have := grd_bit i k h1
    exact ⟨this.1, by omega⟩
   ·exact ⟨g.1, by omega⟩
  ·have := grd_bit i k h
   exact ⟨this.1, by omega⟩
theorem grd_lt (hs : s < 2 ^ 64) (i : Nat) : grd c l s i < 2 ^ 64 := by
 refine Nat.lt_pow_two_of_testBit _ fun k hk => ?_
 rw [Bool.eq_false_iff]
 intro h
 have h2 := (grd_bit i k h).1
 unfold Bit at h2
 rw [testBit_big hs hk] at h2
 cases h2
theorem grd_val (hs : s < 2 ^ 64) (h : Val r s) (i : Nat) : Val r (grd c l s i) := val_sub hs (grd_lt hs i) h fun k hk => (grd_bit i k hk).1
def bas (c : Nat) (l : List Int) (s : Nat) : Nat := ofL ((fstP (setL s).length c (pk c l s)).map fun p => (setL s).getD p.toNat 0)
theorem Basis_l0 (hb : bytesB l = true) (hl : l.length = r * c) (hr : r ≤ 64) (hc : c ≤ 64) (hs : s < 2 ^ 64) (h : Val r s) : ∀ d i : Nat, i + d = (fstP (setL s).length c (pk c l s)).length →
  Ends (fun k => matroid_Basis.l0 k (ints (setL s)) ((ofL (((fstP (setL s).length c (pk c l s)).take i).map fun p => (setL s).getD p.toNat 0) : Nat) : Int) (fstP (setL s).length c (pk c l s)) ((fstP (setL s).length c (pk c l s)).length : Int) (i : Int)) ((bas c l s : Int), 0) := by
 have hin := fst_in (pick_bytes (c := c) hb (ints (setL s))) (pk_len hl h) (setL_length s) hc
 have hPl := fst_len (pick_bytes (c := c) hb (ints (setL s))) (pk_len hl h) (setL_length s) hc
 have hin : ∀ x ∈ fstP (setL s).length c (pk c l s), 0 ≤ x ∧ x < ((setL s).length : Int) := hin
 have hPl : (fstP (setL s).length c (pk c l s)).length ≤ c := hPl
 unfold bas
 generalize fstP (setL s).length c (pk c l s) = P at *
 intro d
 induction d with
 | zero =>
  intro i hi
  obtain rfl : i = P.length := by omega
  refine Ends.succ (fun k => by rw [matroid_Basis.l0]) ?_
  refine Ends.neg (by omega) (Ends.const ?_)
  rw [List.take_length]
 | succ d ih =>
  intro i hi
  have ihn := ih (i + 1) (by omega)
  have hi' : i < P.length := by omega
  have hx := hin _ (List.getElem_mem hi')
  have e : P.take (i + 1) = P.take i ++ [P[i]] := by rw [List.take_add_one, List.getElem?_eq_getElem hi']; rfl
  have hp : rd P (i : Int) = P[i] := by rw [rd_nat, List.getD_eq_getElem?_getD, List.getElem?_eq_getElem hi']; rfl
  rw [e, List.map_append, List.map_cons, List.map_nil, ofL_snoc, ← wstep (by omega)] at ihn
  have hlt : ofL ((P.take i).map fun p => (setL s).getD p.toNat 0) < 2 ^ 64 := ofL_lt _ fun k hk => by
   obtain ⟨p, hp, rfl⟩ := List.mem_map.1 hk
   have := hin p (List.mem_of_mem_take hp)
   exact (mem_setL.1 (setL_at s (by omega))).1
  refine Ends.succ (fun k => by rw [matroid_Basis.l0]) ?_
  refine Ends.pos (by omega) (Ends.pos (by omega) ?_)
  rw [hp]
  generalize P[i] = p at *
  obtain ⟨m, rfl⟩ := Int.eq_ofNat_of_zero_le hx.1
  have hm : m < (setL s).length := by omega
  rw [rd_setL s hm]
  rw [Int.toNat_natCast] at ihn
  have hy := (mem_setL.1 (setL_at s hm)).1
  generalize (setL s).getD m 0 = y at *
  refine Ends.pos (by omega) ?_
  refine Ends.pos (by omega) ?_
  refine Ends.pos (by rw [ints_length]; omega) ?_
  refine Ends.pos (by omega) ?_
  rw [shl_one hy, or_one hlt hy]
  exact ihn
theorem Basis7 (hb : bytesB l = true) (hl : l.length = r * c) (hr : r ≤ 64) (hc : c ≤ 64) (hs : s < 2 ^ 64) (h : Val r s) : Ends (fun k => matroid_Basis.f k (r : Int) (c : Int) l (s : Int)) ((bas c l s : Int), 0) := by
 unfold matroid_Basis.f
 refine Ends.bind (pick7 hb hl hr hc hs h) (Ends.pos rfl ?_)
 refine Ends.bind1 (gFirst_eq (pick_bytes (c := c) hb (ints (setL s))) (pk_len hl h) (setL_length s) hc) (Ends.pos rfl ?_)
 exact Ends.bind (List_eq hs) (Basis_l0 hb hl hr hc hs h (fstP (setL s).length c (pk c l s)).length 0 (Nat.zero_add _))
end
end Go.Proofs.YtkagobkedifhkaaDoor.M
namespace Go.Proofs.YtkagobkedifhkaaDoor.M
open Go.RowKit Go.Proofs.YtkagobkedifhkaaDoorW.PrintWords Go.Proofs.YtkagobkedifhkaaDoorW.PrintLast Go.Proofs.YtkagobkedifhkaaDoorW.PrintMore Go.Proofs.YtkagobkedifhkaaDoor.Q
set_option linter.unusedVariables false
theorem rkS_or1 (b : Nat → Vec) (r s i : Nat) : rkS b r (Bit (s ||| 2 ^ i)) = rkS b r (fun k => Bit s k ∨ k = i) := congrArg _ (funext fun k => propext (bit_or_one s i k))
section
variable {r c s : Nat} {l : List Int}
def New (b : Nat → Vec) (r s j : Nat) : Prop := ¬ Sp b r (fun k => Bit s k ∧ k < j) (b j)
theorem grd_mean (hb : bytesB l = true) (hl : l.length = r * c) (hr : r ≤ 64) (hc : c ≤ 64) (hs : s < 2 ^ 64) (h : Val r s) : ∀ i, i ≤ r →
  (∀ j, Bit (grd c l s i) j ↔ j < i ∧ Bit s j ∧ New (mv (rowsOf c r l) c) r s j) ∧ ∀ v, Sp (mv (rowsOf c r l) c) r (Bit (grd c l s i)) v ↔ Sp (mv (rowsOf c r l) c) r (fun k => Bit s k ∧ k < i) v := by
 intro i
 induction i with
 | zero =>
  intro _
  have h0 : ∀ j, ¬ Bit (grd c l s 0) j := fun j hj => by have := (grd_bit 0 j hj).2; omega
  exact ⟨fun j => ⟨fun hj => absurd hj (h0 j), fun hj => by omega⟩, fun v => sp_congr fun j _ => ⟨fun hj => absurd hj (h0 j), fun hj => by omega⟩⟩
 | succ i ih =>
  intro hi
  obtain ⟨ih1, ih2⟩ := ih (by omega)
  have hg := grd_lt (c := c) (l := l) hs i
  have hgv := grd_val (c := c) (l := l) hs h i
  have key : rho c l (grd c l s i ||| 2 ^ i) > rho c l (grd c l s i) ↔ New (mv (rowsOf c r l) c) r s i := by
   rw [rho_rk hb hl hr hc hg hgv, rho_rk hb hl hr hc (lt_one hg (by omega)) (val_one hr hg hgv (by omega)), rkS_or1, rkS_lt (by omega), ih2]
   rfl
  rw [grd]
  by_cases e : s.testBit i = true ∧ rho c l (grd c l s i ||| 2 ^ i) > rho c l (grd c l s i)
  ·rw [if_pos e]
   have eB : Bit s i := e.1
   constructor
   ·intro j
    rw [bit_or_one, ih1]
    constructor
    ·rintro (h1 | rfl)
     ·exact ⟨by omega, h1.2⟩
     ·exact ⟨by omega, eB, key.1 e.2⟩
    ·rintro ⟨h1, h2⟩
     by_cases hj : j = i
     ·exact .inr hj
     ·exact .inl ⟨by omega, h2⟩
   ·intro v
    constructor
    ·refine sp_sub fun k hk hB => ?_
     rcases (bit_or_one _ _ _).1 hB with h1 | rfl
     ·exact sp_mono (fun k _ hk => ⟨hk.1, by omega⟩) ((ih2 _).1 (sp_row hk h1))
     ·exact sp_row hk ⟨eB, by omega⟩
    ·refine sp_sub fun k hk hB => ?_
     by_cases hj : k = i
     ·subst hj
      exact sp_row hk ((bit_or_one _ _ _).2 (.inr rfl))
     ·exact sp_mono (fun q _ hq => (bit_or_one _ _ _).2 (.inl hq)) ((ih2 _).2 (sp_row hk ⟨hB.1, by omega⟩))
  ·rw [if_neg e]
   have hn : Bit s i → Sp (mv (rowsOf c r l) c) r (fun k => Bit s k ∧ k < i) (mv (rowsOf c r l) c i) := fun hB => Classical.byContradiction fun hN => e ⟨hB, key.2 hN⟩
   constructor
   ·intro j
    rw [ih1]
    constructor
    ·rintro ⟨h1, h2⟩
     exact ⟨by omega, h2⟩
    ·rintro ⟨h1, h2, h3⟩
     by_cases hj : j = i
     ·subst hj
      exact absurd (hn h2) h3
     ·exact ⟨by omega, h2, h3⟩
   ·intro v
    rw [ih2]
    refine ⟨sp_mono fun k _ hk => ⟨hk.1, by omega⟩, sp_sub fun k hk hB => ?_⟩
    by_cases hj : k = i
    ·subst hj
     exact hn hB.1
    ·exact sp_row hk ⟨hB.1, by omega⟩
theorem pk_row' (hl : l.length = r * c) (h : Val r s) {k : Nat} (hk : k < (setL s).length) : mv (rowsOf c (setL s).length (pk c l s)) c k = mv (rowsOf c r l) c ((setL s).getD k 0) := pk_row hl h hk
theorem setL_mono (s : Nat) {i k : Nat} (h : i < k) (hk : k < (setL s).length) : (setL s).getD i 0 < (setL s).getD k 0 := by
 have := List.pairwise_iff_getElem.1 (setL_sorted s) i k (by omega) hk h
 rw [List.getD_eq_getElem?_getD, List.getElem?_eq_getElem (by omega), List.getD_eq_getElem?_getD, List.getElem?_eq_getElem hk]
 exact this
theorem setL_find (hs : s < 2 ^ 64) {j : Nat} (hj : Bit s j) : ∃ k, k < (setL s).length ∧ (setL s).getD k 0 = j := by
 obtain ⟨k, hk, e⟩ := List.getElem_of_mem ((mem_setL' hs).2 hj)
 refine ⟨k, hk, ?_⟩
 rw [List.getD_eq_getElem?_getD, List.getElem?_eq_getElem hk]
 exact e
theorem pk_front (hl : l.length = r * c) (hs : s < 2 ^ 64) (h : Val r s) {k : Nat} (hk : k < (setL s).length) (v : Vec) : Span (mv (rowsOf c (setL s).length (pk c l s)) c) k v ↔ Sp (mv (rowsOf c r l) c) r (fun q => Bit s q ∧ q < (setL s).getD k 0) v := by
 constructor
 ·refine sp_of_span fun i hi => ?_
  rw [pk_row' hl h (by omega)]
  have hm := setL_at s (i := i) (by omega)
  exact sp_row (h _ hm) ⟨(mem_setL' hs).1 hm, setL_mono s hi hk⟩
 ·refine span_of_sp fun j hj hB => ?_
  obtain ⟨i, hi, e⟩ := setL_find hs hB.1
  have hik : i < k := by
   rcases Nat.lt_or_ge i k with h1 | h1
   ·exact h1
   ·exfalso
    rcases Nat.lt_or_eq_of_le h1 with h2 | h2
    ·have := setL_mono s h2 hi
     omega
    ·subst h2
     omega
  have := span_mem (mv (rowsOf c (setL s).length (pk c l s)) c) hik
  rwa [pk_row' hl h hi, e] at this
theorem piv_new (hb : bytesB l = true) (hl : l.length = r * c) (hr : r ≤ 64) (hc : c ≤ 64) {k : Nat} (hk : k < r) : (∃ i, i < (fstP r c l).length ∧ pv (fstP r c l) i = k) ↔ ¬ Span (mv (rowsOf c r l) c) k (mv (rowsOf c r l) c k) := by
 have hri := trans_rr hb hl hr hc
 have d0 := prefix_dim hb hl hr hc (i := k) (by omega)
 have d1 := prefix_dim hb hl hr hc (i := k + 1) (by omega)
 rw [below_step hri.mono] at d1
 constructor
 ·rintro ⟨i, hi, e⟩ hsp
  have h1 : below (pv (fstP r c l)) k (fstP r c l).length = i := by
   have b1 := below_iff (b := k) (t := (fstP r c l).length) hri.mono
   have hle := below_le (pv (fstP r c l)) k (fstP r c l).length
   have h2 : ¬ i < below (pv (fstP r c l)) k (fstP r c l).length := fun h3 => by have := (b1 i hi).1 h3; omega
   rcases Nat.lt_or_ge (below (pv (fstP r c l)) k (fstP r c l).length) i with h5 | h5
   ·have h6 := hri.mono _ i h5 hi
    have := (b1 (below (pv (fstP r c l)) k (fstP r c l).length) (by omega)).2 (by omega)
    omega
   ·omega
  rw [h1, if_pos ⟨hi, e⟩] at d1
  rw [h1] at d0
  have := dim_le d1 d0 fun v hv => span_trans (fun q hq => by
   by_cases hqk : q = k
   ·rw [hqk]; exact hsp
   ·exact span_mem _ (by omega)) hv
  omega
 ·intro hn
  by_cases e : below (pv (fstP r c l)) k (fstP r c l).length < (fstP r c l).length ∧ pv (fstP r c l) (below (pv (fstP r c l)) k (fstP r c l).length) = k
  ·exact ⟨_, e⟩
  ·exfalso
   rw [if_neg e] at d1
   obtain ⟨u, u1, u2, u3⟩ := d0
   exact hn (span_trans u2 (dim_full d1 u1 (fun i hi => span_le (by omega) (u2 i hi)) _ (span_mem _ (by omega))))
theorem bas_mean (hb : bytesB l = true) (hl : l.length = r * c) (hr : r ≤ 64) (hc : c ≤ 64) (hs : s < 2 ^ 64) (h : Val r s) (j : Nat) : Bit (bas c l s) j ↔ Bit s j ∧ New (mv (rowsOf c r l) c) r s j := by
 have hpb := pick_bytes (c := c) hb (ints (setL s))
 have hpl := pk_len hl h
 have hpv : ∀ k, k < (setL s).length → ((∃ i, i < (fstP (setL s).length c (pk c l s)).length ∧ pv (fstP (setL s).length c (pk c l s)) i = k) ↔ New (mv (rowsOf c r l) c) r s ((setL s).getD k 0)) := fun k hk => by
  rw [piv_new (l := pk c l s) hpb hpl (setL_length s) hc hk, pk_front hl hs h hk, pk_row' hl h hk]
  rfl
 have hlt : ∀ i, i < (fstP (setL s).length c (pk c l s)).length → pv (fstP (setL s).length c (pk c l s)) i < (setL s).length := (trans_rr (l := pk c l s) hpb hpl (setL_length s) hc).lt
 have hB : Bit (bas c l s) j ↔ ∃ i, i < (fstP (setL s).length c (pk c l s)).length ∧ (setL s).getD (pv (fstP (setL s).length c (pk c l s)) i) 0 = j := by
  unfold Bit bas
  rw [testBit_ofL, decide_eq_true_eq, List.mem_map]
  constructor
  ·rintro ⟨p, hp, rfl⟩
   obtain ⟨i, hi, rfl⟩ := List.getElem_of_mem hp
   refine ⟨i, hi, ?_⟩
   unfold pv
   rw [List.getD_eq_getElem?_getD (l := fstP _ _ _), List.getElem?_eq_getElem hi]
   rfl
  ·rintro ⟨i, hi, rfl⟩
   refine ⟨_, List.getElem_mem hi, ?_⟩
   unfold pv
   rw [List.getD_eq_getElem?_getD (l := fstP _ _ _), List.getElem?_eq_getElem hi]
   rfl
 rw [hB]
 constructor
 ·rintro ⟨i, hi, rfl⟩
  have hk := hlt i hi
  exact ⟨(mem_setL' hs).1 (setL_at s hk), (hpv _ hk).1 ⟨i, hi, rfl⟩⟩
 ·rintro ⟨h1, h2⟩
  obtain ⟨k, hk, rfl⟩ := setL_find hs h1
  obtain ⟨i, hi, rfl⟩ := (hpv k hk).2 h2
  exact ⟨i, hi, rfl⟩
theorem bas_grd (hb : bytesB l = true) (hl : l.length = r * c) (hr : r ≤ 64) (hc : c ≤ 64) (hs : s < 2 ^ 64) (h : Val r s) : bas c l s = grd c l s r := bit_ext fun j => by
 rw [bas_mean hb hl hr hc hs h, (grd_mean hb hl hr hc hs h r (Nat.le_refl _)).1]
 exact ⟨fun e => ⟨(val_bit hs).1 h j e.1, e⟩, fun e => e.2⟩
theorem bas_lt (hb : bytesB l = true) (hl : l.length = r * c) (hr : r ≤ 64) (hc : c ≤ 64) (hs : s < 2 ^ 64) (h : Val r s) : bas c l s < 2 ^ 64 := by rw [bas_grd hb hl hr hc hs h]; exact grd_lt hs r
theorem bas_sub (hb : bytesB l = true) (hl : l.length = r * c) (hr : r ≤ 64) (hc : c ≤ 64) (hs : s < 2 ^ 64) (h : Val r s) {j : Nat} (hj : Bit (bas c l s) j) : Bit s j := ((bas_mean hb hl hr hc hs h j).1 hj).1
theorem bas_card (hb : bytesB l = true) (hl : l.length = r * c) (hr : r ≤ 64) (hc : c ≤ 64) (hs : s < 2 ^ 64) (h : Val r s) : (setL (bas c l s)).length = rho c l s := by
 have hpb := pick_bytes (c := c) hb (ints (setL s))
 have hpl := pk_len hl h
 have hri := trans_rr (l := pk c l s) hpb hpl (setL_length s) hc
 have e1 : setL (bas c l s) = (fstP (setL s).length c (pk c l s)).map fun p => (setL s).getD p.toNat 0 := by
  unfold bas
  refine setL_ofL ?_ ?_
  ·rw [List.pairwise_iff_getElem]
   intro i k hi hk hik
   rw [List.length_map] at hi hk
   rw [List.getElem_map, List.getElem_map]
   have h1 := hri.mono i k hik hk
   have h2 := hri.lt k hk
   unfold pv at h1 h2
   rw [List.getD_eq_getElem?_getD (l := fstP _ _ _), List.getElem?_eq_getElem hi, List.getD_eq_getElem?_getD (l := fstP _ _ _), List.getElem?_eq_getElem hk] at h1
   rw [List.getD_eq_getElem?_getD (l := fstP _ _ _), List.getElem?_eq_getElem hk] at h2
   exact setL_mono s h1 h2
  ·intro i hi
   obtain ⟨p, hp, rfl⟩ := List.mem_map.1 hi
   obtain ⟨k, hk, rfl⟩ := List.getElem_of_mem hp
   have h2 := hri.lt k hk
   unfold pv at h2
   rw [List.getD_eq_getElem?_getD (l := fstP _ _ _), List.getElem?_eq_getElem hk] at h2
   exact (mem_setL.1 (setL_at s h2)).1
 rw [e1, List.length_map]
 show _ = (redL (setL s).length c (pk c l s)).2.length
 rw [redL_rk]
 exact rk_trans hpb hpl (setL_length s) hc
end
end Go.Proofs.YtkagobkedifhkaaDoor.M
namespace Go.Proofs.YtkagobkedifhkaaDoor.M
open Go.RowKit Go.Proofs.YtkagobkedifhkaaDoorW.PrintWords Go.Proofs.YtkagobkedifhkaaDoorW.PrintLast Go.Proofs.YtkagobkedifhkaaDoorW.PrintMore Go.Proofs.YtkagobkedifhkaaDoor.Q
set_option linter.unusedVariables false
theorem may_eq18 (n : Int) : subset_may.f n = some (decide (0 ≤ n) && decide (n ≤ 64)) := by
 unfold subset_may.f
 by_cases h : 0 ≤ n
 ·rw [if_pos h]; simp [h]
 ·rw [if_neg h]; simp [h]
theorem low_eq18 {n : Nat} (hn : n ≤ 64) : subset_low.f (n : Int) = some ((2 ^ n - 1 : Nat) : Int) := by
 unfold subset_low.f
 rw [if_pos (by omega)]
 congr 1
 rcases Nat.lt_or_ge n 64 with h | h
 ·rw [shl_one h]
  have h1 : 2 ^ n < 2 ^ 64 := pow_lt h
  have h0 : 0 < 2 ^ n := Nat.pow_pos (by decide)
  rw [wu64 (by omega) (by omega)]
  omega
 ·obtain rfl : n = 64 := by omega
  rw [shl_one_64 (by omega)]
  decide
theorem Full18 {n : Nat} (hn : n ≤ 64) : subset_Full.f (n : Int) = some (((2 ^ n - 1 : Nat) : Int), 0) := by
 unfold subset_Full.f
 rw [may_eq18, Option.bind_some, if_pos (by simp; omega), low_eq18 hn]
 rfl
theorem rFull18 {n : Nat} (hn : n ≤ 64) : Ends (fun k => recoupref06_Full.f k (n : Int)) (((2 ^ n - 1 : Nat) : Int), 0) := by
 have hf := refFull_eq (n : Int)
 have e : fullV (n : Int) = (((2 ^ n - 1 : Nat) : Int), 0) := by unfold fullV; rw [if_pos ⟨by omega, by omega⟩, Int.toNat_natCast]
 rwa [e] at hf
def lft (r s : Nat) : Nat := wo (2 ^ r - 1) s
section
variable {r c s : Nat} {l : List Int}
theorem low18 (hr : r ≤ 64) : 2 ^ r - 1 < 2 ^ 64 := low_lt hr
theorem bit_low (r i : Nat) : Bit (2 ^ r - 1) i ↔ i < r := by unfold Bit; rw [testBit_low, decide_eq_true_eq]
theorem lft_bit (hr : r ≤ 64) (hs : s < 2 ^ 64) (i : Nat) : Bit (lft r s) i ↔ i < r ∧ ¬ Bit s i := by
 unfold lft
 rw [bit_wo (low18 hr) hs, bit_low]
theorem lft_lt (hr : r ≤ 64) : lft r s < 2 ^ 64 := wo_lt (low18 hr)
theorem lft_val (hr : r ≤ 64) (hs : s < 2 ^ 64) : Val r (lft r s) := by
 rw [val_bit (lft_lt hr)]
 exact fun i hi => ((lft_bit hr hs i).1 hi).1
theorem hasB_bit (hs : s < 2 ^ 64) (i : Nat) : Q.hasB (s : Int) i = s.testBit i := by
 have h := Q.hasB_eq (s : Int) i
 rw [Has_eq hs, Int.toNat_natCast] at h
 injection h with h
 rw [← h]
 simp
theorem orL_go : ∀ (L : List Nat) (t : Nat), t < 2 ^ 64 → (∀ i ∈ L, i < 64) → L.foldl (fun (s : Int) (i : Nat) => Go.bits .or .u64 s (shl .u64 1 (i : Int))) (t : Int) = ((t ||| ofL L : Nat) : Int)
 | [], t, _, _ => by rw [ofL_nil, Nat.or_zero]; rfl
 | a :: L, t, ht, h => by
  have ha : a < 64 := h a List.mem_cons_self
  rw [List.foldl_cons, shl_one ha, or_one ht ha, orL_go L (t ||| 2 ^ a) (lt_one ht ha) fun i hi => h i (List.mem_cons_of_mem _ hi), ofL_cons, Nat.or_assoc]
theorem orL_nat (L : List Nat) (h : ∀ i ∈ L, i < 64) : Q.orL L = ((ofL L : Nat) : Int) := by
 have := orL_go L 0 (by decide) h
 rw [Nat.zero_or] at this
 exact this
theorem left_set (hr : r ≤ 64) (hs : s < 2 ^ 64) : Q.orL (Q.leftL (s : Int) (r : Int).toNat) = ((lft r s : Nat) : Int) := by
 rw [Int.toNat_natCast]
 have hm : ∀ i ∈ Q.leftL (s : Int) r, i < r ∧ s.testBit i = false := fun i hi => by
  obtain ⟨h1, h2⟩ := List.mem_filter.1 hi
  rw [hasB_bit hs] at h2
  exact ⟨List.mem_range.1 h1, by simpa using h2⟩
 rw [orL_nat _ fun i hi => by have := (hm i hi).1; omega]
 congr 1
 refine bit_ext fun i => ?_
 rw [lft_bit hr hs]
 unfold Bit
 rw [testBit_ofL, decide_eq_true_eq]
 constructor
 ·intro hi
  have := hm i hi
  exact ⟨this.1, by rw [this.2]; decide⟩
 ·rintro ⟨h1, h2⟩
  refine List.mem_filter.2 ⟨List.mem_range.2 h1, ?_⟩
  rw [hasB_bit hs]
  simpa using h2
theorem rho_le (hb : bytesB l = true) (hl : l.length = r * c) (hc : c ≤ 64) (h : Val r s) : rho c l s ≤ c := by
 have hpb := pick_bytes (c := c) hb (ints (setL s))
 have hpl := pk_len hl h
 have h1 := fst_len (l := pk c l s) hpb hpl (setL_length s) hc
 have h2 : rho c l s = (fstP (setL s).length c (pk c l s)).length := by
  show (redL (setL s).length c (pk c l s)).2.length = _
  rw [redL_rk]
  exact (rk_trans hpb hpl (setL_length s) hc).symm
 omega
def Gen (r c : Nat) : Prop := 1 ≤ c ∧ c ≤ r
theorem rec_bad {a b x : Int} (h : matrix_Right.f a b l = some false) : Ends (fun k => Q.verdict_rec.f k a b l x) (0, false, 3) := by
 unfold Q.verdict_rec.f
 exact Ends.bind1 h (Ends.neg (fun e => by cases e.1) (Ends.const rfl))
theorem rec_shape {x : Int} (hl : l.length = r * c) (hr : r ≤ 64) (hc : c ≤ 64) (h : ¬ Gen r c) : Ends (fun k => Q.verdict_rec.f k (r : Int) (c : Int) l x) (0, false, 3) := by
 unfold Q.verdict_rec.f
 exact Ends.bind1 (right_of hr hc hl).1 (Ends.neg (fun e => h ⟨by have := e.2.1; omega, by have := e.2.2; omega⟩) (Ends.const rfl))
theorem rec_arg (hl : l.length = r * c) (hr : r ≤ 64) (hc : c ≤ 64) (hs : s < 2 ^ 64) (h : Gen r c) (hv : ¬ Val r s) : Ends (fun k => Q.verdict_rec.f k (r : Int) (c : Int) l (s : Int)) (0, false, 2) := by
 unfold Q.verdict_rec.f
 refine Ends.bind1 (right_of hr hc hl).1 (Ends.pos ⟨rfl, by have := h.1; omega, by have := h.2; omega⟩ (Ends.bind1 (Full18 hr) (Ends.neg (fun e => hv ((val_iff hr hs).1 e.2)) (Ends.const rfl))))
def src (r c : Nat) (l : List Int) (s : Nat) : Nat := bas c l (lft r s)
theorem rec_eq (hb : bytesB l = true) (hl : l.length = r * c) (hr : r ≤ 64) (hc : c ≤ 64) (hs : s < 2 ^ 64) (h : Gen r c) (hv : Val r s) :
  Ends (fun k => Q.verdict_rec.f k (r : Int) (c : Int) l (s : Int)) (if rho c l (lft r s) = c then ((src r c l s : Int), true, 0) else (0, false, 0)) := by
 have hx := lft_lt (s := s) hr
 have hxv := lft_val hr hs
 have hle := rho_le hb hl hc hxv
 have hcard := bas_card hb hl hr hc hx hxv
 unfold Q.verdict_rec.f
 refine Ends.bind1 (right_of hr hc hl).1 (Ends.pos ⟨rfl, by have := h.1; omega, by have := h.2; omega⟩ (Ends.bind1 (Full18 hr) (Ends.pos ⟨rfl, (val_iff hr hs).2 hv⟩ ?_)))
 rw [left_set hr hs]
 refine Ends.bind (Basis7 hb hl hr hc hx hxv) (Ends.pos rfl (Ends.bind1 (Count_eq (bas_lt hb hl hr hc hx hxv)) ?_))
 rw [hcard]
 by_cases e : rho c l (lft r s) = c
 ·rw [if_pos e]
  exact Ends.neg (by omega) (Ends.const rfl)
 ·rw [if_neg e]
  exact Ends.pos (by omega) (Ends.const rfl)
theorem gen_eq (hl : l.length = r * c) (hr : r ≤ 64) (hc : c ≤ 64) : recoupref16_Generator.f (r : Int) (c : Int) l = some (decide (1 ≤ c) && decide (c ≤ r)) := by
 unfold recoupref16_Generator.f
 rw [(right_of hr hc hl).2, Option.bind_some, if_pos rfl]
 by_cases h : (c : Int) ≥ 1
 ·rw [if_pos h, show decide (1 ≤ c) = true from decide_eq_true (by omega), Bool.true_and]
  congr 1
  exact decide_eq_decide.2 (by omega)
 ·rw [if_neg h, show decide (1 ≤ c) = false from decide_eq_false (by omega), Bool.false_and]
theorem rleft_bad {a b x : Int} (h : recoupref03_Right.f a b l = some false) : Ends (fun k => recoupref18_left.f k a b l x) (0, 3) := by
 have hg : recoupref16_Generator.f a b l = some false := by unfold recoupref16_Generator.f; rw [h]; rfl
 unfold recoupref18_left.f
 exact Ends.bind1 hg (Ends.neg (by decide) (Ends.const rfl))
theorem rleft_shape {x : Int} (hl : l.length = r * c) (hr : r ≤ 64) (hc : c ≤ 64) (h : ¬ Gen r c) : Ends (fun k => recoupref18_left.f k (r : Int) (c : Int) l x) (0, 3) := by
 unfold recoupref18_left.f
 refine Ends.bind1 (gen_eq hl hr hc) (Ends.neg (fun e => h ?_) (Ends.const rfl))
 rw [Bool.and_eq_true, decide_eq_true_eq, decide_eq_true_eq] at e
 exact e
theorem gen_true (h : Gen r c) : (decide (1 ≤ c) && decide (c ≤ r)) = true := by
 rw [Bool.and_eq_true, decide_eq_true_eq, decide_eq_true_eq]
 exact h
theorem rleft_arg (hl : l.length = r * c) (hr : r ≤ 64) (hc : c ≤ 64) (hs : s < 2 ^ 64) (h : Gen r c) (hv : ¬ Val r s) : Ends (fun k => recoupref18_left.f k (r : Int) (c : Int) l (s : Int)) (0, 2) := by
 unfold recoupref18_left.f
 exact Ends.bind1 (gen_eq hl hr hc) (Ends.pos (gen_true h) (Ends.bind (rFull18 hr) (Ends.neg (fun e => hv ((val_iff hr hs).1 e)) (Ends.const rfl))))
theorem rleft_eq (hl : l.length = r * c) (hr : r ≤ 64) (hc : c ≤ 64) (hs : s < 2 ^ 64) (h : Gen r c) (hv : Val r s) : Ends (fun k => recoupref18_left.f k (r : Int) (c : Int) l (s : Int)) ((lft r s : Int), 0) := by
 unfold recoupref18_left.f
 refine Ends.bind1 (gen_eq hl hr hc) (Ends.pos (gen_true h) (Ends.bind (rFull18 hr) (Ends.pos ((val_iff hr hs).2 hv) (Ends.const ?_))))
 rw [show Go.bits .andNot .u64 ((2 ^ r - 1 : Nat) : Int) (s : Int) = ((wo (2 ^ r - 1) s : Nat) : Int) from bandNot (low18 hr) hs]
 rfl
theorem rrec_no {a b x e : Int} (he : e ≠ 0) (h : Ends (fun k => recoupref18_left.f k a b l x) (0, e)) : Ends (fun k => recoupref18_Recovers.f k a b l x) (false, e) := by
 unfold recoupref18_Recovers.f
 exact Ends.bind h (Ends.neg he (Ends.const rfl))
theorem rrec_eq (hb : bytesB l = true) (hl : l.length = r * c) (hr : r ≤ 64) (hc : c ≤ 64) (hs : s < 2 ^ 64) (h : Gen r c) (hv : Val r s) : Ends (fun k => recoupref18_Recovers.f k (r : Int) (c : Int) l (s : Int)) (decide (rho c l (lft r s) = c), 0) := by
 have hC := rCovers7 (rRank7 hb hl hr hc (lft_lt (s := s) hr) (lft_val hr hs))
 rw [if_pos rfl] at hC
 have e : ((rho c l (lft r s) : Int) == (c : Int)) = decide (rho c l (lft r s) = c) := by
  rw [Bool.eq_iff_iff, beq_iff_eq, decide_eq_true_eq]
  omega
 rw [e] at hC
 unfold recoupref18_Recovers.f
 exact Ends.bind (rleft_eq hl hr hc hs h hv) (Ends.pos rfl (Ends.bind hC (Ends.const rfl)))
end
theorem args18 {a b x : Int} {l : List Int} (hb : bytesB l = true) (ha : (Lit.int .i64 a).wf = true) (hx : (Lit.int .u64 x).wf = true) :
  (∃ e : Int, e ≠ 0 ∧ Ends (fun k => Q.verdict_rec.f k a b l x) (0, false, e) ∧ Ends (fun k => recoupref18_left.f k a b l x) (0, e)) ∨
  ∃ r c s : Nat, a = (r : Int) ∧ b = (c : Int) ∧ x = (s : Int) ∧ r ≤ 64 ∧ c ≤ 64 ∧ l.length = r * c ∧ s < 2 ^ 64 ∧ Gen r c ∧ Val r s := by
 rcases args7 (b := b) (l := l) ha hx with ⟨h1, h2⟩ | ⟨r, c, s, rfl, rfl, rfl, hr, hc, hl, hs⟩
 ·exact .inl ⟨3, by decide, rec_bad h2, rleft_bad h1⟩
 ·by_cases hg : Gen r c
  ·by_cases hv : Val r s
   ·exact .inr ⟨r, c, s, rfl, rfl, rfl, hr, hc, hl, hs, hg, hv⟩
   ·exact .inl ⟨2, by decide, rec_arg hl hr hc hs hg hv, rleft_arg hl hr hc hs hg hv⟩
  ·exact .inl ⟨3, by decide, rec_shape hl hr hc hg, rleft_shape hl hr hc hg⟩
theorem Rec18 {a b x : Int} {l : List Int} {p : Int × Bool × Int} (h : Ends (fun k => Q.verdict_rec.f k a b l x) p) : Ends (fun k => Q.verdict_Recovers.f k a b l x) (p.2.1, if p.2.1 = true then 0 else p.2.2) := by
 unfold Q.verdict_Recovers.f
 exact Ends.bind h (Ends.const rfl)
theorem Src18 {a b x : Int} {l : List Int} {p : Int × Bool × Int} (h : Ends (fun k => Q.verdict_rec.f k a b l x) p) : Ends (fun k => Q.verdict_Sources.f k a b l x) (if p.2.1 = true then p.1 else 0, p.2.1, if p.2.1 = true then 0 else p.2.2) := by
 unfold Q.verdict_Sources.f
 exact Ends.bind h (Ends.const rfl)
end Go.Proofs.YtkagobkedifhkaaDoor.M
namespace Go.Proofs.YtkagobkedifhkaaDoor.M
open Go.RowKit Go.Proofs.YtkagobkedifhkaaDoorW.PrintWords Go.Proofs.YtkagobkedifhkaaDoorW.PrintLast Go.Proofs.YtkagobkedifhkaaDoorW.PrintMore Go.Proofs.YtkagobkedifhkaaDoor.Q
set_option linter.unusedVariables false
theorem anch18 : Ends (fun k => recouplaw18_anchored.f k) true := Ends.of_mono recouplaw18_anchored.mono (K := 70) (by kernel_rfl)
theorem gen18_no {a b x e : Int} {l : List Int} (he : e ≠ 0) (h : Ends (fun k => recoupref18_left.f k a b l x) (0, e)) : Ends (fun k => recouplaw18_generator.f k a b l x) false := by
 unfold recouplaw18_generator.f
 exact Ends.bind (rrec_no he h) (Ends.const (by simpa using he))
theorem gen18_eq {r c s : Nat} {l : List Int} (hb : bytesB l = true) (hl : l.length = r * c) (hr : r ≤ 64) (hc : c ≤ 64) (hs : s < 2 ^ 64) (h : Gen r c) (hv : Val r s) : Ends (fun k => recouplaw18_generator.f k (r : Int) (c : Int) l (s : Int)) true := by
 unfold recouplaw18_generator.f
 exact Ends.bind (rrec_eq hb hl hr hc hs h hv) (Ends.const rfl)
end Go.Proofs.YtkagobkedifhkaaDoor.M
