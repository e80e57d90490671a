/- Plain facts behind the law ShareBest: what its printed functions answer, as lists of whole numbers and as vectors over the field of 256 elements. -/
import Derived.Test.YtnfemjnajfdepaaV
import Derived.Laws.Bits64
import Derived.Laws.Bits64b
import Derived.RowKit
import GoSem.Claim
import Derived.Lib.TrailingZeros
import Derived.Test.YtnfemjnajfdepaaQx111
import Derived.Test.YtnfemjnajfdepaaQx118
import Derived.Test.YtnfemjnajfdepaaQx123
import Derived.Test.YtnfemjnajfdepaaQx125
import Derived.Test.YtnfemjnajfdepaaQx126
import Derived.Test.YtnfemjnajfdepaaQx127
import Derived.Test.YtnfemjnajfdepaaQx135
import Derived.Test.YtnfemjnajfdepaaQx136
import Derived.Test.YtnfemjnajfdepaaQx138
import Derived.Test.YtnfemjnajfdepaaQx151
import Derived.Test.YtnfemjnajfdepaaQx152
namespace Go.Proofs.Ytnfemjnajfdepaa.M
set_option linter.unusedVariables false
set_option linter.unusedSimpArgs false
open Go.RowKit Go.Proofs.YtnfemjnajfdepaaW.PrintWords Go.Proofs.YtnfemjnajfdepaaW.PrintMore
def Ends {α : Type} (g : Nat → Option α) (r : α) : Prop := ∃ K, ∀ k, K ≤ k → g k = some r
theorem Ends.const {α : Type} {x : Option α} {r : α} (h : x = some r) : Ends (fun _ => x) r := ⟨0, fun _ _ => h⟩
theorem Ends.exists {α : Type} {g : Nat → Option α} {r : α} (h : Ends g r) : ∃ k, g k = some r := by
 obtain ⟨K, h⟩ := h
 exact ⟨K, h K (Nat.le_refl _)⟩
theorem Ends.bind {α β : Type} {f : Nat → Option α} {h : Nat → α → Option β} {x : α} {r : β} (hf : Ends f x) (hh : Ends (fun k => h k x) r) : Ends (fun k => (f k).bind (h k)) r := by
 obtain ⟨K, hf⟩ := hf
 obtain ⟨L, hh⟩ := hh
 refine ⟨max K L, fun k hk => ?_⟩
 show (f k).bind (h k) = some r
 rw [hf k (by omega)]
 exact hh k (by omega)
theorem Ends.bind1 {α β : Type} {x : Option α} {h : Nat → α → Option β} {a : α} {r : β} (hx : x = some a) (hh : Ends (fun k => h k a) r) : Ends (fun k => x.bind (h k)) r := by
 subst hx
 exact hh
theorem Ends.pos {α : Type} {f g : Nat → Option α} {c : Prop} [Decidable c] {r : α} (hc : c) (hf : Ends f r) : Ends (fun k => if c then f k else g k) r := by
 simp only [if_pos hc]
 exact hf
theorem Ends.neg {α : Type} {f g : Nat → Option α} {c : Prop} [Decidable c] {r : α} (hc : ¬ c) (hg : Ends g r) : Ends (fun k => if c then f k else g k) r := by
 simp only [if_neg hc]
 exact hg
theorem Ends.succ {α : Type} {l body : Nat → Option α} {r : α} (hs : ∀ k, l (k + 1) = body k) (hb : Ends body r) : Ends l r := by
 obtain ⟨K, hb⟩ := hb
 refine ⟨K + 1, fun k hk => ?_⟩
 obtain ⟨j, rfl⟩ : ∃ j, k = j + 1 := ⟨k - 1, by omega⟩
 rw [hs]
 exact hb j (by omega)
theorem Ends.congr {α : Type} {f g : Nat → Option α} {r : α} (h : ∀ k, f k = g k) (hg : Ends g r) : Ends f r := by
 obtain ⟨K, hg⟩ := hg
 exact ⟨K, fun k hk => by rw [h, hg k hk]⟩
theorem Ends.eq {α : Type} {g : Nat → Option α} {r r' : α} (h : Ends g r) (e : r = r') : Ends g r' := e ▸ h
theorem w64 {x : Int} (h0 : -9223372036854775808 ≤ x) (h1 : x ≤ 9223372036854775807) : wrap64 x = x := by unfold wrap64; omega
theorem wu64 {x : Int} (h0 : 0 ≤ x) (h1 : x < 18446744073709551616) : IntKind.u64.wrap x = x := by rw [IntKind.wrap_u64]; omega
theorem rd_nat (l : List Int) (i : Nat) : rd l (i : Int) = l.getD i 0 := by simp [rd]
end Go.Proofs.Ytnfemjnajfdepaa.M
namespace Go.Proofs.Ytnfemjnajfdepaa.M
structure El where
 v : BitVec 8
deriving DecidableEq
theorem El.eq {a b : El} (h : a.v = b.v) : a = b := by cases a; cases b; cases h; rfl
instance : Add El := ⟨fun a b => ⟨a.v ^^^ b.v⟩⟩
instance : Zero El := ⟨⟨0⟩⟩
instance : OfNat El 0 := ⟨⟨0⟩⟩
instance : OfNat El 1 := ⟨⟨1⟩⟩
theorem add_comm (a b : El) : a + b = b + a := El.eq (BitVec.xor_comm _ _)
theorem add_assoc (a b c : El) : a + b + c = a + (b + c) := El.eq (BitVec.xor_assoc _ _ _)
theorem add_zero (a : El) : a + 0 = a := El.eq BitVec.xor_zero
theorem zero_add (a : El) : 0 + a = a := El.eq BitVec.zero_xor
instance : Std.Commutative (α := El) (· + ·) := ⟨add_comm⟩
instance : Std.Associative (α := El) (· + ·) := ⟨add_assoc⟩
def xt (a : BitVec 8) : BitVec 8 := (a <<< 1) ^^^ (if a.getLsbD 7 then 0x1d#8 else 0#8)
theorem xt_xor (a b : BitVec 8) : xt (a ^^^ b) = xt a ^^^ xt b := by
 unfold xt
 rw [BitVec.shiftLeft_xor_distrib, BitVec.getLsbD_xor]
 cases a.getLsbD 7 <;> cases b.getLsbD 7 <;> simp <;> first | ac_rfl | skip
 ·rw [show a <<< 1 ^^^ 29#8 ^^^ (b <<< 1 ^^^ 29#8) = (a <<< 1 ^^^ b <<< 1) ^^^ (29#8 ^^^ 29#8) from by ac_rfl]
  simp
def xtn : Nat → BitVec 8 → BitVec 8
 | 0, a => a
 | n + 1, a => xt (xtn n a)
theorem xtn_xor : ∀ n a b, xtn n (a ^^^ b) = xtn n a ^^^ xtn n b
 | 0, _, _ => rfl
 | n + 1, a, b => by
  show xt (xtn n (a ^^^ b)) = _
  rw [xtn_xor n, xt_xor]
  rfl
theorem xtn_xt : ∀ n a, xtn n (xt a) = xt (xtn n a)
 | 0, _ => rfl
 | n + 1, a => by
  show xt (xtn n (xt a)) = _
  rw [xtn_xt n]
  rfl
theorem xtn_add : ∀ m n a, xtn (m + n) a = xtn m (xtn n a)
 | 0, n, a => by rw [Nat.zero_add]; rfl
 | m + 1, n, a => by
  rw [show m + 1 + n = (m + n) + 1 from by omega]
  show xt (xtn (m + n) a) = xt (xtn m (xtn n a))
  rw [xtn_add m]
def gmN (a b : BitVec 8) : Nat → BitVec 8
 | 0 => 0
 | n + 1 => gmN a b n ^^^ (if b.getLsbD n then xtn n a else 0)
def gm (a b : BitVec 8) : BitVec 8 := gmN a b 8
theorem gmN_xor_right (a b c : BitVec 8) : ∀ n, gmN a (b ^^^ c) n = gmN a b n ^^^ gmN a c n
 | 0 => by simp [gmN]
 | n + 1 => by
  show gmN a (b ^^^ c) n ^^^ _ = (gmN a b n ^^^ _) ^^^ (gmN a c n ^^^ _)
  rw [gmN_xor_right a b c n, BitVec.getLsbD_xor, show (gmN a b n ^^^ if b.getLsbD n = true then xtn n a else 0) ^^^ (gmN a c n ^^^ if c.getLsbD n = true then xtn n a else 0) = (gmN a b n ^^^ gmN a c n) ^^^ ((if b.getLsbD n = true then xtn n a else 0) ^^^ (if c.getLsbD n = true then xtn n a else 0)) from by ac_rfl]
  cases b.getLsbD n <;> cases c.getLsbD n <;> simp
theorem gmN_xor_left (a b c : BitVec 8) : ∀ n, gmN (a ^^^ b) c n = gmN a c n ^^^ gmN b c n
 | 0 => by simp [gmN]
 | n + 1 => by
  show gmN (a ^^^ b) c n ^^^ _ = (gmN a c n ^^^ _) ^^^ (gmN b c n ^^^ _)
  rw [gmN_xor_left a b c n, show (gmN a c n ^^^ if c.getLsbD n = true then xtn n a else 0) ^^^ (gmN b c n ^^^ if c.getLsbD n = true then xtn n b else 0) = (gmN a c n ^^^ gmN b c n) ^^^ ((if c.getLsbD n = true then xtn n a else 0) ^^^ (if c.getLsbD n = true then xtn n b else 0)) from by ac_rfl, xtn_xor]
  cases c.getLsbD n <;> simp
theorem gmN_xt (a b : BitVec 8) : ∀ n, gmN (xt a) b n = xt (gmN a b n)
 | 0 => show (0 : BitVec 8) = xt 0 by decide
 | n + 1 => by
  show gmN (xt a) b n ^^^ _ = xt (gmN a b n ^^^ _)
  rw [gmN_xt a b n, xt_xor, xtn_xt]
  cases b.getLsbD n
  ·have : xt (0 : BitVec 8) = 0 := by decide
   simp only [Bool.false_eq_true, if_false]
   rw [this]
  ·simp
theorem gm_one_left : ∀ b : BitVec 8, gm 1 b = b := by decide +kernel
theorem gm_one_right : ∀ a : BitVec 8, gm a 1 = a := by decide +kernel
def pw (n : Nat) : BitVec 8 := xtn n 1
theorem gm_pw : ∀ i b, gm (pw i) b = xtn i b
 | 0, b => gm_one_left b
 | i + 1, b => by
  show gmN (xt (pw i)) b 8 = _
  rw [gmN_xt]
  show xt (gm (pw i) b) = _
  rw [gm_pw i b]
  rfl
theorem gm_pw_pw (i j : Nat) : gm (pw i) (pw j) = pw (i + j) := by
 rw [gm_pw]
 unfold pw
 rw [xtn_add]
theorem pw_255 : pw 255 = 1 := by decide +kernel
theorem pw_add_255 (n : Nat) : pw (n + 255) = pw n := by
 unfold pw
 rw [xtn_add]
 exact congrArg _ pw_255
def lgFrom (a : BitVec 8) : Nat → Nat → BitVec 8 → Nat
 | 0, i, _ => i
 | f + 1, i, p => if p = a then i else lgFrom a f (i + 1) (xt p)
def lg (a : BitVec 8) : Nat := lgFrom a 254 0 1
theorem lgFrom_le (a : BitVec 8) : ∀ f i p, lgFrom a f i p ≤ i + f
 | 0, i, p => Nat.le_refl _
 | f + 1, i, p => by
  unfold lgFrom
  split
  ·omega
  ·have := lgFrom_le a f (i + 1) (xt p)
   omega
theorem lg_le (a : BitVec 8) : lg a ≤ 254 := by have := lgFrom_le a 254 0 1; unfold lg; omega
theorem pw_lg : ∀ a : BitVec 8, a ≠ 0 → pw (lg a) = a := by decide +kernel
theorem gm_zero_right (a : BitVec 8) : gm a 0 = 0 := by
 have := gmN_xor_right a 0 0 8
 simpa [gm] using this
theorem gm_zero_left (b : BitVec 8) : gm 0 b = 0 := by
 have := gmN_xor_left 0 0 b 8
 simpa [gm] using this
theorem gm_comm (a b : BitVec 8) : gm a b = gm b a := by
 by_cases ha : a = 0
 ·subst ha; rw [gm_zero_left, gm_zero_right]
 ·by_cases hb : b = 0
  ·subst hb; rw [gm_zero_left, gm_zero_right]
  ·rw [← pw_lg a ha, ← pw_lg b hb, gm_pw_pw, gm_pw_pw, Nat.add_comm]
theorem gm_assoc (a b c : BitVec 8) : gm (gm a b) c = gm a (gm b c) := by
 by_cases ha : a = 0
 ·subst ha; rw [gm_zero_left, gm_zero_left, gm_zero_left]
 ·by_cases hb : b = 0
  ·subst hb; rw [gm_zero_right, gm_zero_left, gm_zero_right]
  ·by_cases hc : c = 0
   ·subst hc; rw [gm_zero_right, gm_zero_right, gm_zero_right]
   ·rw [← pw_lg a ha, ← pw_lg b hb, ← pw_lg c hc, gm_pw_pw, gm_pw_pw, gm_pw_pw, gm_pw_pw, Nat.add_assoc]
def ginv (a : BitVec 8) : BitVec 8 := if a = 0 then 0 else pw (255 - lg a)
theorem gm_inv (a : BitVec 8) (h : a ≠ 0) : gm a (ginv a) = 1 := by
 unfold ginv
 have hl := lg_le a
 rw [if_neg h]
 conv => lhs; arg 1; rw [← pw_lg a h]
 rw [gm_pw_pw, show lg a + (255 - lg a) = 255 from by omega, pw_255]
instance : Mul El := ⟨fun a b => ⟨gm a.v b.v⟩⟩
def El.inv (a : El) : El := ⟨ginv a.v⟩
theorem mul_comm (a b : El) : a * b = b * a := El.eq (gm_comm _ _)
theorem mul_assoc (a b c : El) : a * b * c = a * (b * c) := El.eq (gm_assoc _ _ _)
instance : Std.Commutative (α := El) (· * ·) := ⟨mul_comm⟩
instance : Std.Associative (α := El) (· * ·) := ⟨mul_assoc⟩
theorem mul_left_comm (a b c : El) : a * (b * c) = b * (a * c) := by ac_rfl
theorem mul_one (a : El) : a * 1 = a := El.eq (gm_one_right _)
theorem one_mul (a : El) : 1 * a = a := El.eq (gm_one_left _)
theorem mul_zero (a : El) : a * 0 = 0 := El.eq (gm_zero_right _)
theorem zero_mul (a : El) : 0 * a = 0 := El.eq (gm_zero_left _)
theorem mul_add (a b c : El) : a * (b + c) = a * b + a * c := El.eq (gmN_xor_right _ _ _ 8)
theorem add_mul (a b c : El) : (a + b) * c = a * c + b * c := El.eq (gmN_xor_left _ _ _ 8)
theorem one_ne_zero : (1 : El) ≠ 0 := by decide
theorem v_ne {a : El} (h : a ≠ 0) : a.v ≠ 0 := fun e => h (El.eq e)
theorem mul_inv {a : El} (h : a ≠ 0) : a * a.inv = 1 := El.eq (gm_inv _ (v_ne h))
theorem inv_mul {a : El} (h : a ≠ 0) : a.inv * a = 1 := by rw [mul_comm, mul_inv h]
theorem inv_ne {a : El} (h : a ≠ 0) : a.inv ≠ 0 := fun e => by
 have := mul_inv h
 rw [e, mul_zero] at this
 exact one_ne_zero this.symm
theorem inv_unique {a b : El} (h : a * b = 1) : b = a.inv := by
 have ha : a ≠ 0 := fun e => by rw [e, zero_mul] at h; exact one_ne_zero h.symm
 rw [← one_mul b, ← inv_mul ha, mul_assoc, h, mul_one]
end Go.Proofs.Ytnfemjnajfdepaa.M
namespace Go.Proofs.Ytnfemjnajfdepaa.M
open Go.RowKit Go.Proofs.YtnfemjnajfdepaaW.PrintWords Go.Proofs.YtnfemjnajfdepaaW.PrintLast Go.Proofs.YtnfemjnajfdepaaW.PrintMore Go.Proofs.Ytnfemjnajfdepaa.Q
theorem wi64 {x : Nat} (h : x < 2 ^ 63) : IntKind.i64.wrap (x : Int) = (x : Int) := by
  rw [show IntKind.i64.wrap (x : Int) = wrap64 (x : Int) from i64_w _]
  exact w64 (by omega) (by omega)
theorem toNat64 {a : Nat} (h : a < 2 ^ 63) : (BitVec.ofInt 64 (a : Int)).toNat = a := by
  rw [BitVec.ofInt_natCast, BitVec.toNat_ofNat]; exact Nat.mod_eq_of_lt (by omega)
theorem band64 {a b : Nat} (ha : a < 2 ^ 63) (hb : b < 2 ^ 63) : Go.bits .and .i64 (a : Int) (b : Int) = ((a &&& b : Nat) : Int) := by
  show IntKind.i64.wrap ((BitVec.ofInt 64 (a : Int) &&& BitVec.ofInt 64 (b : Int)).toNat : Int) = _
  rw [BitVec.toNat_and, toNat64 ha, toNat64 hb]
  exact wi64 (Nat.lt_of_le_of_lt Nat.and_le_left ha)
theorem bxor64 {a b : Nat} (ha : a < 2 ^ 63) (hb : b < 2 ^ 63) : Go.bits .xor .i64 (a : Int) (b : Int) = ((a ^^^ b : Nat) : Int) := by
  show IntKind.i64.wrap ((BitVec.ofInt 64 (a : Int) ^^^ BitVec.ofInt 64 (b : Int)).toNat : Int) = _
  rw [BitVec.toNat_xor, toNat64 ha, toNat64 hb]
  exact wi64 (Nat.xor_lt_two_pow ha hb)
theorem shr64 {n i : Nat} (hi : i ≤ 64) : shr .i64 (n : Int) (i : Int) = ((n >>> i : Nat) : Int) := by
  unfold shr
  have e : min (i : Int).toNat IntKind.i64.bits = i := by simp [IntKind.bits]; omega
  rw [e, Nat.shiftRight_eq_div_pow]
  simp
theorem shr8 {n i : Nat} (hi : i ≤ 8) : shr .u8 (n : Int) (i : Int) = ((n >>> i : Nat) : Int) := by
  unfold shr
  have e : min (i : Int).toNat IntKind.u8.bits = i := by simp [IntKind.bits]; omega
  rw [e, Nat.shiftRight_eq_div_pow]
  simp
theorem shl64 {n i : Nat} (hn : n < 2 ^ 16) (hi : i ≤ 16) : shl .i64 (n : Int) (i : Int) = ((n <<< i : Nat) : Int) := by
  unfold shl
  have e : min (i : Int).toNat IntKind.i64.bits = i := by simp [IntKind.bits]; omega
  rw [e, Nat.shiftLeft_eq]
  have h : n * 2 ^ i < 2 ^ 63 := Nat.lt_of_lt_of_le (Nat.mul_lt_mul_of_lt_of_le hn (Nat.pow_le_pow_right (by decide) hi) (by decide)) (by decide)
  rw [show ((n : Int) * 2 ^ i) = ((n * 2 ^ i : Nat) : Int) from by simp]
  exact wi64 h
theorem and_one (n i : Nat) : (((n >>> i) &&& 1 : Nat) : Int) = 1 ↔ n.testBit i = true := by
  unfold Nat.testBit
  rw [Nat.and_comm 1 (n >>> i), bne_iff_ne, Nat.and_one_is_mod]
  omega
theorem bit64 {n i : Nat} (hn : n < 2 ^ 63) (hi : i ≤ 64) : (Go.bits .and .i64 (shr .i64 (n : Int) (i : Int)) 1 = 1) ↔ n.testBit i = true := by
  rw [shr64 hi, show (1 : Int) = ((1 : Nat) : Int) from rfl, band64 (Nat.lt_of_le_of_lt (Nat.shiftRight_le _ _) hn) (by decide)]
  exact and_one n i
theorem bit8 {n i : Nat} (hn : n < 256) (hi : i ≤ 8) : (Go.bits .and .u8 (shr .u8 (n : Int) (i : Int)) 1 = 1) ↔ n.testBit i = true := by
  rw [shr8 hi]
  have h1 : n >>> i < 256 := Nat.lt_of_le_of_lt (Nat.shiftRight_le _ _) hn
  have e : Go.bits .and .u8 ((n >>> i : Nat) : Int) 1 = (((n >>> i) &&& 1 : Nat) : Int) := by
    show IntKind.u8.wrap ((BitVec.ofInt 8 ((n >>> i : Nat) : Int) &&& BitVec.ofInt 8 ((1 : Nat) : Int)).toNat : Int) = _
    rw [BitVec.toNat_and, BitVec.ofInt_natCast, BitVec.ofInt_natCast, BitVec.toNat_ofNat, BitVec.toNat_ofNat, Nat.mod_eq_of_lt (by omega : n >>> i < 2 ^ 8), show 1 % 2 ^ 8 = 1 from rfl]
    have : (n >>> i) &&& 1 ≤ 1 := Nat.and_le_right
    rw [IntKind.wrap_u8]
    omega
  rw [e]
  exact and_one n i
def acc (a b : Nat) : Nat → Nat
  | 0 => 0
  | i + 1 => if b.testBit i then acc a b i ^^^ (a <<< i) else acc a b i
def rst (i p : Nat) : Nat := if p.testBit (i + 8) then p ^^^ (285 <<< i) else p
def red : Nat → Nat → Nat
  | 0, p => p
  | i + 1, p => red i (rst i p)
theorem rst_xor (i x y : Nat) : rst i (x ^^^ y) = rst i x ^^^ rst i y := by
  unfold rst
  rw [Nat.testBit_xor]
  cases x.testBit (i + 8) <;> cases y.testBit (i + 8) <;> simp
  · rw [Nat.xor_assoc]
  · rw [Nat.xor_assoc, Nat.xor_comm y, Nat.xor_assoc]
  · rw [Nat.xor_assoc, Nat.xor_comm (285 <<< i) , Nat.xor_assoc, Nat.xor_self, Nat.xor_zero]
theorem red_xor : ∀ i x y, red i (x ^^^ y) = red i x ^^^ red i y
  | 0, _, _ => rfl
  | i + 1, x, y => by unfold red; rw [rst_xor, red_xor i]
theorem red_zero : ∀ i, red i 0 = 0
  | 0 => rfl
  | i + 1 => by unfold red rst; simp [red_zero i]
theorem red_shl : ∀ a : BitVec 8, ∀ i : Fin 8, red 7 (a.toNat <<< i.val) = (xtn i.val a).toNat := by decide +kernel
theorem acc_lt {a b : Nat} (ha : a < 256) : ∀ i, i ≤ 8 → acc a b i < 2 ^ 16
  | 0, _ => by unfold acc; decide
  | i + 1, h => by
    unfold acc
    split
    · refine Nat.xor_lt_two_pow (acc_lt ha i (by omega)) ?_
      rw [Nat.shiftLeft_eq]
      exact Nat.lt_of_lt_of_le (Nat.mul_lt_mul_of_lt_of_le ha (Nat.pow_le_pow_right (by decide) (by omega : i ≤ 8)) (by decide)) (by decide)
    · exact acc_lt ha i (by omega)
theorem red_acc (a b : BitVec 8) : ∀ i, i ≤ 8 → red 7 (acc a.toNat b.toNat i) = (gmN a b i).toNat
  | 0, _ => by unfold acc gmN; rw [red_zero]; rfl
  | i + 1, h => by
    unfold acc gmN
    have e : b.getLsbD i = b.toNat.testBit i := rfl
    rw [e]
    split
    · rw [red_xor, red_acc a b i (by omega), red_shl a ⟨i, by omega⟩]
      simp
    · rw [red_acc a b i (by omega)]
      simp
theorem rst_lt {i p : Nat} (hp : p < 2 ^ 16) (hi : i ≤ 7) : rst i p < 2 ^ 16 := by
  unfold rst
  split
  · refine Nat.xor_lt_two_pow hp ?_
    rw [Nat.shiftLeft_eq]
    exact Nat.lt_of_lt_of_le (Nat.mul_lt_mul_of_lt_of_le (by decide : 285 < 512) (Nat.pow_le_pow_right (by decide) hi) (by decide)) (by decide)
  · exact hp
theorem Mul_l1 : ∀ i p : Nat, i ≤ 7 → p < 2 ^ 16 → Ends (fun k => recoupref01_Mul.l1 k (p : Int) ((i : Int) + 7)) (((red i p) % 256 : Nat) : Int)
  | 0, p, _, _ => Ends.succ (fun k => by rw [recoupref01_Mul.l1]) (Ends.neg (by omega) (Ends.const (by unfold red; simp)))
  | i + 1, p, hi, hp => by
    refine Ends.succ (fun k => by rw [recoupref01_Mul.l1]) (Ends.pos (by omega) ?_)
    have e0 : ((i + 1 : Nat) : Int) + 7 = ((i + 8 : Nat) : Int) := by omega
    have e1 : IntKind.u64.wrap (((i + 1 : Nat) : Int) + 7) = ((i + 8 : Nat) : Int) := by rw [e0]; exact wu64 (by omega) (by omega)
    have e2 : wrap64 (((i + 1 : Nat) : Int) + 7 - 1) = (i : Int) + 7 := by rw [w64 (by omega) (by omega)]; omega
    have e3 : IntKind.u64.wrap (wrap64 (((i + 1 : Nat) : Int) + 7 - 8)) = (i : Int) := by rw [w64 (by omega) (by omega), wu64 (by omega) (by omega)]; omega
    rw [e1, e2, e3]
    refine Ends.pos (Int.natCast_nonneg _) ?_
    have hb := bit64 (n := p) (i := i + 8) (by omega) (by omega)
    by_cases h : p.testBit (i + 8) = true
    · refine Ends.pos (hb.2 h) (Ends.pos (Int.natCast_nonneg _) ?_)
      have e4 : Go.bits .xor .i64 (p : Int) (shl .i64 285 (i : Int)) = ((rst i p : Nat) : Int) := by
        rw [show (285 : Int) = ((285 : Nat) : Int) from rfl, shl64 (by decide) (by omega), bxor64 (by omega) (by
          rw [Nat.shiftLeft_eq]
          exact Nat.lt_of_lt_of_le (Nat.mul_lt_mul_of_lt_of_le (by decide : 285 < 512) (Nat.pow_le_pow_right (by decide) (by omega : i ≤ 7)) (by decide)) (by decide))]
        unfold rst
        rw [if_pos h]
      rw [e4]
      exact Mul_l1 i (rst i p) (by omega) (rst_lt hp (by omega))
    · refine Ends.neg (fun e => h (hb.1 e)) ?_
      have e4 : rst i p = p := by unfold rst; rw [if_neg h]
      have := Mul_l1 i p (by omega) hp
      unfold red
      rw [e4]
      exact this
theorem Mul_l0 {a b : Nat} (ha : a < 256) (hb : b < 256) : ∀ n i : Nat, i + n = 8 → Ends (fun k => recoupref01_Mul.l0 k (a : Int) (b : Int) ((acc a b i : Nat) : Int) (i : Int)) (((red 7 (acc a b 8)) % 256 : Nat) : Int)
  | 0, i, h => by
    obtain rfl : i = 8 := by omega
    refine Ends.succ (fun k => by rw [recoupref01_Mul.l0]) (Ends.neg (by decide) ?_)
    exact Mul_l1 7 _ (by omega) (acc_lt ha 8 (Nat.le_refl _))
  | n + 1, i, h => by
    refine Ends.succ (fun k => by rw [recoupref01_Mul.l0]) (Ends.pos (by omega) ?_)
    have e1 : IntKind.u64.wrap (i : Int) = (i : Int) := wu64 (by omega) (by omega)
    have e2 : wrap64 ((i : Int) + 1) = ((i + 1 : Nat) : Int) := by rw [w64 (by omega) (by omega)]; omega
    rw [e1, e2]
    refine Ends.pos (Int.natCast_nonneg _) ?_
    have hbt := bit8 (n := b) (i := i) hb (by omega)
    have ih := Mul_l0 ha hb n (i + 1) (by omega)
    by_cases h1 : b.testBit i = true
    · refine Ends.pos (hbt.2 h1) ?_
      have e4 : Go.bits .xor .i64 ((acc a b i : Nat) : Int) (shl .i64 (wrap64 (a : Int)) (i : Int)) = ((acc a b (i + 1) : Nat) : Int) := by
        rw [w64 (by omega) (by omega), shl64 (by omega) (by omega), bxor64 (by have := acc_lt (b := b) ha i (by omega); omega) (by
          rw [Nat.shiftLeft_eq]
          exact Nat.lt_of_lt_of_le (Nat.mul_lt_mul_of_lt_of_le ha (Nat.pow_le_pow_right (by decide) (by omega : i ≤ 8)) (by decide)) (by decide))]
        conv => rhs; rw [acc]
        rw [if_pos h1]
      rw [e4]
      exact ih
    · refine Ends.neg (fun e => h1 (hbt.1 e)) ?_
      have e4 : acc a b (i + 1) = acc a b i := by conv => lhs; rw [acc]
                                                  rw [if_neg h1]
      rw [e4] at ih
      exact ih
def toE (x : Int) : El := ⟨BitVec.ofInt 8 x⟩
def ofE (e : El) : Int := ((e.v.toNat : Nat) : Int)
theorem ofE_toE {x : Int} (h : 0 ≤ x ∧ x < 256) : ofE (toE x) = x := by
  obtain ⟨n, rfl⟩ := Int.eq_ofNat_of_zero_le h.1
  unfold ofE toE
  rw [BitVec.ofInt_natCast, BitVec.toNat_ofNat, Nat.mod_eq_of_lt (by omega)]
theorem toE_inj {x y : Int} (hx : 0 ≤ x ∧ x < 256) (hy : 0 ≤ y ∧ y < 256) (h : toE x = toE y) : x = y := by rw [← ofE_toE hx, ← ofE_toE hy, h]
theorem Mul_ends {a b : Int} (ha : 0 ≤ a ∧ a < 256) (hb : 0 ≤ b ∧ b < 256) : Ends (fun k => recoupref01_Mul.f k a b) (ofE (toE a * toE b)) := by
  obtain ⟨x, rfl⟩ := Int.eq_ofNat_of_zero_le ha.1
  obtain ⟨y, rfl⟩ := Int.eq_ofNat_of_zero_le hb.1
  have hx : x < 256 := by omega
  have hy : y < 256 := by omega
  have h := Mul_l0 hx hy 8 0 rfl
  have e := red_acc (BitVec.ofNat 8 x) (BitVec.ofNat 8 y) 8 (Nat.le_refl _)
  rw [BitVec.toNat_ofNat, BitVec.toNat_ofNat, Nat.mod_eq_of_lt (by omega : x < 2 ^ 8), Nat.mod_eq_of_lt (by omega : y < 2 ^ 8)] at e
  refine Ends.eq h ?_
  rw [e, Nat.mod_eq_of_lt (gmN _ _ 8).isLt]
  unfold ofE toE
  rw [BitVec.ofInt_natCast, BitVec.ofInt_natCast]
  rfl
theorem xor_el {a b : Int} : toE (Go.bits .xor .u8 a b) = toE a + toE b := by
  refine El.eq ?_
  show BitVec.ofInt 8 (IntKind.u8.wrap ((BitVec.ofInt 8 a ^^^ BitVec.ofInt 8 b).toNat : Int)) = BitVec.ofInt 8 a ^^^ BitVec.ofInt 8 b
  have h := (BitVec.ofInt 8 a ^^^ BitVec.ofInt 8 b).isLt
  rw [IntKind.wrap_u8, Int.emod_eq_of_lt (by omega) (by omega), BitVec.ofInt_natCast, BitVec.ofNat_toNat, BitVec.setWidth_eq]
end Go.Proofs.Ytnfemjnajfdepaa.M
namespace Go.Proofs.Ytnfemjnajfdepaa.M
open Go.RowKit Go.Proofs.YtnfemjnajfdepaaW.PrintWords Go.Proofs.YtnfemjnajfdepaaW.PrintLast Go.Proofs.YtnfemjnajfdepaaW.PrintMore Go.Proofs.Ytnfemjnajfdepaa.Q
def el2 : El := ⟨2#8⟩
theorem dbl_all : ∀ a : Fin 256, toE (field_build.dbl (a.val : Int)) = el2 * toE (a.val : Int) ∧ 0 ≤ field_build.dbl (a.val : Int) ∧ field_build.dbl (a.val : Int) < 256 := by decide +kernel
theorem half_all : ∀ b : Fin 256, toE (b.val : Int) = el2 * toE ((b.val : Int) / 2) + (if Go.bits .and .u8 (b.val : Int) 1 = 0 then 0 else 1) := by decide +kernel
theorem dbl_el {a : Int} (h : 0 ≤ a ∧ a < 256) : toE (field_build.dbl a) = el2 * toE a ∧ 0 ≤ field_build.dbl a ∧ field_build.dbl a < 256 := by
  obtain ⟨n, rfl⟩ := Int.eq_ofNat_of_zero_le h.1
  exact dbl_all ⟨n, by omega⟩
theorem half_el {b : Int} (h : 0 ≤ b ∧ b < 256) : toE b = el2 * toE (b / 2) + (if Go.bits .and .u8 b 1 = 0 then 0 else 1) := by
  obtain ⟨n, rfl⟩ := Int.eq_ofNat_of_zero_le h.1
  exact half_all ⟨n, by omega⟩
theorem toE_zero : toE 0 = 0 := rfl
theorem toE_ne {a : Int} (h : 0 ≤ a ∧ a < 256) (h0 : a ≠ 0) : toE a ≠ 0 := fun e => h0 (toE_inj h (by omega) (e.trans toE_zero.symm))
theorem Mul_l0_el : ∀ (k : Nat) (a b p r : Int), 0 ≤ a ∧ a < 256 → 0 ≤ b ∧ b < 256 → field_Mul.l0 k a b p = some r → toE r = toE p + toE a * toE b
  | 0, a, b, p, r, _, _, h => by unfold field_Mul.l0 at h; cases h
  | k + 1, a, b, p, r, ha, hb, h => by
    unfold field_Mul.l0 at h
    by_cases e : b = 0
    · rw [if_pos e] at h
      obtain rfl : p = r := by simpa using h
      rw [e, toE_zero, mul_zero, add_zero]
    · rw [if_neg e, field_build.dbl_call, Option.bind_some, Option.bind_some] at h
      obtain ⟨hd, hd0, hd1⟩ := dbl_el ha
      have hh := half_el hb
      have hb2 : 0 ≤ b / 2 ∧ b / 2 < 256 := by omega
      by_cases e2 : Go.bits .and .u8 b 1 = 0
      · rw [if_pos e2] at h hh
        have ih := Mul_l0_el k _ _ _ _ ⟨hd0, hd1⟩ hb2 h
        rw [ih, hd, hh, add_zero, mul_comm el2 (toE a), mul_assoc]
      · rw [if_neg e2] at h hh
        have ih := Mul_l0_el k _ _ _ _ ⟨hd0, hd1⟩ hb2 h
        rw [ih, hd, hh, xor_el, mul_add, mul_one, mul_comm el2 (toE a), mul_assoc, add_assoc, add_comm (toE a) (toE a * _)]
theorem mulB_el {a b : Int} (ha : 0 ≤ a ∧ a < 256) (hb : 0 ≤ b ∧ b < 256) : toE (mulB a b) = toE a * toE b := by
  have := Mul_l0_el 9 a b 0 (mulB a b) ha hb (mulB_some hb).1
  rw [this, toE_zero, zero_add]
theorem mulB_ends {a b : Int} (ha : 0 ≤ a ∧ a < 256) (hb : 0 ≤ b ∧ b < 256) : Ends (fun k => recoupref01_Mul.f k a b) (mulB a b) := by
  refine Ends.eq (Mul_ends ha hb) ?_
  rw [← mulB_el ha hb, ofE_toE (mulB_some hb).2]
theorem exps_ok : (field_build.st 255).1 = (List.range 510).map fun i => ((pw i).toNat : Int) := by decide +kernel
theorem logs_ok : ((List.zip (field_build.st 255).2.1 (List.range 256)).all fun x => x.2 == 0 || (pw x.1.toNat).toNat == x.2) = true := by decide +kernel
theorem exp_el {n : Nat} (h : n < 510) : toE (field_build.exp n) = ⟨pw n⟩ := by
  unfold field_build.exp
  rw [exps_ok, List.getD_eq_getElem?_getD, List.getElem?_map, List.getElem?_range h]
  refine El.eq ?_
  unfold toE
  simp [BitVec.ofInt_natCast]
theorem log_el {a : Int} (h : 0 ≤ a ∧ a < 256) (h0 : a ≠ 0) : (⟨pw (field_build.log a.toNat).toNat⟩ : El) = toE a := by
  obtain ⟨n, rfl⟩ := Int.eq_ofNat_of_zero_le h.1
  have hn : n < 256 := by omega
  have hl : n < (field_build.st 255).2.1.length := by rw [(field_build.st_length 255).2]; exact hn
  have hz : n < (List.zip (field_build.st 255).2.1 (List.range 256)).length := by rw [List.length_zip, List.length_range]; omega
  have := List.all_eq_true.1 logs_ok _ (List.getElem_mem hz)
  rw [List.getElem_zip, List.getElem_range] at this
  simp only [Bool.or_eq_true, beq_iff_eq] at this
  rcases this with e | e
  · exact absurd (by rw [e]; rfl) h0
  · refine El.eq ?_
    unfold field_build.log toE
    rw [Int.toNat_natCast, List.getD_eq_getElem?_getD, List.getElem?_eq_getElem hl, Option.getD_some, BitVec.ofInt_natCast]
    refine BitVec.eq_of_toNat_eq ?_
    rw [e, BitVec.toNat_ofNat, Nat.mod_eq_of_lt (by omega)]
theorem pw_255k : ∀ k, pw (255 * k) = 1
  | 0 => rfl
  | k + 1 => by rw [Nat.mul_succ, pw_add_255, pw_255k k]
theorem invT_el {a : Int} (ha : 0 ≤ a ∧ a < 256) (h0 : a ≠ 0) : toE (invT a) = (toE a).inv := by
  have e : field_bounded.f (-1) = some 254 := by kernel_rfl
  have e2 : field_Inv.f a = some (field_build.exp ((field_build.log a.toNat * 254) % 255).toNat, 0) := by
    unfold field_Inv.f field_Pow.f
    rw [if_neg (by omega), if_neg h0, if_pos ha, e]
    simp
  have e3 : invT a = field_build.exp ((field_build.log a.toNat * 254) % 255).toNat := by unfold invT; rw [e2, Option.getD_some]
  rw [e3]
  obtain ⟨x0, x1⟩ := field_build.log_range (i := a.toNat) (by omega)
  rw [exp_el (by omega), ← log_el ha h0]
  obtain ⟨n, hn⟩ := Int.eq_ofNat_of_zero_le x0
  rw [hn, Int.toNat_natCast]
  refine inv_unique (El.eq ?_)
  show gm (pw n) (pw _) = 1
  rw [gm_pw_pw]
  have : n + (((n : Int) * 254) % 255).toNat = 255 * ((n + (((n : Int) * 254) % 255).toNat) / 255) := by omega
  rw [this]
  exact pw_255k _
theorem invT_range {a : Int} (ha : 0 ≤ a ∧ a < 256) (h0 : a ≠ 0) : 0 ≤ invT a ∧ invT a < 256 := (inv_some ha h0).2
theorem invAt_eq {a : Int} (ha : 0 ≤ a ∧ a < 256) (h0 : a ≠ 0) : invAt a = invT a := by
  obtain ⟨n, rfl⟩ := Int.eq_ofNat_of_zero_le ha.1
  have hn : n < 256 := by omega
  unfold invAt
  rw [Int.toNat_natCast, List.getD_eq_getElem?_getD, List.getElem?_eq_getElem (by rw [invTo_length]; exact hn), Option.getD_some]
  rw [invTo_get hn, if_pos (by omega)]
theorem Inv_from {a : Int} (ha : 0 ≤ a ∧ a < 256) (h0 : a ≠ 0) : ∀ n x : Nat, x + n = (invT a).toNat → 1 ≤ x → Ends (fun k => recoupref01_Inv.l0 k a (x : Int)) (invT a, 0)
  | n, x, h, hx => by
    obtain ⟨r0, r1⟩ := invT_range ha h0
    have hlt : x < 256 := by omega
    refine Ends.succ (fun k => by rw [recoupref01_Inv.l0]) (Ends.pos (by omega) ?_)
    have e1 : (x : Int) % 256 = (x : Int) := by omega
    rw [e1]
    refine Ends.bind (mulB_ends ha (b := (x : Int)) (by omega)) ?_
    cases n with
    | zero =>
      have hxi : (x : Int) = invT a := by omega
      refine Ends.pos ?_ (Ends.const (by rw [hxi]))
      rw [hxi]
      refine toE_inj (mulB_some ⟨r0, r1⟩).2 (by omega) ?_
      rw [mulB_el ha ⟨r0, r1⟩, invT_el ha h0, mul_inv (toE_ne ha h0)]
      rfl
    | succ n =>
      refine Ends.neg ?_ ?_
      · intro e
        have hb : 0 ≤ (x : Int) ∧ (x : Int) < 256 := by omega
        have := mulB_el ha hb
        rw [e] at this
        have h2 := inv_unique this.symm
        rw [← invT_el ha h0] at h2
        have := toE_inj hb ⟨r0, r1⟩ h2
        omega
      · have e2 : wrap64 ((x : Int) + 1) = ((x + 1 : Nat) : Int) := by rw [w64 (by omega) (by omega)]; omega
        rw [e2]
        exact Inv_from ha h0 n (x + 1) (by omega) (by omega)
theorem Inv_ends {a : Int} (ha : 0 ≤ a ∧ a < 256) (h0 : a ≠ 0) : Ends (fun k => recoupref01_Inv.f k a) (invT a, 0) := by
  have hr := invT_range ha h0
  have hn : invT a ≠ 0 := by
    intro e
    have := invT_el ha h0
    rw [e, toE_zero] at this
    exact inv_ne (toE_ne ha h0) this.symm
  have := Inv_from ha h0 ((invT a).toNat - 1) 1 (by omega) (Nat.le_refl _)
  exact this
theorem ratio_iff {a b r : Int} (ha : 0 ≤ a ∧ a < 256) (h0 : a ≠ 0) (hb : 0 ≤ b ∧ b < 256) (hr : 0 ≤ r ∧ r < 256) : mulB b (invAt a) = r ↔ mulB a r = b := by
  have hi := invT_range ha h0
  rw [invAt_eq ha h0]
  constructor
  · rintro rfl
    refine toE_inj (mulB_some hr).2 hb ?_
    rw [mulB_el ha hr, mulB_el hb hi, invT_el ha h0, mul_left_comm, mul_inv (toE_ne ha h0), mul_one]
  · rintro rfl
    refine toE_inj (mulB_some hi).2 hr ?_
    rw [mulB_el (mulB_some hr).2 hi, mulB_el ha hr, invT_el ha h0, mul_comm (toE a) (toE r), mul_assoc, mul_inv (toE_ne ha h0), mul_one]
end Go.Proofs.Ytnfemjnajfdepaa.M
namespace Go.Proofs.Ytnfemjnajfdepaa.M
open Go.RowKit Go.Proofs.YtnfemjnajfdepaaW.PrintWords Go.Proofs.YtnfemjnajfdepaaW.PrintLast Go.Proofs.YtnfemjnajfdepaaW.PrintMore Go.Proofs.Ytnfemjnajfdepaa.Q
def insOk : Int → List Int → Bool
 | _, [] => true
 | last, b :: r => (decide (last < b) && decide (b < 64)) && insOk b r
def termsOk (own : Int) : Int → List S61 → Bool
 | _, [] => true
 | last, t :: r => ((decide (last < t.f0) && decide (t.f0 < own)) && decide (t.f1 ≠ 0)) && termsOk own t.f0 r
def nodesOk : Int → List (List S61) → Bool
 | _, [] => true
 | n, l :: r => termsOk n (-1) l && nodesOk (n + 1) r
def outsOk (m : Int) (l : List Int) : Bool := l.all fun v => decide (0 ≤ v) && decide (v < m)
def sizeOk (L : List (List S61)) (outs : List Int) : Bool := decide (L.length ≤ 4096) && decide (outs.length ≤ 64)
def mayB (ins : List Int) (L : List (List S61)) (outs : List Int) : Bool := insOk (-1) ins && (sizeOk L outs && (nodesOk ins.length L && outsOk (ins.length + L.length) outs))
theorem rd_at {l : List Int} {i : Nat} (h : i < l.length) : rd l (i : Int) = l[i] := by rw [rd_nat]; simp [List.getD_eq_getElem?_getD, h]
theorem rdL_at {L : List (List S61)} {i : Nat} (h : i < L.length) : rd_L5 L (i : Int) = L[i] := by simp [rd_L5, List.getD_eq_getElem?_getD, h]
theorem step64 {i : Nat} (h : i < 4611686018427387904) : wrap64 ((i : Int) + 1) = ((i + 1 : Nat) : Int) := by rw [w64 (by omega) (by omega)]; omega
theorem terms_l0 {l : List S61} {own : Int} (hl : l.length ≤ 140737488355328) : ∀ n i : Nat, i + n = l.length → ∀ last : Int, Ends (fun k => flow_terms.l0 k own last l (l.length : Int) (i : Int)) (termsOk own last (l.drop i))
 | 0, i, h, last => by
  refine Ends.succ (fun k => by rw [flow_terms.l0]) (Ends.neg (by omega) (Ends.const ?_))
  rw [List.drop_eq_nil_of_le (by omega)]
  rfl
 | n + 1, i, h, last => by
  have hi : i < l.length := by omega
  refine Ends.succ (fun k => by rw [flow_terms.l0]) (Ends.pos (by omega) (Ends.pos (by omega) (Ends.pos (by omega) ?_)))
  rw [rd_T61_eq hi, step64 (by omega), List.drop_eq_getElem_cons hi]
  unfold termsOk
  by_cases h1 : l[i].f0 ≤ last
  ·exact Ends.pos h1 (Ends.const (by rw [decide_eq_false (by omega : ¬ last < l[i].f0)]; rfl))
  ·refine Ends.neg h1 ?_
   by_cases h2 : l[i].f0 ≥ own
   ·exact Ends.pos h2 (Ends.const (by rw [decide_eq_false (by omega : ¬ l[i].f0 < own), Bool.and_false]; rfl))
   ·refine Ends.neg h2 ?_
    by_cases h3 : l[i].f1 = 0
    ·exact Ends.pos h3 (Ends.const (by rw [decide_eq_false (fun e => e h3 : ¬ l[i].f1 ≠ 0), Bool.and_false]; rfl))
    ·refine Ends.neg h3 (Ends.eq (terms_l0 hl n (i + 1) (by omega) _) ?_)
     rw [decide_eq_true (by omega : last < l[i].f0), decide_eq_true (by omega : l[i].f0 < own), decide_eq_true h3]
     rfl
theorem any_all {p q : Int → Bool} (h : ∀ v, (!p v) = q v) : ∀ l : List Int, (!l.any p) = l.all q
 | [] => rfl
 | x :: l => by rw [List.any_cons, List.all_cons, Bool.not_or, h, any_all h l]
theorem flow_l1 {ins outs : List Int} {L : List (List S61)} (hi : ins.length ≤ 140737488355328) (ho : outs.length ≤ 140737488355328) (hL : L.length ≤ 4096) (hl : ∀ l ∈ L, l.length ≤ 140737488355328) : ∀ n i : Nat, i + n = L.length → Ends (fun k => flow_May.l1 k (ins.length : Int) L (L.length : Int) (i : Int) ins L outs) (nodesOk ((ins.length : Int) + (i : Int)) (L.drop i) && outsOk (ins.length + L.length) outs)
 | 0, i, h => by
  refine Ends.succ (fun k => by rw [flow_May.l1]) (Ends.neg (by omega) (Ends.const ?_))
  rw [List.drop_eq_nil_of_le (by omega)]
  unfold slices_ContainsFunc_int_int.f
  rw [if_pos ho, Option.bind_some, w64 (by omega) (by omega)]
  unfold nodesOk outsOk
  rw [Bool.true_and]
  refine congrArg some (any_all (fun v => ?_) outs)
  by_cases h1 : v < 0
  ·rw [decide_eq_true h1, decide_eq_false (by omega : ¬ 0 ≤ v)]
   rfl
  ·rw [decide_eq_false h1, decide_eq_true (by omega : 0 ≤ v)]
   by_cases h2 : (ins.length : Int) + (L.length : Int) ≤ v
   ·rw [decide_eq_true h2, decide_eq_false (by omega : ¬ v < (ins.length : Int) + (L.length : Int))]
    rfl
   ·rw [decide_eq_false h2, decide_eq_true (by omega : v < (ins.length : Int) + (L.length : Int))]
    rfl
 | n + 1, i, h => by
  have hi2 : i < L.length := by omega
  refine Ends.succ (fun k => by rw [flow_May.l1]) (Ends.pos (by omega) (Ends.pos (by omega) (Ends.pos (by omega) ?_)))
  rw [rdL_at hi2, step64 (by omega), List.drop_eq_getElem_cons hi2, w64 (by omega) (by omega)]
  unfold nodesOk
  have ht := terms_l0 (own := (ins.length : Int) + (i : Int)) (hl L[i] (List.getElem_mem hi2)) _ 0 (Nat.zero_add _) (-1)
  rw [List.drop_zero] at ht
  refine Ends.bind ht ?_
  cases e : termsOk ((ins.length : Int) + (i : Int)) (-1) L[i]
  ·exact Ends.neg (by decide) (Ends.const rfl)
  ·refine Ends.pos rfl (Ends.eq (flow_l1 hi ho hL hl n (i + 1) (by omega)) ?_)
   rw [Bool.true_and, show (ins.length : Int) + ((i + 1 : Nat) : Int) = (ins.length : Int) + (i : Int) + 1 from by omega]
theorem flow_j1 {ins outs : List Int} {L : List (List S61)} (hi : ins.length ≤ 140737488355328) (ho : outs.length ≤ 140737488355328) (hl : ∀ l ∈ L, l.length ≤ 140737488355328) :
  Ends (fun k => if (L.length : Int) > 4096 then flow_May.j1 k (ins.length : Int) true ins L outs else flow_May.j1 k (ins.length : Int) (decide ((outs.length : Int) > 64)) ins L outs) (sizeOk L outs && (nodesOk ins.length L && outsOk (ins.length + L.length) outs)) := by
 unfold sizeOk
 by_cases h : L.length ≤ 4096
 ·refine Ends.neg (by omega) (Ends.succ (fun k => by rw [flow_May.j1]) ?_)
  rw [decide_eq_true h]
  by_cases h2 : outs.length ≤ 64
  ·rw [decide_eq_true h2, decide_eq_false (by omega : ¬ (outs.length : Int) > 64)]
   refine Ends.neg (by decide) (Ends.eq (flow_l1 hi ho h hl _ 0 (Nat.zero_add _)) ?_)
   rw [List.drop_zero, Int.natCast_zero, Int.add_zero]
   rfl
  ·rw [decide_eq_false h2, decide_eq_true (by omega : (outs.length : Int) > 64)]
   exact Ends.pos rfl (Ends.const rfl)
 ·refine Ends.pos (by omega) (Ends.succ (fun k => by rw [flow_May.j1]) ?_)
  rw [decide_eq_false h]
  exact Ends.pos rfl (Ends.const rfl)
theorem flow_l0 {ins outs : List Int} {L : List (List S61)} (hi : ins.length ≤ 140737488355328) (ho : outs.length ≤ 140737488355328) (hl : ∀ l ∈ L, l.length ≤ 140737488355328) : ∀ n i : Nat, i + n = ins.length → ∀ last : Int, Ends (fun k => flow_May.l0 k last ins (ins.length : Int) (i : Int) ins L outs) (insOk last (ins.drop i) && (sizeOk L outs && (nodesOk ins.length L && outsOk (ins.length + L.length) outs)))
 | 0, i, h, last => by
  refine Ends.succ (fun k => by rw [flow_May.l0]) (Ends.neg (by omega) (Ends.eq (flow_j1 hi ho hl) ?_))
  rw [List.drop_eq_nil_of_le (by omega)]
  rfl
 | n + 1, i, h, last => by
  have hi2 : i < ins.length := by omega
  refine Ends.succ (fun k => by rw [flow_May.l0]) (Ends.pos (by omega) (Ends.pos (by omega) (Ends.pos (by omega) ?_)))
  rw [rd_at hi2, step64 (by omega), List.drop_eq_getElem_cons hi2]
  unfold insOk
  by_cases h1 : ins[i] ≤ last
  ·exact Ends.pos h1 (Ends.const (by rw [decide_eq_false (by omega : ¬ last < ins[i])]; rfl))
  ·refine Ends.neg h1 ?_
   by_cases h2 : ins[i] ≥ 64
   ·exact Ends.pos h2 (Ends.const (by rw [decide_eq_false (by omega : ¬ ins[i] < 64), Bool.and_false]; rfl))
   ·refine Ends.neg h2 (Ends.eq (flow_l0 hi ho hl n (i + 1) (by omega) _) ?_)
    rw [decide_eq_true (by omega : last < ins[i]), decide_eq_true (by omega : ins[i] < 64)]
    rfl
theorem flow_May_ends {ins outs : List Int} {L : List (List S61)} (hi : ins.length ≤ 140737488355328) (ho : outs.length ≤ 140737488355328) (hl : ∀ l ∈ L, l.length ≤ 140737488355328) : Ends (fun k => flow_May.f k ins L outs) (mayB ins L outs) :=
 flow_l0 hi ho hl _ 0 (Nat.zero_add _) (-1)
theorem ref_l3 {ins outs : List Int} {L : List (List S61)} (hi : ins.length ≤ 140737488355328) (ho : outs.length ≤ 140737488355328) (hL : L.length ≤ 4096) : ∀ n i : Nat, i + n = outs.length → Ends (fun k => recoupref21_May.l3 k (i : Int) ins L outs) (outsOk (ins.length + L.length) (outs.drop i))
 | 0, i, h => by
  refine Ends.succ (fun k => by rw [recoupref21_May.l3]) (Ends.neg (by omega) (Ends.const ?_))
  rw [List.drop_eq_nil_of_le (by omega)]
  rfl
 | n + 1, i, h => by
  have hi2 : i < outs.length := by omega
  refine Ends.succ (fun k => by rw [recoupref21_May.l3]) (Ends.pos (by omega) (Ends.pos (by omega) ?_))
  rw [rd_at hi2, step64 (by omega), List.drop_eq_getElem_cons hi2, w64 (by omega) (by omega)]
  unfold outsOk
  rw [List.all_cons]
  by_cases h1 : outs[i] < 0
  ·exact Ends.pos h1 (Ends.const (by rw [decide_eq_false (by omega : ¬ 0 ≤ outs[i])]; rfl))
  ·refine Ends.neg h1 ?_
   by_cases h2 : outs[i] ≥ (ins.length : Int) + (L.length : Int)
   ·exact Ends.pos h2 (Ends.const (by rw [decide_eq_false (by omega : ¬ outs[i] < (ins.length : Int) + (L.length : Int)), Bool.and_false]; rfl))
   ·refine Ends.neg h2 (Ends.eq (ref_l3 hi ho hL n (i + 1) (by omega)) ?_)
    rw [decide_eq_true (by omega : 0 ≤ outs[i]), decide_eq_true (by omega : outs[i] < (ins.length : Int) + (L.length : Int))]
    rfl
theorem ref_l2 {ins outs : List Int} {L : List (List S61)} (hi : ins.length ≤ 140737488355328) (hL : L.length ≤ 4096) (hl : ∀ l ∈ L, l.length ≤ 140737488355328) {m : Nat} (hm : m < L.length) {X : Bool} (hX : Ends (fun k => recoupref21_May.l1 k ((m + 1 : Nat) : Int) ins L outs) X) : ∀ n i : Nat, i + n = L[m].length → ∀ last : Int, ((i = 0 ∧ last = -1) ∨ ∃ h : i - 1 < L[m].length, 0 < i ∧ last = L[m][i - 1].f0 ∧ 0 ≤ last) → Ends (fun k => recoupref21_May.l2 k (m : Int) (i : Int) ins L outs) (termsOk ((ins.length : Int) + (m : Int)) last (L[m].drop i) && X)
 | 0, i, h, last, hlast => by
  refine Ends.succ (fun k => by rw [recoupref21_May.l2]) (Ends.pos (by omega) (Ends.pos (by omega) ?_))
  rw [rdL_at hm]
  refine Ends.neg (by omega) ?_
  rw [List.drop_eq_nil_of_le (by omega), step64 (by omega)]
  exact hX
 | n + 1, i, h, last, hlast => by
  have hi2 : i < L[m].length := by omega
  have hlm := hl L[m] (List.getElem_mem hm)
  refine Ends.succ (fun k => by rw [recoupref21_May.l2]) (Ends.pos (by omega) (Ends.pos (by omega) ?_))
  rw [rdL_at hm]
  refine Ends.pos (by omega) (Ends.pos (by omega) ?_)
  rw [rd_T61_eq hi2, step64 (by omega), List.drop_eq_getElem_cons hi2, w64 (x := (ins.length : Int) + (m : Int)) (by omega) (by omega)]
  unfold termsOk
  by_cases h3 : L[m][i].f1 = 0
  ·exact Ends.pos h3 (Ends.const (by rw [decide_eq_false (fun e => e h3 : ¬ L[m][i].f1 ≠ 0), Bool.and_false]; rfl))
  ·refine Ends.neg h3 ?_
   by_cases h4 : L[m][i].f0 < 0
   ·refine Ends.pos h4 (Ends.const ?_)
    have hge : -1 ≤ last := by rcases hlast with ⟨_, h⟩ | ⟨_, _, _, h⟩ <;> omega
    clear hlast
    rw [decide_eq_false (by omega : ¬ last < L[m][i].f0)]
    rfl
   ·refine Ends.neg h4 ?_
    by_cases h2 : L[m][i].f0 ≥ (ins.length : Int) + (m : Int)
    ·exact Ends.pos h2 (Ends.const (by rw [decide_eq_false (by omega : ¬ L[m][i].f0 < (ins.length : Int) + (m : Int)), Bool.and_false]; rfl))
    ·refine Ends.neg h2 ?_
     rw [decide_eq_true (by omega : L[m][i].f0 < (ins.length : Int) + (m : Int)), decide_eq_true h3]
     have ih := ref_l2 hi hL hl hm hX n (i + 1) (by omega) L[m][i].f0 (.inr ⟨hi2, by omega, rfl, by omega⟩)
     rcases hlast with ⟨rfl, rfl⟩ | ⟨hp, h0, rfl, hge⟩
     ·refine Ends.neg (by omega) (Ends.eq ih ?_)
      rw [decide_eq_true (by omega : (-1 : Int) < L[m][0].f0)]
      rfl
     ·refine Ends.pos (by omega) ?_
      have e : wrap64 ((i : Int) - 1) = ((i - 1 : Nat) : Int) := by rw [w64 (by omega) (by omega)]; omega
      rw [e]
      refine Ends.pos (by omega) (Ends.pos (by omega) ?_)
      rw [rd_T61_eq hp]
      by_cases h1 : L[m][i].f0 ≤ L[m][i - 1].f0
      ·exact Ends.pos h1 (Ends.const (by rw [decide_eq_false (by omega : ¬ L[m][i - 1].f0 < L[m][i].f0)]; rfl))
      ·refine Ends.neg h1 (Ends.eq ih ?_)
       rw [decide_eq_true (by omega : L[m][i - 1].f0 < L[m][i].f0)]
       rfl
theorem ref_l1 {ins outs : List Int} {L : List (List S61)} (hi : ins.length ≤ 140737488355328) (ho : outs.length ≤ 140737488355328) (hL : L.length ≤ 4096) (hl : ∀ l ∈ L, l.length ≤ 140737488355328) : ∀ n i : Nat, i + n = L.length → Ends (fun k => recoupref21_May.l1 k (i : Int) ins L outs) (nodesOk ((ins.length : Int) + (i : Int)) (L.drop i) && outsOk (ins.length + L.length) outs)
 | 0, i, h => by
  refine Ends.succ (fun k => by rw [recoupref21_May.l1]) ?_
  refine Ends.neg (by omega) ?_
  refine Ends.eq (ref_l3 hi ho hL _ 0 (Nat.zero_add _)) ?_
  rw [List.drop_zero, List.drop_eq_nil_of_le (by omega : L.length ≤ i)]
  rfl
 | n + 1, i, h => by
  have hi2 : i < L.length := by omega
  have ih := ref_l1 hi ho hL hl n (i + 1) (by omega)
  refine Ends.succ (fun k => by rw [recoupref21_May.l1]) ?_
  refine Ends.pos (by omega) ?_
  refine Ends.eq (ref_l2 hi hL hl hi2 ih _ 0 (Nat.zero_add _) (-1) (.inl ⟨rfl, rfl⟩)) ?_
  rw [List.drop_eq_getElem_cons hi2, List.drop_zero]
  conv => rhs; unfold nodesOk
  rw [Bool.and_assoc, show (ins.length : Int) + ((i + 1 : Nat) : Int) = (ins.length : Int) + (i : Int) + 1 from by omega]
theorem ref_l0 {ins outs : List Int} {L : List (List S61)} (hi : ins.length ≤ 140737488355328) (ho : outs.length ≤ 140737488355328) (hL : L.length ≤ 4096) (hl : ∀ l ∈ L, l.length ≤ 140737488355328) : ∀ n i : Nat, i + n = ins.length → ∀ last : Int, ((i = 0 ∧ last = -1) ∨ ∃ h : i - 1 < ins.length, 0 < i ∧ last = ins[i - 1] ∧ 0 ≤ last) → Ends (fun k => recoupref21_May.l0 k (i : Int) ins L outs) (insOk last (ins.drop i) && (nodesOk ins.length L && outsOk (ins.length + L.length) outs))
 | 0, i, h, last, hlast => by
  refine Ends.succ (fun k => by rw [recoupref21_May.l0]) ?_
  refine Ends.neg (by omega) ?_
  refine Ends.eq (ref_l1 hi ho hL hl _ 0 (Nat.zero_add _)) ?_
  rw [List.drop_zero, List.drop_eq_nil_of_le (by omega : ins.length ≤ i), Int.natCast_zero, Int.add_zero]
  rfl
 | n + 1, i, h, last, hlast => by
  have hi2 : i < ins.length := by omega
  refine Ends.succ (fun k => by rw [recoupref21_May.l0]) (Ends.pos (by omega) (Ends.pos (by omega) ?_))
  rw [rd_at hi2, step64 (by omega), List.drop_eq_getElem_cons hi2]
  unfold insOk
  by_cases h4 : ins[i] < 0
  ·refine Ends.pos h4 (Ends.const ?_)
   have hge : -1 ≤ last := by rcases hlast with ⟨_, h⟩ | ⟨_, _, _, h⟩ <;> omega
   clear hlast
   rw [decide_eq_false (by omega : ¬ last < ins[i])]
   rfl
  ·refine Ends.neg h4 ?_
   by_cases h2 : ins[i] ≥ 64
   ·exact Ends.pos h2 (Ends.const (by rw [decide_eq_false (by omega : ¬ ins[i] < 64), Bool.and_false]; rfl))
   ·refine Ends.neg h2 ?_
    rw [decide_eq_true (by omega : ins[i] < 64)]
    have ih := ref_l0 hi ho hL hl n (i + 1) (by omega) ins[i] (.inr ⟨hi2, by omega, rfl, by omega⟩)
    rcases hlast with ⟨rfl, rfl⟩ | ⟨hp, h0, rfl, hge⟩
    ·refine Ends.neg (by omega) (Ends.eq ih ?_)
     rw [decide_eq_true (by omega : (-1 : Int) < ins[0])]
     rfl
    ·refine Ends.pos (by omega) ?_
     have e : wrap64 ((i : Int) - 1) = ((i - 1 : Nat) : Int) := by rw [w64 (by omega) (by omega)]; omega
     rw [e]
     refine Ends.pos (by omega) (Ends.pos (by omega) ?_)
     rw [rd_at hp]
     by_cases h1 : ins[i] ≤ ins[i - 1]
     ·exact Ends.pos h1 (Ends.const (by rw [decide_eq_false (by omega : ¬ ins[i - 1] < ins[i])]; rfl))
     ·refine Ends.neg h1 (Ends.eq ih ?_)
      rw [decide_eq_true (by omega : ins[i - 1] < ins[i])]
      rfl
theorem ref_May_ends {ins outs : List Int} {L : List (List S61)} (hi : ins.length ≤ 140737488355328) (ho : outs.length ≤ 140737488355328) (hl : ∀ l ∈ L, l.length ≤ 140737488355328) : Ends (fun k => recoupref21_May.f k ins L outs) (mayB ins L outs) := by
 unfold mayB sizeOk
 by_cases h : L.length ≤ 4096
 ·refine Ends.congr (fun k => by unfold recoupref21_May.f; rw [if_neg (by omega)]) (Ends.succ (fun k => by rw [recoupref21_May.j0]) ?_)
  rw [decide_eq_true h]
  by_cases h2 : outs.length ≤ 64
  ·rw [decide_eq_true h2, decide_eq_false (by omega : ¬ (outs.length : Int) > 64)]
   refine Ends.neg (by decide) (Ends.eq (ref_l0 hi ho h hl _ 0 (Nat.zero_add _) (-1) (.inl ⟨rfl, rfl⟩)) ?_)
   rw [List.drop_zero]
   rfl
  ·rw [decide_eq_false h2, decide_eq_true (by omega : (outs.length : Int) > 64)]
   refine Ends.pos rfl (Ends.const ?_)
   rw [Bool.and_false, Bool.false_and, Bool.and_false]
 ·refine Ends.congr (fun k => by unfold recoupref21_May.f; rw [if_pos (by omega)]) (Ends.succ (fun k => by rw [recoupref21_May.j0]) ?_)
  rw [decide_eq_false h]
  refine Ends.pos rfl (Ends.const ?_)
  rw [Bool.false_and, Bool.false_and, Bool.and_false]
end Go.Proofs.Ytnfemjnajfdepaa.M
namespace Go.Proofs.Ytnfemjnajfdepaa.M
open Go.RowKit Go.Proofs.YtnfemjnajfdepaaW.PrintWords Go.Proofs.YtnfemjnajfdepaaW.PrintLast Go.Proofs.YtnfemjnajfdepaaW.PrintMore Go.Proofs.Ytnfemjnajfdepaa.Q
def byF : List S61 → Int → Int
 | [], _ => 0
 | t :: r, v => if t.f0 = v then t.f1 else byF r v
theorem byF_cons (t : S61) (r : List S61) (v : Int) : byF (t :: r) v = if t.f0 = v then t.f1 else byF r v := by rw [byF]
def inB (q : Key) (l : List S61) : Bool := (decide (byF l q.1 ≠ 0) && decide (byF l q.2.1 ≠ 0)) && (mulB (byF l q.1) q.2.2 == byF l q.2.1)
def okS (t : S61) : Prop := 0 < t.f1 ∧ t.f1 < 256
structure okN (l : List S61) : Prop where
 up : l.Pairwise fun a b => a.f0 < b.f0
 ok : ∀ t ∈ l, okS t
 len : l.length ≤ 140737488355328
theorem okN.tail {t : S61} {l : List S61} (h : okN (t :: l)) : okN l := ⟨(List.pairwise_cons.1 h.up).2, fun x hx => h.ok x (List.mem_cons_of_mem _ hx), by have := h.len; rw [List.length_cons] at this; omega⟩
theorem byF_range : ∀ {l : List S61}, (∀ t ∈ l, okS t) → ∀ v, 0 ≤ byF l v ∧ byF l v < 256
 | [], _, v => by unfold byF; decide
 | t :: r, h, v => by
  unfold byF
  split
  ·have := h t List.mem_cons_self
   exact ⟨Int.le_of_lt this.1, this.2⟩
  ·exact byF_range (fun x hx => h x (List.mem_cons_of_mem _ hx)) v
theorem byF_zero : ∀ {l : List S61} {v : Int}, (∀ t ∈ l, v < t.f0) → byF l v = 0
 | [], _, _ => rfl
 | t :: r, v, h => by
  unfold byF
  rw [if_neg (by have := h t List.mem_cons_self; omega)]
  exact byF_zero fun x hx => h x (List.mem_cons_of_mem _ hx)
theorem by_l0 {l : List S61} (hl : l.length ≤ 140737488355328) (v : Int) : ∀ n i : Nat, i + n = l.length → Ends (fun k => recoupref22_by.l0 k l v (i : Int)) (byF (l.drop i) v)
 | 0, i, h => by
  refine Ends.succ (fun k => by rw [recoupref22_by.l0]) (Ends.neg (by omega) (Ends.const ?_))
  rw [List.drop_eq_nil_of_le (by omega)]
  rfl
 | n + 1, i, h => by
  have hi : i < l.length := by omega
  refine Ends.succ (fun k => by rw [recoupref22_by.l0]) (Ends.pos (by omega) (Ends.pos (by omega) ?_))
  rw [rd_T61_eq hi, step64 (by omega), List.drop_eq_getElem_cons hi]
  unfold byF
  by_cases e : l[i].f0 = v
  ·refine Ends.pos e (Ends.const ?_)
   rw [if_pos e]
  ·refine Ends.neg e (Ends.eq (by_l0 hl v n (i + 1) (by omega)) ?_)
   rw [if_neg e]
theorem by_ends {l : List S61} (hl : l.length ≤ 140737488355328) (v : Int) : Ends (fun k => recoupref22_by.f k l v) (byF l v) := by
 have := by_l0 hl v _ 0 (Nat.zero_add _)
 rwa [List.drop_zero] at this
theorem in_ends {l : List S61} (h : okN l) (q : Key) (hr : 0 ≤ q.2.2 ∧ q.2.2 < 256) : Ends (fun k => recoupref22_in.f k l q.1 q.2.1 q.2.2) (inB q l) := by
 unfold recoupref22_in.f inB
 refine Ends.bind (by_ends h.len q.1) (Ends.bind (by_ends h.len q.2.1) ?_)
 by_cases h1 : byF l q.1 = 0
 ·refine Ends.pos h1 (Ends.const ?_)
  rw [decide_eq_false (fun e => e h1 : ¬ byF l q.1 ≠ 0)]
  rfl
 ·refine Ends.neg h1 ?_
  rw [decide_eq_true h1]
  by_cases h2 : byF l q.2.1 = 0
  ·refine Ends.pos h2 (Ends.const ?_)
   rw [decide_eq_false (fun e => e h2 : ¬ byF l q.2.1 ≠ 0)]
   rfl
  ·refine Ends.neg h2 ?_
   rw [decide_eq_true h2]
   exact Ends.bind (mulB_ends (byF_range h.ok _) hr) (Ends.const rfl)
theorem pairs_count {t : S61} (ht : okS t) (q : Key) (hr : 0 ≤ q.2.2 ∧ q.2.2 < 256) : ∀ {l : List S61}, l.Pairwise (fun a b => a.f0 < b.f0) → (∀ x ∈ l, okS x) → (pairsF t l).count q = if t.f0 = q.1 ∧ byF l q.2.1 ≠ 0 ∧ mulB t.f1 q.2.2 = byF l q.2.1 then 1 else 0
 | [], _, _ => by
  rw [if_neg (fun h => h.2.1 rfl)]
  rfl
 | s :: r, hp, ho => by
  have hs := ho s List.mem_cons_self
  have ih := pairs_count ht q hr (List.pairwise_cons.1 hp).2 (fun x hx => ho x (List.mem_cons_of_mem _ hx))
  have e : pairsF t (s :: r) = keyQ t s :: pairsF t r := rfl
  rw [e, List.count_cons, ih]
  have ht2 : 0 ≤ t.f1 ∧ t.f1 < 256 := ⟨Int.le_of_lt ht.1, ht.2⟩
  have hs2 : 0 ≤ s.f1 ∧ s.f1 < 256 := ⟨Int.le_of_lt hs.1, hs.2⟩
  have ht0 : t.f1 ≠ 0 := by have := ht.1; omega
  have hs0 : s.f1 ≠ 0 := by have := hs.1; omega
  have hri := ratio_iff ht2 ht0 hs2 hr
  have hk : (keyQ t s == q) = true ↔ t.f0 = q.1 ∧ s.f0 = q.2.1 ∧ mulB t.f1 q.2.2 = s.f1 := by
   rw [beq_iff_eq, ← hri]
   obtain ⟨q1, q2, q3⟩ := q
   unfold keyQ
   simp
  rw [byF_cons]
  by_cases hv : s.f0 = q.2.1
  ·rw [if_pos hv]
   have hz : byF r q.2.1 = 0 := byF_zero fun x hx => by have := (List.pairwise_cons.1 hp).1 x hx; omega
   rw [hz, if_neg (fun h => h.2.1 rfl), Nat.zero_add]
   by_cases hq : (keyQ t s == q) = true
   ·rw [if_pos hq, if_pos ⟨(hk.1 hq).1, hs0, (hk.1 hq).2.2⟩]
   ·rw [if_neg hq, if_neg (fun h => hq (hk.2 ⟨h.1, hv, h.2.2⟩))]
  ·rw [if_neg hv, if_neg (fun h => hv (hk.1 h).2.1), Nat.add_zero]
theorem keysN_count (q : Key) (hq : q.1 < q.2.1) (hr : 0 ≤ q.2.2 ∧ q.2.2 < 256) : ∀ {l : List S61}, okN l → (keysN l).count q = if inB q l = true then 1 else 0
 | [], _ => rfl
 | t :: r, h => by
  have hp := List.pairwise_cons.1 h.up
  have ih := keysN_count q hq hr h.tail
  have ht := h.ok t List.mem_cons_self
  have ht0 : t.f1 ≠ 0 := by have := ht.1; omega
  unfold keysN
  rw [List.count_append, pairs_count ht q hr hp.2 h.tail.ok, ih]
  unfold inB
  rw [byF_cons, byF_cons]
  by_cases hu : t.f0 = q.1
  ·have hz : byF r q.1 = 0 := byF_zero fun x hx => by have := hp.1 x hx; omega
   rw [if_pos hu, if_neg (show ¬ t.f0 = q.2.1 by omega), hz]
   have hf : ((decide ((0 : Int) ≠ 0) && decide (byF r q.2.1 ≠ 0)) && (mulB 0 q.2.2 == byF r q.2.1)) = false := rfl
   rw [hf, if_neg (by decide : ¬ false = true), Nat.add_zero, decide_eq_true ht0]
   by_cases hv : byF r q.2.1 = 0
   ·rw [if_neg (fun h => h.2.1 hv), decide_eq_false (fun e => e hv : ¬ byF r q.2.1 ≠ 0)]
    rfl
   ·rw [decide_eq_true hv]
    by_cases hm : mulB t.f1 q.2.2 = byF r q.2.1
    ·rw [if_pos ⟨hu, hv, hm⟩, beq_iff_eq.2 hm]
     rfl
    ·rw [if_neg (fun h => hm h.2.2), beq_eq_false_iff_ne.2 hm]
     rfl
  ·rw [if_neg hu, if_neg (fun h => hu h.1), Nat.zero_add]
   by_cases hv : t.f0 = q.2.1
   ·have hz : byF r q.1 = 0 := byF_zero fun x hx => by have := hp.1 x hx; omega
    rw [hz]
    rfl
   ·rw [if_neg hv]
theorem keysL_count (q : Key) (hq : q.1 < q.2.1) (hr : 0 ≤ q.2.2 ∧ q.2.2 < 256) : ∀ {L : List (List S61)}, (∀ l ∈ L, okN l) → (keysL L).count q = L.countP (inB q)
 | [], _ => rfl
 | l :: L, h => by
  have e : keysL (l :: L) = keysN l ++ keysL L := rfl
  rw [e, List.count_append, List.countP_cons, keysN_count q hq hr (h l List.mem_cons_self), keysL_count q hq hr (fun x hx => h x (List.mem_cons_of_mem _ hx)), Nat.add_comm]
theorem terms_ok {own : Int} : ∀ {l : List S61} {last : Int}, termsOk own last l = true → (∀ t ∈ l, 0 ≤ t.f1 ∧ t.f1 < 256) → (l.Pairwise fun a b => a.f0 < b.f0) ∧ (∀ t ∈ l, last < t.f0) ∧ ∀ t ∈ l, okS t
 | [], last, _, _ => ⟨List.Pairwise.nil, fun t h => absurd h (by simp), fun t h => absurd h (by simp)⟩
 | t :: r, last, h, hb => by
  unfold termsOk at h
  simp only [Bool.and_eq_true, decide_eq_true_eq] at h
  obtain ⟨⟨⟨h1, h2⟩, h3⟩, h4⟩ := h
  obtain ⟨i1, i2, i3⟩ := terms_ok h4 fun x hx => hb x (List.mem_cons_of_mem _ hx)
  have hb2 := hb t List.mem_cons_self
  refine ⟨List.pairwise_cons.2 ⟨i2, i1⟩, fun x hx => ?_, fun x hx => ?_⟩
  ·rcases List.mem_cons.1 hx with rfl | hx
   ·exact h1
   ·have := i2 x hx
    omega
  ·rcases List.mem_cons.1 hx with rfl | hx
   ·exact ⟨by omega, hb2.2⟩
   ·exact i3 x hx
theorem nodes_ok : ∀ {L : List (List S61)} {n : Int}, nodesOk n L = true → (∀ l ∈ L, l.length ≤ 140737488355328) → (∀ l ∈ L, ∀ t ∈ l, 0 ≤ t.f1 ∧ t.f1 < 256) → ∀ l ∈ L, okN l
 | [], _, _, _, _, l, hl => absurd hl (by simp)
 | l :: L, n, h, hn, hb, x, hx => by
  unfold nodesOk at h
  rw [Bool.and_eq_true] at h
  rcases List.mem_cons.1 hx with rfl | hx
  ·obtain ⟨i1, _, i3⟩ := terms_ok h.1 (hb x List.mem_cons_self)
   exact ⟨i1, i3, hn x List.mem_cons_self⟩
  ·exact nodes_ok h.2 (fun y hy => hn y (List.mem_cons_of_mem _ hy)) (fun y hy => hb y (List.mem_cons_of_mem _ hy)) x hx
def emb (P : Key × Int) : Key × Int := if P.2 = 0 then ((0, 0, 0), 1) else P
def goodP (P : Key × Int) : Prop := P = ((0, 0, 0), 0) ∨ P.2 > 1
theorem good_step {ks : List Key} {P : Key × Int} {q : Key} (h : goodP P) : goodP (stepQ ks P q) := by
 unfold stepQ
 split
 ·rename_i hc
  exact .inr hc.1
 ·exact h
def ansB (P : Key × Int) : Int × Int × Int × Int × Bool × Int := if P.2 > 1 then (P.1.1, P.1.2.1, P.1.2.2, P.2, true, 0) else (0, 0, 0, 0, false, 0)
theorem less_f (q p : Key) (c d : Int) : recoupref22_less.f q.1 q.2.1 q.2.2 c p.1 p.2.1 p.2.2 d = some (aheadQ (q, c) (p, c)) := by
 unfold recoupref22_less.f aheadQ
 simp only [ne_eq, not_true_eq_false, if_false]
 by_cases h1 : q.1 = p.1
 ·by_cases h2 : q.2.1 = p.2.1
  ·simp [h1, h2]
  ·simp [h1, h2]
 ·simp [h1]
section
variable {ins outs : List Int} {L : List (List S61)} (hL : L.length < 4096) (hN : ∀ l ∈ L, okN l)
abbrev runL3 (ins outs : List Int) (L : List (List S61)) (n i j : Nat) (P : Key × Int) (k : Nat) := recoupref22_Best.l3 k (n : Int) (i : Int) (j : Int) ins L outs (emb P).1.1 (emb P).1.2.1 (emb P).1.2.2 (emb P).2
abbrev runL2 (ins outs : List Int) (L : List (List S61)) (n i : Nat) (P : Key × Int) (k : Nat) := recoupref22_Best.l2 k (n : Int) (i : Int) ins L outs (emb P).1.1 (emb P).1.2.1 (emb P).1.2.2 (emb P).2
abbrev runL1 (ins outs : List Int) (L : List (List S61)) (n : Nat) (P : Key × Int) (k : Nat) := recoupref22_Best.l1 k (n : Int) ins L outs (emb P).1.1 (emb P).1.2.1 (emb P).1.2.2 (emb P).2
include hL hN in
theorem best_l4 {n i j : Nat} {P : Key × Int} (hP : goodP P) (hj : j < 4611686018427387904) (q : Key) (hr : 0 ≤ q.2.2 ∧ q.2.2 < 256) (hc : cntQ (keysL L) q = (L.countP (inB q) : Int)) {X : Int × Int × Int × Int × Bool × Int} (hX : Ends (runL3 ins outs L n i (j + 1) (stepQ (keysL L) P q)) X) :
  ∀ d m : Nat, m + d = L.length → Ends (fun k => recoupref22_Best.l4 k (n : Int) (i : Int) (j : Int) (m : Int) ins L outs (emb P).1.1 (emb P).1.2.1 (emb P).1.2.2 (emb P).2 q.1 q.2.1 q.2.2 ((L.take m).countP (inB q) : Int)) X
 | 0, m, h => by
  refine Ends.succ (fun k => by rw [recoupref22_Best.l4]) (Ends.neg (by omega) ?_)
  rw [List.take_of_length_le (by omega), step64 hj, ← hc]
  unfold stepQ at hX
  rcases hP with rfl | hP
  ·have e : emb ((0, 0, 0), 0) = ((0, 0, 0), 1) := rfl
   unfold runL3 at hX
   rw [e]
   by_cases h1 : cntQ (keysL L) q > 1
   ·have ha : aheadQ (q, cntQ (keysL L) q) ((0, 0, 0), 0) = true := (aheadQ_iff _ _).2 (.inl (show cntQ (keysL L) q > 0 by omega))
    rw [if_pos ⟨h1, ha⟩] at hX
    have e2 : emb (q, cntQ (keysL L) q) = (q, cntQ (keysL L) q) := by unfold emb; rw [if_neg (show ¬ cntQ (keysL L) q = 0 by omega)]
    rw [e2] at hX
    exact Ends.pos h1 hX
   ·rw [if_neg (fun e => h1 e.1), e] at hX
    refine Ends.neg h1 ?_
    by_cases h2 : cntQ (keysL L) q = 1
    ·exact Ends.pos h2 (Ends.neg h1 hX)
    ·exact Ends.neg h2 hX
  ·have e : emb P = P := by unfold emb; rw [if_neg (show ¬ P.2 = 0 by omega)]
   unfold runL3 at hX
   rw [e]
   by_cases h1 : cntQ (keysL L) q > P.2
   ·have ha : aheadQ (q, cntQ (keysL L) q) P = true := (aheadQ_iff _ _).2 (.inl h1)
    rw [if_pos ⟨by omega, ha⟩] at hX
    have e2 : emb (q, cntQ (keysL L) q) = (q, cntQ (keysL L) q) := by unfold emb; rw [if_neg (show ¬ cntQ (keysL L) q = 0 by omega)]
    rw [e2] at hX
    exact Ends.pos h1 hX
   ·refine Ends.neg h1 ?_
    by_cases h2 : cntQ (keysL L) q = P.2
    ·refine Ends.pos h2 (Ends.pos (by omega) ?_)
     rw [less_f q P.1 (cntQ (keysL L) q) P.2]
     refine Ends.bind1 rfl ?_
     have ep : ((P.1, cntQ (keysL L) q) : Key × Int) = P := by rw [h2]
     rw [ep]
     by_cases ha : aheadQ (q, cntQ (keysL L) q) P = true
     ·rw [if_pos ⟨by omega, ha⟩] at hX
      have e2 : emb (q, cntQ (keysL L) q) = (q, cntQ (keysL L) q) := by unfold emb; rw [if_neg (show ¬ cntQ (keysL L) q = 0 by omega)]
      rw [e2] at hX
      exact Ends.pos ha hX
     ·rw [if_neg (fun e => ha e.2), e] at hX
      exact Ends.neg ha hX
    ·have ha : ¬ aheadQ (q, cntQ (keysL L) q) P = true := fun ha => by
      rcases (aheadQ_iff _ _).1 ha with h3 | h3
      ·exact h1 h3
      ·exact h2 h3.1
     rw [if_neg (fun e => ha e.2), e] at hX
     exact Ends.neg h2 hX
 | d + 1, m, h => by
  have hm : m < L.length := by omega
  refine Ends.succ (fun k => by rw [recoupref22_Best.l4]) (Ends.pos (by omega) (Ends.pos (by omega) ?_))
  rw [rdL_at hm, step64 (i := m) (by omega)]
  have ih := best_l4 hP hj q hr hc hX d (m + 1) (by omega)
  rw [List.take_succ_eq_append_getElem hm, List.countP_append, List.countP_singleton] at ih
  have hle : (L.take m).countP (inB q) ≤ m := Nat.le_trans List.countP_le_length (by rw [List.length_take]; omega)
  refine Ends.bind (in_ends (hN _ (List.getElem_mem hm)) q hr) ?_
  cases e : inB q L[m]
  ·refine Ends.neg (by decide) ?_
   rw [e, if_neg (by decide : ¬ false = true), Nat.add_zero] at ih
   exact ih
  ·refine Ends.pos rfl ?_
   rw [e, if_pos rfl] at ih
   rw [step64 (by omega)]
   exact ih
include hL hN in
theorem best_l3 {n i : Nat} (hn : n < L.length) (hi : i < L[n].length) {f : Key × Int → Int × Int × Int × Int × Bool × Int} (hX : ∀ P, goodP P → Ends (runL2 ins outs L n (i + 1) P) (f P)) :
  ∀ d j : Nat, j + d = L[n].length → i < j → ∀ P, goodP P → Ends (runL3 ins outs L n i j P) (f ((pairsF L[n][i] (L[n].drop j)).foldl (stepQ (keysL L)) P))
 | 0, j, h, hij, P, hP => by
  have hlen := (hN _ (List.getElem_mem hn)).len
  refine Ends.succ (fun k => by unfold runL3; rw [recoupref22_Best.l3]) (Ends.pos (by omega) (Ends.pos (by omega) ?_))
  rw [rdL_at hn]
  refine Ends.neg (by omega) ?_
  rw [step64 (by omega), List.drop_eq_nil_of_le (by omega)]
  exact hX P hP
 | d + 1, j, h, hij, P, hP => by
  have hj : j < L[n].length := by omega
  have hok := hN _ (List.getElem_mem hn)
  have hlen := hok.len
  refine Ends.succ (fun k => by unfold runL3; rw [recoupref22_Best.l3]) (Ends.pos (by omega) (Ends.pos (by omega) ?_))
  rw [rdL_at hn]
  refine Ends.pos (by omega) (Ends.pos (by omega) (Ends.pos (by omega) (Ends.pos (by omega) ?_)))
  rw [rd_T61_eq hi, rd_T61_eq hj]
  have hti := hok.ok _ (List.getElem_mem hi)
  have htj := hok.ok _ (List.getElem_mem hj)
  have hi2 : 0 ≤ L[n][i].f1 ∧ L[n][i].f1 < 256 := ⟨Int.le_of_lt hti.1, hti.2⟩
  have hj2 : 0 ≤ L[n][j].f1 ∧ L[n][j].f1 < 256 := ⟨Int.le_of_lt htj.1, htj.2⟩
  have hi0 : L[n][i].f1 ≠ 0 := by have := hti.1; omega
  refine Ends.bind (Inv_ends hi2 hi0) ?_
  refine Ends.bind (mulB_ends hj2 (invT_range hi2 hi0)) ?_
  rw [List.drop_eq_getElem_cons hj]
  have ec : pairsF L[n][i] (L[n][j] :: L[n].drop (j + 1)) = keyQ L[n][i] L[n][j] :: pairsF L[n][i] (L[n].drop (j + 1)) := rfl
  rw [ec, List.foldl_cons]
  have eq : keyQ L[n][i] L[n][j] = (L[n][i].f0, L[n][j].f0, mulB L[n][j].f1 (invT L[n][i].f1)) := by unfold keyQ; rw [invAt_eq hi2 hi0]
  have hr : 0 ≤ (keyQ L[n][i] L[n][j]).2.2 ∧ (keyQ L[n][i] L[n][j]).2.2 < 256 := by rw [eq]; exact (mulB_some (invT_range hi2 hi0)).2
  have hlt : (keyQ L[n][i] L[n][j]).1 < (keyQ L[n][i] L[n][j]).2.1 := by rw [eq]; exact List.pairwise_iff_getElem.1 hok.up i j hi hj hij
  have ih := best_l3 hn hi hX d (j + 1) (by omega) (by omega) (stepQ (keysL L) P (keyQ L[n][i] L[n][j])) (good_step hP)
  have h4 := best_l4 hL hN hP (i := i) (n := n) (by omega) (keyQ L[n][i] L[n][j]) hr (by unfold cntQ; rw [keysL_count _ hlt hr hN]) ih _ 0 (Nat.zero_add _)
  rw [eq] at h4 ⊢
  rw [List.take_zero] at h4
  exact h4
include hL hN in
theorem best_l2 {n : Nat} (hn : n < L.length) {f : Key × Int → Int × Int × Int × Int × Bool × Int} (hX : ∀ P, goodP P → Ends (runL1 ins outs L (n + 1) P) (f P)) :
  ∀ d i : Nat, i + d = L[n].length → ∀ P, goodP P → Ends (runL2 ins outs L n i P) (f ((keysN (L[n].drop i)).foldl (stepQ (keysL L)) P))
 | 0, i, h, P, hP => by
  have hlen := (hN _ (List.getElem_mem hn)).len
  refine Ends.succ (fun k => by unfold runL2; rw [recoupref22_Best.l2]) (Ends.pos (by omega) (Ends.pos (by omega) ?_))
  rw [rdL_at hn]
  refine Ends.neg (by omega) ?_
  rw [step64 (by omega), List.drop_eq_nil_of_le (by omega)]
  exact hX P hP
 | d + 1, i, h, P, hP => by
  have hi : i < L[n].length := by omega
  have hlen := (hN _ (List.getElem_mem hn)).len
  refine Ends.succ (fun k => by unfold runL2; rw [recoupref22_Best.l2]) (Ends.pos (by omega) (Ends.pos (by omega) ?_))
  rw [rdL_at hn]
  refine Ends.pos (by omega) ?_
  rw [step64 (by omega), List.drop_eq_getElem_cons hi]
  have ec : keysN (L[n][i] :: L[n].drop (i + 1)) = pairsF L[n][i] (L[n].drop (i + 1)) ++ keysN (L[n].drop (i + 1)) := rfl
  rw [ec, List.foldl_append]
  exact best_l3 hL hN hn hi (f := fun P => f ((keysN (L[n].drop (i + 1))).foldl (stepQ (keysL L)) P)) (fun P hP => best_l2 hn hX d (i + 1) (by omega) P hP) _ (i + 1) (Nat.add_sub_cancel' (by omega)) (by omega) P hP
include hL hN in
theorem best_l1 : ∀ d n : Nat, n + d = L.length → ∀ P, goodP P → Ends (runL1 ins outs L n P) (ansB ((keysL (L.drop n)).foldl (stepQ (keysL L)) P))
 | 0, n, h, P, hP => by
  refine Ends.succ (fun k => by unfold runL1; rw [recoupref22_Best.l1]) (Ends.neg (by omega) ?_)
  rw [List.drop_eq_nil_of_le (by omega)]
  show Ends _ (ansB P)
  unfold ansB emb
  rcases hP with rfl | hP
  ·exact Ends.pos (by decide) (Ends.const rfl)
  ·rw [if_neg (show ¬ P.2 = 0 by omega), if_pos hP]
   exact Ends.neg (by omega) (Ends.const rfl)
 | d + 1, n, h, P, hP => by
  have hn : n < L.length := by omega
  refine Ends.succ (fun k => by unfold runL1; rw [recoupref22_Best.l1]) ?_
  refine Ends.pos (by omega) ?_
  have h2 := best_l2 hL hN hn (f := fun P => ansB ((keysL (L.drop (n + 1))).foldl (stepQ (keysL L)) P)) (fun P hP => best_l1 d (n + 1) (by omega) P hP) _ 0 (Nat.zero_add _) P hP
  rw [List.drop_eq_getElem_cons hn]
  have ec : keysL (L[n] :: L.drop (n + 1)) = keysN L[n] ++ keysL (L.drop (n + 1)) := rfl
  rw [ec, List.foldl_append]
  rw [List.drop_zero] at h2
  exact h2
end
end Go.Proofs.Ytnfemjnajfdepaa.M
