/- Plain facts behind the law GaussBack: what its printed functions answer, as lists of whole numbers and as vectors over the field of 256 elements. -/
import Derived.Test.YtccfbhnhedoggaaV
import Derived.Laws.Bits64
import Derived.Laws.Bits64b
import Derived.RowKit
import GoSem.Claim
import Derived.Lib.TrailingZeros
import Derived.Test.YtccfbhnhedoggaaQx114
import Derived.Test.YtccfbhnhedoggaaQx116
import Derived.Test.YtccfbhnhedoggaaQx119
import Derived.Test.YtccfbhnhedoggaaQx121
import Derived.Test.YtccfbhnhedoggaaQx122
import Derived.Test.YtccfbhnhedoggaaQx125
import Derived.Test.YtccfbhnhedoggaaQx126
import Derived.Test.YtccfbhnhedoggaaQx127
import Derived.Test.YtccfbhnhedoggaaQx128
import Derived.Test.YtccfbhnhedoggaaQx130
import Derived.Test.YtccfbhnhedoggaaQx149
import Derived.Test.YtccfbhnhedoggaaQx151
import Derived.Test.YtccfbhnhedoggaaQx155
import Derived.Test.YtccfbhnhedoggaaQx159
import Derived.Test.YtccfbhnhedoggaaQx168
import Derived.Test.YtccfbhnhedoggaaQx173
namespace Go.Proofs.Ytccfbhnhedoggaa.M
set_option linter.unusedVariables false
set_option linter.unusedSimpArgs false
open Go.RowKit Go.Proofs.YtccfbhnhedoggaaW.PrintWords Go.Proofs.YtccfbhnhedoggaaW.PrintMore
def Ends {α : Type} (g : Nat → Option α) (r : α) : Prop := ∃ K, ∀ k, K ≤ k → g k = some r
theorem Ends.of {α : Type} {g : Nat → Option α} {r : α} (h : ∀ k, g k = some r) : Ends g r := ⟨0, fun k _ => h k⟩
theorem Ends.const {α : Type} {x : Option α} {r : α} (h : x = some r) : Ends (fun _ => x) r := ⟨0, fun _ _ => h⟩
theorem Ends.exists {α : Type} {g : Nat → Option α} {r : α} (h : Ends g r) : ∃ k, g k = some r := by
 obtain ⟨K, h⟩ := h
 exact ⟨K, h K (Nat.le_refl _)⟩
theorem Ends.bind {α β : Type} {f : Nat → Option α} {h : Nat → α → Option β} {x : α} {r : β} (hf : Ends f x) (hh : Ends (fun k => h k x) r) : Ends (fun k => (f k).bind (h k)) r := by
 obtain ⟨K, hf⟩ := hf
 obtain ⟨L, hh⟩ := hh
 refine ⟨max K L, fun k hk => ?_⟩
 show (f k).bind (h k) = some r
 rw [hf k (by omega)]
 exact hh k (by omega)
theorem Ends.bind1 {α β : Type} {x : Option α} {h : Nat → α → Option β} {a : α} {r : β} (hx : x = some a) (hh : Ends (fun k => h k a) r) : Ends (fun k => x.bind (h k)) r := by
 subst hx
 exact hh
theorem Ends.pos {α : Type} {f g : Nat → Option α} {c : Prop} [Decidable c] {r : α} (hc : c) (hf : Ends f r) : Ends (fun k => if c then f k else g k) r := by
 simp only [if_pos hc]
 exact hf
theorem Ends.neg {α : Type} {f g : Nat → Option α} {c : Prop} [Decidable c] {r : α} (hc : ¬ c) (hg : Ends g r) : Ends (fun k => if c then f k else g k) r := by
 simp only [if_neg hc]
 exact hg
theorem Ends.succ {α : Type} {l body : Nat → Option α} {r : α} (hs : ∀ k, l (k + 1) = body k) (hb : Ends body r) : Ends l r := by
 obtain ⟨K, hb⟩ := hb
 refine ⟨K + 1, fun k hk => ?_⟩
 obtain ⟨j, rfl⟩ : ∃ j, k = j + 1 := ⟨k - 1, by omega⟩
 rw [hs]
 exact hb j (by omega)
theorem Ends.eq {α : Type} {g : Nat → Option α} {r r' : α} (h : Ends g r) (e : r = r') : Ends g r' := e ▸ h
theorem w64 {x : Int} (h0 : -9223372036854775808 ≤ x) (h1 : x ≤ 9223372036854775807) : wrap64 x = x := by unfold wrap64; omega
theorem wu64 {x : Int} (h0 : 0 ≤ x) (h1 : x < 18446744073709551616) : IntKind.u64.wrap x = x := by rw [IntKind.wrap_u64]; omega
theorem rd_nat (l : List Int) (i : Nat) : rd l (i : Int) = l.getD i 0 := by simp [rd]
theorem wf_i64 {n : Int} (h : (Lit.int .i64 n).wf = true) : -9223372036854775808 ≤ n ∧ n ≤ 9223372036854775807 := by
 simp [Lit.wf, IntKind.min, IntKind.max, IntKind.signed, IntKind.bits] at h
 omega
theorem wf_u8 {n : Int} (h : (Lit.int .u8 n).wf = true) : 0 ≤ n ∧ n ≤ 255 := by
 simp [Lit.wf, IntKind.min, IntKind.max, IntKind.signed, IntKind.bits] at h
 omega
end Go.Proofs.Ytccfbhnhedoggaa.M
namespace Go.Proofs.Ytccfbhnhedoggaa.M
structure El where
 v : BitVec 8
deriving DecidableEq
theorem El.eq {a b : El} (h : a.v = b.v) : a = b := by cases a; cases b; cases h; rfl
instance : Add El := ⟨fun a b => ⟨a.v ^^^ b.v⟩⟩
instance : Zero El := ⟨⟨0⟩⟩
instance : OfNat El 0 := ⟨⟨0⟩⟩
instance : OfNat El 1 := ⟨⟨1⟩⟩
theorem add_comm (a b : El) : a + b = b + a := El.eq (BitVec.xor_comm _ _)
theorem add_assoc (a b c : El) : a + b + c = a + (b + c) := El.eq (BitVec.xor_assoc _ _ _)
theorem add_self (a : El) : a + a = 0 := El.eq BitVec.xor_self
theorem add_zero (a : El) : a + 0 = a := El.eq BitVec.xor_zero
theorem zero_add (a : El) : 0 + a = a := El.eq BitVec.zero_xor
instance : Std.Commutative (α := El) (· + ·) := ⟨add_comm⟩
instance : Std.Associative (α := El) (· + ·) := ⟨add_assoc⟩
theorem add_cancel {a b : El} (h : a + b = 0) : a = b := by
 have : a + b + b = 0 + b := by rw [h]
 rw [add_assoc, add_self, add_zero, zero_add] at this
 exact this
def xt (a : BitVec 8) : BitVec 8 := (a <<< 1) ^^^ (if a.getLsbD 7 then 0x1d#8 else 0#8)
theorem xt_xor (a b : BitVec 8) : xt (a ^^^ b) = xt a ^^^ xt b := by
 unfold xt
 rw [BitVec.shiftLeft_xor_distrib, BitVec.getLsbD_xor]
 cases a.getLsbD 7 <;> cases b.getLsbD 7 <;> simp <;> first | ac_rfl | skip
 ·rw [show a <<< 1 ^^^ 29#8 ^^^ (b <<< 1 ^^^ 29#8) = (a <<< 1 ^^^ b <<< 1) ^^^ (29#8 ^^^ 29#8) from by ac_rfl]
  simp
def xtn : Nat → BitVec 8 → BitVec 8
 | 0, a => a
 | n + 1, a => xt (xtn n a)
theorem xtn_xor : ∀ n a b, xtn n (a ^^^ b) = xtn n a ^^^ xtn n b
 | 0, _, _ => rfl
 | n + 1, a, b => by
  show xt (xtn n (a ^^^ b)) = _
  rw [xtn_xor n, xt_xor]
  rfl
theorem xtn_xt : ∀ n a, xtn n (xt a) = xt (xtn n a)
 | 0, _ => rfl
 | n + 1, a => by
  show xt (xtn n (xt a)) = _
  rw [xtn_xt n]
  rfl
theorem xtn_add : ∀ m n a, xtn (m + n) a = xtn m (xtn n a)
 | 0, n, a => by rw [Nat.zero_add]; rfl
 | m + 1, n, a => by
  rw [show m + 1 + n = (m + n) + 1 from by omega]
  show xt (xtn (m + n) a) = xt (xtn m (xtn n a))
  rw [xtn_add m]
def gmN (a b : BitVec 8) : Nat → BitVec 8
 | 0 => 0
 | n + 1 => gmN a b n ^^^ (if b.getLsbD n then xtn n a else 0)
def gm (a b : BitVec 8) : BitVec 8 := gmN a b 8
theorem gmN_xor_right (a b c : BitVec 8) : ∀ n, gmN a (b ^^^ c) n = gmN a b n ^^^ gmN a c n
 | 0 => by simp [gmN]
 | n + 1 => by
  show gmN a (b ^^^ c) n ^^^ _ = (gmN a b n ^^^ _) ^^^ (gmN a c n ^^^ _)
  rw [gmN_xor_right a b c n, BitVec.getLsbD_xor, show (gmN a b n ^^^ if b.getLsbD n = true then xtn n a else 0) ^^^ (gmN a c n ^^^ if c.getLsbD n = true then xtn n a else 0) = (gmN a b n ^^^ gmN a c n) ^^^ ((if b.getLsbD n = true then xtn n a else 0) ^^^ (if c.getLsbD n = true then xtn n a else 0)) from by ac_rfl]
  cases b.getLsbD n <;> cases c.getLsbD n <;> simp
theorem gmN_xor_left (a b c : BitVec 8) : ∀ n, gmN (a ^^^ b) c n = gmN a c n ^^^ gmN b c n
 | 0 => by simp [gmN]
 | n + 1 => by
  show gmN (a ^^^ b) c n ^^^ _ = (gmN a c n ^^^ _) ^^^ (gmN b c n ^^^ _)
  rw [gmN_xor_left a b c n, show (gmN a c n ^^^ if c.getLsbD n = true then xtn n a else 0) ^^^ (gmN b c n ^^^ if c.getLsbD n = true then xtn n b else 0) = (gmN a c n ^^^ gmN b c n) ^^^ ((if c.getLsbD n = true then xtn n a else 0) ^^^ (if c.getLsbD n = true then xtn n b else 0)) from by ac_rfl, xtn_xor]
  cases c.getLsbD n <;> simp
theorem gmN_xt (a b : BitVec 8) : ∀ n, gmN (xt a) b n = xt (gmN a b n)
 | 0 => show (0 : BitVec 8) = xt 0 by decide
 | n + 1 => by
  show gmN (xt a) b n ^^^ _ = xt (gmN a b n ^^^ _)
  rw [gmN_xt a b n, xt_xor, xtn_xt]
  cases b.getLsbD n
  ·have : xt (0 : BitVec 8) = 0 := by decide
   simp only [Bool.false_eq_true, if_false]
   rw [this]
  ·simp
theorem gm_one_left : ∀ b : BitVec 8, gm 1 b = b := by decide +kernel
theorem gm_one_right : ∀ a : BitVec 8, gm a 1 = a := by decide +kernel
def pw (n : Nat) : BitVec 8 := xtn n 1
theorem gm_pw : ∀ i b, gm (pw i) b = xtn i b
 | 0, b => gm_one_left b
 | i + 1, b => by
  show gmN (xt (pw i)) b 8 = _
  rw [gmN_xt]
  show xt (gm (pw i) b) = _
  rw [gm_pw i b]
  rfl
theorem gm_pw_pw (i j : Nat) : gm (pw i) (pw j) = pw (i + j) := by
 rw [gm_pw]
 unfold pw
 rw [xtn_add]
theorem pw_255 : pw 255 = 1 := by decide +kernel
theorem pw_add_255 (n : Nat) : pw (n + 255) = pw n := by
 unfold pw
 rw [xtn_add]
 exact congrArg _ pw_255
def lgFrom (a : BitVec 8) : Nat → Nat → BitVec 8 → Nat
 | 0, i, _ => i
 | f + 1, i, p => if p = a then i else lgFrom a f (i + 1) (xt p)
def lg (a : BitVec 8) : Nat := lgFrom a 254 0 1
theorem lgFrom_le (a : BitVec 8) : ∀ f i p, lgFrom a f i p ≤ i + f
 | 0, i, p => Nat.le_refl _
 | f + 1, i, p => by
  unfold lgFrom
  split
  ·omega
  ·have := lgFrom_le a f (i + 1) (xt p)
   omega
theorem lg_le (a : BitVec 8) : lg a ≤ 254 := by have := lgFrom_le a 254 0 1; unfold lg; omega
theorem pw_lg : ∀ a : BitVec 8, a ≠ 0 → pw (lg a) = a := by decide +kernel
theorem gm_zero_right (a : BitVec 8) : gm a 0 = 0 := by
 have := gmN_xor_right a 0 0 8
 simpa [gm] using this
theorem gm_zero_left (b : BitVec 8) : gm 0 b = 0 := by
 have := gmN_xor_left 0 0 b 8
 simpa [gm] using this
theorem gm_comm (a b : BitVec 8) : gm a b = gm b a := by
 by_cases ha : a = 0
 ·subst ha; rw [gm_zero_left, gm_zero_right]
 ·by_cases hb : b = 0
  ·subst hb; rw [gm_zero_left, gm_zero_right]
  ·rw [← pw_lg a ha, ← pw_lg b hb, gm_pw_pw, gm_pw_pw, Nat.add_comm]
theorem gm_assoc (a b c : BitVec 8) : gm (gm a b) c = gm a (gm b c) := by
 by_cases ha : a = 0
 ·subst ha; rw [gm_zero_left, gm_zero_left, gm_zero_left]
 ·by_cases hb : b = 0
  ·subst hb; rw [gm_zero_right, gm_zero_left, gm_zero_right]
  ·by_cases hc : c = 0
   ·subst hc; rw [gm_zero_right, gm_zero_right, gm_zero_right]
   ·rw [← pw_lg a ha, ← pw_lg b hb, ← pw_lg c hc, gm_pw_pw, gm_pw_pw, gm_pw_pw, gm_pw_pw, Nat.add_assoc]
def ginv (a : BitVec 8) : BitVec 8 := if a = 0 then 0 else pw (255 - lg a)
theorem gm_inv (a : BitVec 8) (h : a ≠ 0) : gm a (ginv a) = 1 := by
 unfold ginv
 have hl := lg_le a
 rw [if_neg h]
 conv => lhs; arg 1; rw [← pw_lg a h]
 rw [gm_pw_pw, show lg a + (255 - lg a) = 255 from by omega, pw_255]
instance : Mul El := ⟨fun a b => ⟨gm a.v b.v⟩⟩
def El.inv (a : El) : El := ⟨ginv a.v⟩
theorem mul_comm (a b : El) : a * b = b * a := El.eq (gm_comm _ _)
theorem mul_assoc (a b c : El) : a * b * c = a * (b * c) := El.eq (gm_assoc _ _ _)
instance : Std.Commutative (α := El) (· * ·) := ⟨mul_comm⟩
instance : Std.Associative (α := El) (· * ·) := ⟨mul_assoc⟩
theorem mul_one (a : El) : a * 1 = a := El.eq (gm_one_right _)
theorem one_mul (a : El) : 1 * a = a := El.eq (gm_one_left _)
theorem mul_zero (a : El) : a * 0 = 0 := El.eq (gm_zero_right _)
theorem zero_mul (a : El) : 0 * a = 0 := El.eq (gm_zero_left _)
theorem mul_add (a b c : El) : a * (b + c) = a * b + a * c := El.eq (gmN_xor_right _ _ _ 8)
theorem add_mul (a b c : El) : (a + b) * c = a * c + b * c := El.eq (gmN_xor_left _ _ _ 8)
theorem one_ne_zero : (1 : El) ≠ 0 := by decide
theorem v_ne {a : El} (h : a ≠ 0) : a.v ≠ 0 := fun e => h (El.eq e)
theorem mul_inv {a : El} (h : a ≠ 0) : a * a.inv = 1 := El.eq (gm_inv _ (v_ne h))
theorem inv_mul {a : El} (h : a ≠ 0) : a.inv * a = 1 := by rw [mul_comm, mul_inv h]
theorem inv_ne {a : El} (h : a ≠ 0) : a.inv ≠ 0 := fun e => by
 have := mul_inv h
 rw [e, mul_zero] at this
 exact one_ne_zero this.symm
theorem inv_unique {a b : El} (h : a * b = 1) : b = a.inv := by
 have ha : a ≠ 0 := fun e => by rw [e, zero_mul] at h; exact one_ne_zero h.symm
 rw [← one_mul b, ← inv_mul ha, mul_assoc, h, mul_one]
def sm : Nat → (Nat → El) → El
 | 0, _ => 0
 | n + 1, f => sm n f + f n
theorem sm_congr {f g : Nat → El} : ∀ {n}, (∀ i, i < n → f i = g i) → sm n f = sm n g
 | 0, _ => rfl
 | n + 1, h => by
  show sm n f + f n = sm n g + g n
  rw [sm_congr (fun i hi => h i (by omega)), h n (by omega)]
theorem sm_zero {f : Nat → El} {n : Nat} (h : ∀ i, i < n → f i = 0) : sm n f = 0 := by
 induction n with
 | zero => rfl
 | succ n ih =>
  show sm n f + f n = 0
  rw [ih (fun i hi => h i (by omega)), h n (by omega), add_zero]
theorem sm_add (f g : Nat → El) : ∀ n, sm n (fun i => f i + g i) = sm n f + sm n g
 | 0 => (add_zero 0).symm
 | n + 1 => by
  show sm n (fun i => f i + g i) + (f n + g n) = (sm n f + f n) + (sm n g + g n)
  rw [sm_add f g n]
  ac_rfl
theorem sm_mul (a : El) (f : Nat → El) : ∀ n, sm n (fun i => a * f i) = a * sm n f
 | 0 => (mul_zero a).symm
 | n + 1 => by
  show sm n (fun i => a * f i) + a * f n = a * (sm n f + f n)
  rw [sm_mul a f n, mul_add]
theorem sm_mul_right (a : El) (f : Nat → El) (n : Nat) : sm n (fun i => f i * a) = sm n f * a := by
 rw [mul_comm, ← sm_mul]
 exact sm_congr fun i _ => mul_comm _ _
theorem sm_swap (f : Nat → Nat → El) : ∀ m n, sm m (fun i => sm n (fun j => f i j)) = sm n (fun j => sm m (fun i => f i j))
 | 0, n => (sm_zero fun _ _ => rfl).symm
 | m + 1, n => by
  show sm m (fun i => sm n (fun j => f i j)) + sm n (fun j => f m j) = sm n (fun j => sm m (fun i => f i j) + f m j)
  rw [sm_swap f m n, sm_add]
theorem sm_one {f : Nat → El} {n k : Nat} (hk : k < n) (h : ∀ i, i < n → i ≠ k → f i = 0) : sm n f = f k := by
 induction n with
 | zero => omega
 | succ n ih =>
  show sm n f + f n = f k
  by_cases e : k = n
  ·subst e
   rw [sm_zero fun i hi => h i (by omega) (by omega), zero_add]
  ·rw [ih (by omega) (fun i hi hne => h i (by omega) hne), h n (by omega) (fun x => e x.symm), add_zero]
end Go.Proofs.Ytccfbhnhedoggaa.M
namespace Go.Proofs.Ytccfbhnhedoggaa.M
open Go.RowKit Go.Proofs.YtccfbhnhedoggaaW.PrintWords Go.Proofs.YtccfbhnhedoggaaW.PrintLast Go.Proofs.YtccfbhnhedoggaaW.PrintMore Go.Proofs.Ytccfbhnhedoggaa.Q
theorem wi64 {x : Nat} (h : x < 2 ^ 63) : IntKind.i64.wrap (x : Int) = (x : Int) := by
  rw [show IntKind.i64.wrap (x : Int) = wrap64 (x : Int) from i64_w _]
  exact w64 (by omega) (by omega)
theorem toNat64 {a : Nat} (h : a < 2 ^ 63) : (BitVec.ofInt 64 (a : Int)).toNat = a := by
  rw [BitVec.ofInt_natCast, BitVec.toNat_ofNat]; exact Nat.mod_eq_of_lt (by omega)
theorem band64 {a b : Nat} (ha : a < 2 ^ 63) (hb : b < 2 ^ 63) : Go.bits .and .i64 (a : Int) (b : Int) = ((a &&& b : Nat) : Int) := by
  show IntKind.i64.wrap ((BitVec.ofInt 64 (a : Int) &&& BitVec.ofInt 64 (b : Int)).toNat : Int) = _
  rw [BitVec.toNat_and, toNat64 ha, toNat64 hb]
  exact wi64 (Nat.lt_of_le_of_lt Nat.and_le_left ha)
theorem bxor64 {a b : Nat} (ha : a < 2 ^ 63) (hb : b < 2 ^ 63) : Go.bits .xor .i64 (a : Int) (b : Int) = ((a ^^^ b : Nat) : Int) := by
  show IntKind.i64.wrap ((BitVec.ofInt 64 (a : Int) ^^^ BitVec.ofInt 64 (b : Int)).toNat : Int) = _
  rw [BitVec.toNat_xor, toNat64 ha, toNat64 hb]
  exact wi64 (Nat.xor_lt_two_pow ha hb)
theorem shr64 {n i : Nat} (hi : i ≤ 64) : shr .i64 (n : Int) (i : Int) = ((n >>> i : Nat) : Int) := by
  unfold shr
  have e : min (i : Int).toNat IntKind.i64.bits = i := by simp [IntKind.bits]; omega
  rw [e, Nat.shiftRight_eq_div_pow]
  simp
theorem shr8 {n i : Nat} (hi : i ≤ 8) : shr .u8 (n : Int) (i : Int) = ((n >>> i : Nat) : Int) := by
  unfold shr
  have e : min (i : Int).toNat IntKind.u8.bits = i := by simp [IntKind.bits]; omega
  rw [e, Nat.shiftRight_eq_div_pow]
  simp
theorem shl64 {n i : Nat} (hn : n < 2 ^ 16) (hi : i ≤ 16) : shl .i64 (n : Int) (i : Int) = ((n <<< i : Nat) : Int) := by
  unfold shl
  have e : min (i : Int).toNat IntKind.i64.bits = i := by simp [IntKind.bits]; omega
  rw [e, Nat.shiftLeft_eq]
  have h : n * 2 ^ i < 2 ^ 63 := Nat.lt_of_lt_of_le (Nat.mul_lt_mul_of_lt_of_le hn (Nat.pow_le_pow_right (by decide) hi) (by decide)) (by decide)
  rw [show ((n : Int) * 2 ^ i) = ((n * 2 ^ i : Nat) : Int) from by simp]
  exact wi64 h
theorem and_one (n i : Nat) : (((n >>> i) &&& 1 : Nat) : Int) = 1 ↔ n.testBit i = true := by
  unfold Nat.testBit
  rw [Nat.and_comm 1 (n >>> i), bne_iff_ne, Nat.and_one_is_mod]
  omega
theorem bit64 {n i : Nat} (hn : n < 2 ^ 63) (hi : i ≤ 64) : (Go.bits .and .i64 (shr .i64 (n : Int) (i : Int)) 1 = 1) ↔ n.testBit i = true := by
  rw [shr64 hi, show (1 : Int) = ((1 : Nat) : Int) from rfl, band64 (Nat.lt_of_le_of_lt (Nat.shiftRight_le _ _) hn) (by decide)]
  exact and_one n i
theorem bit8 {n i : Nat} (hn : n < 256) (hi : i ≤ 8) : (Go.bits .and .u8 (shr .u8 (n : Int) (i : Int)) 1 = 1) ↔ n.testBit i = true := by
  rw [shr8 hi]
  have h1 : n >>> i < 256 := Nat.lt_of_le_of_lt (Nat.shiftRight_le _ _) hn
  have e : Go.bits .and .u8 ((n >>> i : Nat) : Int) 1 = (((n >>> i) &&& 1 : Nat) : Int) := by
    show IntKind.u8.wrap ((BitVec.ofInt 8 ((n >>> i : Nat) : Int) &&& BitVec.ofInt 8 ((1 : Nat) : Int)).toNat : Int) = _
    rw [BitVec.toNat_and, BitVec.ofInt_natCast, BitVec.ofInt_natCast, BitVec.toNat_ofNat, BitVec.toNat_ofNat, Nat.mod_eq_of_lt (by omega : n >>> i < 2 ^ 8), show 1 % 2 ^ 8 = 1 from rfl]
    have : (n >>> i) &&& 1 ≤ 1 := Nat.and_le_right
    rw [IntKind.wrap_u8]
    omega
  rw [e]
  exact and_one n i
def acc (a b : Nat) : Nat → Nat
  | 0 => 0
  | i + 1 => if b.testBit i then acc a b i ^^^ (a <<< i) else acc a b i
def rst (i p : Nat) : Nat := if p.testBit (i + 8) then p ^^^ (285 <<< i) else p
def red : Nat → Nat → Nat
  | 0, p => p
  | i + 1, p => red i (rst i p)
theorem rst_xor (i x y : Nat) : rst i (x ^^^ y) = rst i x ^^^ rst i y := by
  unfold rst
  rw [Nat.testBit_xor]
  cases x.testBit (i + 8) <;> cases y.testBit (i + 8) <;> simp
  · rw [Nat.xor_assoc]
  · rw [Nat.xor_assoc, Nat.xor_comm y, Nat.xor_assoc]
  · rw [Nat.xor_assoc, Nat.xor_comm (285 <<< i) , Nat.xor_assoc, Nat.xor_self, Nat.xor_zero]
theorem red_xor : ∀ i x y, red i (x ^^^ y) = red i x ^^^ red i y
  | 0, _, _ => rfl
  | i + 1, x, y => by unfold red; rw [rst_xor, red_xor i]
theorem red_zero : ∀ i, red i 0 = 0
  | 0 => rfl
  | i + 1 => by unfold red rst; simp [red_zero i]
theorem red_shl : ∀ a : BitVec 8, ∀ i : Fin 8, red 7 (a.toNat <<< i.val) = (xtn i.val a).toNat := by decide +kernel
theorem acc_lt {a b : Nat} (ha : a < 256) : ∀ i, i ≤ 8 → acc a b i < 2 ^ 16
  | 0, _ => by unfold acc; decide
  | i + 1, h => by
    unfold acc
    split
    · refine Nat.xor_lt_two_pow (acc_lt ha i (by omega)) ?_
      rw [Nat.shiftLeft_eq]
      exact Nat.lt_of_lt_of_le (Nat.mul_lt_mul_of_lt_of_le ha (Nat.pow_le_pow_right (by decide) (by omega : i ≤ 8)) (by decide)) (by decide)
    · exact acc_lt ha i (by omega)
theorem red_acc (a b : BitVec 8) : ∀ i, i ≤ 8 → red 7 (acc a.toNat b.toNat i) = (gmN a b i).toNat
  | 0, _ => by unfold acc gmN; rw [red_zero]; rfl
  | i + 1, h => by
    unfold acc gmN
    have e : b.getLsbD i = b.toNat.testBit i := rfl
    rw [e]
    split
    · rw [red_xor, red_acc a b i (by omega), red_shl a ⟨i, by omega⟩]
      simp
    · rw [red_acc a b i (by omega)]
      simp
theorem rst_lt {i p : Nat} (hp : p < 2 ^ 16) (hi : i ≤ 7) : rst i p < 2 ^ 16 := by
  unfold rst
  split
  · refine Nat.xor_lt_two_pow hp ?_
    rw [Nat.shiftLeft_eq]
    exact Nat.lt_of_lt_of_le (Nat.mul_lt_mul_of_lt_of_le (by decide : 285 < 512) (Nat.pow_le_pow_right (by decide) hi) (by decide)) (by decide)
  · exact hp
theorem Mul_l1 : ∀ i p : Nat, i ≤ 7 → p < 2 ^ 16 → Ends (fun k => recoupref01_Mul.l1 k (p : Int) ((i : Int) + 7)) (((red i p) % 256 : Nat) : Int)
  | 0, p, _, _ => Ends.succ (fun k => by rw [recoupref01_Mul.l1]) (Ends.neg (by omega) (Ends.const (by unfold red; simp)))
  | i + 1, p, hi, hp => by
    refine Ends.succ (fun k => by rw [recoupref01_Mul.l1]) (Ends.pos (by omega) ?_)
    have e0 : ((i + 1 : Nat) : Int) + 7 = ((i + 8 : Nat) : Int) := by omega
    have e1 : IntKind.u64.wrap (((i + 1 : Nat) : Int) + 7) = ((i + 8 : Nat) : Int) := by rw [e0]; exact wu64 (by omega) (by omega)
    have e2 : wrap64 (((i + 1 : Nat) : Int) + 7 - 1) = (i : Int) + 7 := by rw [w64 (by omega) (by omega)]; omega
    have e3 : IntKind.u64.wrap (wrap64 (((i + 1 : Nat) : Int) + 7 - 8)) = (i : Int) := by rw [w64 (by omega) (by omega), wu64 (by omega) (by omega)]; omega
    rw [e1, e2, e3]
    refine Ends.pos (Int.natCast_nonneg _) ?_
    have hb := bit64 (n := p) (i := i + 8) (by omega) (by omega)
    by_cases h : p.testBit (i + 8) = true
    · refine Ends.pos (hb.2 h) (Ends.pos (Int.natCast_nonneg _) ?_)
      have e4 : Go.bits .xor .i64 (p : Int) (shl .i64 285 (i : Int)) = ((rst i p : Nat) : Int) := by
        rw [show (285 : Int) = ((285 : Nat) : Int) from rfl, shl64 (by decide) (by omega), bxor64 (by omega) (by
          rw [Nat.shiftLeft_eq]
          exact Nat.lt_of_lt_of_le (Nat.mul_lt_mul_of_lt_of_le (by decide : 285 < 512) (Nat.pow_le_pow_right (by decide) (by omega : i ≤ 7)) (by decide)) (by decide))]
        unfold rst
        rw [if_pos h]
      rw [e4]
      exact Mul_l1 i (rst i p) (by omega) (rst_lt hp (by omega))
    · refine Ends.neg (fun e => h (hb.1 e)) ?_
      have e4 : rst i p = p := by unfold rst; rw [if_neg h]
      have := Mul_l1 i p (by omega) hp
      unfold red
      rw [e4]
      exact this
theorem Mul_l0 {a b : Nat} (ha : a < 256) (hb : b < 256) : ∀ n i : Nat, i + n = 8 → Ends (fun k => recoupref01_Mul.l0 k (a : Int) (b : Int) ((acc a b i : Nat) : Int) (i : Int)) (((red 7 (acc a b 8)) % 256 : Nat) : Int)
  | 0, i, h => by
    obtain rfl : i = 8 := by omega
    refine Ends.succ (fun k => by rw [recoupref01_Mul.l0]) (Ends.neg (by decide) ?_)
    exact Mul_l1 7 _ (by omega) (acc_lt ha 8 (Nat.le_refl _))
  | n + 1, i, h => by
    refine Ends.succ (fun k => by rw [recoupref01_Mul.l0]) (Ends.pos (by omega) ?_)
    have e1 : IntKind.u64.wrap (i : Int) = (i : Int) := wu64 (by omega) (by omega)
    have e2 : wrap64 ((i : Int) + 1) = ((i + 1 : Nat) : Int) := by rw [w64 (by omega) (by omega)]; omega
    rw [e1, e2]
    refine Ends.pos (Int.natCast_nonneg _) ?_
    have hbt := bit8 (n := b) (i := i) hb (by omega)
    have ih := Mul_l0 ha hb n (i + 1) (by omega)
    by_cases h1 : b.testBit i = true
    · refine Ends.pos (hbt.2 h1) ?_
      have e4 : Go.bits .xor .i64 ((acc a b i : Nat) : Int) (shl .i64 (wrap64 (a : Int)) (i : Int)) = ((acc a b (i + 1) : Nat) : Int) := by
        rw [w64 (by omega) (by omega), shl64 (by omega) (by omega), bxor64 (by have := acc_lt (b := b) ha i (by omega); omega) (by
          rw [Nat.shiftLeft_eq]
          exact Nat.lt_of_lt_of_le (Nat.mul_lt_mul_of_lt_of_le ha (Nat.pow_le_pow_right (by decide) (by omega : i ≤ 8)) (by decide)) (by decide))]
        conv => rhs; rw [acc]
        rw [if_pos h1]
      rw [e4]
      exact ih
    · refine Ends.neg (fun e => h1 (hbt.1 e)) ?_
      have e4 : acc a b (i + 1) = acc a b i := by conv => lhs; rw [acc]
                                                  rw [if_neg h1]
      rw [e4] at ih
      exact ih
def toE (x : Int) : El := ⟨BitVec.ofInt 8 x⟩
def ofE (e : El) : Int := ((e.v.toNat : Nat) : Int)
theorem toE_ofE (e : El) : toE (ofE e) = e := El.eq (by unfold toE ofE; simp [BitVec.ofInt_natCast])
theorem ofE_toE {x : Int} (h : 0 ≤ x ∧ x < 256) : ofE (toE x) = x := by
  obtain ⟨n, rfl⟩ := Int.eq_ofNat_of_zero_le h.1
  unfold ofE toE
  rw [BitVec.ofInt_natCast, BitVec.toNat_ofNat, Nat.mod_eq_of_lt (by omega)]
theorem ofE_range (e : El) : 0 ≤ ofE e ∧ ofE e < 256 := by unfold ofE; have := e.v.isLt; omega
theorem toE_inj {x y : Int} (hx : 0 ≤ x ∧ x < 256) (hy : 0 ≤ y ∧ y < 256) (h : toE x = toE y) : x = y := by rw [← ofE_toE hx, ← ofE_toE hy, h]
theorem Mul_ends {a b : Int} (ha : 0 ≤ a ∧ a < 256) (hb : 0 ≤ b ∧ b < 256) : Ends (fun k => recoupref01_Mul.f k a b) (ofE (toE a * toE b)) := by
  obtain ⟨x, rfl⟩ := Int.eq_ofNat_of_zero_le ha.1
  obtain ⟨y, rfl⟩ := Int.eq_ofNat_of_zero_le hb.1
  have hx : x < 256 := by omega
  have hy : y < 256 := by omega
  have h := Mul_l0 hx hy 8 0 rfl
  have e := red_acc (BitVec.ofNat 8 x) (BitVec.ofNat 8 y) 8 (Nat.le_refl _)
  rw [BitVec.toNat_ofNat, BitVec.toNat_ofNat, Nat.mod_eq_of_lt (by omega : x < 2 ^ 8), Nat.mod_eq_of_lt (by omega : y < 2 ^ 8)] at e
  refine Ends.eq h ?_
  rw [e, Nat.mod_eq_of_lt (gmN _ _ 8).isLt]
  unfold ofE toE
  rw [BitVec.ofInt_natCast, BitVec.ofInt_natCast]
  rfl
theorem xor_el {a b : Int} : toE (Go.bits .xor .u8 a b) = toE a + toE b := by
  refine El.eq ?_
  show BitVec.ofInt 8 (IntKind.u8.wrap ((BitVec.ofInt 8 a ^^^ BitVec.ofInt 8 b).toNat : Int)) = BitVec.ofInt 8 a ^^^ BitVec.ofInt 8 b
  have h := (BitVec.ofInt 8 a ^^^ BitVec.ofInt 8 b).isLt
  rw [IntKind.wrap_u8, Int.emod_eq_of_lt (by omega) (by omega), BitVec.ofInt_natCast, BitVec.ofNat_toNat, BitVec.setWidth_eq]
theorem xor_range (a b : Int) : 0 ≤ Go.bits .xor .u8 a b ∧ Go.bits .xor .u8 a b < 256 := by
  show 0 ≤ IntKind.u8.wrap _ ∧ IntKind.u8.wrap _ < 256
  rw [IntKind.wrap_u8]
  omega
end Go.Proofs.Ytccfbhnhedoggaa.M
namespace Go.Proofs.Ytccfbhnhedoggaa.M
open Go.RowKit Go.Proofs.YtccfbhnhedoggaaW.PrintWords Go.Proofs.YtccfbhnhedoggaaW.PrintLast Go.Proofs.YtccfbhnhedoggaaW.PrintMore Go.Proofs.Ytccfbhnhedoggaa.Q
theorem exps_ok : (field_build.st 255).1 = (List.range 510).map fun i => ((pw i).toNat : Int) := by decide +kernel
theorem logs_ok : ((List.zip (field_build.st 255).2.1 (List.range 256)).all fun x => x.2 == 0 || (pw x.1.toNat).toNat == x.2) = true := by decide +kernel
theorem exp_el {n : Nat} (h : n < 510) : toE (field_build.exp n) = ⟨pw n⟩ := by
 unfold field_build.exp
 rw [exps_ok, List.getD_eq_getElem?_getD, List.getElem?_map, List.getElem?_range h]
 refine El.eq ?_
 unfold toE
 simp [BitVec.ofInt_natCast]
theorem log_el {a : Int} (h : 0 ≤ a ∧ a < 256) (h0 : a ≠ 0) : (⟨pw (field_build.log a.toNat).toNat⟩ : El) = toE a := by
 obtain ⟨n, rfl⟩ := Int.eq_ofNat_of_zero_le h.1
 have hn : n < 256 := by omega
 have hl : n < (field_build.st 255).2.1.length := by rw [(field_build.st_length 255).2]; exact hn
 have hz : n < (List.zip (field_build.st 255).2.1 (List.range 256)).length := by rw [List.length_zip, List.length_range]; omega
 have := List.all_eq_true.1 logs_ok _ (List.getElem_mem hz)
 rw [List.getElem_zip, List.getElem_range] at this
 simp only [Bool.or_eq_true, beq_iff_eq] at this
 rcases this with e | e
 ·exact absurd (by rw [e]; rfl) h0
 ·refine El.eq ?_
  unfold field_build.log toE
  rw [Int.toNat_natCast, List.getD_eq_getElem?_getD, List.getElem?_eq_getElem hl, Option.getD_some, BitVec.ofInt_natCast]
  refine BitVec.eq_of_toNat_eq ?_
  rw [e, BitVec.toNat_ofNat, Nat.mod_eq_of_lt (by omega)]
theorem toE_zero : toE 0 = 0 := rfl
theorem toE_ne {a : Int} (h : 0 ≤ a ∧ a < 256) (h0 : a ≠ 0) : toE a ≠ 0 := fun e => h0 (toE_inj h (by omega) (e.trans toE_zero.symm))
theorem mulT_el {a b : Int} (ha : 0 ≤ a ∧ a < 256) (hb : 0 ≤ b ∧ b < 256) : toE (mulT a b) = toE a * toE b := by
 unfold mulT
 by_cases h1 : a = 0
 ·rw [if_pos h1, h1, toE_zero, zero_mul]
 ·rw [if_neg h1]
  by_cases h2 : b = 0
  ·rw [if_pos h2, h2, toE_zero, mul_zero]
  ·rw [if_neg h2]
   obtain ⟨x0, x1⟩ := field_build.log_range (i := a.toNat) (by omega)
   obtain ⟨y0, y1⟩ := field_build.log_range (i := b.toNat) (by omega)
   rw [exp_el (by omega), ← log_el ha h1, ← log_el hb h2, show (field_build.log a.toNat + field_build.log b.toNat).toNat = (field_build.log a.toNat).toNat + (field_build.log b.toNat).toNat from by omega]
   generalize (field_build.log a.toNat).toNat = i
   generalize (field_build.log b.toNat).toNat = j
   exact El.eq (gm_pw_pw i j).symm
theorem exp_range {n : Nat} (h : n < 510) : 0 ≤ field_build.exp n ∧ field_build.exp n < 256 := by
 unfold field_build.exp
 rw [exps_ok, List.getD_eq_getElem?_getD, List.getElem?_map, List.getElem?_range h]
 have := (pw n).isLt
 simp
 omega
theorem mulT_range {a b : Int} (ha : 0 ≤ a ∧ a < 256) (hb : 0 ≤ b ∧ b < 256) : 0 ≤ mulT a b ∧ mulT a b < 256 := by
 unfold mulT
 split
 ·omega
 ·split
  ·omega
  ·obtain ⟨x0, x1⟩ := field_build.log_range (i := a.toNat) (by omega)
   obtain ⟨y0, y1⟩ := field_build.log_range (i := b.toNat) (by omega)
   exact exp_range (by omega)
theorem mulT_ends {a b : Int} (ha : 0 ≤ a ∧ a < 256) (hb : 0 ≤ b ∧ b < 256) : Ends (fun k => recoupref01_Mul.f k a b) (mulT a b) := by
 refine Ends.eq (Mul_ends ha hb) ?_
 rw [← mulT_el ha hb, ofE_toE (mulT_range ha hb)]
theorem pw_255k : ∀ k, pw (255 * k) = 1
 | 0 => rfl
 | k + 1 => by rw [Nat.mul_succ, pw_add_255, pw_255k k]
theorem invT_el {a : Int} (ha : 0 ≤ a ∧ a < 256) (h0 : a ≠ 0) : toE (invT a) = (toE a).inv := by
 have e : field_bounded.f (-1) = some 254 := by kernel_rfl
 have e2 : field_Inv.f a = some (field_build.exp ((field_build.log a.toNat * 254) % 255).toNat, 0) := by
  unfold field_Inv.f field_Pow.f
  rw [if_neg (by omega), if_neg h0, if_pos ha, e]
  simp
 have e3 : invT a = field_build.exp ((field_build.log a.toNat * 254) % 255).toNat := by unfold invT; rw [e2, Option.getD_some]
 rw [e3]
 obtain ⟨x0, x1⟩ := field_build.log_range (i := a.toNat) (by omega)
 rw [exp_el (by omega), ← log_el ha h0]
 obtain ⟨n, hn⟩ := Int.eq_ofNat_of_zero_le x0
 rw [hn, Int.toNat_natCast]
 refine inv_unique (El.eq ?_)
 show gm (pw n) (pw _) = 1
 rw [gm_pw_pw]
 have : n + (((n : Int) * 254) % 255).toNat = 255 * ((n + (((n : Int) * 254) % 255).toNat) / 255) := by omega
 rw [this]
 exact pw_255k _
theorem invT_range {a : Int} (ha : 0 ≤ a ∧ a < 256) (h0 : a ≠ 0) : 0 ≤ invT a ∧ invT a < 256 := (inv_some ha h0).2
end Go.Proofs.Ytccfbhnhedoggaa.M
namespace Go.Proofs.Ytccfbhnhedoggaa.M
open Go.RowKit Go.Proofs.YtccfbhnhedoggaaW.PrintWords Go.Proofs.YtccfbhnhedoggaaW.PrintLast Go.Proofs.YtccfbhnhedoggaaW.PrintMore Go.Proofs.Ytccfbhnhedoggaa.Q
def U (M : List (List Int)) (c : Nat) : Prop := ∀ r ∈ M, r.length = c
theorem U.cons {r : List Int} {M : List (List Int)} {c : Nat} (h : U (r :: M) c) : r.length = c ∧ U M c := ⟨h r (List.mem_cons_self ..), fun x hx => h x (List.mem_cons_of_mem _ hx)⟩
theorem U.set {M : List (List Int)} {c k : Nat} {r : List Int} (h : U M c) (hr : r.length = c) : U (M.set k r) c := fun x hx => by
  rcases List.mem_or_eq_of_mem_set hx with hx | rfl
  · exact h x hx
  · exact hr
theorem U.at {M : List (List Int)} {c i : Nat} (h : U M c) (hi : i < M.length) : (M.getD i []).length = c := by
  rw [List.getD_eq_getElem?_getD, List.getElem?_eq_getElem hi]
  exact h _ (List.getElem_mem hi)
theorem flat_len {c : Nat} : ∀ {M : List (List Int)}, U M c → M.flatten.length = M.length * c
  | [], _ => by simp
  | r :: M, h => by
    rw [List.flatten_cons, List.length_append, flat_len h.cons.2, h.cons.1, List.length_cons, Nat.succ_mul, Nat.add_comm]
theorem flat_drop {c : Nat} : ∀ {M : List (List Int)} (i : Nat), U M c → M.flatten.drop (i * c) = (M.drop i).flatten
  | [], i, _ => by simp
  | r :: M, 0, h => by simp
  | r :: M, i + 1, h => by
    rw [List.flatten_cons, Nat.succ_mul, Nat.add_comm, List.drop_succ_cons, ← flat_drop i h.cons.2]
    have := h.cons.1
    rw [List.drop_append, List.drop_eq_nil_of_le (by omega), List.nil_append, this, Nat.add_sub_cancel_left]
theorem flat_take {c : Nat} : ∀ {M : List (List Int)} (i : Nat), U M c → M.flatten.take (i * c) = (M.take i).flatten
  | [], i, _ => by simp
  | r :: M, 0, h => by simp
  | r :: M, i + 1, h => by
    rw [List.flatten_cons, Nat.succ_mul, Nat.add_comm, List.take_succ_cons, List.flatten_cons, ← flat_take i h.cons.2]
    have := h.cons.1
    rw [List.take_append, List.take_of_length_le (by omega), this, Nat.add_sub_cancel_left]
theorem flat_get {c i j : Nat} {M : List (List Int)} (h : U M c) (hi : i < M.length) (hj : j < c) : M.flatten.getD (i * c + j) 0 = entry M i j := by
  have e : M.flatten.getD (i * c + j) 0 = (M.flatten.drop (i * c)).getD j 0 := by
    rw [List.getD_eq_getElem?_getD, List.getD_eq_getElem?_getD, List.getElem?_drop]
  have hl := h.at hi
  rw [e, flat_drop i h, List.drop_eq_getElem_cons hi, List.flatten_cons]
  unfold entry
  rw [List.getD_eq_getElem?_getD, List.getD_eq_getElem?_getD, List.getD_eq_getElem?_getD, List.getElem?_eq_getElem hi, Option.getD_some]
  rw [List.getD_eq_getElem?_getD, List.getElem?_eq_getElem hi, Option.getD_some] at hl
  rw [List.getElem?_append_left (by omega)]
theorem flat_row {c i : Nat} {M : List (List Int)} (h : U M c) (hi : i < M.length) : (M.flatten.drop (i * c)).take c = M.getD i [] := by
  have hl := h.at hi
  rw [flat_drop i h, List.drop_eq_getElem_cons hi, List.flatten_cons]
  rw [List.getD_eq_getElem?_getD, List.getElem?_eq_getElem hi, Option.getD_some] at hl ⊢
  rw [List.take_append, List.take_of_length_le (by omega), hl, Nat.sub_self, List.take_zero, List.append_nil]
theorem flat_splice {c k : Nat} {M : List (List Int)} {r : List Int} (h : U M c) (hk : k < M.length) (hr : r.length = c) : splice M.flatten (k * c) r = (M.set k r).flatten := by
  unfold splice
  rw [flat_take k h, hr, show k * c + c = (k + 1) * c from (Nat.succ_mul k c).symm, flat_drop (k + 1) h, List.set_eq_take_append_cons_drop, if_pos hk, List.flatten_append, List.flatten_cons]
theorem flat_set {c k j : Nat} {M : List (List Int)} (v : Int) (h : U M c) (hk : k < M.length) (hj : j < c) : M.flatten.set (k * c + j) v = (M.set k ((M.getD k []).set j v)).flatten := by
  have hl := h.at hk
  rw [← flat_splice h hk (by rw [List.length_set]; exact hl)]
  unfold splice
  rw [List.length_set, hl, List.set_eq_take_append_cons_drop]
  have hlen : k * c + j < M.flatten.length := by
    rw [flat_len h]
    have : (k + 1) * c ≤ M.length * c := Nat.mul_le_mul_right _ hk
    rw [Nat.succ_mul] at this
    omega
  rw [if_pos hlen, List.set_eq_take_append_cons_drop, if_pos (by omega), ← flat_row h hk, List.take_take, Nat.min_eq_left (by omega), List.append_assoc, List.cons_append]
  have e1 : M.flatten.take (k * c + j) = M.flatten.take (k * c) ++ (M.flatten.drop (k * c)).take j := by
    rw [List.take_add]
  have e2 : ((M.flatten.drop (k * c)).take c).drop (j + 1) ++ M.flatten.drop (k * c + c) = M.flatten.drop (k * c + j + 1) := by
    rw [List.drop_take, List.drop_drop, ← List.drop_drop (i := c), ← List.drop_drop (i := j + 1)]
    rw [show M.flatten.drop (k * c + j + 1) = ((M.flatten.drop (k * c)).drop (j + 1)) from by rw [List.drop_drop]; congr 1, show (M.flatten.drop (k * c)).drop c = ((M.flatten.drop (k * c)).drop (j + 1)).drop (c - (j + 1)) from by simp only [List.drop_drop]; congr 1; omega]
    rw [List.take_append_drop]
  rw [e1, ← e2]
  simp [List.append_assoc]
theorem flat_rowsOf {c : Nat} : ∀ (r : Nat) (l : List Int), l.length = r * c → (rowsOf c r l).flatten = l ∧ U (rowsOf c r l) c := by
  intro r
  have key : ∀ r (l : List Int), l.length = r * c → ((List.range r).map fun i => (l.drop (i * c)).take c).flatten = l := by
    intro r
    induction r with
    | zero => intro l hl; rw [Nat.zero_mul] at hl; simp [List.length_eq_zero_iff.1 hl]
    | succ r ih =>
      intro l hl
      rw [Nat.succ_mul] at hl
      rw [List.range_succ, List.map_append, List.flatten_append]
      have := ih (l.take (r * c)) (by rw [List.length_take]; omega)
      have e : ((List.range r).map fun i => (l.drop (i * c)).take c) = ((List.range r).map fun i => ((l.take (r * c)).drop (i * c)).take c) := by
        refine List.map_congr_left fun i hi => ?_
        have hir : i < r := by simpa using hi
        have : (i + 1) * c ≤ r * c := Nat.mul_le_mul_right _ hir
        rw [Nat.succ_mul] at this
        rw [List.drop_take, List.take_take, Nat.min_eq_left (by omega)]
      rw [e, this]
      simp only [List.map_cons, List.map_nil, List.flatten_cons, List.flatten_nil, List.append_nil]
      rw [List.take_of_length_le (l := l.drop (r * c)) (by rw [List.length_drop]; omega), List.take_append_drop]
  intro l hl
  refine ⟨key r l hl, fun x hx => ?_⟩
  obtain ⟨i, hi, rfl⟩ := List.mem_map.1 hx
  have hir : i < r := by simpa using hi
  have : (i + 1) * c ≤ r * c := Nat.mul_le_mul_right _ hir
  rw [Nat.succ_mul] at this
  rw [List.length_take, List.length_drop]
  omega
theorem idx_small {i c j : Nat} (hi : i ≤ 64) (hc : c ≤ 64) (hj : j ≤ 64) : wrap64 ((i : Int) * (c : Int)) = ((i * c : Nat) : Int) ∧ wrap64 (wrap64 ((i : Int) * (c : Int)) + (j : Int)) = ((i * c + j : Nat) : Int) := by
  have hm : i * c ≤ 64 * 64 := Nat.mul_le_mul hi hc
  rw [← Int.natCast_mul]
  generalize i * c = p at *
  rw [w64 (by omega) (by omega), w64 (by omega) (by omega)]
  exact ⟨rfl, by omega⟩
theorem idx_lt {i c j n : Nat} (hi : i < n) (hj : j < c) : i * c + j < n * c := by
  have : (i + 1) * c ≤ n * c := Nat.mul_le_mul_right _ hi
  rw [Nat.succ_mul] at this
  omega
theorem At_eq {c i j : Nat} {M : List (List Int)} (h : U M c) (hm : M.length ≤ 64) (hc : c ≤ 64) (hi : i < M.length) (hj : j < c) (a : Int) : recoupref03_At.f a (c : Int) M.flatten (i : Int) (j : Int) = some (entry M i j) := by
  obtain ⟨_, e⟩ := idx_small (i := i) (c := c) (j := j) (by omega) hc (by omega)
  have hl := idx_lt hi hj
  unfold recoupref03_At.f
  rw [e, flat_len h, if_pos (Int.natCast_nonneg _), if_pos (Int.ofNat_lt.2 hl), rd_nat, flat_get h hi hj]
theorem Right_true {c : Nat} {M : List (List Int)} (h : U M c) (hm : M.length ≤ 64) (hc : c ≤ 64) : recoupref03_Right.f (M.length : Int) (c : Int) M.flatten = some true := by
  obtain ⟨e, _⟩ := idx_small (i := M.length) (c := c) (j := 0) hm hc (by omega)
  unfold recoupref03_Right.f
  rw [if_pos (by omega), if_pos (by omega), if_pos (by omega), if_pos (by omega), e, flat_len h]
  simp
end Go.Proofs.Ytccfbhnhedoggaa.M
namespace Go.Proofs.Ytccfbhnhedoggaa.M
open Go.RowKit Go.Proofs.YtccfbhnhedoggaaW.PrintWords Go.Proofs.YtccfbhnhedoggaaW.PrintLast Go.Proofs.YtccfbhnhedoggaaW.PrintMore Go.Proofs.Ytccfbhnhedoggaa.Q
set_option linter.unusedVariables false
theorem U.of {M D : List (List Int)} {cols wd : Nat} (h : Shp M D cols wd) : U M cols := fun r hr => by
 obtain ⟨i, hi, rfl⟩ := List.getElem_of_mem hr
 have := h.eM i hi
 rwa [List.getD_eq_getElem?_getD, List.getElem?_eq_getElem hi, Option.getD_some] at this
theorem mid_set {g r : List Int} {l : Nat} (hg : l < g.length) (hr : g.length = r.length) : (g.take l ++ r.drop l).set l (g.getD l 0) = g.take (l + 1) ++ r.drop (l + 1) := by
 rw [List.set_append_right _ _ (by rw [List.length_take]; omega), List.length_take, Nat.min_eq_left (by omega), Nat.sub_self, List.drop_eq_getElem_cons (by omega : l < r.length), List.set_cons_zero, List.take_succ_eq_append_getElem hg, List.append_assoc, List.getD_eq_getElem?_getD, List.getElem?_eq_getElem hg]
 rfl
theorem mid_get {g r : List Int} {l : Nat} (hg : l < g.length) (hr : g.length = r.length) : (g.take l ++ r.drop l).getD l 0 = r.getD l 0 := by
 rw [List.getD_eq_getElem?_getD, List.getD_eq_getElem?_getD, List.getElem?_append_right (by rw [List.length_take]; omega), List.length_take, Nat.min_eq_left (by omega), Nat.sub_self, List.getElem?_drop, Nat.add_zero]
end Go.Proofs.Ytccfbhnhedoggaa.M
namespace Go.Proofs.Ytccfbhnhedoggaa.M
open Go.RowKit Go.Proofs.YtccfbhnhedoggaaW.PrintWords Go.Proofs.YtccfbhnhedoggaaW.PrintLast Go.Proofs.YtccfbhnhedoggaaW.PrintMore Go.Proofs.Ytccfbhnhedoggaa.Q
set_option linter.unusedVariables false
theorem i64_succ {i : Nat} (h : i ≤ 4096) : wrap64 ((i : Int) + 1) = ((i + 1 : Nat) : Int) := by rw [w64 (by omega) (by omega)]; omega
theorem getD_set_self {α : Type} {l : List α} {i : Nat} {v d : α} (h : i < l.length) : (l.set i v).getD i d = v := by
 rw [List.getD_eq_getElem?_getD, List.getElem?_set_self h, Option.getD_some]
theorem getD_set_ne {α : Type} {l : List α} {i j : Nat} {v d : α} (h : i ≠ j) : (l.set i v).getD j d = l.getD j d := by
 rw [List.getD_eq_getElem?_getD, List.getD_eq_getElem?_getD, List.getElem?_set_ne h]
theorem set_getD_self {α : Type} {l : List α} {i : Nat} {d : α} (h : i < l.length) : l.set i (l.getD i d) = l := by
 rw [List.getD_eq_getElem?_getD, List.getElem?_eq_getElem h, Option.getD_some, List.set_getElem_self]
theorem rows_bytes {M : List (List Int)} (h : rowsB M = true) (i : Nat) : bytesB (M.getD i []) = true := rowsB_at h i
end Go.Proofs.Ytccfbhnhedoggaa.M
namespace Go.Proofs.Ytccfbhnhedoggaa.M
open Go.RowKit Go.Proofs.YtccfbhnhedoggaaW.PrintWords Go.Proofs.YtccfbhnhedoggaaW.PrintLast Go.Proofs.YtccfbhnhedoggaaW.PrintMore Go.Proofs.Ytccfbhnhedoggaa.Q
set_option linter.unusedVariables false
theorem Right_eq {a b : Int} {l : List Int} (ha : -9223372036854775808 ≤ a ∧ a ≤ 9223372036854775807) : recoupref03_Right.f a b l = matrix_Right.f a b l := by
 unfold recoupref03_Right.f matrix_Right.f matrix_side.f
 by_cases h1 : a ≥ 0 <;> by_cases h2 : a ≤ 64 <;> by_cases h3 : b ≥ 0 <;> by_cases h4 : b ≤ 64 <;> simp only [h1, h2, h3, h4, if_true, if_false, Option.bind_some, decide_true, decide_false, Bool.false_eq_true]
theorem Right_cases (a b : Int) (l : List Int) : recoupref03_Right.f a b l = some true ∨ recoupref03_Right.f a b l = some false := by
 unfold recoupref03_Right.f
 split
 ·split
  ·split
   ·split
    ·by_cases h : ((l.length : Int) == wrap64 (a * b)) = true
     ·left; rw [h]
     ·right; rw [Bool.not_eq_true] at h; rw [h]
    ·exact .inr rfl
   ·exact .inr rfl
  ·exact .inr rfl
 ·exact .inr rfl
theorem bytesB_wf {l : List Int} (h : ∀ x ∈ l, (Lit.int .u8 x).wf = true) : bytesB l = true := by
 unfold bytesB
 rw [List.all_eq_true]
 intro x hx
 have := wf_u8 (h x hx)
 simp
 omega
theorem right_nat {a b : Int} {l : List Int} (h : matrix_Right.f a b l = some true) : ∃ r c : Nat, a = (r : Int) ∧ b = (c : Int) ∧ r ≤ 64 ∧ c ≤ 64 ∧ l.length = r * c ∧ l.length ≤ 4096 := by
 obtain ⟨h1, h2, h3, h4, h5⟩ := right_true h
 obtain ⟨r, rfl⟩ := Int.eq_ofNat_of_zero_le h1
 obtain ⟨c, rfl⟩ := Int.eq_ofNat_of_zero_le h3
 rw [Int.toNat_natCast, Int.toNat_natCast] at h5
 have : r * c ≤ 64 * 64 := Nat.mul_le_mul (by omega) (by omega)
 exact ⟨r, c, rfl, rfl, by omega, by omega, h5, by omega⟩
def redL (r c : Nat) (l : List Int) : (List (List Int) × List (List Int)) × List Int := redTo (rowsOf c r l) (List.replicate r []) c
theorem gReduce_eq {r c : Nat} {l : List Int} (hR : matrix_Right.f (r : Int) (c : Int) l = some true) (hb : bytesB l = true) : gauss_Reduce.f (r : Int) (c : Int) l = some ((r : Int), (c : Int), (redL r c l).1.1.flatten, (redL r c l).2, 0) := by
 unfold gauss_Reduce.f
 rw [hR, Option.bind_some, if_pos rfl, if_pos hb]
 rfl
theorem Same_self (l : List Int) : recoupref01_Same.f l l = some true := by
 unfold recoupref01_Same.f
 rw [beq_self_eq_true]
theorem Like_self (a b : Int) (l : List Int) : recoupref03_Like.f a b l a b l = some true := by
 unfold recoupref03_Like.f
 rw [if_pos rfl, if_pos rfl, Same_self]
 rfl
end Go.Proofs.Ytccfbhnhedoggaa.M
namespace Go.Proofs.Ytccfbhnhedoggaa.M
open Go.RowKit Go.Proofs.YtccfbhnhedoggaaW.PrintWords Go.Proofs.YtccfbhnhedoggaaW.PrintLast Go.Proofs.YtccfbhnhedoggaaW.PrintMore Go.Proofs.Ytccfbhnhedoggaa.Q
set_option linter.unusedVariables false
def aug (M D : List (List Int)) : List (List Int) := List.zipWith (· ++ ·) M D
theorem aug_length {M D : List (List Int)} (h : D.length = M.length) : (aug M D).length = M.length := by unfold aug; rw [List.length_zipWith]; omega
theorem aug_get {M D : List (List Int)} (h : D.length = M.length) (i : Nat) : (aug M D).getD i [] = M.getD i [] ++ D.getD i [] := by
  unfold aug
  rw [List.getD_eq_getElem?_getD, List.getD_eq_getElem?_getD, List.getD_eq_getElem?_getD, List.getElem?_zipWith]
  by_cases hi : i < M.length
  · rw [List.getElem?_eq_getElem hi, List.getElem?_eq_getElem (by omega)]
    rfl
  · rw [List.getElem?_eq_none (by omega), List.getElem?_eq_none (by omega)]
    rfl
theorem aug_set {M D : List (List Int)} (h : D.length = M.length) (i : Nat) (r s : List Int) : aug (M.set i r) (D.set i s) = (aug M D).set i (r ++ s) := by
  unfold aug
  refine List.ext_getElem (by simp) fun p h1 h2 => ?_
  rw [List.getElem_zipWith, List.getElem_set, List.getElem_set, List.getElem_set, List.getElem_zipWith]
  split <;> rfl
theorem aug_entry {M D : List (List Int)} {C i j : Nat} (h : D.length = M.length) (hr : (M.getD i []).length = C) (hj : j < C) : entry (aug M D) i j = entry M i j := by
  unfold entry
  rw [aug_get h, List.getD_eq_getElem?_getD, List.getD_eq_getElem?_getD (l := M.getD i []), List.getElem?_append_left (by omega)]
theorem aug_entry_right {M D : List (List Int)} {C i j : Nat} (h : D.length = M.length) (hr : (M.getD i []).length = C) : entry (aug M D) i (C + j) = entry D i j := by
  unfold entry
  rw [aug_get h, List.getD_eq_getElem?_getD, List.getD_eq_getElem?_getD (l := D.getD i []), List.getElem?_append_right (by omega), hr, Nat.add_sub_cancel_left]
theorem aug_U {M D : List (List Int)} {C wd : Nat} (h : Shp M D C wd) : U (aug M D) (C + wd) := fun r hr => by
  obtain ⟨i, hi, rfl⟩ := List.getElem_of_mem hr
  have hl := aug_length h.len
  have := aug_get h.len i
  rw [List.getD_eq_getElem?_getD, List.getElem?_eq_getElem hi, Option.getD_some] at this
  rw [this, List.length_append, h.eM i (by omega), h.eD i (by omega)]
theorem aug_bytes {M D : List (List Int)} {C wd : Nat} (h : Shp M D C wd) : rowsB (aug M D) = true := by
  rw [rowsB, List.all_eq_true]
  intro r hr
  obtain ⟨i, hi, rfl⟩ := List.getElem_of_mem hr
  have := aug_get h.len i
  rw [List.getD_eq_getElem?_getD, List.getElem?_eq_getElem hi, Option.getD_some] at this
  rw [this]
  have h1 := rows_bytes h.bM i
  have h2 := rows_bytes h.bD i
  unfold bytesB at h1 h2 ⊢
  rw [List.all_append, h1, h2]
  rfl
theorem swap_aug {M D : List (List Int)} (h : D.length = M.length) (o : Int) (top i : Nat) : aug (swapS o M top i) (swapS o D top i) = swapS o (aug M D) top i := by
  unfold swapS
  rw [aug_set (by simp [h]), aug_set (by simp [h]), aug_set h, aug_get h, aug_get h, List.map_append]
theorem xorL_append {a b c d : List Int} (h : a.length = c.length) : xorL (a ++ b) (c ++ d) = xorL a c ++ xorL b d := by
  unfold xorL
  rw [List.zipWith_append h]
theorem mac_aug {M D : List (List Int)} {C wd : Nat} (h : Shp M D C wd) {k top : Nat} (hk : k < M.length) (ht : top < M.length) (c : Int) : aug (macS M k top c) (macS D k top c) = macS (aug M D) k top c := by
  unfold macS
  rw [aug_set h.len, aug_get h.len, aug_get h.len, List.map_append, xorL_append (by rw [List.length_map, h.eM top ht, h.eM k hk])]
def el1 (col top : Nat) : Nat → List (List Int) → List (List Int)
  | 0, A => A
  | k + 1, A => let t := el1 col top k A; if k ≠ top ∧ entry t k col ≠ 0 then macS t k top (entry t k col) else t
theorem el1_aug {M D : List (List Int)} {C wd col top : Nat} (h : Shp M D C wd) (ht : top < M.length) (hc : col < C) : ∀ k, k ≤ M.length → el1 col top k (aug M D) = aug (elimTo col top k (M, D)).1 (elimTo col top k (M, D)).2
  | 0, _ => rfl
  | k + 1, hk => by
    obtain ⟨hT, hTl⟩ := elim_shp (col := col) h ht k (by omega)
    have ih := el1_aug h ht hc k (by omega)
    have e1 : el1 col top (k + 1) (aug M D) = (if k ≠ top ∧ entry (el1 col top k (aug M D)) k col ≠ 0 then macS (el1 col top k (aug M D)) k top (entry (el1 col top k (aug M D)) k col) else el1 col top k (aug M D)) := rfl
    have e2 : elimTo col top (k + 1) (M, D) = (if k ≠ top ∧ entry (elimTo col top k (M, D)).1 k col ≠ 0 then (macS (elimTo col top k (M, D)).1 k top (entry (elimTo col top k (M, D)).1 k col), macS (elimTo col top k (M, D)).2 k top (entry (elimTo col top k (M, D)).1 k col)) else elimTo col top k (M, D)) := rfl
    rw [e1, e2, ih]
    generalize elimTo col top k (M, D) = T at *
    rw [aug_entry hT.len (hT.eM k (by omega)) hc]
    split
    · rw [← mac_aug hT (by omega) (by omega)]
    · rfl
theorem seek_aug {M D : List (List Int)} {C wd j : Nat} (h : Shp M D C wd) (hj : j < C) : ∀ f i, i + f ≤ M.length → seekCol (aug M D) j f i = seekCol M j f i
  | 0, _, _ => rfl
  | f + 1, i, hi => by
    unfold seekCol
    rw [aug_entry h.len (h.eM i (by omega)) hj, seek_aug h hj f (i + 1) (by omega)]
def stepA (j : Nat) (s : List (List Int) × List Int) : List (List Int) × List Int := match firstIn s.1 s.2.length j with
  | none => s
  | some i => (el1 j s.2.length s.1.length (swapS (invT (entry s.1 i j)) s.1 s.2.length i), s.2 ++ [(j : Int)])
def redA (A : List (List Int)) : Nat → List (List Int) × List Int
  | 0 => (A, [])
  | j + 1 => stepA j (redA A j)
theorem stepA_none {j : Nat} {s : List (List Int) × List Int} (h : firstIn s.1 s.2.length j = none) : stepA j s = s := by unfold stepA; rw [h]
theorem stepA_some {j i : Nat} {s : List (List Int) × List Int} (h : firstIn s.1 s.2.length j = some i) : stepA j s = (el1 j s.2.length s.1.length (swapS (invT (entry s.1 i j)) s.1 s.2.length i), s.2 ++ [(j : Int)]) := by unfold stepA; rw [h]
theorem red_aug {M D : List (List Int)} {C wd : Nat} (h : Shp M D C wd) : ∀ j, j ≤ C → redA (aug M D) j = (aug (redTo M D j).1.1 (redTo M D j).1.2, (redTo M D j).2)
  | 0, _ => rfl
  | j + 1, hj => by
    have hs := red_shp h j
    have ih := red_aug h j (by omega)
    show stepA j (redA (aug M D) j) = (aug (redStep j (redTo M D j)).1.1 (redStep j (redTo M D j)).1.2, (redStep j (redTo M D j)).2)
    rw [ih]
    generalize redTo M D j = T at *
    obtain ⟨hS, hSl, hp, _⟩ := hs
    have hal := aug_length hS.len
    have hfi : firstIn (aug T.1.1 T.1.2) T.2.length j = firstIn T.1.1 T.2.length j := by
      unfold firstIn
      rw [hal, seek_aug hS (by omega) _ _ (by omega)]
    cases hf : firstIn T.1.1 T.2.length j with
    | none => rw [redStep_none hf, stepA_none (hfi.trans hf)]
    | some i =>
      obtain ⟨q1, q2, q3, _⟩ := seekCol_spec _ _ hf
      rw [redStep_some hf, stepA_some (s := (aug T.1.1 T.1.2, T.2)) (hfi.trans hf)]
      show (el1 j T.2.length (aug T.1.1 T.1.2).length (swapS (invT (entry (aug T.1.1 T.1.2) i j)) (aug T.1.1 T.1.2) T.2.length i), T.2 ++ [(j : Int)]) = _
      have hsh := hS.swap (o := invT (entry T.1.1 i j)) (by omega : T.2.length < _) (by omega : i < _)
      have hsl : (swapS (invT (entry T.1.1 i j)) T.1.1 T.2.length i).length = T.1.1.length := by simp [swapS]
      rw [hal, aug_entry hS.len (hS.eM i (by omega)) (by omega), ← swap_aug hS.len, el1_aug hsh (by omega) (by omega) _ (by omega)]
      rfl
structure Sh (A : List (List Int)) (W : Nat) : Prop where
  u : U A W
  b : rowsB A = true
  m : A.length ≤ 64
  w : W ≤ 65
theorem Sh.set {A : List (List Int)} {W k : Nat} {r : List Int} (h : Sh A W) (hr : r.length = W) (hb : bytesB r = true) : Sh (A.set k r) W := by
  refine ⟨h.u.set hr, ?_, by rw [List.length_set]; exact h.m, h.w⟩
  have := h.b
  rw [rowsB, List.all_eq_true] at this ⊢
  intro x hx
  rcases List.mem_or_eq_of_mem_set hx with hx | rfl
  · exact this x hx
  · exact hb
theorem scale_bytes {o : Int} (ho : 0 ≤ o ∧ o < 256) {r : List Int} (h : bytesB r = true) : bytesB (r.map (mulT o)) = true := by
  unfold bytesB
  rw [List.all_eq_true]
  intro x hx
  obtain ⟨y, hy, rfl⟩ := List.mem_map.1 hx
  unfold bytesB at h
  rw [List.all_eq_true] at h
  have hy2 := h y hy
  simp only [Bool.and_eq_true, decide_eq_true_eq] at hy2
  have := mulT_range ho hy2
  simp
  omega
theorem xorL_bytes {r s : List Int} : bytesB (xorL r s) = true := by
  unfold bytesB xorL
  rw [List.all_eq_true]
  intro x hx
  obtain ⟨i, hi, rfl⟩ := List.getElem_of_mem hx
  rw [List.getElem_zipWith]
  have := xor_range (r[i]'(by simp at hi; omega)) (s[i]'(by simp at hi; omega))
  simp
  omega
theorem Sh.byte {A : List (List Int)} {W i j : Nat} (h : Sh A W) (hi : i < A.length) (hj : j < W) : 0 ≤ entry A i j ∧ entry A i j < 256 := bytesB_at (rows_bytes h.b i) (by rw [h.u.at hi]; exact hj)
theorem Sh.swap {A : List (List Int)} {W top i : Nat} {o : Int} (h : Sh A W) (ho : 0 ≤ o ∧ o < 256) (ht : top < A.length) (hi : i < A.length) : Sh (swapS o A top i) W := by
  unfold swapS
  exact ((h.set (h.u.at ht) (rows_bytes h.b top)).set (h.u.at hi) (rows_bytes h.b i)).set (by rw [List.length_map]; exact h.u.at hi) (scale_bytes ho (rows_bytes h.b i))
theorem Sh.mac {A : List (List Int)} {W k top : Nat} (h : Sh A W) (hk : k < A.length) (ht : top < A.length) (c : Int) : Sh (macS A k top c) W := by
  unfold macS
  refine h.set ?_ xorL_bytes
  unfold xorL
  rw [List.length_zipWith, List.length_map, h.u.at ht, h.u.at hk]
  omega
theorem Sh.el {A : List (List Int)} {W col top : Nat} (h : Sh A W) (ht : top < A.length) : ∀ k, k ≤ A.length → Sh (el1 col top k A) W ∧ (el1 col top k A).length = A.length
  | 0, _ => ⟨h, rfl⟩
  | k + 1, hk => by
    obtain ⟨ih, il⟩ := Sh.el (col := col) h ht k (by omega)
    show Sh (if k ≠ top ∧ entry (el1 col top k A) k col ≠ 0 then macS (el1 col top k A) k top (entry (el1 col top k A) k col) else el1 col top k A) W ∧ (if k ≠ top ∧ entry (el1 col top k A) k col ≠ 0 then macS (el1 col top k A) k top (entry (el1 col top k A) k col) else el1 col top k A).length = A.length
    split
    · exact ⟨ih.mac (by omega) (by omega) _, by simp [macS, il]⟩
    · exact ⟨ih, il⟩
end Go.Proofs.Ytccfbhnhedoggaa.M
namespace Go.Proofs.Ytccfbhnhedoggaa.M
open Go.RowKit Go.Proofs.YtccfbhnhedoggaaW.PrintWords Go.Proofs.YtccfbhnhedoggaaW.PrintLast Go.Proofs.YtccfbhnhedoggaaW.PrintMore Go.Proofs.Ytccfbhnhedoggaa.Q
set_option linter.unusedVariables false
theorem map_getD {f : Int → Int} {l : List Int} {i : Nat} (h : i < l.length) : (l.map f).getD i 0 = f (l.getD i 0) := by
 rw [List.getD_eq_getElem?_getD, List.getD_eq_getElem?_getD, List.getElem?_map, List.getElem?_eq_getElem h]
 rfl
end Go.Proofs.Ytccfbhnhedoggaa.M
namespace Go.Proofs.Ytccfbhnhedoggaa.M
open Go.RowKit Go.Proofs.YtccfbhnhedoggaaW.PrintWords Go.Proofs.YtccfbhnhedoggaaW.PrintLast Go.Proofs.YtccfbhnhedoggaaW.PrintMore Go.Proofs.Ytccfbhnhedoggaa.Q
set_option linter.unusedVariables false
theorem red_piv {M D : List (List Int)} : ∀ j, ∀ x ∈ (redTo M D j).2, ∃ p : Nat, x = (p : Int) ∧ p < j
  | 0, x, hx => by cases hx
  | j + 1, x, hx => by
    have hx2 : x ∈ (redStep j (redTo M D j)).2 := hx
    have ih := red_piv (M := M) (D := D) j x
    generalize redTo M D j = T at *
    cases hf : firstIn T.1.1 T.2.length j with
    | none =>
      rw [redStep_none hf] at hx2
      obtain ⟨p, e, h⟩ := ih hx2
      exact ⟨p, e, by omega⟩
    | some i =>
      rw [redStep_some hf] at hx2
      rcases List.mem_append.1 hx2 with h | h
      · obtain ⟨p, e, h⟩ := ih h
        exact ⟨p, e, by omega⟩
      · exact ⟨j, by simpa using h, by omega⟩
theorem red_piv_at {M D : List (List Int)} {j i : Nat} (hi : i < (redTo M D j).2.length) : ∃ p : Nat, (redTo M D j).2.getD i 0 = (p : Int) ∧ p < j := by
  refine red_piv (M := M) (D := D) j _ ?_
  rw [List.getD_eq_getElem?_getD, List.getElem?_eq_getElem hi]
  exact List.getElem_mem hi
theorem fill_length (f : Nat → List Int) (n i : Nat) : (fillTo f n i).length = n := by simp [fillTo]
theorem fill_get {f : Nat → List Int} {n k : Nat} (hk : k < n) : (fillTo f n n).getD k [] = f k := by
  unfold fillTo
  rw [List.getD_eq_getElem?_getD, List.getElem?_map, List.getElem?_range hk]
  simp [hk]
def Ycol (y : List Int) (r : Nat) : List (List Int) := fillTo (colRow y) r r
theorem shp_Y {r c : Nat} {l y : List Int} (hb : bytesB l = true) (hyb : bytesB y = true) (hl : l.length = r * c) (hr : r ≤ 64) (hc : c ≤ 64) (hy : y.length = r) : Shp (rowsOf c r l) (Ycol y r) c 1 := by
  refine shp_of hb hl ⟨hr, hc⟩ (fill_length _ _ _) ?_ (fun i hi => by show ((fillTo (colRow y) r r).getD i []).length = 1; rw [fill_get hi]; rfl) (by decide)
  rw [rowsB, List.all_eq_true]
  intro x hx
  obtain ⟨i, hi, rfl⟩ := List.getElem_of_mem hx
  have hir : i < r := by rw [show (fillTo (colRow y) r r).length = r from fill_length _ _ _] at hi; exact hi
  have := fill_get (f := colRow y) hir
  rw [List.getD_eq_getElem?_getD, List.getElem?_eq_getElem (by rw [fill_length]; exact hir), Option.getD_some] at this
  rw [this]
  have hb := bytesB_at hyb (i := i) (by omega)
  unfold colRow bytesB
  rw [List.all_cons, List.all_nil, Bool.and_true, Bool.and_eq_true, decide_eq_true_eq, decide_eq_true_eq]
  exact hb
abbrev SR := List Int × Bool × Int
theorem bad_iff {P : List Int} {D : List (List Int)} : ∀ f i, badFrom P D f i = true ↔ ∃ i', i ≤ i' ∧ i' < i + f ∧ P.length ≤ i' ∧ entry D i' 0 ≠ 0
  | 0, i => by
    constructor
    · intro h; cases h
    · rintro ⟨i', h1, h2, _⟩; omega
  | f + 1, i => by
    unfold badFrom
    by_cases h : P.length ≤ i ∧ entry D i 0 ≠ 0
    · rw [if_pos h]
      exact ⟨fun _ => ⟨i, Nat.le_refl _, by omega, h.1, h.2⟩, fun _ => rfl⟩
    · rw [if_neg h, bad_iff f (i + 1)]
      constructor
      · rintro ⟨i', h1, h2, h3, h4⟩; exact ⟨i', by omega, by omega, h3, h4⟩
      · rintro ⟨i', h1, h2, h3, h4⟩
        by_cases e : i' = i
        · subst e; exact absurd ⟨h3, h4⟩ h
        · exact ⟨i', by omega, by omega, h3, h4⟩
theorem seek_zero {M : List (List Int)} {j : Nat} : ∀ f i, seekCol M j f i = none → ∀ i', i ≤ i' → i' < i + f → entry M i' j = 0
  | 0, i, _, i', a, b => by omega
  | f + 1, i, h, i', a, b => by
    unfold seekCol at h
    by_cases e : entry M i j = 0
    · rw [if_neg (fun x => x e)] at h
      by_cases e2 : i' = i
      · rw [e2]; exact e
      · exact seek_zero f (i + 1) h i' (by omega) (by omega)
    · rw [if_pos e] at h; cases h
theorem solveTo_length (P : List Int) (D : List (List Int)) (c : Nat) : ∀ i, (solveTo P D c i).length = c
  | 0 => by simp [solveTo]
  | i + 1 => by
    unfold solveTo
    split
    · rw [List.length_set]; exact solveTo_length P D c i
    · exact solveTo_length P D c i
theorem solveTo_more {P : List Int} {D : List (List Int)} {c i : Nat} (h : P.length ≤ i) : solveTo P D c i = solveTo P D c P.length := by
  obtain ⟨d, rfl⟩ : ∃ d, i = P.length + d := ⟨i - P.length, by omega⟩
  clear h
  induction d with
  | zero => rfl
  | succ d ih =>
    rw [show P.length + (d + 1) = (P.length + d) + 1 from rfl, solveTo, if_neg (by omega)]
    exact ih
def solR (r c : Nat) (l y : List Int) : SR := let T := redTo (rowsOf c r l) (Ycol y r) c
  if badFrom T.2 T.1.2 r 0 = true then ([], false, 0) else (solveTo T.2 T.1.2 c r, true, 0)
theorem Sh.aug {M D : List (List Int)} {C : Nat} (h : Shp M D C 1) : Sh (aug M D) (C + 1) := ⟨aug_U h, aug_bytes h, by rw [aug_length h.len]; exact h.small.1, by have := h.small.2.1; omega⟩
end Go.Proofs.Ytccfbhnhedoggaa.M
namespace Go.Proofs.Ytccfbhnhedoggaa.M
open Go.RowKit Go.Proofs.YtccfbhnhedoggaaW.PrintWords Go.Proofs.YtccfbhnhedoggaaW.PrintLast Go.Proofs.YtccfbhnhedoggaaW.PrintMore Go.Proofs.Ytccfbhnhedoggaa.Q
set_option linter.unusedVariables false
theorem entry_set {A : List (List Int)} {i a b : Nat} {r : List Int} (hi : i < A.length) : entry (A.set i r) a b = if a = i then r.getD b 0 else entry A a b := by
  unfold entry
  by_cases e : a = i
  · subst e
    rw [if_pos rfl, getD_set_self hi]
  · rw [if_neg e, getD_set_ne (fun x => e x.symm)]
theorem xor_getD {r s : List Int} {b : Nat} (h1 : b < r.length) (h2 : b < s.length) : (xorL r s).getD b 0 = Go.bits .xor .u8 (r.getD b 0) (s.getD b 0) := by
  unfold xorL
  rw [List.getD_eq_getElem?_getD, List.getD_eq_getElem?_getD, List.getD_eq_getElem?_getD, List.getElem?_zipWith, List.getElem?_eq_getElem h1, List.getElem?_eq_getElem h2]
  rfl
theorem entry_swap {A : List (List Int)} {W top i a b : Nat} {o : Int} (h : Sh A W) (ht : top < A.length) (hi : i < A.length) (hb : b < W) : entry (swapS o A top i) a b = if a = top then mulT o (entry A i b) else if a = i then entry A top b else entry A a b := by
  unfold swapS
  have h2 := h.u.at hi
  rw [entry_set (by simpa using ht), map_getD (by omega), entry_set (by simpa using ht), entry_set hi]
  by_cases e : a = top
  · rw [if_pos e, if_pos e]; rfl
  · rw [if_neg e, if_neg e, if_neg e]; rfl
theorem entry_mac {A : List (List Int)} {W top k a b : Nat} {c : Int} (h : Sh A W) (ht : top < A.length) (hk : k < A.length) (hb : b < W) : entry (macS A k top c) a b = if a = k then Go.bits .xor .u8 (mulT c (entry A top b)) (entry A k b) else entry A a b := by
  unfold macS
  have h1 := h.u.at ht
  have h2 := h.u.at hk
  rw [entry_set hk, xor_getD (by rw [List.length_map]; omega) (by omega), map_getD (by omega)]
  rfl
theorem Sh.of1 {M D : List (List Int)} {C wd : Nat} (h : Shp M D C wd) : Sh M C := ⟨U.of h, h.bM, h.small.1, by have := h.small.2.1; omega⟩
theorem Sh.of2 {M D : List (List Int)} {C wd : Nat} (h : Shp M D C wd) : Sh D wd := ⟨fun r hr => by
  obtain ⟨i, hi, rfl⟩ := List.getElem_of_mem hr
  have := h.eD i (by rw [← h.len]; exact hi)
  rwa [List.getD_eq_getElem?_getD, List.getElem?_eq_getElem hi, Option.getD_some] at this, h.bD, by rw [h.len]; exact h.small.1, by have := h.small.2.2; omega⟩
theorem elim_fst (col top : Nat) (M D : List (List Int)) : ∀ k, (elimTo col top k (M, D)).1 = el1 col top k M
  | 0 => rfl
  | k + 1 => by
    have ih := elim_fst col top M D k
    show (if k ≠ top ∧ entry (elimTo col top k (M, D)).1 k col ≠ 0 then (macS (elimTo col top k (M, D)).1 k top (entry (elimTo col top k (M, D)).1 k col), macS (elimTo col top k (M, D)).2 k top (entry (elimTo col top k (M, D)).1 k col)) else elimTo col top k (M, D)).1 = (if k ≠ top ∧ entry (el1 col top k M) k col ≠ 0 then macS (el1 col top k M) k top (entry (el1 col top k M) k col) else el1 col top k M)
    rw [← ih]
    split <;> rfl
theorem red_fst (M D : List (List Int)) : ∀ j, ((redTo M D j).1.1, (redTo M D j).2) = redA M j
  | 0 => rfl
  | j + 1 => by
    have ih := red_fst M D j
    show ((redStep j (redTo M D j)).1.1, (redStep j (redTo M D j)).2) = stepA j (redA M j)
    rw [← ih]
    generalize redTo M D j = T
    cases hf : firstIn T.1.1 T.2.length j with
    | none => rw [redStep_none hf, stepA_none (s := (T.1.1, T.2)) hf]
    | some i =>
      rw [redStep_some hf, stepA_some (s := (T.1.1, T.2)) hf]
      show ((elimTo j T.2.length T.1.1.length (_, _)).1, _) = _
      rw [elim_fst]
theorem red_same (M D E : List (List Int)) (j : Nat) : (redTo M D j).1.1 = (redTo M E j).1.1 ∧ (redTo M D j).2 = (redTo M E j).2 := by
  have h := (red_fst M D j).trans (red_fst M E j).symm
  exact ⟨(Prod.mk.inj h).1, (Prod.mk.inj h).2⟩
theorem elim_col {M D Y : List (List Int)} {C wd q col top : Nat} (hD : Shp M D C wd) (hY : Shp M Y C 1) (hq : q < wd) (ht : top < M.length) (h : ∀ i, i < M.length → entry D i q = entry Y i 0) : ∀ k, k ≤ M.length → ∀ i, i < M.length → entry (elimTo col top k (M, D)).2 i q = entry (elimTo col top k (M, Y)).2 i 0
  | 0, _, i, hi => h i hi
  | k + 1, hk, i, hi => by
    have ih := elim_col (col := col) hD hY hq ht h k (by omega)
    obtain ⟨a1, a2⟩ := elim_shp (col := col) hD ht k (by omega)
    obtain ⟨b1, b2⟩ := elim_shp (col := col) hY ht k (by omega)
    have e := (elim_fst col top M D k).trans (elim_fst col top M Y k).symm
    show entry (if k ≠ top ∧ entry (elimTo col top k (M, D)).1 k col ≠ 0 then (macS (elimTo col top k (M, D)).1 k top (entry (elimTo col top k (M, D)).1 k col), macS (elimTo col top k (M, D)).2 k top (entry (elimTo col top k (M, D)).1 k col)) else elimTo col top k (M, D)).2 i q = entry (if k ≠ top ∧ entry (elimTo col top k (M, Y)).1 k col ≠ 0 then (macS (elimTo col top k (M, Y)).1 k top (entry (elimTo col top k (M, Y)).1 k col), macS (elimTo col top k (M, Y)).2 k top (entry (elimTo col top k (M, Y)).1 k col)) else elimTo col top k (M, Y)).2 i 0
    rw [e]
    have l1 := a1.len
    have l2 := b1.len
    split
    · show entry (macS (elimTo col top k (M, D)).2 k top _) i q = entry (macS (elimTo col top k (M, Y)).2 k top _) i 0
      rw [entry_mac (Sh.of2 a1) (by omega) (by omega) hq, entry_mac (Sh.of2 b1) (by omega) (by omega) (by omega), ih top ht, ih k (by omega), ih i hi]
    · exact ih i hi
theorem red_col {M D Y : List (List Int)} {C wd q : Nat} (hD : Shp M D C wd) (hY : Shp M Y C 1) (hq : q < wd) (h : ∀ i, i < M.length → entry D i q = entry Y i 0) : ∀ j, ∀ i, i < M.length → entry (redTo M D j).1.2 i q = entry (redTo M Y j).1.2 i 0
  | 0, i, hi => h i hi
  | j + 1, i, hi => by
    have ih := red_col hD hY hq h j
    obtain ⟨a1, a2, a3, _⟩ := red_shp hD j
    obtain ⟨b1, b2, _, _⟩ := red_shp hY j
    obtain ⟨e1, e2⟩ := red_same M D Y j
    show entry (redStep j (redTo M D j)).1.2 i q = entry (redStep j (redTo M Y j)).1.2 i 0
    generalize redTo M D j = T at *
    generalize redTo M Y j = T' at *
    cases hf : firstIn T.1.1 T.2.length j with
    | none =>
      have hf' := hf
      rw [e1, e2] at hf'
      rw [redStep_none hf, redStep_none hf']
      exact ih i hi
    | some x =>
      have hf' := hf
      rw [e1, e2] at hf'
      obtain ⟨q1, q2, q3, _⟩ := seekCol_spec _ _ hf
      rw [redStep_some hf, redStep_some hf']
      have ht : T.2.length < T.1.1.length := by omega
      have hx : x < T.1.1.length := by omega
      have s1 := a1.swap (o := invT (entry T.1.1 x j)) ht hx
      have s2 := b1.swap (o := invT (entry T'.1.1 x j)) (top := T'.2.length) (i := x) (by rw [← e1, ← e2]; exact ht) (by rw [← e1]; exact hx)
      have hl : (swapS (invT (entry T.1.1 x j)) T.1.1 T.2.length x).length = T.1.1.length := by simp [swapS]
      show entry (elimTo j T.2.length T.1.1.length (_, _)).2 i q = entry (elimTo j T'.2.length T'.1.1.length (_, _)).2 i 0
      rw [← e1, ← e2] at s2 ⊢
      refine elim_col s1 s2 hq (by omega) (fun p hp => ?_) _ (by omega) i (by omega)
      have l1 := a1.len
      have l2 := b1.len
      rw [entry_swap (Sh.of2 a1) (by omega) (by omega) hq, entry_swap (Sh.of2 b1) (by omega) (by omega) (by omega), ih x (by omega), ih _ (by omega), ih p (by omega)]
theorem red_len_succ (M D : List (List Int)) (j : Nat) : (redTo M D (j + 1)).2.length ≤ (redTo M D j).2.length + 1 := by
  show (redStep j (redTo M D j)).2.length ≤ _
  generalize redTo M D j = T
  cases hf : firstIn T.1.1 T.2.length j with
  | none => rw [redStep_none hf]; omega
  | some x => rw [redStep_some hf, List.length_append]; exact Nat.le_refl _
theorem red_len_le (M D : List (List Int)) : ∀ n j, (redTo M D (j + n)).2.length ≤ (redTo M D j).2.length + n
  | 0, j => Nat.le_refl _
  | n + 1, j => by
    have h1 := red_len_le M D n j
    have h2 := red_len_succ M D (j + n)
    rw [show j + (n + 1) = j + n + 1 from rfl]
    omega
theorem red_full {M D : List (List Int)} {C wd : Nat} (h : Shp M D C wd) (hf : (redTo M D C).2.length = C) : ∀ j, j ≤ C → (redTo M D j).2 = (List.range j).map fun (x : Nat) => (x : Int)
  | 0, _ => rfl
  | j + 1, hj => by
    have ih := red_full h hf j (by omega)
    have h1 := red_len_le M D (C - (j + 1)) (j + 1)
    rw [show j + 1 + (C - (j + 1)) = C from by omega, hf] at h1
    have h2 := (red_shp h j).2.2.2
    have hE : redTo M D (j + 1) = redStep j (redTo M D j) := rfl
    rw [hE] at h1 ⊢
    generalize redTo M D j = T at *
    cases hf : firstIn T.1.1 T.2.length j with
    | none => rw [redStep_none hf] at h1; omega
    | some x =>
      rw [redStep_some hf]
      show T.2 ++ [(j : Int)] = _
      rw [ih, List.range_succ, List.map_append]
      rfl
end Go.Proofs.Ytccfbhnhedoggaa.M
namespace Go.Proofs.Ytccfbhnhedoggaa.M
open Go.RowKit Go.Proofs.YtccfbhnhedoggaaW.PrintWords Go.Proofs.YtccfbhnhedoggaaW.PrintLast Go.Proofs.YtccfbhnhedoggaaW.PrintMore Go.Proofs.Ytccfbhnhedoggaa.Q
set_option linter.unusedVariables false
theorem unit_getD {n i b : Nat} (hb : b < n) : (unitRow n i).getD b 0 = if b = i then 1 else 0 := by
 unfold unitRow
 by_cases e : b = i
 ·subst e
  rw [if_pos rfl, getD_set_self (by simpa using hb)]
 ·rw [if_neg e, getD_set_ne (fun x => e x.symm), List.getD_eq_getElem?_getD, List.getElem?_replicate_of_lt hb]
  rfl
theorem units_length (n i : Nat) : (unitsTo n i).length = n := by simp [unitsTo]
theorem units_get {n k : Nat} (hk : k < n) : (unitsTo n n).getD k [] = unitRow n k := by
 unfold unitsTo
 rw [List.getD_eq_getElem?_getD, List.getElem?_map, List.getElem?_range hk]
 simp [hk]
theorem unit_bytes (n i : Nat) : bytesB (unitRow n i) = true := by
 unfold bytesB
 rw [List.all_eq_true]
 intro x hx
 unfold unitRow at hx
 rcases List.mem_or_eq_of_mem_set hx with h | rfl
 ·rw [List.eq_of_mem_replicate h]; rfl
 ·rfl
theorem shp_units {n : Nat} {l : List Int} (hb : bytesB l = true) (hl : l.length = n * n) (hn : n ≤ 64) : Shp (rowsOf n n l) (unitsTo n n) n n := by
 refine shp_of hb hl ⟨hn, hn⟩ (units_length n n) ?_ (fun i hi => by rw [units_get hi]; simp [unitRow]) hn
 rw [rowsB, List.all_eq_true]
 intro x hx
 obtain ⟨i, hi, rfl⟩ := List.getElem_of_mem hx
 have hin : i < n := by rw [units_length] at hi; exact hi
 have := units_get hin
 rw [List.getD_eq_getElem?_getD, List.getElem?_eq_getElem hi, Option.getD_some] at this
 rw [this]
 exact unit_bytes n i
theorem units_col {n i q : Nat} (hi : i < n) (hq : q < n) : entry (unitsTo n n) i q = entry (Ycol (unitRow n q) n) i 0 := by
 have e1 : (Ycol (unitRow n q) n).getD i [] = colRow (unitRow n q) i := fill_get hi
 unfold entry
 rw [units_get hi, e1, unit_getD hq]
 show _ = (unitRow n q).getD i 0
 rw [unit_getD hi]
 by_cases e : q = i
 ·rw [if_pos e, if_pos e.symm]
 ·rw [if_neg e, if_neg (fun x => e x.symm)]
def invD (n : Nat) (l : List Int) : List (List Int) := (redTo (rowsOf n n l) (unitsTo n n) n).1.2
theorem solve_range {D : List (List Int)} {n : Nat} : ∀ k, k ≤ n → ∀ i, i < n → (solveTo ((List.range n).map fun (x : Nat) => (x : Int)) D n k).getD i 0 = if i < k then entry D i 0 else 0
 | 0, _, i, hi => by
  rw [if_neg (by omega)]
  unfold solveTo
  rw [List.getD_eq_getElem?_getD, List.getElem?_replicate_of_lt hi]
  rfl
 | k + 1, hk, i, hi => by
  have ih := solve_range (D := D) (n := n) k (by omega) i hi
  have e1 : ((List.range n).map fun (x : Nat) => (x : Int)).getD k 0 = (k : Int) := by
   rw [List.getD_eq_getElem?_getD, List.getElem?_map, List.getElem?_range (by omega)]
   rfl
  rw [solveTo, if_pos (by simp; omega), e1, Int.toNat_natCast]
  by_cases e : i = k
  ·subst e
   rw [getD_set_self (by rw [solveTo_length]; exact hi), if_pos (by omega)]
  ·rw [getD_set_ne (fun x => e x.symm), ih]
   by_cases e2 : i < k
   ·rw [if_pos e2, if_pos (by omega)]
   ·rw [if_neg e2, if_neg (by omega)]
theorem inv_col {n j : Nat} {l : List Int} (hb : bytesB l = true) (hl : l.length = n * n) (hn : n ≤ 64) (hf : (redL n n l).2.length = n) (hj : j < n) :
  ∃ c : List Int, solR n n l (unitRow n j) = (c, true, 0) ∧ c.length = n ∧ ∀ i, i < n → c.getD i 0 = entry (invD n l) i j := by
 have hY : Shp (rowsOf n n l) (Ycol (unitRow n j) n) n 1 := shp_Y hb (unit_bytes n j) hl hn hn (by simp [unitRow])
 have hD := shp_units hb hl hn
 have hlen := rowsOf_length n n l
 have e := red_same (rowsOf n n l) (List.replicate n []) (Ycol (unitRow n j) n) n
 have hf2 : (redTo (rowsOf n n l) (Ycol (unitRow n j) n) n).2.length = n := by rw [← e.2]; exact hf
 have hP := red_full hY hf2 n (Nat.le_refl _)
 unfold solR
 simp only []
 have hbad : ¬ badFrom (redTo (rowsOf n n l) (Ycol (unitRow n j) n) n).2 (redTo (rowsOf n n l) (Ycol (unitRow n j) n) n).1.2 n 0 = true := by
  rw [bad_iff]
  rintro ⟨i, _, h2, h3, _⟩
  omega
 rw [if_neg hbad]
 refine ⟨_, rfl, solveTo_length _ _ _ _, fun i hi => ?_⟩
 rw [hP, solve_range n (Nat.le_refl _) i hi, if_pos hi]
 exact (red_col hD hY hj (fun p hp => units_col (by omega) hj) n i (by omega)).symm
abbrev IR := Int × Int × List Int × Int
def invR (n : Nat) (l : List Int) : IR := if (redL n n l).2.length < n then (0, 0, [], 6) else ((n : Int), (n : Int), (invD n l).flatten, 0)
theorem gInverse_eq {n : Nat} {l : List Int} (hR : matrix_Right.f (n : Int) (n : Int) l = some true) (hb : bytesB l = true) : gauss_Inverse.f (n : Int) (n : Int) l = some (invR n l) := by
 unfold gauss_Inverse.f
 rw [hR, Option.bind_some, if_pos rfl, if_pos rfl, if_pos hb]
 have e := (red_same (rowsOf n n l) (unitsTo n n) (List.replicate n []) n).2
 unfold gauss_Inverse.st invR redL invD
 simp only [Int.toNat_natCast]
 rw [e]
 by_cases h : (redTo (rowsOf n n l) (List.replicate n []) n).2.length < n
 ·rw [if_pos (by omega), if_pos h]
 ·rw [if_neg (by omega), if_neg h]
theorem gInverse_bad {a b : Int} {l : List Int} (h : matrix_Right.f a b l = some false ∨ (matrix_Right.f a b l = some true ∧ a ≠ b)) : gauss_Inverse.f a b l = some (0, 0, [], 3) := by
 unfold gauss_Inverse.f
 rcases h with h | ⟨h, h2⟩
 ·rw [h, Option.bind_some, if_neg (by decide)]
 ·rw [h, Option.bind_some, if_pos rfl, if_neg h2]
end Go.Proofs.Ytccfbhnhedoggaa.M
namespace Go.Proofs.Ytccfbhnhedoggaa.M
open Go.RowKit Go.Proofs.YtccfbhnhedoggaaW.PrintWords Go.Proofs.YtccfbhnhedoggaaW.PrintLast Go.Proofs.YtccfbhnhedoggaaW.PrintMore Go.Proofs.Ytccfbhnhedoggaa.Q
set_option linter.unusedVariables false
def kRow (P : List Int) (S : List (List Int)) (C j : Nat) : Nat → List Int
 | 0 => (List.replicate C 0).set j 1
 | i + 1 => (kRow P S C j i).set (P.getD i 0).toNat (entry S i j)
theorem kRow_length (P : List Int) (S : List (List Int)) (C j : Nat) : ∀ i, (kRow P S C j i).length = C
 | 0 => by simp [kRow]
 | i + 1 => by rw [kRow, List.length_set]; exact kRow_length P S C j i
def kSt (P : List Int) (S : List (List Int)) (C : Nat) : Nat → Nat × List (List Int)
 | 0 => (0, [])
 | j + 1 => if (kSt P S C j).1 < P.length ∧ P.getD (kSt P S C j).1 0 = (j : Int) then ((kSt P S C j).1 + 1, (kSt P S C j).2) else ((kSt P S C j).1, (kSt P S C j).2 ++ [kRow P S C j P.length])
theorem kSt_le (P : List Int) (S : List (List Int)) (C : Nat) : ∀ j, (kSt P S C j).1 + (kSt P S C j).2.length = j
 | 0 => rfl
 | j + 1 => by
  have ih := kSt_le P S C j
  unfold kSt
  split
  ·show (kSt P S C j).1 + 1 + (kSt P S C j).2.length = j + 1; omega
  ·show (kSt P S C j).1 + ((kSt P S C j).2 ++ [_]).length = j + 1; rw [List.length_append, List.length_singleton]; omega
theorem kSt_U (P : List Int) (S : List (List Int)) (C : Nat) : ∀ j, U (kSt P S C j).2 C
 | 0 => fun r hr => by cases hr
 | j + 1 => by
  have ih := kSt_U P S C j
  unfold kSt
  split
  ·exact ih
  ·intro r hr
   rcases List.mem_append.1 hr with h | h
   ·exact ih r h
   ·rw [List.mem_singleton.1 h]; exact kRow_length P S C j _
abbrev KR := Int × Int × List Int × Int
section
variable {C : Nat} {S : List (List Int)} {P : List Int}
theorem kSt_flat (hC : C ≤ 64) {j : Nat} (hj : j ≤ 64) : (kSt P S C j).2.flatten.length ≤ 64 * 64 := by
 rw [flat_len (kSt_U P S C j)]
 have := kSt_le P S C j
 exact Nat.mul_le_mul (by omega) hC
theorem gKer_l1 (hS : U S C) (hm : S.length ≤ 64) (hC : C ≤ 64) (hP : P.length ≤ S.length) (hpv : ∀ i, i < P.length → ∃ p : Nat, P.getD i 0 = (p : Int) ∧ p < C) {j : Nat} (hj : j < C) (x8 : Int) (m2 : List Int) (rn : Nat) (D : List Int) (hrn : rn ≤ 64) (hDl : D.length ≤ 64 * 64) (a0 s0 s1 : Int) {R : KR}
  (hR : Ends (fun q => gauss_Kernel.l0 q P x8 (C : Int) ((j + 1 : Nat) : Int) a0 (C : Int) m2 s0 s1 S.flatten ((rn + 1 : Nat) : Int) (C : Int) (D ++ kRow P S C j P.length)) R) :
  ∀ n i : Nat, i + n = P.length → Ends (fun q => gauss_Kernel.l1 q P x8 (j : Int) (kRow P S C j i) (C : Int) (j : Int) P (P.length : Int) (i : Int) a0 (C : Int) m2 s0 s1 S.flatten (rn : Int) (C : Int) D) R
 | 0, i, hi => by
  obtain rfl : i = P.length := by omega
  have hj4 : j ≤ 4096 := by omega
  have hr4 : rn ≤ 4096 := by omega
  refine Ends.succ (fun k => by rw [gauss_Kernel.l1]) ?_
  refine Ends.neg (by omega) (Ends.pos (by rw [kRow_length]; omega) ?_)
  rw [i64_succ hj4, i64_succ hr4]
  exact hR
 | n + 1, i, hi => by
  have hiP : i < P.length := by omega
  have hi4 : i ≤ 4096 := by omega
  have hi64 : i ≤ 64 := by omega
  have hj64 : j ≤ 64 := by omega
  obtain ⟨p, hp, hpC⟩ := hpv i hiP
  have ih := gKer_l1 hS hm hC hP hpv hj x8 m2 rn D hrn hDl a0 s0 s1 hR n (i + 1) (by omega)
  rw [kRow, hp, Int.toNat_natCast] at ih
  have hiS : i < S.length := by omega
  have hix := idx_lt (c := C) hiS hj
  refine Ends.succ (fun k => by rw [gauss_Kernel.l1]) ?_
  refine Ends.pos (by omega) (Ends.pos (by omega) (Ends.pos (by omega) ?_))
  rw [(idx_small (i := i) (c := C) (j := j) hi64 hC hj64).2]
  refine Ends.pos (Int.natCast_nonneg _) (Ends.pos (by rw [flat_len hS]; exact Int.ofNat_lt.2 hix) ?_)
  rw [rd_nat, hp, rd_nat, flat_get hS hiS hj, Int.toNat_natCast, i64_succ hi4]
  refine Ends.pos (Int.natCast_nonneg _) (Ends.pos (by rw [kRow_length]; omega) ?_)
  exact ih
theorem gKer_l0 (hS : U S C) (hm : S.length ≤ 64) (hC : C ≤ 64) (hP : P.length ≤ S.length) (hpv : ∀ i, i < P.length → ∃ p : Nat, P.getD i 0 = (p : Int) ∧ p < C) (m2 : List Int) (a0 s0 s1 : Int) :
  ∀ n j : Nat, j + n = C → Ends (fun q => gauss_Kernel.l0 q P ((kSt P S C j).1 : Int) (C : Int) (j : Int) a0 (C : Int) m2 s0 s1 S.flatten ((kSt P S C j).2.length : Int) (C : Int) (kSt P S C j).2.flatten) (((kSt P S C C).2.length : Int), (C : Int), (kSt P S C C).2.flatten, 0)
 | 0, j, hj => by
  obtain rfl : j = C := by omega
  refine Ends.succ (fun k => by rw [gauss_Kernel.l0]) ?_
  exact Ends.neg (by omega) (Ends.const rfl)
 | n + 1, j, hj => by
  have hjC : j < C := by omega
  have hj4 : j ≤ 4096 := by omega
  have hle := kSt_le P S C j
  have hfl := kSt_flat (P := P) (S := S) hC (j := j) (by omega)
  have ih := gKer_l0 hS hm hC hP hpv m2 a0 s0 s1 n (j + 1) (by omega)
  have key : ∀ z, z = decide ((kSt P S C j).1 < P.length ∧ P.getD (kSt P S C j).1 0 = (j : Int)) → Ends (fun q => gauss_Kernel.j1 q P ((kSt P S C j).1 : Int) (j : Int) (C : Int) (j : Int) z a0 (C : Int) m2 s0 s1 S.flatten ((kSt P S C j).2.length : Int) (C : Int) (kSt P S C j).2.flatten) (((kSt P S C C).2.length : Int), (C : Int), (kSt P S C C).2.flatten, 0) := fun z hz => by
   refine Ends.succ (fun k => by rw [gauss_Kernel.j1]) ?_
   by_cases hc : (kSt P S C j).1 < P.length ∧ P.getD (kSt P S C j).1 0 = (j : Int)
   ·rw [kSt, if_pos hc] at ih
    refine Ends.pos (by rw [hz]; exact decide_eq_true hc) ?_
    have h4 : (kSt P S C j).1 ≤ 4096 := by omega
    rw [i64_succ h4, i64_succ hj4]
    exact ih
   ·rw [kSt, if_neg hc] at ih
    refine Ends.neg (by rw [hz, decide_eq_true_eq]; exact hc) ?_
    refine Ends.pos (by omega) (Ends.pos (by rw [Int.toNat_natCast]; omega) ?_)
    refine Ends.bind1 rfl (Ends.pos (by omega) (Ends.pos (by rw [List.length_replicate, Int.toNat_natCast]; omega) ?_))
    rw [Int.toNat_natCast, Int.toNat_natCast]
    refine gKer_l1 hS hm hC hP hpv hjC _ m2 _ _ (by omega) hfl a0 s0 s1 ?_ P.length 0 (by omega)
    rw [List.length_append, List.length_singleton, List.flatten_append, List.flatten_singleton] at ih
    exact ih
  refine Ends.succ (fun k => by rw [gauss_Kernel.l0]) ?_
  refine Ends.pos (by omega) ?_
  by_cases h1 : (kSt P S C j).1 < P.length
  ·refine Ends.pos (by omega) (Ends.pos (by omega) (key _ ?_))
   rw [rd_nat]
   simp only [h1, true_and]
   rfl
  ·exact Ends.neg (by omega) (key _ (by simp [h1]))
end
def kerL (r c : Nat) (l : List Int) : List (List Int) := (kSt (redL r c l).2 (redL r c l).1.1 c c).2
theorem gKernel_ends {r c : Nat} {l : List Int} (hR : matrix_Right.f (r : Int) (c : Int) l = some true) (hr : r ≤ 64) (hc : c ≤ 64) (hl : l.length = r * c) (hb : bytesB l = true) : Ends (fun k => gauss_Kernel.f k (r : Int) (c : Int) l) (((kerL r c l).length : Int), (c : Int), (kerL r c l).flatten, 0) := by
 unfold gauss_Kernel.f
 refine Ends.bind1 (gReduce_eq hR hb) (Ends.pos rfl ?_)
 have hs := red_shp (shp_nil hb hl ⟨hr, hc⟩) c
 have hlen := rowsOf_length c r l
 exact gKer_l0 (P := (redL r c l).2) (S := (redL r c l).1.1) (U.of hs.1) hs.1.small.1 hc (by have := hs.2.2.1; rw [show (redL r c l).1.1.length = (rowsOf c r l).length from hs.2.1]; exact this) (fun i hi => red_piv_at hi) l (r : Int) (r : Int) (c : Int) c 0 (by omega)
end Go.Proofs.Ytccfbhnhedoggaa.M
namespace Go.Proofs.Ytccfbhnhedoggaa.M
set_option linter.unusedVariables false
abbrev Vec := Nat → El
def zv : Vec := fun _ => 0
def lc (b : Nat → Vec) (n : Nat) (x : Nat → El) : Vec := fun j => sm n (fun i => x i * b i j)
def Span (b : Nat → Vec) (n : Nat) (v : Vec) : Prop := ∃ x : Nat → El, v = lc b n x
theorem lc_add (b : Nat → Vec) (n : Nat) (x y : Nat → El) : lc b n (fun i => x i + y i) = fun j => lc b n x j + lc b n y j := by
 funext j
 unfold lc
 rw [← sm_add]
 exact sm_congr fun i _ => add_mul _ _ _
theorem lc_mul (b : Nat → Vec) (n : Nat) (a : El) (x : Nat → El) : lc b n (fun i => a * x i) = fun j => a * lc b n x j := by
 funext j
 unfold lc
 rw [← sm_mul]
 exact sm_congr fun i _ => mul_assoc _ _ _
theorem lc_unit (b : Nat → Vec) {n k : Nat} (hk : k < n) : lc b n (fun i => if i = k then 1 else 0) = b k := by
 funext j
 show sm n (fun i => (if i = k then 1 else 0) * b i j) = b k j
 rw [sm_one hk (fun i _ hne => by rw [if_neg hne, zero_mul]), if_pos rfl, one_mul]
theorem lc_lc (b u : Nat → Vec) (n m : Nat) (x : Nat → El) (a : Nat → Nat → El) (h : ∀ i, i < m → u i = lc b n (a i)) : lc u m x = lc b n (fun k => sm m (fun i => x i * a i k)) := by
 funext j
 unfold lc
 have e : sm m (fun i => x i * u i j) = sm m (fun i => sm n (fun k => x i * a i k * b k j)) := sm_congr fun i hi => by
  rw [h i hi]
  unfold lc
  rw [← sm_mul]
  exact sm_congr fun k _ => (mul_assoc _ _ _).symm
 rw [e, sm_swap]
 exact sm_congr fun k _ => sm_mul_right _ _ _
theorem span_mem (b : Nat → Vec) {n k : Nat} (hk : k < n) : Span b n (b k) := ⟨_, (lc_unit b hk).symm⟩
theorem span_add {b : Nat → Vec} {n : Nat} {u v : Vec} (h : Span b n u) (k : Span b n v) : Span b n (fun j => u j + v j) := by
 obtain ⟨x, rfl⟩ := h
 obtain ⟨y, rfl⟩ := k
 exact ⟨_, (lc_add b n x y).symm⟩
theorem span_mul {b : Nat → Vec} {n : Nat} {u : Vec} (a : El) (h : Span b n u) : Span b n (fun j => a * u j) := by
 obtain ⟨x, rfl⟩ := h
 exact ⟨_, (lc_mul b n a x).symm⟩
theorem span_lc {b u : Nat → Vec} {n m : Nat} (h : ∀ i, i < m → Span b n (u i)) (x : Nat → El) : Span b n (lc u m x) := by
 have h' : ∀ i, ∃ a : Nat → El, i < m → u i = lc b n a := fun i => by
  by_cases hi : i < m
  ·obtain ⟨a, ha⟩ := h i hi
   exact ⟨a, fun _ => ha⟩
  ·exact ⟨fun _ => 0, fun e => absurd e hi⟩
 obtain ⟨a, ha⟩ := Classical.axiomOfChoice h'
 exact ⟨_, lc_lc b u n m x a ha⟩
theorem span_trans {b u : Nat → Vec} {n m : Nat} {v : Vec} (h : ∀ i, i < m → Span b n (u i)) (k : Span u m v) : Span b n v := by
 obtain ⟨x, rfl⟩ := k
 exact span_lc h x
def skip (p i : Nat) : Nat := if i < p then i else i + 1
end Go.Proofs.Ytccfbhnhedoggaa.M
namespace Go.Proofs.Ytccfbhnhedoggaa.M
set_option linter.unusedVariables false
structure RR (n W t : Nat) (S : Nat → Vec) (p : Nat → Nat) : Prop where
 tn : t ≤ n
 lt : ∀ i, i < t → p i < W
 mono : ∀ i k, i < k → k < t → p i < p k
 one : ∀ i, i < t → ∀ a, a < n → S a (p i) = if a = i then 1 else 0
 low : ∀ a, t ≤ a → a < n → S a = zv
 lead : ∀ i, i < t → ∀ b, b < p i → S i b = 0
 sup : ∀ a, a < n → ∀ b, W ≤ b → S a b = 0
def dot (W : Nat) (r x : Vec) : El := sm W (fun b => r b * x b)
theorem dot_lc (W : Nat) (b : Nat → Vec) (n : Nat) (y : Nat → El) (x : Vec) : dot W (lc b n y) x = sm n (fun i => y i * dot W (b i) x) := by
 unfold dot lc
 have e : sm W (fun j => sm n (fun i => y i * b i j) * x j) = sm W (fun j => sm n (fun i => y i * (b i j * x j))) := sm_congr fun j _ => by
  rw [← sm_mul_right]
  exact sm_congr fun i _ => mul_assoc _ _ _
 rw [e, ← sm_swap]
 exact sm_congr fun i _ => by rw [sm_mul]
theorem dot_add (W : Nat) (r x y : Vec) : dot W r (fun j => x j + y j) = dot W r x + dot W r y := by
 unfold dot
 rw [← sm_add]
 exact sm_congr fun _ _ => mul_add _ _ _
def Ker (W n : Nat) (b : Nat → Vec) (x : Vec) : Prop := ∀ i, i < n → dot W (b i) x = 0
theorem ker_span {W n m : Nat} {b c : Nat → Vec} {x : Vec} (h : ∀ i, i < m → Span b n (c i)) (k : Ker W n b x) : Ker W m c x := fun i hi => by
 obtain ⟨y, e⟩ := h i hi
 rw [e, dot_lc]
 exact sm_zero fun a ha => by rw [k a ha, mul_zero]
theorem ker_same {W n m : Nat} {b c : Nat → Vec} {x : Vec} (h : ∀ v, Span b n v ↔ Span c m v) : Ker W n b x ↔ Ker W m c x :=
 ⟨ker_span fun i hi => (h _).2 (span_mem c hi), ker_span fun i hi => (h _).1 (span_mem b hi)⟩
section
variable {n W t : Nat} {S : Nat → Vec} {p : Nat → Nat}
theorem RR.dot_piv (h : RR n W t S p) {x : Vec} (hx : ∀ j, j < W → (∀ i, i < t → j ≠ p i) → x j = 0) {a : Nat} (ha : a < t) : dot W (S a) x = x (p a) := by
 have htn := h.tn
 unfold dot
 rw [sm_one (k := p a) (h.lt a ha) fun j hj hne => ?_]
 ·rw [h.one a ha a (by omega), if_pos rfl, one_mul]
 ·by_cases e : ∃ i, i < t ∧ j = p i
  ·obtain ⟨i, hi, rfl⟩ := e
   rw [h.one i hi a (by omega), if_neg (fun e => hne (by rw [e])), zero_mul]
  ·rw [hx j hj fun i hi e2 => e ⟨i, hi, e2⟩, mul_zero]
theorem RR.inj (h : RR n W t S p) {i k : Nat} (hi : i < t) (hk : k < t) (e : p i = p k) : i = k := by
 rcases Nat.lt_trichotomy i k with h1 | h1 | h1
 ·have := h.mono i k h1 hk; omega
 ·exact h1
 ·have := h.mono k i h1 hi; omega
theorem RR.ker_at (h : RR n W t S p) {x : Vec} (hx : Ker W n S x) {a : Nat} (ha : a < t) : x (p a) = sm W (fun j => if ∃ i, i < t ∧ j = p i then 0 else S a j * x j) := by
 have htn := h.tn
 have e := hx a (by omega)
 unfold dot at e
 have e1 : sm W (fun b => S a b * x b) = sm W (fun j => (if ∃ i, i < t ∧ j = p i then S a j * x j else 0) + (if ∃ i, i < t ∧ j = p i then 0 else S a j * x j)) := sm_congr fun j _ => by
  split
  ·rw [add_zero]
  ·rw [zero_add]
 rw [e1, sm_add] at e
 have e2 : sm W (fun j => if ∃ i, i < t ∧ j = p i then S a j * x j else 0) = x (p a) := by
  rw [sm_one (k := p a) (h.lt a ha) fun j hj hne => ?_]
  ·rw [if_pos ⟨a, ha, rfl⟩, h.one a ha a (by omega), if_pos rfl, one_mul]
  ·split
   ·rename_i hh
    obtain ⟨i, hi, rfl⟩ := hh
    rw [h.one i hi a (by omega), if_neg (fun e => hne (by rw [e])), zero_mul]
   ·rfl
 rw [e2] at e
 exact add_cancel e
theorem RR.ker_zero (h : RR n W t S p) {x : Vec} (hx : Ker W n S x) (h0 : ∀ j, j < W → (∀ i, i < t → j ≠ p i) → x j = 0) : ∀ j, j < W → x j = 0 := fun j hj => by
 by_cases e : ∃ i, i < t ∧ j = p i
 ·obtain ⟨i, hi, rfl⟩ := e
  rw [h.ker_at hx hi]
  refine sm_zero fun k hk => ?_
  split
  ·rfl
  ·rename_i hh
   rw [h0 k hk fun i hi e => hh ⟨i, hi, e⟩, mul_zero]
 ·exact h0 j hj fun i hi e2 => e ⟨i, hi, e2⟩
end
def col (n : Nat) (N : Nat → Vec) (b : Nat) : Vec := fun a => if a < n then N a b else 0
section
variable {n W t : Nat} {S N : Nat → Vec} {p : Nat → Nat}
def below (p : Nat → Nat) (b : Nat) : Nat → Nat
 | 0 => 0
 | t + 1 => below p b t + if p t < b then 1 else 0
theorem below_le (p : Nat → Nat) (b : Nat) : ∀ t, below p b t ≤ t
 | 0 => Nat.le_refl _
 | t + 1 => by
  have := below_le p b t
  unfold below
  split <;> omega
theorem below_iff {p : Nat → Nat} {b t : Nat} (m : ∀ i k, i < k → k < t → p i < p k) : ∀ i, i < t → (i < below p b t ↔ p i < b) := by
 induction t with
 | zero => intro i hi; omega
 | succ t ih =>
  have ih := ih fun i k a c => m i k a (by omega)
  intro i hi
  have hle := below_le p b t
  unfold below
  by_cases e : i = t
  ·subst e
   by_cases h : p i < b
   ·rw [if_pos h]
    have : below p b i = i := by
     rcases Nat.lt_or_ge (below p b i) i with h1 | h1
     ·have h2 := (ih (below p b i) h1)
      have h3 := m (below p b i) i h1 (by omega)
      have := h2.2 (by omega)
      omega
     ·omega
    exact ⟨fun _ => h, fun _ => by omega⟩
   ·rw [if_neg h]
    exact ⟨fun x => absurd x (by omega), fun x => absurd x h⟩
  ·have h1 := ih i (by omega)
   by_cases h : p t < b
   ·rw [if_pos h]
    have h3 := m i t (by omega) (by omega)
    have := h1.2 (by omega)
    exact ⟨fun _ => by omega, fun _ => by omega⟩
   ·rw [if_neg h, Nat.add_zero]
    exact h1
end
end Go.Proofs.Ytccfbhnhedoggaa.M
namespace Go.Proofs.Ytccfbhnhedoggaa.M
open Go.RowKit Go.Proofs.YtccfbhnhedoggaaW.PrintWords Go.Proofs.YtccfbhnhedoggaaW.PrintLast Go.Proofs.YtccfbhnhedoggaaW.PrintMore Go.Proofs.Ytccfbhnhedoggaa.Q
set_option linter.unusedVariables false
def mv (A : List (List Int)) (W : Nat) : Nat → Vec := fun i j => if j < W then toE (entry A i j) else 0
theorem mv_at {A : List (List Int)} {W i j : Nat} (h : j < W) : mv A W i j = toE (entry A i j) := if_pos h
theorem mv_out {A : List (List Int)} {W i j : Nat} (h : ¬ j < W) : mv A W i j = 0 := if_neg h
theorem invT_mul {a : Int} (h : 0 ≤ a ∧ a < 256) (h0 : a ≠ 0) : toE (invT a) * toE a = 1 := by rw [invT_el h h0, inv_mul (toE_ne h h0)]
theorem invT_ne {a : Int} (h : 0 ≤ a ∧ a < 256) (h0 : a ≠ 0) : toE (invT a) ≠ 0 := by rw [invT_el h h0]; exact inv_ne (toE_ne h h0)
theorem mv_swap {A : List (List Int)} {W top i : Nat} {o : Int} (h : Sh A W) (ho : 0 ≤ o ∧ o < 256) (ht : top < A.length) (hi : i < A.length) (a : Nat) : mv (swapS o A top i) W a = if a = top then (fun b => toE o * mv A W i b) else if a = i then mv A W top else mv A W a := by
  funext b
  by_cases hb : b < W
  · rw [mv_at hb, entry_swap h ht hi hb]
    by_cases e1 : a = top
    · rw [if_pos e1, if_pos e1, mv_at hb, mulT_el ho (h.byte hi hb)]
    · rw [if_neg e1, if_neg e1]
      by_cases e2 : a = i
      · rw [if_pos e2, if_pos e2, mv_at hb]
      · rw [if_neg e2, if_neg e2, mv_at hb]
  · rw [mv_out hb]
    by_cases e1 : a = top
    · rw [if_pos e1, mv_out hb, mul_zero]
    · rw [if_neg e1]
      by_cases e2 : a = i
      · rw [if_pos e2, mv_out hb]
      · rw [if_neg e2, mv_out hb]
theorem mv_mac {A : List (List Int)} {W top k : Nat} {c : Int} (h : Sh A W) (hc : 0 ≤ c ∧ c < 256) (ht : top < A.length) (hk : k < A.length) (a : Nat) : mv (macS A k top c) W a = if a = k then (fun b => toE c * mv A W top b + mv A W k b) else mv A W a := by
  funext b
  by_cases hb : b < W
  · rw [mv_at hb, entry_mac h ht hk hb]
    by_cases e1 : a = k
    · rw [if_pos e1, if_pos e1, mv_at hb, mv_at hb, xor_el, mulT_el hc (h.byte ht hb)]
    · rw [if_neg e1, if_neg e1, mv_at hb]
  · rw [mv_out hb]
    by_cases e1 : a = k
    · rw [if_pos e1, mv_out hb, mv_out hb, mul_zero, add_zero]
    · rw [if_neg e1, mv_out hb]
theorem mv_el {A : List (List Int)} {W top col : Nat} (h : Sh A W) (ht : top < A.length) (hc : col < W) : ∀ k, k ≤ A.length → ∀ a, mv (el1 col top k A) W a = if a < k ∧ a ≠ top then (fun b => mv A W a col * mv A W top b + mv A W a b) else mv A W a
  | 0, _, a => by rw [if_neg (by omega)]; rfl
  | k + 1, hk, a => by
    have ih := mv_el h ht hc k (by omega)
    obtain ⟨hT, hTl⟩ := h.el (col := col) ht k (by omega)
    have hE : el1 col top (k + 1) A = (if k ≠ top ∧ entry (el1 col top k A) k col ≠ 0 then macS (el1 col top k A) k top (entry (el1 col top k A) k col) else el1 col top k A) := rfl
    have hk2 : mv (el1 col top k A) W k = mv A W k := by rw [ih, if_neg (by omega)]
    have ht2 : mv (el1 col top k A) W top = mv A W top := by rw [ih, if_neg (by omega)]
    have hkc : toE (entry (el1 col top k A) k col) = mv A W k col := by rw [← hk2, mv_at hc]
    rw [hE]
    generalize el1 col top k A = T at *
    by_cases e : k ≠ top ∧ entry T k col ≠ 0
    · rw [if_pos e, mv_mac hT (hT.byte (by omega) hc) (by omega) (by omega)]
      by_cases e2 : a = k
      · subst e2
        rw [if_pos rfl, if_pos ⟨by omega, e.1⟩, hkc, ht2, hk2]
      · rw [if_neg e2, ih]
        by_cases e3 : a < k ∧ a ≠ top
        · rw [if_pos e3, if_pos ⟨by omega, e3.2⟩]
        · rw [if_neg e3, if_neg (by omega)]
    · rw [if_neg e, ih]
      by_cases e3 : a < k ∧ a ≠ top
      · rw [if_pos e3, if_pos ⟨by omega, e3.2⟩]
      · rw [if_neg e3]
        by_cases e4 : a < k + 1 ∧ a ≠ top
        · rw [if_pos e4]
          obtain rfl : a = k := by omega
          have h0 : entry T a col = 0 := Classical.byContradiction fun hn => e ⟨e4.2, hn⟩
          rw [h0, toE_zero] at hkc
          funext b
          rw [← hkc, zero_mul, zero_add]
        · rw [if_neg e4]
theorem span_iff {b c : Nat → Vec} {n : Nat} (h1 : ∀ i, i < n → Span b n (c i)) (h2 : ∀ i, i < n → Span c n (b i)) (v : Vec) : Span c n v ↔ Span b n v := ⟨span_trans h1, span_trans h2⟩
theorem span_swap {A : List (List Int)} {W top i : Nat} {o : Int} (h : Sh A W) (ho : 0 ≤ o ∧ o < 256) (h0 : toE o ≠ 0) (ht : top < A.length) (hi : i < A.length) (v : Vec) : Span (mv (swapS o A top i) W) A.length v ↔ Span (mv A W) A.length v := by
  have hm := mv_swap h ho ht hi
  refine span_iff (fun a ha => ?_) (fun a ha => ?_) v
  · rw [hm]
    split
    · exact span_mul _ (span_mem _ hi)
    · split
      · exact span_mem _ ht
      · exact span_mem _ ha
  · by_cases e1 : a = i
    · subst e1
      have : mv A W a = fun b => (toE o).inv * mv (swapS o A top a) W top b := by
        funext b
        rw [hm, if_pos rfl, ← mul_assoc, inv_mul h0, one_mul]
      rw [this]
      exact span_mul _ (span_mem _ ht)
    · by_cases e2 : a = top
      · subst e2
        have : mv A W a = mv (swapS o A a i) W i := by rw [hm, if_neg (fun e => e1 e.symm), if_pos rfl]
        rw [this]
        exact span_mem _ hi
      · have : mv A W a = mv (swapS o A top i) W a := by rw [hm, if_neg e2, if_neg e1]
        rw [this]
        exact span_mem _ ha
theorem span_el {A : List (List Int)} {W top col : Nat} (h : Sh A W) (ht : top < A.length) (hc : col < W) (v : Vec) : Span (mv (el1 col top A.length A) W) A.length v ↔ Span (mv A W) A.length v := by
  have hm := mv_el h ht hc A.length (Nat.le_refl _)
  refine span_iff (fun a ha => ?_) (fun a ha => ?_) v
  · rw [hm]
    split
    · exact span_add (span_mul _ (span_mem _ ht)) (span_mem _ ha)
    · exact span_mem _ ha
  · by_cases e : a = top
    · subst e
      have : mv A W a = mv (el1 col a A.length A) W a := by rw [hm, if_neg (fun hh => hh.2 rfl)]
      rw [this]
      exact span_mem _ ha
    · have : mv A W a = fun b => mv A W a col * mv (el1 col top A.length A) W top b + mv (el1 col top A.length A) W a b := by
        funext b
        rw [hm, hm, if_neg (fun hh => hh.2 rfl), if_pos ⟨ha, e⟩, ← add_assoc, add_self, zero_add]
      rw [this]
      exact span_add (span_mul _ (span_mem _ ht)) (span_mem _ ha)
def pv (P : List Int) (i : Nat) : Nat := (P.getD i 0).toNat
theorem pv_last (P : List Int) (j : Nat) : pv (P ++ [(j : Int)]) P.length = j := by
  unfold pv
  rw [List.getD_eq_getElem?_getD, List.getElem?_append_right (Nat.le_refl _), Nat.sub_self]
  rfl
theorem pv_init {P : List Int} {j i : Nat} (hi : i < P.length) : pv (P ++ [(j : Int)]) i = pv P i := by
  unfold pv
  rw [List.getD_eq_getElem?_getD, List.getElem?_append_left hi, ← List.getD_eq_getElem?_getD]
structure RI (A S : List (List Int)) (W j : Nat) (P : List Int) : Prop where
  sh : Sh S W
  len : S.length = A.length
  tn : P.length ≤ A.length
  nat : ∀ i, i < P.length → P.getD i 0 = (pv P i : Int)
  lt : ∀ i, i < P.length → pv P i < j
  mono : ∀ i k, i < k → k < P.length → pv P i < pv P k
  one : ∀ i, i < P.length → ∀ a, a < A.length → mv S W a (pv P i) = if a = i then 1 else 0
  low : ∀ a, P.length ≤ a → a < A.length → ∀ b, b < j → mv S W a b = 0
  lead : ∀ i, i < P.length → ∀ b, b < pv P i → mv S W i b = 0
  span : ∀ v, Span (mv S W) A.length v ↔ Span (mv A W) A.length v
theorem RI.step {A S : List (List Int)} {W j : Nat} {P : List Int} (h : RI A S W j P) (hj : j < W) {x : Nat} (hx : P.length ≤ x) (hxn : x < A.length) (h0 : entry S x j ≠ 0) :
    RI A (el1 j P.length S.length (swapS (invT (entry S x j)) S P.length x)) W (j + 1) (P ++ [(j : Int)]) := by
  have hlen := h.len
  have hb := h.sh.byte (i := x) (j := j) (by omega) hj
  have ho := invT_range hb h0
  have hxl : x < S.length := by omega
  have htl : P.length < S.length := by omega
  have hsw := h.sh.swap ho htl hxl
  have hsl : (swapS (invT (entry S x j)) S P.length x).length = S.length := by simp [swapS]
  have hB := mv_swap h.sh ho htl hxl
  have hel := hsw.el (col := j) (top := P.length) (by omega) S.length (by omega)
  have hmE := mv_el hsw (top := P.length) (col := j) (by omega) hj S.length (by omega)
  have hsp1 := span_swap h.sh ho (invT_ne hb h0) htl hxl
  have hsp2 := span_el hsw (top := P.length) (col := j) (by omega) hj
  have hp1 : toE (invT (entry S x j)) * mv S W x j = 1 := by rw [mv_at hj]; exact invT_mul hb h0
  rw [hsl] at hsp2
  generalize swapS (invT (entry S x j)) S P.length x = B at *
  generalize toE (invT (entry S x j)) = o at *
  -- the row that has come up
  have hT : ∀ b, b < j → mv B W P.length b = 0 := fun b hbj => by
    rw [hB, if_pos rfl]
    show o * mv S W x b = 0
    rw [h.low x hx hxn b hbj, mul_zero]
  have hTj : mv B W P.length j = 1 := by rw [hB, if_pos rfl]; exact hp1
  have hlow : ∀ a, P.length < a → a < A.length → ∀ b, b < j → mv B W a b = 0 := fun a h1 h2 b hbj => by
    rw [hB, if_neg (by omega)]
    split
    · exact h.low _ (Nat.le_refl _) (by omega) b hbj
    · exact h.low a (by omega) h2 b hbj
  have htop : ∀ a, a < P.length → mv B W a = mv S W a := fun a ha => by rw [hB, if_neg (by omega), if_neg (by omega)]
  have hcol : ∀ i, i < P.length → ∀ a, a < A.length → mv B W a (pv P i) = if a = i then 1 else 0 := fun i hi a ha => by
    have hpj := h.lt i hi
    by_cases e : a < P.length
    · rw [htop a e]; exact h.one i hi a ha
    · rw [if_neg (by omega)]
      by_cases e2 : a = P.length
      · subst e2; exact hT _ hpj
      · exact hlow a (by omega) ha _ hpj
  have hE : ∀ a, a < A.length → mv (el1 j P.length S.length B) W a = if a ≠ P.length then (fun b => mv B W a j * mv B W P.length b + mv B W a b) else mv B W a := fun a ha => by
    rw [hmE]
    by_cases e : a = P.length
    · rw [if_neg (fun hh => hh.2 e), if_neg (fun hh => hh e)]
    · rw [if_pos ⟨by omega, e⟩, if_pos e]
  have hEj : ∀ a, a < A.length → mv (el1 j P.length S.length B) W a j = if a = P.length then 1 else 0 := fun a ha => by
    rw [hE a ha]
    by_cases e : a = P.length
    · subst e
      rw [if_neg (fun hh => hh rfl), if_pos rfl, hTj]
    · rw [if_pos e, if_neg e]
      show mv B W a j * mv B W P.length j + mv B W a j = 0
      rw [hTj, mul_one, add_self]
  have hElo : ∀ a, a < A.length → ∀ b, b < j → mv (el1 j P.length S.length B) W a b = mv B W a b := fun a ha b hb => by
    rw [hE a ha]
    split
    · show mv B W a j * mv B W P.length b + mv B W a b = _
      rw [hT b hb, mul_zero, zero_add]
    · rfl
  have hL : (P ++ [(j : Int)]).length = P.length + 1 := by simp
  refine ⟨hel.1, by omega, by omega, fun i hi => ?_, fun i hi => ?_, fun i k hik hk => ?_, fun i hi a ha => ?_, fun a h1 h2 b hbj => ?_, fun i hi b hbi => ?_, fun v => ?_⟩
  · rw [hL] at hi
    by_cases e : i = P.length
    · subst e
      rw [pv_last, List.getD_eq_getElem?_getD, List.getElem?_append_right (Nat.le_refl _), Nat.sub_self]
      rfl
    · rw [pv_init (by omega), ← h.nat i (by omega), List.getD_eq_getElem?_getD, List.getElem?_append_left (by omega), ← List.getD_eq_getElem?_getD]
  · rw [hL] at hi
    by_cases e : i = P.length
    · subst e; rw [pv_last]; omega
    · rw [pv_init (by omega)]; have := h.lt i (by omega); omega
  · rw [hL] at hk
    by_cases e : k = P.length
    · subst e; rw [pv_last, pv_init hik]; exact h.lt i hik
    · rw [pv_init (by omega), pv_init (by omega)]; exact h.mono i k hik (by omega)
  · rw [hL] at hi
    by_cases e : i = P.length
    · subst e; rw [pv_last]; exact hEj a ha
    · rw [pv_init (by omega), hElo a ha _ (h.lt i (by omega))]
      exact hcol i (by omega) a ha
  · rw [hL] at h1
    by_cases e : b = j
    · subst e
      rw [hEj a h2, if_neg (by omega)]
    · rw [hElo a h2 b (by omega)]
      exact hlow a (by omega) h2 b (by omega)
  · rw [hL] at hi
    by_cases e : i = P.length
    · subst e
      rw [pv_last] at hbi
      rw [hElo _ (by omega) b hbi]
      exact hT b hbi
    · rw [pv_init (by omega)] at hbi
      have hlt := h.lt i (by omega)
      rw [hElo i (by omega) b (by omega), htop i (by omega)]
      exact h.lead i (by omega) b hbi
  · rw [← h.span, ← hlen, hsp2 v]
    exact hsp1 v
theorem redA_inv {A : List (List Int)} {W : Nat} (h : Sh A W) : ∀ j, j ≤ W → RI A (redA A j).1 W j (redA A j).2
  | 0, _ => ⟨h, rfl, Nat.zero_le _, fun i hi => absurd hi (Nat.not_lt_zero _), fun i hi => absurd hi (Nat.not_lt_zero _), fun i k _ hk => absurd hk (Nat.not_lt_zero _), fun i hi => absurd hi (Nat.not_lt_zero _), fun a _ _ b hb => absurd hb (Nat.not_lt_zero _), fun i hi => absurd hi (Nat.not_lt_zero _), fun v => Iff.rfl⟩
  | j + 1, hj => by
    have ih := redA_inv h j (by omega)
    show RI A (stepA j (redA A j)).1 W (j + 1) (stepA j (redA A j)).2
    generalize redA A j = T at *
    cases hf : firstIn T.1 T.2.length j with
    | none =>
      rw [stepA_none hf]
      have hz := seek_zero _ _ hf
      have hlen := ih.len
      exact ⟨ih.sh, ih.len, ih.tn, ih.nat, fun i hi => Nat.lt_succ_of_lt (ih.lt i hi), ih.mono, ih.one, fun a h1 h2 b hb => by
        by_cases e : b = j
        · subst e
          rw [mv_at (by omega), hz a h1 (by have := ih.tn; omega), toE_zero]
        · exact ih.low a h1 h2 b (by omega), ih.lead, ih.span⟩
    | some x =>
      obtain ⟨q1, q2, q3, _⟩ := seekCol_spec _ _ hf
      have hlen := ih.len
      have htn := ih.tn
      rw [stepA_some hf]
      exact ih.step (by omega) q1 (by omega) q3
theorem RI.rr {A S : List (List Int)} {W : Nat} {P : List Int} (h : RI A S W W P) : RR A.length W P.length (mv S W) (pv P) :=
  ⟨h.tn, h.lt, h.mono, h.one, fun a h1 h2 => funext fun b => by
    by_cases e : b < W
    · exact h.low a h1 h2 b e
    · exact mv_out e, h.lead, fun a _ b hb => mv_out (by omega)⟩
end Go.Proofs.Ytccfbhnhedoggaa.M
namespace Go.Proofs.Ytccfbhnhedoggaa.M
open Go.RowKit Go.Proofs.YtccfbhnhedoggaaW.PrintWords Go.Proofs.YtccfbhnhedoggaaW.PrintLast Go.Proofs.YtccfbhnhedoggaaW.PrintMore Go.Proofs.Ytccfbhnhedoggaa.Q
set_option linter.unusedVariables false
theorem right_of {r c : Nat} {l : List Int} (hr : r ≤ 64) (hc : c ≤ 64) (hl : l.length = r * c) : matrix_Right.f (r : Int) (c : Int) l = some true ∧ recoupref03_Right.f (r : Int) (c : Int) l = some true := by
 have hf := flat_rowsOf r l hl
 have hlen := rowsOf_length c r l
 have h1 := Right_true hf.2 (by omega) hc
 rw [hf.1, hlen] at h1
 exact ⟨(Right_eq (a := (r : Int)) (b := (c : Int)) (l := l) (by omega)) ▸ h1, h1⟩
theorem sh_rows {r c : Nat} {l : List Int} (hb : bytesB l = true) (hl : l.length = r * c) (hr : r ≤ 64) (hc : c ≤ 64) : Sh (rowsOf c r l) c := Sh.of1 (shp_nil hb hl ⟨hr, hc⟩)
theorem rowsOf_elem {r c p : Nat} {l : List Int} (h : p < (rowsOf c r l).length) : (rowsOf c r l)[p] = (l.drop (p * c)).take c := by simp [rowsOf]
theorem below_step {p : Nat → Nat} {t i : Nat} (m : ∀ i k, i < k → k < t → p i < p k) : below p (i + 1) t = if below p i t < t ∧ p (below p i t) = i then below p i t + 1 else below p i t := by
 have l1 := below_le p i t
 have l2 := below_le p (i + 1) t
 have b1 := below_iff (b := i) m
 have b2 := below_iff (b := i + 1) m
 have key : ∀ s' s : Nat, s ≤ t → s' ≤ t → (∀ k, k < t → (k < s ↔ k < s')) → s = s' := fun s' s h1 h2 h => by
  rcases Nat.lt_trichotomy s s' with h3 | h3 | h3
  ·have := (h s (by omega)).2 h3; omega
  ·exact h3
  ·have := (h s' (by omega)).1 h3; omega
 by_cases e : below p i t < t ∧ p (below p i t) = i
 ·rw [if_pos e]
  refine key _ _ l2 (by omega) fun k hk => ?_
  rw [b2 k hk]
  constructor
  ·intro h
   by_cases h1 : k < below p i t
   ·omega
   ·by_cases h2 : k = below p i t
    ·omega
    ·have := m (below p i t) k (by omega) hk; omega
  ·intro h
   by_cases h1 : k < below p i t
   ·have := (b1 k hk).1 h1; omega
   ·have : k = below p i t := by omega
    rw [this, e.2]; omega
 ·rw [if_neg e]
  refine key _ _ l2 l1 fun k hk => ?_
  rw [b2 k hk, b1 k hk]
  constructor
  ·intro h
   by_cases h1 : p k = i
   ·exfalso
    refine e ?_
    have h2 : ¬ k < below p i t := fun h3 => by have := (b1 k hk).1 h3; omega
    have h4 : below p i t = k := by
     rcases Nat.lt_or_ge (below p i t) k with h5 | h5
     ·have h6 := m _ k h5 hk
      have := (b1 (below p i t) (by omega)).2 (by omega)
      omega
     ·omega
    rw [h4]
    exact ⟨hk, h1⟩
   ·omega
  ·intro h; omega
theorem below_all {p : Nat → Nat} {b : Nat} : ∀ t, (∀ i, i < t → p i < b) → below p b t = t
 | 0, _ => rfl
 | t + 1, h => by
  have := below_all t fun i hi => h i (by omega)
  unfold below
  rw [if_pos (h t (by omega)), this]
end Go.Proofs.Ytccfbhnhedoggaa.M
namespace Go.Proofs.Ytccfbhnhedoggaa.M
open Go.RowKit Go.Proofs.YtccfbhnhedoggaaW.PrintWords Go.Proofs.YtccfbhnhedoggaaW.PrintLast Go.Proofs.YtccfbhnhedoggaaW.PrintMore Go.Proofs.Ytccfbhnhedoggaa.Q
set_option linter.unusedVariables false
def pe (A B : List (List Int)) (i j k : Nat) : El := sm k fun x => toE (entry A i x) * toE (entry B x j)
def prow (A B : List (List Int)) (m p i : Nat) : List Int := (List.range p).map fun j => ofE (pe A B i j m)
def prod (A B : List (List Int)) (n m p : Nat) : List (List Int) := (List.range n).map fun i => prow A B m p i
theorem prow_length (A B : List (List Int)) (m p i : Nat) : (prow A B m p i).length = p := by simp [prow]
theorem prow_get {A B : List (List Int)} {m p i j : Nat} (hj : j < p) : (prow A B m p i).getD j 0 = ofE (pe A B i j m) := by
 unfold prow
 rw [List.getD_eq_getElem?_getD, List.getElem?_map, List.getElem?_range hj]
 rfl
theorem prod_length (A B : List (List Int)) (n m p : Nat) : (prod A B n m p).length = n := by simp [prod]
theorem prod_get {A B : List (List Int)} {n m p i : Nat} (hi : i < n) : (prod A B n m p).getD i [] = prow A B m p i := by
 unfold prod
 rw [List.getD_eq_getElem?_getD, List.getElem?_map, List.getElem?_range hi]
 rfl
def stI (A B : List (List Int)) (n m p i : Nat) : List (List Int) := (List.range n).map fun r => if r < i then prow A B m p r else List.replicate p 0
theorem stI_len (A B : List (List Int)) (n m p i : Nat) : (stI A B n m p i).length = n := by simp [stI]
theorem stI_elem {A B : List (List Int)} {n m p i r : Nat} (h : r < (stI A B n m p i).length) : (stI A B n m p i)[r] = if r < i then prow A B m p r else List.replicate p 0 := by simp [stI]
theorem stI_get {A B : List (List Int)} {n m p i r : Nat} (h : r < n) : (stI A B n m p i).getD r [] = if r < i then prow A B m p r else List.replicate p 0 := by
 have h2 : r < (stI A B n m p i).length := by rw [stI_len]; exact h
 rw [List.getD_eq_getElem?_getD, List.getElem?_eq_getElem h2, Option.getD_some, stI_elem]
theorem stI_U (A B : List (List Int)) (n m p i : Nat) : U (stI A B n m p i) p := fun r hr => by
 obtain ⟨q, _, rfl⟩ := List.mem_map.1 hr
 split
 ·exact prow_length _ _ _ _ _
 ·simp
theorem stI_next {A B : List (List Int)} {n m p i : Nat} (hi : i < n) : (stI A B n m p i).set i (prow A B m p i) = stI A B n m p (i + 1) := by
 refine List.ext_getElem (by simp [stI]) fun q h1 h2 => ?_
 rw [List.getElem_set, stI_elem, stI_elem]
 by_cases e : i = q
 ·subst e; rw [if_pos rfl, if_pos (by omega)]
 ·rw [if_neg e]
  by_cases e2 : q < i
  ·rw [if_pos e2, if_pos (by omega)]
  ·rw [if_neg e2, if_neg (by omega)]
theorem stI_full {A B : List (List Int)} {n m p : Nat} : stI A B n m p n = prod A B n m p := by
 unfold stI prod
 exact List.map_congr_left fun r hr => if_pos (by simpa using hr)
theorem stI_zero {A B : List (List Int)} {n m p : Nat} : (stI A B n m p 0).flatten = List.replicate (n * p) 0 := by
 have hU : ∀ r ∈ stI A B n m p 0, r = List.replicate p (0 : Int) := fun r hr => by
  obtain ⟨q, hq, rfl⟩ := List.mem_map.1 hr
  rw [if_neg (by omega)]
 rw [List.eq_replicate_of_mem hU, stI_len, List.flatten_replicate_replicate]
def rowJ (A B : List (List Int)) (m p i j : Nat) : List Int := (prow A B m p i).take j ++ (List.replicate p (0 : Int)).drop j
theorem rowJ_length {A B : List (List Int)} {m p i j : Nat} (hj : j ≤ p) : (rowJ A B m p i j).length = p := by
 unfold rowJ
 rw [List.length_append, List.length_take, List.length_drop, prow_length, List.length_replicate]
 omega
theorem rowJ_zero (A B : List (List Int)) (m p i : Nat) : rowJ A B m p i 0 = List.replicate p 0 := by unfold rowJ; simp
theorem rowJ_full (A B : List (List Int)) (m p i : Nat) : rowJ A B m p i p = prow A B m p i := by
 unfold rowJ
 rw [List.take_of_length_le (by rw [prow_length]; exact Nat.le_refl _), List.drop_of_length_le (by simp), List.append_nil]
theorem rowJ_next {A B : List (List Int)} {m p i j : Nat} (hj : j < p) : (rowJ A B m p i j).set j (ofE (pe A B i j m)) = rowJ A B m p i (j + 1) := by
 rw [← prow_get hj]
 exact mid_set (by rw [prow_length]; exact hj) (by rw [prow_length, List.length_replicate])
theorem rowJ_self {A B : List (List Int)} {m p i j : Nat} (hj : j < p) : (rowJ A B m p i j).set j 0 = rowJ A B m p i j := by
 have h : (rowJ A B m p i j).getD j 0 = 0 := by
  unfold rowJ
  rw [mid_get (by rw [prow_length]; exact hj) (by rw [prow_length, List.length_replicate]), List.getD_eq_getElem?_getD, List.getElem?_replicate_of_lt hj]
  rfl
 have := set_getD_self (l := rowJ A B m p i j) (i := j) (d := (0 : Int)) (by rw [rowJ_length (by omega)]; exact hj)
 rwa [h] at this
abbrev MR := Int × Int × List Int × Int
section
variable {n m p : Nat} {A B : List (List Int)}
theorem MulM_l2 (hA : U A m) (hAn : A.length = n) (hB : U B p) (hBm : B.length = m) (bA : rowsB A = true) (bB : rowsB B = true) (hn : n ≤ 64) (hm : m ≤ 64) (hp : p ≤ 64) {i j : Nat} (hi : i < n) (hj : j < p) (a : Int) {R : MR}
  (hR : Ends (fun q => recoupref03_Mul.l1 q (i : Int) ((j + 1 : Nat) : Int) (n : Int) (m : Int) A.flatten (m : Int) (p : Int) B.flatten a (p : Int) ((stI A B n m p i).set i (rowJ A B m p i (j + 1))).flatten) R) :
  ∀ x k : Nat, k + x = m → Ends (fun q => recoupref03_Mul.l2 q (i : Int) (j : Int) (k : Int) (n : Int) (m : Int) A.flatten (m : Int) (p : Int) B.flatten a (p : Int) ((stI A B n m p i).set i ((rowJ A B m p i j).set j (ofE (pe A B i j k)))).flatten) R
 | 0, k, hk => by
  obtain rfl : k = m := by omega
  have hj4 : j ≤ 4096 := by omega
  refine Ends.succ (fun k => by rw [recoupref03_Mul.l2]) ?_
  refine Ends.neg (by omega) ?_
  rw [rowJ_next hj, i64_succ hj4]
  exact hR
 | x + 1, k, hk => by
  have hkm : k < m := by omega
  have hk4 : k ≤ 4096 := by omega
  have hi64 : i ≤ 64 := by omega
  have hj64 : j ≤ 64 := by omega
  have ih := MulM_l2 hA hAn hB hBm bA bB hn hm hp hi hj a hR x (k + 1) (by omega)
  have hrl : ((rowJ A B m p i j).set j (ofE (pe A B i j k))).length = p := by rw [List.length_set]; exact rowJ_length (by omega)
  have hU := (stI_U A B n m p i).set (k := i) hrl
  have hlen : ((stI A B n m p i).set i ((rowJ A B m p i j).set j (ofE (pe A B i j k)))).length = n := by rw [List.length_set, stI_len]
  have hil : i < (stI A B n m p i).length := by rw [stI_len]; exact hi
  have hjr : j < (rowJ A B m p i j).length := by rw [rowJ_length (by omega)]; exact hj
  have hix := idx_lt (c := p) hi hj
  have a1 := At_eq hA (by omega) hm (i := i) (j := k) (by omega) hkm (n : Int)
  have a2 := At_eq hB (by omega) hp (i := k) (j := j) (by omega) hj (m : Int)
  have b1 := bytesB_at (rows_bytes bA i) (i := k) (by rw [hA.at (by omega)]; exact hkm)
  have b2 := bytesB_at (rows_bytes bB k) (i := j) (by rw [hB.at (by omega)]; exact hj)
  refine Ends.succ (fun k => by rw [recoupref03_Mul.l2]) ?_
  refine Ends.pos (by omega) ?_
  rw [(idx_small (i := i) (c := p) (j := j) hi64 hp hj64).2]
  refine Ends.pos (Int.natCast_nonneg _) (Ends.pos (by rw [flat_len hU, hlen]; exact Int.ofNat_lt.2 hix) ?_)
  refine Ends.bind1 a1 ?_
  refine Ends.bind1 a2 ?_
  refine Ends.bind (mulT_ends b1 b2) ?_
  rw [rd_nat, Int.toNat_natCast, flat_get hU (by omega) hj, flat_set _ hU (by omega) hj, getD_set_self hil, List.set_set, List.set_set, i64_succ hk4]
  have e1 : entry ((stI A B n m p i).set i ((rowJ A B m p i j).set j (ofE (pe A B i j k)))) i j = ofE (pe A B i j k) := by
   unfold entry
   rw [getD_set_self hil, getD_set_self hjr]
  have e2 : Go.bits .xor .u8 (ofE (pe A B i j k)) (mulT (entry A i k) (entry B k j)) = ofE (pe A B i j (k + 1)) := by
   refine toE_inj (xor_range _ _) (ofE_range _) ?_
   rw [xor_el, toE_ofE, toE_ofE]
   exact congrArg (fun z => pe A B i j k + z) (mulT_el b1 b2)
  rw [e1, e2]
  exact ih
theorem MulM_l1 (hA : U A m) (hAn : A.length = n) (hB : U B p) (hBm : B.length = m) (bA : rowsB A = true) (bB : rowsB B = true) (hn : n ≤ 64) (hm : m ≤ 64) (hp : p ≤ 64) {i : Nat} (hi : i < n) (a : Int) {R : MR}
  (hR : Ends (fun q => recoupref03_Mul.l0 q ((i + 1 : Nat) : Int) (n : Int) (m : Int) A.flatten (m : Int) (p : Int) B.flatten a (p : Int) (stI A B n m p (i + 1)).flatten) R) :
  ∀ x j : Nat, j + x = p → Ends (fun q => recoupref03_Mul.l1 q (i : Int) (j : Int) (n : Int) (m : Int) A.flatten (m : Int) (p : Int) B.flatten a (p : Int) ((stI A B n m p i).set i (rowJ A B m p i j)).flatten) R
 | 0, j, hj => by
  obtain rfl : j = p := by omega
  have hi4 : i ≤ 4096 := by omega
  refine Ends.succ (fun k => by rw [recoupref03_Mul.l1]) ?_
  refine Ends.neg (by omega) ?_
  rw [rowJ_full, stI_next hi, i64_succ hi4]
  exact hR
 | x + 1, j, hj => by
  have hjp : j < p := by omega
  refine Ends.succ (fun k => by rw [recoupref03_Mul.l1]) ?_
  refine Ends.pos (by omega) ?_
  have := MulM_l2 hA hAn hB hBm bA bB hn hm hp hi hjp a (MulM_l1 hA hAn hB hBm bA bB hn hm hp hi a hR x (j + 1) (by omega)) m 0 (by omega)
  rw [show ofE (pe A B i j 0) = 0 from rfl, rowJ_self hjp] at this
  exact this
theorem MulM_l0 (hA : U A m) (hAn : A.length = n) (hB : U B p) (hBm : B.length = m) (bA : rowsB A = true) (bB : rowsB B = true) (hn : n ≤ 64) (hm : m ≤ 64) (hp : p ≤ 64) (a : Int) :
  ∀ x i : Nat, i + x = n → Ends (fun q => recoupref03_Mul.l0 q (i : Int) (n : Int) (m : Int) A.flatten (m : Int) (p : Int) B.flatten a (p : Int) (stI A B n m p i).flatten) (a, (p : Int), (prod A B n m p).flatten, 0)
 | 0, i, hi => by
  obtain rfl : i = n := by omega
  refine Ends.succ (fun k => by rw [recoupref03_Mul.l0]) ?_
  refine Ends.neg (by omega) ?_
  rw [stI_full]
  exact Ends.const rfl
 | x + 1, i, hi => by
  have hin : i < n := by omega
  refine Ends.succ (fun k => by rw [recoupref03_Mul.l0]) ?_
  refine Ends.pos (by omega) ?_
  have := MulM_l1 hA hAn hB hBm bA bB hn hm hp hin a (MulM_l0 hA hAn hB hBm bA bB hn hm hp a x (i + 1) (by omega)) p 0 (by omega)
  have e : (stI A B n m p i).set i (rowJ A B m p i 0) = stI A B n m p i := by
   have h2 := stI_get (A := A) (B := B) (m := m) (p := p) (i := i) hin
   rw [if_neg (by omega)] at h2
   rw [rowJ_zero, ← h2]
   exact set_getD_self (by rw [stI_len]; exact hin)
  rw [e] at this
  exact this
end
theorem zero_eq {n p : Nat} (hn : n ≤ 64) (hp : p ≤ 64) : recoupref03_Zero.f (n : Int) (p : Int) = some ((n : Int), (p : Int), List.replicate (n * p) 0) := by
 have hm : n * p ≤ 64 * 64 := Nat.mul_le_mul hn hp
 unfold recoupref03_Zero.f
 rw [(idx_small (i := n) (c := p) (j := 0) hn hp (by decide)).1, if_pos (Int.natCast_nonneg _), if_pos (by rw [Int.toNat_natCast]; omega), Int.toNat_natCast]
def mulL (n m p : Nat) (a b : List Int) : List (List Int) := prod (rowsOf m n a) (rowsOf p m b) n m p
theorem MulM_ends {n m p : Nat} {a b : List Int} (hn : n ≤ 64) (hm : m ≤ 64) (hp : p ≤ 64) (ha : a.length = n * m) (hb : b.length = m * p) (ba : bytesB a = true) (bb : bytesB b = true) :
  Ends (fun k => recoupref03_Mul.f k (n : Int) (m : Int) a (m : Int) (p : Int) b) ((n : Int), (p : Int), (mulL n m p a b).flatten, 0) := by
 have f1 := flat_rowsOf n a ha
 have f2 := flat_rowsOf m b hb
 have s1 := sh_rows ba ha hn hm
 have s2 := sh_rows bb hb hm hp
 unfold recoupref03_Mul.f
 refine Ends.bind1 (right_of hn hm ha).2 (Ends.pos rfl ?_)
 refine Ends.bind1 (right_of hm hp hb).2 (Ends.pos rfl ?_)
 refine Ends.succ (fun k => by rw [recoupref03_Mul.j0]) ?_
 refine Ends.neg (by simp) ?_
 refine Ends.bind1 (zero_eq hn hp) ?_
 have := MulM_l0 f1.2 (rowsOf_length m n a) f2.2 (rowsOf_length p m b) s1.b s2.b hn hm hp (n : Int) n 0 (by omega)
 rw [stI_zero, f1.1, f2.1] at this
 exact this
theorem rows_flat {M : List (List Int)} {c : Nat} (h : U M c) : rowsOf c M.length M.flatten = M := by
 refine List.ext_getElem (by rw [rowsOf_length]) fun i h1 h2 => ?_
 rw [rowsOf_elem, flat_row h h2, List.getD_eq_getElem?_getD, List.getElem?_eq_getElem h2, Option.getD_some]
end Go.Proofs.Ytccfbhnhedoggaa.M
namespace Go.Proofs.Ytccfbhnhedoggaa.M
open Go.RowKit Go.Proofs.YtccfbhnhedoggaaW.PrintWords Go.Proofs.YtccfbhnhedoggaaW.PrintLast Go.Proofs.YtccfbhnhedoggaaW.PrintMore Go.Proofs.Ytccfbhnhedoggaa.Q
set_option linter.unusedVariables false
def vv (x : List Int) : Vec := fun j => toE (x.getD j 0)
def one1 (c : Nat) (x : Vec) : Vec := fun j => if j < c then x j else if j = c then 1 else 0
theorem dot_one1 {c : Nat} (r x : Vec) : dot (c + 1) r (one1 c x) = dot c r x + r c := by
 show sm c (fun b => r b * one1 c x b) + r c * one1 c x c = _
 have e : one1 c x c = 1 := by unfold one1; rw [if_neg (Nat.lt_irrefl c), if_pos rfl]
 rw [e, mul_one]
 congr 1
 exact sm_congr fun b hb => by unfold one1; rw [if_pos hb]
section
variable {r c : Nat} {l y : List Int}
theorem aug_rows {M D : List (List Int)} {C : Nat} (h : Shp M D C 1) {i : Nat} (hi : i < M.length) : (∀ j, j < C → mv (aug M D) (C + 1) i j = mv M C i j) ∧ mv (aug M D) (C + 1) i C = toE (entry D i 0) := by
 refine ⟨fun j hj => ?_, ?_⟩
 ·rw [mv_at (by omega), mv_at hj, aug_entry h.len (h.eM i hi) hj]
 ·rw [mv_at (by omega)]
  have := aug_entry_right (j := 0) h.len (h.eM i hi)
  rw [Nat.add_zero] at this
  rw [this]
theorem dot_congr {W : Nat} {r r' x x' : Vec} (h : ∀ j, j < W → r j = r' j) (k : ∀ j, j < W → x j = x' j) : dot W r x = dot W r' x' := sm_congr fun j hj => by rw [h j hj, k j hj]
theorem aug_ker {M D : List (List Int)} {C : Nat} (h : Shp M D C 1) (x : Vec) : Ker (C + 1) M.length (mv (aug M D) (C + 1)) (one1 C x) ↔ ∀ i, i < M.length → dot C (mv M C i) x = toE (entry D i 0) := by
 constructor
 ·intro hk i hi
  have h1 := hk i hi
  obtain ⟨a1, a2⟩ := aug_rows h hi
  rw [dot_one1, a2, dot_congr a1 (fun _ _ => rfl)] at h1
  exact add_cancel h1
 ·intro hk i hi
  obtain ⟨a1, a2⟩ := aug_rows h hi
  rw [dot_one1, a2, dot_congr a1 (fun _ _ => rfl), hk i hi, add_self]
theorem red_sol {M D : List (List Int)} {C : Nat} (h : Shp M D C 1) (x : Vec) : (∀ i, i < M.length → dot C (mv M C i) x = toE (entry D i 0)) ↔ ∀ i, i < M.length → dot C (mv (redTo M D C).1.1 C i) x = toE (entry (redTo M D C).1.2 i 0) := by
 have hs := red_shp h C
 have hg := red_aug h C (Nat.le_refl _)
 have hi := redA_inv (Sh.aug h) C (by omega)
 have hl := aug_length h.len
 rw [hg] at hi
 have hsp := hi.span
 rw [hl] at hsp
 have k1 := aug_ker h x
 have k2 := aug_ker hs.1 x
 rw [hs.2.1] at k2
 rw [← k1, ← k2, ker_same hsp]
theorem Y_entry {i : Nat} (hi : i < r) : entry (Ycol y r) i 0 = y.getD i 0 := by
 unfold entry Ycol
 rw [fill_get hi]
 rfl
theorem red_ri {M D : List (List Int)} {C wd : Nat} (h : Shp M D C wd) : RI M (redTo M D C).1.1 C C (redTo M D C).2 := by
 have := redA_inv (Sh.of1 h) C (Nat.le_refl _)
 rw [← red_fst M D C] at this
 exact this
theorem solve_at {P : List Int} {D : List (List Int)} {c : Nat} (hnat : ∀ i, i < P.length → P.getD i 0 = (pv P i : Int)) (hlt : ∀ i, i < P.length → pv P i < c) (hm : ∀ i k, i < k → k < P.length → pv P i < pv P k) :
  ∀ k, k ≤ P.length → (∀ i, i < k → (solveTo P D c k).getD (pv P i) 0 = entry D i 0) ∧ ∀ j, j < c → (∀ i, i < k → j ≠ pv P i) → (solveTo P D c k).getD j 0 = 0
 | 0, _ => ⟨fun i hi => absurd hi (Nat.not_lt_zero _), fun j hj _ => by
  show (List.replicate c (0 : Int)).getD j 0 = 0
  rw [List.getD_eq_getElem?_getD, List.getElem?_replicate_of_lt hj]
  rfl⟩
 | k + 1, hk => by
  obtain ⟨h1, h2⟩ := solve_at (D := D) hnat hlt hm k (by omega)
  have hkP : k < P.length := by omega
  rw [solveTo, if_pos hkP, hnat k hkP, Int.toNat_natCast]
  refine ⟨fun i hi => ?_, fun j hj hn => ?_⟩
  ·by_cases e : i = k
   ·subst e
    exact getD_set_self (by rw [solveTo_length]; exact hlt i hkP)
   ·have := hm i k (by omega) hkP
    rw [getD_set_ne (by omega)]
    exact h1 i (by omega)
  ·rw [getD_set_ne (fun e => hn k (by omega) e.symm)]
   exact h2 j hj fun i hi => hn i (by omega)
theorem solR_good (h : (solR r c l y).2.1 = true) : (solR r c l y).1 = solveTo (redTo (rowsOf c r l) (Ycol y r) c).2 (redTo (rowsOf c r l) (Ycol y r) c).1.2 c r ∧ ¬ badFrom (redTo (rowsOf c r l) (Ycol y r) c).2 (redTo (rowsOf c r l) (Ycol y r) c).1.2 r 0 = true := by
 unfold solR at h ⊢
 simp only [] at h ⊢
 split
 ·rename_i e
  rw [if_pos e] at h; cases h
 ·rename_i e
  exact ⟨rfl, e⟩
theorem solR_sound (hb : bytesB l = true) (hl : l.length = r * c) (hr : r ≤ 64) (hc : c ≤ 64) (hy : y.length = r) (hyb : bytesB y = true) (h : (solR r c l y).2.1 = true) :
  ∀ i, i < r → dot c (mv (rowsOf c r l) c i) (vv (solR r c l y).1) = vv y i := by
 obtain ⟨h1, h2⟩ := solR_good h
 have hS := shp_Y hb hyb hl hr hc hy
 have hlen := rowsOf_length c r l
 have hri := red_ri hS
 have hs := red_shp hS c
 have hsol := red_sol hS (vv (solR r c l y).1)
 rw [h1] at hsol ⊢
 intro i hi
 have goal := hsol.2 ?_ i (by omega)
 ·rw [goal, Y_entry hi]; rfl
 ·intro k hk
  have hrr := hri.rr
  have htn := hri.tn
  have hD : ∀ i', (redTo (rowsOf c r l) (Ycol y r) c).2.length ≤ i' → i' < r → entry (redTo (rowsOf c r l) (Ycol y r) c).1.2 i' 0 = 0 := fun i' a b => Classical.byContradiction fun hn => h2 (bad_iff _ _ |>.2 ⟨i', Nat.zero_le _, by omega, a, hn⟩)
  obtain ⟨s1, s2⟩ := solve_at (D := (redTo (rowsOf c r l) (Ycol y r) c).1.2) hri.nat hri.lt hri.mono (redTo (rowsOf c r l) (Ycol y r) c).2.length (Nat.le_refl _)
  rw [solveTo_more (i := r) (by omega)]
  generalize redTo (rowsOf c r l) (Ycol y r) c = T at *
  by_cases e : k < T.2.length
  ·have hd := hrr.dot_piv (x := vv (solveTo T.2 T.1.2 c T.2.length)) (fun j hj hn => by unfold vv; rw [s2 j hj hn, toE_zero]) e
   rw [hd]
   unfold vv
   rw [s1 k e]
  ·rw [hrr.low k (by omega) hk, hD k (by omega) (by omega), toE_zero]
   exact sm_zero fun j _ => zero_mul _
theorem kSt_spec {P : List Int} {S : List (List Int)} {C : Nat} (hnat : ∀ i, i < P.length → P.getD i 0 = (pv P i : Int)) (hm : ∀ i k, i < k → k < P.length → pv P i < pv P k) :
  ∀ j, (kSt P S C j).1 = below (pv P) j P.length ∧ ∃ L : List Nat, (kSt P S C j).2 = L.map (fun b => kRow P S C b P.length) ∧ L.Pairwise (· < ·) ∧ ∀ b, b ∈ L ↔ b < j ∧ ∀ i, i < P.length → b ≠ pv P i
 | 0 => by
  refine ⟨?_, [], rfl, List.Pairwise.nil, fun b => by simp⟩
  have h2 := below_iff (b := 0) hm
  have h3 := below_le (pv P) 0 P.length
  show 0 = below (pv P) 0 P.length
  rcases Nat.eq_zero_or_pos (below (pv P) 0 P.length) with h | h
  ·exact h.symm
  ·have := (h2 0 (by omega)).1 h; omega
 | j + 1 => by
  obtain ⟨h1, L, h2, hp, h3⟩ := kSt_spec (S := S) (C := C) hnat hm j
  have hst := below_step (i := j) hm
  have hiff := below_iff (b := j) hm
  have hle := below_le (pv P) j P.length
  have hmem : (∃ i, i < P.length ∧ j = pv P i) ↔ (below (pv P) j P.length < P.length ∧ pv P (below (pv P) j P.length) = j) := by
   constructor
   ·rintro ⟨i, hi, e⟩
    have h4 : ¬ i < below (pv P) j P.length := fun h5 => by have := (hiff i hi).1 h5; omega
    have h6 : below (pv P) j P.length = i := by
     rcases Nat.lt_or_ge (below (pv P) j P.length) i with h7 | h7
     ·have h8 := hm _ i h7 hi
      have := (hiff (below (pv P) j P.length) (by omega)).2 (by omega)
      omega
     ·omega
    rw [h6]
    exact ⟨hi, e.symm⟩
   ·rintro ⟨a, b⟩
    exact ⟨_, a, b.symm⟩
  unfold kSt
  by_cases e : (kSt P S C j).1 < P.length ∧ P.getD (kSt P S C j).1 0 = (j : Int)
  ·rw [if_pos e]
   have e2 : below (pv P) j P.length < P.length ∧ pv P (below (pv P) j P.length) = j := by
    rw [← h1]
    refine ⟨e.1, ?_⟩
    have := hnat _ e.1
    rw [e.2] at this
    omega
   rw [if_pos e2] at hst
   refine ⟨by rw [hst, ← h1], L, h2, hp, fun b => ?_⟩
   rw [h3]
   constructor
   ·rintro ⟨a, k⟩; exact ⟨by omega, k⟩
   ·rintro ⟨a, k⟩
    refine ⟨?_, k⟩
    obtain ⟨i, hi, e3⟩ := hmem.2 e2
    have := k i hi
    omega
  ·rw [if_neg e]
   have e2 : ¬ (below (pv P) j P.length < P.length ∧ pv P (below (pv P) j P.length) = j) := by
    rw [← h1]
    rintro ⟨a, b⟩
    exact e ⟨a, by rw [hnat _ a, b]⟩
   rw [if_neg e2] at hst
   refine ⟨by rw [hst, ← h1], L ++ [j], by rw [h2, List.map_append]; rfl, List.pairwise_append.2 ⟨hp, List.pairwise_singleton _ _, fun a ha b hb => by rw [List.mem_singleton.1 hb]; exact ((h3 a).1 ha).1⟩, fun b => ?_⟩
   rw [List.mem_append, h3, List.mem_singleton]
   constructor
   ·rintro (⟨a, k⟩ | rfl)
    ·exact ⟨by omega, k⟩
    ·exact ⟨by omega, fun i hi e3 => e2 (hmem.1 ⟨i, hi, e3⟩)⟩
   ·rintro ⟨a, k⟩
    by_cases e3 : b = j
    ·exact .inr e3
    ·exact .inl ⟨by omega, k⟩
theorem ri_L (hb : bytesB l = true) (hl : l.length = r * c) (hr : r ≤ 64) (hc : c ≤ 64) : RI (rowsOf c r l) (redL r c l).1.1 c c (redL r c l).2 := red_ri (shp_nil hb hl ⟨hr, hc⟩)
theorem kerL_len (hb : bytesB l = true) (hl : l.length = r * c) (hr : r ≤ 64) (hc : c ≤ 64) : (redL r c l).2.length + (kerL r c l).length = c := by
 have h := ri_L hb hl hr hc
 have h1 := kSt_spec (S := (redL r c l).1.1) (C := c) h.nat h.mono c
 have h2 := kSt_le (redL r c l).2 (redL r c l).1.1 c c
 rw [h1.1, below_all _ h.lt] at h2
 exact h2
theorem getElem_getD {L : List Int} {q : Nat} (h : q < L.length) : L[q] = L.getD q 0 := by rw [List.getD_eq_getElem?_getD, List.getElem?_eq_getElem h]; rfl
end
theorem bytes_flat2 {M : List (List Int)} (h : rowsB M = true) : bytesB M.flatten = true := by
 unfold rowsB at h
 unfold bytesB
 rw [List.all_eq_true] at h ⊢
 intro x hx
 obtain ⟨y, hy, hxy⟩ := List.mem_flatten.1 hx
 have := h y hy
 unfold bytesB at this
 rw [List.all_eq_true] at this
 exact this x hxy
end Go.Proofs.Ytccfbhnhedoggaa.M
namespace Go.Proofs.Ytccfbhnhedoggaa.M
open Go.RowKit Go.Proofs.YtccfbhnhedoggaaW.PrintWords Go.Proofs.YtccfbhnhedoggaaW.PrintLast Go.Proofs.YtccfbhnhedoggaaW.PrintMore Go.Proofs.Ytccfbhnhedoggaa.Q
set_option linter.unusedVariables false
def midU (n i : Nat) : List (List Int) := (List.range n).map fun r => if r < i then unitRow n r else List.replicate n 0
theorem midU_len (n i : Nat) : (midU n i).length = n := by simp [midU]
theorem midU_elem {n i p : Nat} (h : p < (midU n i).length) : (midU n i)[p] = if p < i then unitRow n p else List.replicate n 0 := by simp [midU]
theorem midU_get {n i p : Nat} (h : p < n) : (midU n i).getD p [] = if p < i then unitRow n p else List.replicate n 0 := by
 have h2 : p < (midU n i).length := by rw [midU_len]; exact h
 rw [List.getD_eq_getElem?_getD, List.getElem?_eq_getElem h2, Option.getD_some, midU_elem]
theorem midU_U (n i : Nat) : U (midU n i) n := fun r hr => by
 obtain ⟨p, _, rfl⟩ := List.mem_map.1 hr
 split <;> simp [unitRow]
theorem midU_next {n i : Nat} (hi : i < n) : (midU n i).set i (((midU n i).getD i []).set i 1) = midU n (i + 1) := by
 rw [midU_get hi, if_neg (by omega)]
 refine List.ext_getElem (by simp [midU]) fun p h1 h2 => ?_
 rw [List.getElem_set, midU_elem, midU_elem]
 by_cases e : i = p
 ·subst e; rw [if_pos rfl, if_pos (by omega)]; rfl
 ·rw [if_neg e]
  by_cases e2 : p < i
  ·rw [if_pos e2, if_pos (by omega)]
  ·rw [if_neg e2, if_neg (by omega)]
def idM (n : Nat) : List (List Int) := midU n n
theorem idM_get {n i : Nat} (hi : i < n) : (idM n).getD i [] = unitRow n i := by unfold idM; rw [midU_get hi, if_pos hi]
theorem midU_zero (n : Nat) : (midU n 0).flatten = List.replicate (n * n) 0 := by
 have hU : ∀ r ∈ midU n 0, r = List.replicate n (0 : Int) := fun r hr => by
  obtain ⟨p, hp, rfl⟩ := List.mem_map.1 hr
  rw [if_neg (by omega)]
 rw [List.eq_replicate_of_mem hU, midU_len, List.flatten_replicate_replicate]
theorem Ident_l0 {n : Nat} (hn : n ≤ 64) (a : Int) : ∀ m i : Nat, i + m = n → Ends (fun k => recoupref03_Identity.l0 k (n : Int) 0 (i : Int) a (n : Int) (midU n i).flatten) (a, (n : Int), (idM n).flatten, 0)
 | 0, i, hi => by
  obtain rfl : i = n := by omega
  refine Ends.succ (fun k => by rw [recoupref03_Identity.l0]) ?_
  exact Ends.neg (by omega) (Ends.const rfl)
 | m + 1, i, hi => by
  have hin : i < n := by omega
  have hi4 : i ≤ 4096 := by omega
  have hi64 : i ≤ 64 := by omega
  have hix := idx_lt (c := n) (n := n) hin hin
  refine Ends.succ (fun k => by rw [recoupref03_Identity.l0]) ?_
  refine Ends.pos (by omega) (Ends.pos rfl ?_)
  rw [(idx_small (i := i) (c := n) (j := i) hi64 hn hi64).2]
  refine Ends.pos (Int.natCast_nonneg _) (Ends.pos (by rw [flat_len (midU_U n i), midU_len]; exact Int.ofNat_lt.2 hix) ?_)
  rw [Int.toNat_natCast, flat_set _ (midU_U n i) (by rw [midU_len]; exact hin) hin, midU_next hin, i64_succ hi4]
  exact Ident_l0 hn a m (i + 1) (by omega)
theorem Ident_ends {n : Nat} (hn : n ≤ 64) : Ends (fun k => recoupref03_Identity.f k (n : Int)) ((n : Int), (n : Int), (idM n).flatten, 0) := by
 unfold recoupref03_Identity.f
 have hz : recoupref03_Zero.f (n : Int) (n : Int) = some ((n : Int), (n : Int), List.replicate (n * n) 0) := zero_eq hn hn
 have hm : recoupref03_Make.f (n : Int) (n : Int) = some ((n : Int), (n : Int), List.replicate (n * n) 0, 0) := by
  unfold recoupref03_Make.f
  rw [if_neg (by omega), if_neg (by omega), if_neg (by omega), if_neg (by omega), hz]
  rfl
 refine Ends.bind1 hm ?_
 have := Ident_l0 hn (n : Int) n 0 (by omega)
 rw [midU_zero] at this
 exact this
theorem getElem_row {L : List (List Int)} {q : Nat} (h : q < L.length) : L[q] = L.getD q [] := by rw [List.getD_eq_getElem?_getD, List.getElem?_eq_getElem h]; rfl
section
variable {n : Nat} {l : List Int}
theorem invD_sh (hb : bytesB l = true) (hl : l.length = n * n) (hn : n ≤ 64) : Sh (invD n l) n ∧ (invD n l).length = n := by
 have hs := red_shp (shp_units hb hl hn) n
 exact ⟨Sh.of2 hs.1, hs.1.len.trans (hs.2.1.trans (rowsOf_length n n l))⟩
theorem right_inv (hb : bytesB l = true) (hl : l.length = n * n) (hn : n ≤ 64) (hf : (redL n n l).2.length = n) {i j : Nat} (hi : i < n) (hj : j < n) : pe (rowsOf n n l) (invD n l) i j n = if i = j then 1 else 0 := by
 obtain ⟨c, h1, h2, h3⟩ := inv_col hb hl hn hf hj
 have hok : (solR n n l (unitRow n j)).2.1 = true := by rw [h1]
 have hs := solR_sound hb hl hn hn (by simp [unitRow]) (unit_bytes n j) hok i hi
 rw [h1] at hs
 have e : vv (unitRow n j) i = if i = j then 1 else 0 := by
  unfold vv
  rw [unit_getD hi]
  split <;> rfl
 rw [← e, ← hs]
 refine sm_congr fun k hk => ?_
 rw [mv_at hk]
 unfold vv
 rw [h3 k hk]
theorem left_inv (hb : bytesB l = true) (hl : l.length = n * n) (hn : n ≤ 64) (hf : (redL n n l).2.length = n) {i j : Nat} (hi : i < n) (hj : j < n) : pe (invD n l) (rowsOf n n l) i j n = if i = j then 1 else 0 := by
 have hri := ri_L hb hl hn hn
 have hlen := rowsOf_length n n l
 have hK : Ker n n (mv (rowsOf n n l) n) (fun q => (if q < n then pe (invD n l) (rowsOf n n l) q j n else 0) + (if q = j then 1 else 0)) := fun a ha => by
  rw [dot_add]
  have e1 : dot n (mv (rowsOf n n l) n a) (fun q => if q < n then pe (invD n l) (rowsOf n n l) q j n else 0) = toE (entry (rowsOf n n l) a j) := by
   have s1 : dot n (mv (rowsOf n n l) n a) (fun q => if q < n then pe (invD n l) (rowsOf n n l) q j n else 0) = sm n (fun q => sm n (fun x => toE (entry (rowsOf n n l) a q) * toE (entry (invD n l) q x) * toE (entry (rowsOf n n l) x j))) := sm_congr fun q hq => by
    show mv (rowsOf n n l) n a q * (if q < n then pe (invD n l) (rowsOf n n l) q j n else 0) = _
    rw [if_pos hq, mv_at hq]
    unfold pe
    rw [← sm_mul]
    exact sm_congr fun x _ => (mul_assoc _ _ _).symm
   rw [s1, sm_swap]
   have s2 : sm n (fun x => sm n (fun q => toE (entry (rowsOf n n l) a q) * toE (entry (invD n l) q x) * toE (entry (rowsOf n n l) x j))) = sm n (fun x => (if a = x then 1 else 0) * toE (entry (rowsOf n n l) x j)) := sm_congr fun x hx => by
    rw [sm_mul_right]
    congr 1
    exact right_inv hb hl hn hf ha hx
   rw [s2, sm_one (k := a) ha fun q hq hne => by rw [if_neg (fun e => hne e.symm), zero_mul], if_pos rfl, one_mul]
  have e2 : dot n (mv (rowsOf n n l) n a) (fun q => if q = j then 1 else 0) = toE (entry (rowsOf n n l) a j) := by
   have s1 : dot n (mv (rowsOf n n l) n a) (fun q => if q = j then 1 else 0) = sm n (fun q => mv (rowsOf n n l) n a q * (if q = j then 1 else 0)) := rfl
   rw [s1, sm_one (k := j) hj fun q hq hne => by rw [if_neg hne, mul_zero], if_pos rfl, mul_one, mv_at hj]
  rw [e1, e2, add_self]
 have hK2 := (ker_same (W := n) (x := fun q => (if q < n then pe (invD n l) (rowsOf n n l) q j n else 0) + (if q = j then 1 else 0)) hri.span).2 (by rw [hlen]; exact hK)
 have hall : ∀ q, q < n → ∃ i, i < (redL n n l).2.length ∧ q = pv (redL n n l).2 i := fun q hq => by
  have hP := red_full (shp_nil hb hl ⟨hn, hn⟩) hf n (Nat.le_refl _)
  refine ⟨q, by omega, ?_⟩
  show q = pv (redTo (rowsOf n n l) (List.replicate n []) n).2 q
  rw [hP]
  unfold pv
  rw [List.getD_eq_getElem?_getD, List.getElem?_map, List.getElem?_range hq]
  rfl
 have hz := hri.rr.ker_zero hK2 (fun q hq hn => by
  obtain ⟨i, hi, e⟩ := hall q hq
  exact absurd e (hn i hi)) i hi
 have hz2 : (if i < n then pe (invD n l) (rowsOf n n l) i j n else 0) + (if i = j then (1 : El) else 0) = 0 := hz
 rw [if_pos hi] at hz2
 exact add_cancel hz2
theorem prod_id {A B : List (List Int)} (h : ∀ i j, i < n → j < n → pe A B i j n = if i = j then 1 else 0) : prod A B n n n = idM n := by
 refine List.ext_getElem (by rw [prod_length]; unfold idM; rw [midU_len]) fun i h1 h2 => ?_
 rw [prod_length] at h1
 rw [getElem_row, getElem_row, prod_get h1, idM_get h1]
 refine List.ext_getElem (by rw [prow_length]; simp [unitRow]) fun j g1 g2 => ?_
 rw [prow_length] at g1
 rw [getElem_getD, getElem_getD, prow_get g1, unit_getD g1, h i j h1 g1]
 by_cases e : i = j
 ·rw [if_pos e, if_pos e.symm]; rfl
 ·rw [if_neg e, if_neg (fun x => e x.symm)]; rfl
end
end Go.Proofs.Ytccfbhnhedoggaa.M
namespace Go.Proofs.Ytccfbhnhedoggaa.M
open Go.RowKit Go.Proofs.YtccfbhnhedoggaaW.PrintWords Go.Proofs.YtccfbhnhedoggaaW.PrintLast Go.Proofs.YtccfbhnhedoggaaW.PrintMore Go.Proofs.Ytccfbhnhedoggaa.Q
set_option linter.unusedVariables false
theorem anchored_ok : recouplaw04_anchored.f = some true := by kernel_rfl
end Go.Proofs.Ytccfbhnhedoggaa.M
