/- Plain facts behind the law GaussStays: what its printed functions answer, as lists of whole numbers and as vectors over the field of 256 elements. -/
import Derived.Test.YtccfbhnhedoggaaV
import Derived.Laws.Bits64
import Derived.Laws.Bits64b
import Derived.RowKit
import GoSem.Claim
import Derived.Lib.TrailingZeros
import Derived.Test.YtccfbhnhedoggaaQx114
import Derived.Test.YtccfbhnhedoggaaQx116
import Derived.Test.YtccfbhnhedoggaaQx121
import Derived.Test.YtccfbhnhedoggaaQx122
import Derived.Test.YtccfbhnhedoggaaQx125
import Derived.Test.YtccfbhnhedoggaaQx155
import Derived.Test.YtccfbhnhedoggaaQx159
import Derived.Test.YtccfbhnhedoggaaQx168
import Derived.Test.YtccfbhnhedoggaaQx173
namespace Go.Proofs.Ytccfbhnhedoggaa.M
set_option linter.unusedVariables false
set_option linter.unusedSimpArgs false
open Go.RowKit Go.Proofs.YtccfbhnhedoggaaW.PrintWords Go.Proofs.YtccfbhnhedoggaaW.PrintMore
def Ends {α : Type} (g : Nat → Option α) (r : α) : Prop := ∃ K, ∀ k, K ≤ k → g k = some r
theorem Ends.of {α : Type} {g : Nat → Option α} {r : α} (h : ∀ k, g k = some r) : Ends g r := ⟨0, fun k _ => h k⟩
theorem Ends.const {α : Type} {x : Option α} {r : α} (h : x = some r) : Ends (fun _ => x) r := ⟨0, fun _ _ => h⟩
theorem Ends.exists {α : Type} {g : Nat → Option α} {r : α} (h : Ends g r) : ∃ k, g k = some r := by
 obtain ⟨K, h⟩ := h
 exact ⟨K, h K (Nat.le_refl _)⟩
theorem Ends.bind {α β : Type} {f : Nat → Option α} {h : Nat → α → Option β} {x : α} {r : β} (hf : Ends f x) (hh : Ends (fun k => h k x) r) : Ends (fun k => (f k).bind (h k)) r := by
 obtain ⟨K, hf⟩ := hf
 obtain ⟨L, hh⟩ := hh
 refine ⟨max K L, fun k hk => ?_⟩
 show (f k).bind (h k) = some r
 rw [hf k (by omega)]
 exact hh k (by omega)
theorem Ends.bind1 {α β : Type} {x : Option α} {h : Nat → α → Option β} {a : α} {r : β} (hx : x = some a) (hh : Ends (fun k => h k a) r) : Ends (fun k => x.bind (h k)) r := by
 subst hx
 exact hh
theorem Ends.pos {α : Type} {f g : Nat → Option α} {c : Prop} [Decidable c] {r : α} (hc : c) (hf : Ends f r) : Ends (fun k => if c then f k else g k) r := by
 simp only [if_pos hc]
 exact hf
theorem Ends.neg {α : Type} {f g : Nat → Option α} {c : Prop} [Decidable c] {r : α} (hc : ¬ c) (hg : Ends g r) : Ends (fun k => if c then f k else g k) r := by
 simp only [if_neg hc]
 exact hg
theorem Ends.succ {α : Type} {l body : Nat → Option α} {r : α} (hs : ∀ k, l (k + 1) = body k) (hb : Ends body r) : Ends l r := by
 obtain ⟨K, hb⟩ := hb
 refine ⟨K + 1, fun k hk => ?_⟩
 obtain ⟨j, rfl⟩ : ∃ j, k = j + 1 := ⟨k - 1, by omega⟩
 rw [hs]
 exact hb j (by omega)
theorem Ends.eq {α : Type} {g : Nat → Option α} {r r' : α} (h : Ends g r) (e : r = r') : Ends g r' := e ▸ h
theorem w64 {x : Int} (h0 : -9223372036854775808 ≤ x) (h1 : x ≤ 9223372036854775807) : wrap64 x = x := by unfold wrap64; omega
theorem wu64 {x : Int} (h0 : 0 ≤ x) (h1 : x < 18446744073709551616) : IntKind.u64.wrap x = x := by rw [IntKind.wrap_u64]; omega
theorem rd_nat (l : List Int) (i : Nat) : rd l (i : Int) = l.getD i 0 := by simp [rd]
theorem wf_i64 {n : Int} (h : (Lit.int .i64 n).wf = true) : -9223372036854775808 ≤ n ∧ n ≤ 9223372036854775807 := by
 simp [Lit.wf, IntKind.min, IntKind.max, IntKind.signed, IntKind.bits] at h
 omega
theorem wf_u8 {n : Int} (h : (Lit.int .u8 n).wf = true) : 0 ≤ n ∧ n ≤ 255 := by
 simp [Lit.wf, IntKind.min, IntKind.max, IntKind.signed, IntKind.bits] at h
 omega
end Go.Proofs.Ytccfbhnhedoggaa.M
namespace Go.Proofs.Ytccfbhnhedoggaa.M
structure El where
 v : BitVec 8
deriving DecidableEq
theorem El.eq {a b : El} (h : a.v = b.v) : a = b := by cases a; cases b; cases h; rfl
instance : Add El := ⟨fun a b => ⟨a.v ^^^ b.v⟩⟩
instance : Zero El := ⟨⟨0⟩⟩
instance : OfNat El 0 := ⟨⟨0⟩⟩
instance : OfNat El 1 := ⟨⟨1⟩⟩
theorem add_comm (a b : El) : a + b = b + a := El.eq (BitVec.xor_comm _ _)
theorem add_assoc (a b c : El) : a + b + c = a + (b + c) := El.eq (BitVec.xor_assoc _ _ _)
theorem add_self (a : El) : a + a = 0 := El.eq BitVec.xor_self
theorem add_zero (a : El) : a + 0 = a := El.eq BitVec.xor_zero
theorem zero_add (a : El) : 0 + a = a := El.eq BitVec.zero_xor
instance : Std.Commutative (α := El) (· + ·) := ⟨add_comm⟩
instance : Std.Associative (α := El) (· + ·) := ⟨add_assoc⟩
def xt (a : BitVec 8) : BitVec 8 := (a <<< 1) ^^^ (if a.getLsbD 7 then 0x1d#8 else 0#8)
theorem xt_xor (a b : BitVec 8) : xt (a ^^^ b) = xt a ^^^ xt b := by
 unfold xt
 rw [BitVec.shiftLeft_xor_distrib, BitVec.getLsbD_xor]
 cases a.getLsbD 7 <;> cases b.getLsbD 7 <;> simp <;> first | ac_rfl | skip
 ·rw [show a <<< 1 ^^^ 29#8 ^^^ (b <<< 1 ^^^ 29#8) = (a <<< 1 ^^^ b <<< 1) ^^^ (29#8 ^^^ 29#8) from by ac_rfl]
  simp
def xtn : Nat → BitVec 8 → BitVec 8
 | 0, a => a
 | n + 1, a => xt (xtn n a)
theorem xtn_xor : ∀ n a b, xtn n (a ^^^ b) = xtn n a ^^^ xtn n b
 | 0, _, _ => rfl
 | n + 1, a, b => by
  show xt (xtn n (a ^^^ b)) = _
  rw [xtn_xor n, xt_xor]
  rfl
theorem xtn_xt : ∀ n a, xtn n (xt a) = xt (xtn n a)
 | 0, _ => rfl
 | n + 1, a => by
  show xt (xtn n (xt a)) = _
  rw [xtn_xt n]
  rfl
theorem xtn_add : ∀ m n a, xtn (m + n) a = xtn m (xtn n a)
 | 0, n, a => by rw [Nat.zero_add]; rfl
 | m + 1, n, a => by
  rw [show m + 1 + n = (m + n) + 1 from by omega]
  show xt (xtn (m + n) a) = xt (xtn m (xtn n a))
  rw [xtn_add m]
def gmN (a b : BitVec 8) : Nat → BitVec 8
 | 0 => 0
 | n + 1 => gmN a b n ^^^ (if b.getLsbD n then xtn n a else 0)
def gm (a b : BitVec 8) : BitVec 8 := gmN a b 8
theorem gmN_xor_right (a b c : BitVec 8) : ∀ n, gmN a (b ^^^ c) n = gmN a b n ^^^ gmN a c n
 | 0 => by simp [gmN]
 | n + 1 => by
  show gmN a (b ^^^ c) n ^^^ _ = (gmN a b n ^^^ _) ^^^ (gmN a c n ^^^ _)
  rw [gmN_xor_right a b c n, BitVec.getLsbD_xor, show (gmN a b n ^^^ if b.getLsbD n = true then xtn n a else 0) ^^^ (gmN a c n ^^^ if c.getLsbD n = true then xtn n a else 0) = (gmN a b n ^^^ gmN a c n) ^^^ ((if b.getLsbD n = true then xtn n a else 0) ^^^ (if c.getLsbD n = true then xtn n a else 0)) from by ac_rfl]
  cases b.getLsbD n <;> cases c.getLsbD n <;> simp
theorem gmN_xor_left (a b c : BitVec 8) : ∀ n, gmN (a ^^^ b) c n = gmN a c n ^^^ gmN b c n
 | 0 => by simp [gmN]
 | n + 1 => by
  show gmN (a ^^^ b) c n ^^^ _ = (gmN a c n ^^^ _) ^^^ (gmN b c n ^^^ _)
  rw [gmN_xor_left a b c n, show (gmN a c n ^^^ if c.getLsbD n = true then xtn n a else 0) ^^^ (gmN b c n ^^^ if c.getLsbD n = true then xtn n b else 0) = (gmN a c n ^^^ gmN b c n) ^^^ ((if c.getLsbD n = true then xtn n a else 0) ^^^ (if c.getLsbD n = true then xtn n b else 0)) from by ac_rfl, xtn_xor]
  cases c.getLsbD n <;> simp
theorem gmN_xt (a b : BitVec 8) : ∀ n, gmN (xt a) b n = xt (gmN a b n)
 | 0 => show (0 : BitVec 8) = xt 0 by decide
 | n + 1 => by
  show gmN (xt a) b n ^^^ _ = xt (gmN a b n ^^^ _)
  rw [gmN_xt a b n, xt_xor, xtn_xt]
  cases b.getLsbD n
  ·have : xt (0 : BitVec 8) = 0 := by decide
   simp only [Bool.false_eq_true, if_false]
   rw [this]
  ·simp
theorem gm_one_left : ∀ b : BitVec 8, gm 1 b = b := by decide +kernel
theorem gm_one_right : ∀ a : BitVec 8, gm a 1 = a := by decide +kernel
def pw (n : Nat) : BitVec 8 := xtn n 1
theorem gm_pw : ∀ i b, gm (pw i) b = xtn i b
 | 0, b => gm_one_left b
 | i + 1, b => by
  show gmN (xt (pw i)) b 8 = _
  rw [gmN_xt]
  show xt (gm (pw i) b) = _
  rw [gm_pw i b]
  rfl
theorem gm_pw_pw (i j : Nat) : gm (pw i) (pw j) = pw (i + j) := by
 rw [gm_pw]
 unfold pw
 rw [xtn_add]
theorem pw_255 : pw 255 = 1 := by decide +kernel
theorem pw_add_255 (n : Nat) : pw (n + 255) = pw n := by
 unfold pw
 rw [xtn_add]
 exact congrArg _ pw_255
def lgFrom (a : BitVec 8) : Nat → Nat → BitVec 8 → Nat
 | 0, i, _ => i
 | f + 1, i, p => if p = a then i else lgFrom a f (i + 1) (xt p)
def lg (a : BitVec 8) : Nat := lgFrom a 254 0 1
theorem lgFrom_le (a : BitVec 8) : ∀ f i p, lgFrom a f i p ≤ i + f
 | 0, i, p => Nat.le_refl _
 | f + 1, i, p => by
  unfold lgFrom
  split
  ·omega
  ·have := lgFrom_le a f (i + 1) (xt p)
   omega
theorem lg_le (a : BitVec 8) : lg a ≤ 254 := by have := lgFrom_le a 254 0 1; unfold lg; omega
theorem pw_lg : ∀ a : BitVec 8, a ≠ 0 → pw (lg a) = a := by decide +kernel
theorem gm_zero_right (a : BitVec 8) : gm a 0 = 0 := by
 have := gmN_xor_right a 0 0 8
 simpa [gm] using this
theorem gm_zero_left (b : BitVec 8) : gm 0 b = 0 := by
 have := gmN_xor_left 0 0 b 8
 simpa [gm] using this
theorem gm_comm (a b : BitVec 8) : gm a b = gm b a := by
 by_cases ha : a = 0
 ·subst ha; rw [gm_zero_left, gm_zero_right]
 ·by_cases hb : b = 0
  ·subst hb; rw [gm_zero_left, gm_zero_right]
  ·rw [← pw_lg a ha, ← pw_lg b hb, gm_pw_pw, gm_pw_pw, Nat.add_comm]
theorem gm_assoc (a b c : BitVec 8) : gm (gm a b) c = gm a (gm b c) := by
 by_cases ha : a = 0
 ·subst ha; rw [gm_zero_left, gm_zero_left, gm_zero_left]
 ·by_cases hb : b = 0
  ·subst hb; rw [gm_zero_right, gm_zero_left, gm_zero_right]
  ·by_cases hc : c = 0
   ·subst hc; rw [gm_zero_right, gm_zero_right, gm_zero_right]
   ·rw [← pw_lg a ha, ← pw_lg b hb, ← pw_lg c hc, gm_pw_pw, gm_pw_pw, gm_pw_pw, gm_pw_pw, Nat.add_assoc]
def ginv (a : BitVec 8) : BitVec 8 := if a = 0 then 0 else pw (255 - lg a)
theorem gm_inv (a : BitVec 8) (h : a ≠ 0) : gm a (ginv a) = 1 := by
 unfold ginv
 have hl := lg_le a
 rw [if_neg h]
 conv => lhs; arg 1; rw [← pw_lg a h]
 rw [gm_pw_pw, show lg a + (255 - lg a) = 255 from by omega, pw_255]
instance : Mul El := ⟨fun a b => ⟨gm a.v b.v⟩⟩
def El.inv (a : El) : El := ⟨ginv a.v⟩
theorem mul_comm (a b : El) : a * b = b * a := El.eq (gm_comm _ _)
theorem mul_assoc (a b c : El) : a * b * c = a * (b * c) := El.eq (gm_assoc _ _ _)
instance : Std.Commutative (α := El) (· * ·) := ⟨mul_comm⟩
instance : Std.Associative (α := El) (· * ·) := ⟨mul_assoc⟩
theorem mul_one (a : El) : a * 1 = a := El.eq (gm_one_right _)
theorem one_mul (a : El) : 1 * a = a := El.eq (gm_one_left _)
theorem mul_zero (a : El) : a * 0 = 0 := El.eq (gm_zero_right _)
theorem zero_mul (a : El) : 0 * a = 0 := El.eq (gm_zero_left _)
theorem mul_add (a b c : El) : a * (b + c) = a * b + a * c := El.eq (gmN_xor_right _ _ _ 8)
theorem add_mul (a b c : El) : (a + b) * c = a * c + b * c := El.eq (gmN_xor_left _ _ _ 8)
theorem one_ne_zero : (1 : El) ≠ 0 := by decide
theorem v_ne {a : El} (h : a ≠ 0) : a.v ≠ 0 := fun e => h (El.eq e)
theorem mul_inv {a : El} (h : a ≠ 0) : a * a.inv = 1 := El.eq (gm_inv _ (v_ne h))
theorem inv_mul {a : El} (h : a ≠ 0) : a.inv * a = 1 := by rw [mul_comm, mul_inv h]
theorem inv_ne {a : El} (h : a ≠ 0) : a.inv ≠ 0 := fun e => by
 have := mul_inv h
 rw [e, mul_zero] at this
 exact one_ne_zero this.symm
theorem inv_unique {a b : El} (h : a * b = 1) : b = a.inv := by
 have ha : a ≠ 0 := fun e => by rw [e, zero_mul] at h; exact one_ne_zero h.symm
 rw [← one_mul b, ← inv_mul ha, mul_assoc, h, mul_one]
def sm : Nat → (Nat → El) → El
 | 0, _ => 0
 | n + 1, f => sm n f + f n
theorem sm_congr {f g : Nat → El} : ∀ {n}, (∀ i, i < n → f i = g i) → sm n f = sm n g
 | 0, _ => rfl
 | n + 1, h => by
  show sm n f + f n = sm n g + g n
  rw [sm_congr (fun i hi => h i (by omega)), h n (by omega)]
theorem sm_zero {f : Nat → El} {n : Nat} (h : ∀ i, i < n → f i = 0) : sm n f = 0 := by
 induction n with
 | zero => rfl
 | succ n ih =>
  show sm n f + f n = 0
  rw [ih (fun i hi => h i (by omega)), h n (by omega), add_zero]
theorem sm_add (f g : Nat → El) : ∀ n, sm n (fun i => f i + g i) = sm n f + sm n g
 | 0 => (add_zero 0).symm
 | n + 1 => by
  show sm n (fun i => f i + g i) + (f n + g n) = (sm n f + f n) + (sm n g + g n)
  rw [sm_add f g n]
  ac_rfl
theorem sm_mul (a : El) (f : Nat → El) : ∀ n, sm n (fun i => a * f i) = a * sm n f
 | 0 => (mul_zero a).symm
 | n + 1 => by
  show sm n (fun i => a * f i) + a * f n = a * (sm n f + f n)
  rw [sm_mul a f n, mul_add]
theorem sm_mul_right (a : El) (f : Nat → El) (n : Nat) : sm n (fun i => f i * a) = sm n f * a := by
 rw [mul_comm, ← sm_mul]
 exact sm_congr fun i _ => mul_comm _ _
theorem sm_swap (f : Nat → Nat → El) : ∀ m n, sm m (fun i => sm n (fun j => f i j)) = sm n (fun j => sm m (fun i => f i j))
 | 0, n => (sm_zero fun _ _ => rfl).symm
 | m + 1, n => by
  show sm m (fun i => sm n (fun j => f i j)) + sm n (fun j => f m j) = sm n (fun j => sm m (fun i => f i j) + f m j)
  rw [sm_swap f m n, sm_add]
theorem sm_one {f : Nat → El} {n k : Nat} (hk : k < n) (h : ∀ i, i < n → i ≠ k → f i = 0) : sm n f = f k := by
 induction n with
 | zero => omega
 | succ n ih =>
  show sm n f + f n = f k
  by_cases e : k = n
  ·subst e
   rw [sm_zero fun i hi => h i (by omega) (by omega), zero_add]
  ·rw [ih (by omega) (fun i hi hne => h i (by omega) hne), h n (by omega) (fun x => e x.symm), add_zero]
theorem sm_split (f : Nat → El) (m : Nat) : ∀ n, sm (m + n) f = sm m f + sm n (fun i => f (m + i))
 | 0 => (add_zero _).symm
 | n + 1 => by
  show sm (m + n) f + f (m + n) = sm m f + (sm n (fun i => f (m + i)) + f (m + n))
  rw [sm_split f m n, add_assoc]
theorem sm_take {f : Nat → El} {m n : Nat} (h : m ≤ n) (hz : ∀ i, m ≤ i → i < n → f i = 0) : sm n f = sm m f := by
 obtain ⟨d, rfl⟩ : ∃ d, n = m + d := ⟨n - m, by omega⟩
 rw [sm_split, sm_zero (n := d) fun i hi => hz _ (by omega) (by omega), add_zero]
end Go.Proofs.Ytccfbhnhedoggaa.M
namespace Go.Proofs.Ytccfbhnhedoggaa.M
open Go.RowKit Go.Proofs.YtccfbhnhedoggaaW.PrintWords Go.Proofs.YtccfbhnhedoggaaW.PrintLast Go.Proofs.YtccfbhnhedoggaaW.PrintMore Go.Proofs.Ytccfbhnhedoggaa.Q
theorem wi64 {x : Nat} (h : x < 2 ^ 63) : IntKind.i64.wrap (x : Int) = (x : Int) := by
  rw [show IntKind.i64.wrap (x : Int) = wrap64 (x : Int) from i64_w _]
  exact w64 (by omega) (by omega)
theorem toNat64 {a : Nat} (h : a < 2 ^ 63) : (BitVec.ofInt 64 (a : Int)).toNat = a := by
  rw [BitVec.ofInt_natCast, BitVec.toNat_ofNat]; exact Nat.mod_eq_of_lt (by omega)
theorem band64 {a b : Nat} (ha : a < 2 ^ 63) (hb : b < 2 ^ 63) : Go.bits .and .i64 (a : Int) (b : Int) = ((a &&& b : Nat) : Int) := by
  show IntKind.i64.wrap ((BitVec.ofInt 64 (a : Int) &&& BitVec.ofInt 64 (b : Int)).toNat : Int) = _
  rw [BitVec.toNat_and, toNat64 ha, toNat64 hb]
  exact wi64 (Nat.lt_of_le_of_lt Nat.and_le_left ha)
theorem bxor64 {a b : Nat} (ha : a < 2 ^ 63) (hb : b < 2 ^ 63) : Go.bits .xor .i64 (a : Int) (b : Int) = ((a ^^^ b : Nat) : Int) := by
  show IntKind.i64.wrap ((BitVec.ofInt 64 (a : Int) ^^^ BitVec.ofInt 64 (b : Int)).toNat : Int) = _
  rw [BitVec.toNat_xor, toNat64 ha, toNat64 hb]
  exact wi64 (Nat.xor_lt_two_pow ha hb)
theorem shr64 {n i : Nat} (hi : i ≤ 64) : shr .i64 (n : Int) (i : Int) = ((n >>> i : Nat) : Int) := by
  unfold shr
  have e : min (i : Int).toNat IntKind.i64.bits = i := by simp [IntKind.bits]; omega
  rw [e, Nat.shiftRight_eq_div_pow]
  simp
theorem shr8 {n i : Nat} (hi : i ≤ 8) : shr .u8 (n : Int) (i : Int) = ((n >>> i : Nat) : Int) := by
  unfold shr
  have e : min (i : Int).toNat IntKind.u8.bits = i := by simp [IntKind.bits]; omega
  rw [e, Nat.shiftRight_eq_div_pow]
  simp
theorem shl64 {n i : Nat} (hn : n < 2 ^ 16) (hi : i ≤ 16) : shl .i64 (n : Int) (i : Int) = ((n <<< i : Nat) : Int) := by
  unfold shl
  have e : min (i : Int).toNat IntKind.i64.bits = i := by simp [IntKind.bits]; omega
  rw [e, Nat.shiftLeft_eq]
  have h : n * 2 ^ i < 2 ^ 63 := Nat.lt_of_lt_of_le (Nat.mul_lt_mul_of_lt_of_le hn (Nat.pow_le_pow_right (by decide) hi) (by decide)) (by decide)
  rw [show ((n : Int) * 2 ^ i) = ((n * 2 ^ i : Nat) : Int) from by simp]
  exact wi64 h
theorem and_one (n i : Nat) : (((n >>> i) &&& 1 : Nat) : Int) = 1 ↔ n.testBit i = true := by
  unfold Nat.testBit
  rw [Nat.and_comm 1 (n >>> i), bne_iff_ne, Nat.and_one_is_mod]
  omega
theorem bit64 {n i : Nat} (hn : n < 2 ^ 63) (hi : i ≤ 64) : (Go.bits .and .i64 (shr .i64 (n : Int) (i : Int)) 1 = 1) ↔ n.testBit i = true := by
  rw [shr64 hi, show (1 : Int) = ((1 : Nat) : Int) from rfl, band64 (Nat.lt_of_le_of_lt (Nat.shiftRight_le _ _) hn) (by decide)]
  exact and_one n i
theorem bit8 {n i : Nat} (hn : n < 256) (hi : i ≤ 8) : (Go.bits .and .u8 (shr .u8 (n : Int) (i : Int)) 1 = 1) ↔ n.testBit i = true := by
  rw [shr8 hi]
  have h1 : n >>> i < 256 := Nat.lt_of_le_of_lt (Nat.shiftRight_le _ _) hn
  have e : Go.bits .and .u8 ((n >>> i : Nat) : Int) 1 = (((n >>> i) &&& 1 : Nat) : Int) := by
    show IntKind.u8.wrap ((BitVec.ofInt 8 ((n >>> i : Nat) : Int) &&& BitVec.ofInt 8 ((1 : Nat) : Int)).toNat : Int) = _
    rw [BitVec.toNat_and, BitVec.ofInt_natCast, BitVec.ofInt_natCast, BitVec.toNat_ofNat, BitVec.toNat_ofNat, Nat.mod_eq_of_lt (by omega : n >>> i < 2 ^ 8), show 1 % 2 ^ 8 = 1 from rfl]
    have : (n >>> i) &&& 1 ≤ 1 := Nat.and_le_right
    rw [IntKind.wrap_u8]
    omega
  rw [e]
  exact and_one n i
def acc (a b : Nat) : Nat → Nat
  | 0 => 0
  | i + 1 => if b.testBit i then acc a b i ^^^ (a <<< i) else acc a b i
def rst (i p : Nat) : Nat := if p.testBit (i + 8) then p ^^^ (285 <<< i) else p
def red : Nat → Nat → Nat
  | 0, p => p
  | i + 1, p => red i (rst i p)
theorem rst_xor (i x y : Nat) : rst i (x ^^^ y) = rst i x ^^^ rst i y := by
  unfold rst
  rw [Nat.testBit_xor]
  cases x.testBit (i + 8) <;> cases y.testBit (i + 8) <;> simp
  · rw [Nat.xor_assoc]
  · rw [Nat.xor_assoc, Nat.xor_comm y, Nat.xor_assoc]
  · rw [Nat.xor_assoc, Nat.xor_comm (285 <<< i) , Nat.xor_assoc, Nat.xor_self, Nat.xor_zero]
theorem red_xor : ∀ i x y, red i (x ^^^ y) = red i x ^^^ red i y
  | 0, _, _ => rfl
  | i + 1, x, y => by unfold red; rw [rst_xor, red_xor i]
theorem red_zero : ∀ i, red i 0 = 0
  | 0 => rfl
  | i + 1 => by unfold red rst; simp [red_zero i]
theorem red_shl : ∀ a : BitVec 8, ∀ i : Fin 8, red 7 (a.toNat <<< i.val) = (xtn i.val a).toNat := by decide +kernel
theorem acc_lt {a b : Nat} (ha : a < 256) : ∀ i, i ≤ 8 → acc a b i < 2 ^ 16
  | 0, _ => by unfold acc; decide
  | i + 1, h => by
    unfold acc
    split
    · refine Nat.xor_lt_two_pow (acc_lt ha i (by omega)) ?_
      rw [Nat.shiftLeft_eq]
      exact Nat.lt_of_lt_of_le (Nat.mul_lt_mul_of_lt_of_le ha (Nat.pow_le_pow_right (by decide) (by omega : i ≤ 8)) (by decide)) (by decide)
    · exact acc_lt ha i (by omega)
theorem red_acc (a b : BitVec 8) : ∀ i, i ≤ 8 → red 7 (acc a.toNat b.toNat i) = (gmN a b i).toNat
  | 0, _ => by unfold acc gmN; rw [red_zero]; rfl
  | i + 1, h => by
    unfold acc gmN
    have e : b.getLsbD i = b.toNat.testBit i := rfl
    rw [e]
    split
    · rw [red_xor, red_acc a b i (by omega), red_shl a ⟨i, by omega⟩]
      simp
    · rw [red_acc a b i (by omega)]
      simp
theorem rst_lt {i p : Nat} (hp : p < 2 ^ 16) (hi : i ≤ 7) : rst i p < 2 ^ 16 := by
  unfold rst
  split
  · refine Nat.xor_lt_two_pow hp ?_
    rw [Nat.shiftLeft_eq]
    exact Nat.lt_of_lt_of_le (Nat.mul_lt_mul_of_lt_of_le (by decide : 285 < 512) (Nat.pow_le_pow_right (by decide) hi) (by decide)) (by decide)
  · exact hp
theorem Mul_l1 : ∀ i p : Nat, i ≤ 7 → p < 2 ^ 16 → Ends (fun k => recoupref01_Mul.l1 k (p : Int) ((i : Int) + 7)) (((red i p) % 256 : Nat) : Int)
  | 0, p, _, _ => Ends.succ (fun k => by rw [recoupref01_Mul.l1]) (Ends.neg (by omega) (Ends.const (by unfold red; simp)))
  | i + 1, p, hi, hp => by
    refine Ends.succ (fun k => by rw [recoupref01_Mul.l1]) (Ends.pos (by omega) ?_)
    have e0 : ((i + 1 : Nat) : Int) + 7 = ((i + 8 : Nat) : Int) := by omega
    have e1 : IntKind.u64.wrap (((i + 1 : Nat) : Int) + 7) = ((i + 8 : Nat) : Int) := by rw [e0]; exact wu64 (by omega) (by omega)
    have e2 : wrap64 (((i + 1 : Nat) : Int) + 7 - 1) = (i : Int) + 7 := by rw [w64 (by omega) (by omega)]; omega
    have e3 : IntKind.u64.wrap (wrap64 (((i + 1 : Nat) : Int) + 7 - 8)) = (i : Int) := by rw [w64 (by omega) (by omega), wu64 (by omega) (by omega)]; omega
    rw [e1, e2, e3]
    refine Ends.pos (Int.natCast_nonneg _) ?_
    have hb := bit64 (n := p) (i := i + 8) (by omega) (by omega)
    by_cases h : p.testBit (i + 8) = true
    · refine Ends.pos (hb.2 h) (Ends.pos (Int.natCast_nonneg _) ?_)
      have e4 : Go.bits .xor .i64 (p : Int) (shl .i64 285 (i : Int)) = ((rst i p : Nat) : Int) := by
        rw [show (285 : Int) = ((285 : Nat) : Int) from rfl, shl64 (by decide) (by omega), bxor64 (by omega) (by
          rw [Nat.shiftLeft_eq]
          exact Nat.lt_of_lt_of_le (Nat.mul_lt_mul_of_lt_of_le (by decide : 285 < 512) (Nat.pow_le_pow_right (by decide) (by omega : i ≤ 7)) (by decide)) (by decide))]
        unfold rst
        rw [if_pos h]
      rw [e4]
      exact Mul_l1 i (rst i p) (by omega) (rst_lt hp (by omega))
    · refine Ends.neg (fun e => h (hb.1 e)) ?_
      have e4 : rst i p = p := by unfold rst; rw [if_neg h]
      have := Mul_l1 i p (by omega) hp
      unfold red
      rw [e4]
      exact this
theorem Mul_l0 {a b : Nat} (ha : a < 256) (hb : b < 256) : ∀ n i : Nat, i + n = 8 → Ends (fun k => recoupref01_Mul.l0 k (a : Int) (b : Int) ((acc a b i : Nat) : Int) (i : Int)) (((red 7 (acc a b 8)) % 256 : Nat) : Int)
  | 0, i, h => by
    obtain rfl : i = 8 := by omega
    refine Ends.succ (fun k => by rw [recoupref01_Mul.l0]) (Ends.neg (by decide) ?_)
    exact Mul_l1 7 _ (by omega) (acc_lt ha 8 (Nat.le_refl _))
  | n + 1, i, h => by
    refine Ends.succ (fun k => by rw [recoupref01_Mul.l0]) (Ends.pos (by omega) ?_)
    have e1 : IntKind.u64.wrap (i : Int) = (i : Int) := wu64 (by omega) (by omega)
    have e2 : wrap64 ((i : Int) + 1) = ((i + 1 : Nat) : Int) := by rw [w64 (by omega) (by omega)]; omega
    rw [e1, e2]
    refine Ends.pos (Int.natCast_nonneg _) ?_
    have hbt := bit8 (n := b) (i := i) hb (by omega)
    have ih := Mul_l0 ha hb n (i + 1) (by omega)
    by_cases h1 : b.testBit i = true
    · refine Ends.pos (hbt.2 h1) ?_
      have e4 : Go.bits .xor .i64 ((acc a b i : Nat) : Int) (shl .i64 (wrap64 (a : Int)) (i : Int)) = ((acc a b (i + 1) : Nat) : Int) := by
        rw [w64 (by omega) (by omega), shl64 (by omega) (by omega), bxor64 (by have := acc_lt (b := b) ha i (by omega); omega) (by
          rw [Nat.shiftLeft_eq]
          exact Nat.lt_of_lt_of_le (Nat.mul_lt_mul_of_lt_of_le ha (Nat.pow_le_pow_right (by decide) (by omega : i ≤ 8)) (by decide)) (by decide))]
        conv => rhs; rw [acc]
        rw [if_pos h1]
      rw [e4]
      exact ih
    · refine Ends.neg (fun e => h1 (hbt.1 e)) ?_
      have e4 : acc a b (i + 1) = acc a b i := by conv => lhs; rw [acc]
                                                  rw [if_neg h1]
      rw [e4] at ih
      exact ih
def toE (x : Int) : El := ⟨BitVec.ofInt 8 x⟩
def ofE (e : El) : Int := ((e.v.toNat : Nat) : Int)
theorem ofE_toE {x : Int} (h : 0 ≤ x ∧ x < 256) : ofE (toE x) = x := by
  obtain ⟨n, rfl⟩ := Int.eq_ofNat_of_zero_le h.1
  unfold ofE toE
  rw [BitVec.ofInt_natCast, BitVec.toNat_ofNat, Nat.mod_eq_of_lt (by omega)]
theorem toE_inj {x y : Int} (hx : 0 ≤ x ∧ x < 256) (hy : 0 ≤ y ∧ y < 256) (h : toE x = toE y) : x = y := by rw [← ofE_toE hx, ← ofE_toE hy, h]
theorem Mul_ends {a b : Int} (ha : 0 ≤ a ∧ a < 256) (hb : 0 ≤ b ∧ b < 256) : Ends (fun k => recoupref01_Mul.f k a b) (ofE (toE a * toE b)) := by
  obtain ⟨x, rfl⟩ := Int.eq_ofNat_of_zero_le ha.1
  obtain ⟨y, rfl⟩ := Int.eq_ofNat_of_zero_le hb.1
  have hx : x < 256 := by omega
  have hy : y < 256 := by omega
  have h := Mul_l0 hx hy 8 0 rfl
  have e := red_acc (BitVec.ofNat 8 x) (BitVec.ofNat 8 y) 8 (Nat.le_refl _)
  rw [BitVec.toNat_ofNat, BitVec.toNat_ofNat, Nat.mod_eq_of_lt (by omega : x < 2 ^ 8), Nat.mod_eq_of_lt (by omega : y < 2 ^ 8)] at e
  refine Ends.eq h ?_
  rw [e, Nat.mod_eq_of_lt (gmN _ _ 8).isLt]
  unfold ofE toE
  rw [BitVec.ofInt_natCast, BitVec.ofInt_natCast]
  rfl
theorem xor_el {a b : Int} : toE (Go.bits .xor .u8 a b) = toE a + toE b := by
  refine El.eq ?_
  show BitVec.ofInt 8 (IntKind.u8.wrap ((BitVec.ofInt 8 a ^^^ BitVec.ofInt 8 b).toNat : Int)) = BitVec.ofInt 8 a ^^^ BitVec.ofInt 8 b
  have h := (BitVec.ofInt 8 a ^^^ BitVec.ofInt 8 b).isLt
  rw [IntKind.wrap_u8, Int.emod_eq_of_lt (by omega) (by omega), BitVec.ofInt_natCast, BitVec.ofNat_toNat, BitVec.setWidth_eq]
theorem xor_range (a b : Int) : 0 ≤ Go.bits .xor .u8 a b ∧ Go.bits .xor .u8 a b < 256 := by
  show 0 ≤ IntKind.u8.wrap _ ∧ IntKind.u8.wrap _ < 256
  rw [IntKind.wrap_u8]
  omega
end Go.Proofs.Ytccfbhnhedoggaa.M
namespace Go.Proofs.Ytccfbhnhedoggaa.M
open Go.RowKit Go.Proofs.YtccfbhnhedoggaaW.PrintWords Go.Proofs.YtccfbhnhedoggaaW.PrintLast Go.Proofs.YtccfbhnhedoggaaW.PrintMore Go.Proofs.Ytccfbhnhedoggaa.Q
theorem exps_ok : (field_build.st 255).1 = (List.range 510).map fun i => ((pw i).toNat : Int) := by decide +kernel
theorem logs_ok : ((List.zip (field_build.st 255).2.1 (List.range 256)).all fun x => x.2 == 0 || (pw x.1.toNat).toNat == x.2) = true := by decide +kernel
theorem exp_el {n : Nat} (h : n < 510) : toE (field_build.exp n) = ⟨pw n⟩ := by
 unfold field_build.exp
 rw [exps_ok, List.getD_eq_getElem?_getD, List.getElem?_map, List.getElem?_range h]
 refine El.eq ?_
 unfold toE
 simp [BitVec.ofInt_natCast]
theorem log_el {a : Int} (h : 0 ≤ a ∧ a < 256) (h0 : a ≠ 0) : (⟨pw (field_build.log a.toNat).toNat⟩ : El) = toE a := by
 obtain ⟨n, rfl⟩ := Int.eq_ofNat_of_zero_le h.1
 have hn : n < 256 := by omega
 have hl : n < (field_build.st 255).2.1.length := by rw [(field_build.st_length 255).2]; exact hn
 have hz : n < (List.zip (field_build.st 255).2.1 (List.range 256)).length := by rw [List.length_zip, List.length_range]; omega
 have := List.all_eq_true.1 logs_ok _ (List.getElem_mem hz)
 rw [List.getElem_zip, List.getElem_range] at this
 simp only [Bool.or_eq_true, beq_iff_eq] at this
 rcases this with e | e
 ·exact absurd (by rw [e]; rfl) h0
 ·refine El.eq ?_
  unfold field_build.log toE
  rw [Int.toNat_natCast, List.getD_eq_getElem?_getD, List.getElem?_eq_getElem hl, Option.getD_some, BitVec.ofInt_natCast]
  refine BitVec.eq_of_toNat_eq ?_
  rw [e, BitVec.toNat_ofNat, Nat.mod_eq_of_lt (by omega)]
theorem toE_zero : toE 0 = 0 := rfl
theorem toE_ne {a : Int} (h : 0 ≤ a ∧ a < 256) (h0 : a ≠ 0) : toE a ≠ 0 := fun e => h0 (toE_inj h (by omega) (e.trans toE_zero.symm))
theorem mulT_el {a b : Int} (ha : 0 ≤ a ∧ a < 256) (hb : 0 ≤ b ∧ b < 256) : toE (mulT a b) = toE a * toE b := by
 unfold mulT
 by_cases h1 : a = 0
 ·rw [if_pos h1, h1, toE_zero, zero_mul]
 ·rw [if_neg h1]
  by_cases h2 : b = 0
  ·rw [if_pos h2, h2, toE_zero, mul_zero]
  ·rw [if_neg h2]
   obtain ⟨x0, x1⟩ := field_build.log_range (i := a.toNat) (by omega)
   obtain ⟨y0, y1⟩ := field_build.log_range (i := b.toNat) (by omega)
   rw [exp_el (by omega), ← log_el ha h1, ← log_el hb h2, show (field_build.log a.toNat + field_build.log b.toNat).toNat = (field_build.log a.toNat).toNat + (field_build.log b.toNat).toNat from by omega]
   generalize (field_build.log a.toNat).toNat = i
   generalize (field_build.log b.toNat).toNat = j
   exact El.eq (gm_pw_pw i j).symm
theorem exp_range {n : Nat} (h : n < 510) : 0 ≤ field_build.exp n ∧ field_build.exp n < 256 := by
 unfold field_build.exp
 rw [exps_ok, List.getD_eq_getElem?_getD, List.getElem?_map, List.getElem?_range h]
 have := (pw n).isLt
 simp
 omega
theorem mulT_range {a b : Int} (ha : 0 ≤ a ∧ a < 256) (hb : 0 ≤ b ∧ b < 256) : 0 ≤ mulT a b ∧ mulT a b < 256 := by
 unfold mulT
 split
 ·omega
 ·split
  ·omega
  ·obtain ⟨x0, x1⟩ := field_build.log_range (i := a.toNat) (by omega)
   obtain ⟨y0, y1⟩ := field_build.log_range (i := b.toNat) (by omega)
   exact exp_range (by omega)
theorem mulT_ends {a b : Int} (ha : 0 ≤ a ∧ a < 256) (hb : 0 ≤ b ∧ b < 256) : Ends (fun k => recoupref01_Mul.f k a b) (mulT a b) := by
 refine Ends.eq (Mul_ends ha hb) ?_
 rw [← mulT_el ha hb, ofE_toE (mulT_range ha hb)]
theorem pw_255k : ∀ k, pw (255 * k) = 1
 | 0 => rfl
 | k + 1 => by rw [Nat.mul_succ, pw_add_255, pw_255k k]
theorem invT_el {a : Int} (ha : 0 ≤ a ∧ a < 256) (h0 : a ≠ 0) : toE (invT a) = (toE a).inv := by
 have e : field_bounded.f (-1) = some 254 := by kernel_rfl
 have e2 : field_Inv.f a = some (field_build.exp ((field_build.log a.toNat * 254) % 255).toNat, 0) := by
  unfold field_Inv.f field_Pow.f
  rw [if_neg (by omega), if_neg h0, if_pos ha, e]
  simp
 have e3 : invT a = field_build.exp ((field_build.log a.toNat * 254) % 255).toNat := by unfold invT; rw [e2, Option.getD_some]
 rw [e3]
 obtain ⟨x0, x1⟩ := field_build.log_range (i := a.toNat) (by omega)
 rw [exp_el (by omega), ← log_el ha h0]
 obtain ⟨n, hn⟩ := Int.eq_ofNat_of_zero_le x0
 rw [hn, Int.toNat_natCast]
 refine inv_unique (El.eq ?_)
 show gm (pw n) (pw _) = 1
 rw [gm_pw_pw]
 have : n + (((n : Int) * 254) % 255).toNat = 255 * ((n + (((n : Int) * 254) % 255).toNat) / 255) := by omega
 rw [this]
 exact pw_255k _
theorem invT_range {a : Int} (ha : 0 ≤ a ∧ a < 256) (h0 : a ≠ 0) : 0 ≤ invT a ∧ invT a < 256 := (inv_some ha h0).2
end Go.Proofs.Ytccfbhnhedoggaa.M
namespace Go.Proofs.Ytccfbhnhedoggaa.M
open Go.RowKit Go.Proofs.YtccfbhnhedoggaaW.PrintWords Go.Proofs.YtccfbhnhedoggaaW.PrintLast Go.Proofs.YtccfbhnhedoggaaW.PrintMore Go.Proofs.Ytccfbhnhedoggaa.Q
def U (M : List (List Int)) (c : Nat) : Prop := ∀ r ∈ M, r.length = c
theorem U.cons {r : List Int} {M : List (List Int)} {c : Nat} (h : U (r :: M) c) : r.length = c ∧ U M c := ⟨h r (List.mem_cons_self ..), fun x hx => h x (List.mem_cons_of_mem _ hx)⟩
theorem U.set {M : List (List Int)} {c k : Nat} {r : List Int} (h : U M c) (hr : r.length = c) : U (M.set k r) c := fun x hx => by
  rcases List.mem_or_eq_of_mem_set hx with hx | rfl
  · exact h x hx
  · exact hr
theorem U.at {M : List (List Int)} {c i : Nat} (h : U M c) (hi : i < M.length) : (M.getD i []).length = c := by
  rw [List.getD_eq_getElem?_getD, List.getElem?_eq_getElem hi]
  exact h _ (List.getElem_mem hi)
theorem flat_len {c : Nat} : ∀ {M : List (List Int)}, U M c → M.flatten.length = M.length * c
  | [], _ => by simp
  | r :: M, h => by
    rw [List.flatten_cons, List.length_append, flat_len h.cons.2, h.cons.1, List.length_cons, Nat.succ_mul, Nat.add_comm]
theorem flat_drop {c : Nat} : ∀ {M : List (List Int)} (i : Nat), U M c → M.flatten.drop (i * c) = (M.drop i).flatten
  | [], i, _ => by simp
  | r :: M, 0, h => by simp
  | r :: M, i + 1, h => by
    rw [List.flatten_cons, Nat.succ_mul, Nat.add_comm, List.drop_succ_cons, ← flat_drop i h.cons.2]
    have := h.cons.1
    rw [List.drop_append, List.drop_eq_nil_of_le (by omega), List.nil_append, this, Nat.add_sub_cancel_left]
theorem flat_take {c : Nat} : ∀ {M : List (List Int)} (i : Nat), U M c → M.flatten.take (i * c) = (M.take i).flatten
  | [], i, _ => by simp
  | r :: M, 0, h => by simp
  | r :: M, i + 1, h => by
    rw [List.flatten_cons, Nat.succ_mul, Nat.add_comm, List.take_succ_cons, List.flatten_cons, ← flat_take i h.cons.2]
    have := h.cons.1
    rw [List.take_append, List.take_of_length_le (by omega), this, Nat.add_sub_cancel_left]
theorem flat_get {c i j : Nat} {M : List (List Int)} (h : U M c) (hi : i < M.length) (hj : j < c) : M.flatten.getD (i * c + j) 0 = entry M i j := by
  have e : M.flatten.getD (i * c + j) 0 = (M.flatten.drop (i * c)).getD j 0 := by
    rw [List.getD_eq_getElem?_getD, List.getD_eq_getElem?_getD, List.getElem?_drop]
  have hl := h.at hi
  rw [e, flat_drop i h, List.drop_eq_getElem_cons hi, List.flatten_cons]
  unfold entry
  rw [List.getD_eq_getElem?_getD, List.getD_eq_getElem?_getD, List.getD_eq_getElem?_getD, List.getElem?_eq_getElem hi, Option.getD_some]
  rw [List.getD_eq_getElem?_getD, List.getElem?_eq_getElem hi, Option.getD_some] at hl
  rw [List.getElem?_append_left (by omega)]
theorem flat_row {c i : Nat} {M : List (List Int)} (h : U M c) (hi : i < M.length) : (M.flatten.drop (i * c)).take c = M.getD i [] := by
  have hl := h.at hi
  rw [flat_drop i h, List.drop_eq_getElem_cons hi, List.flatten_cons]
  rw [List.getD_eq_getElem?_getD, List.getElem?_eq_getElem hi, Option.getD_some] at hl ⊢
  rw [List.take_append, List.take_of_length_le (by omega), hl, Nat.sub_self, List.take_zero, List.append_nil]
theorem flat_splice {c k : Nat} {M : List (List Int)} {r : List Int} (h : U M c) (hk : k < M.length) (hr : r.length = c) : splice M.flatten (k * c) r = (M.set k r).flatten := by
  unfold splice
  rw [flat_take k h, hr, show k * c + c = (k + 1) * c from (Nat.succ_mul k c).symm, flat_drop (k + 1) h, List.set_eq_take_append_cons_drop, if_pos hk, List.flatten_append, List.flatten_cons]
theorem flat_set {c k j : Nat} {M : List (List Int)} (v : Int) (h : U M c) (hk : k < M.length) (hj : j < c) : M.flatten.set (k * c + j) v = (M.set k ((M.getD k []).set j v)).flatten := by
  have hl := h.at hk
  rw [← flat_splice h hk (by rw [List.length_set]; exact hl)]
  unfold splice
  rw [List.length_set, hl, List.set_eq_take_append_cons_drop]
  have hlen : k * c + j < M.flatten.length := by
    rw [flat_len h]
    have : (k + 1) * c ≤ M.length * c := Nat.mul_le_mul_right _ hk
    rw [Nat.succ_mul] at this
    omega
  rw [if_pos hlen, List.set_eq_take_append_cons_drop, if_pos (by omega), ← flat_row h hk, List.take_take, Nat.min_eq_left (by omega), List.append_assoc, List.cons_append]
  have e1 : M.flatten.take (k * c + j) = M.flatten.take (k * c) ++ (M.flatten.drop (k * c)).take j := by
    rw [List.take_add]
  have e2 : ((M.flatten.drop (k * c)).take c).drop (j + 1) ++ M.flatten.drop (k * c + c) = M.flatten.drop (k * c + j + 1) := by
    rw [List.drop_take, List.drop_drop, ← List.drop_drop (i := c), ← List.drop_drop (i := j + 1)]
    rw [show M.flatten.drop (k * c + j + 1) = ((M.flatten.drop (k * c)).drop (j + 1)) from by rw [List.drop_drop]; congr 1, show (M.flatten.drop (k * c)).drop c = ((M.flatten.drop (k * c)).drop (j + 1)).drop (c - (j + 1)) from by simp only [List.drop_drop]; congr 1; omega]
    rw [List.take_append_drop]
  rw [e1, ← e2]
  simp [List.append_assoc]
theorem flat_rowsOf {c : Nat} : ∀ (r : Nat) (l : List Int), l.length = r * c → (rowsOf c r l).flatten = l ∧ U (rowsOf c r l) c := by
  intro r
  have key : ∀ r (l : List Int), l.length = r * c → ((List.range r).map fun i => (l.drop (i * c)).take c).flatten = l := by
    intro r
    induction r with
    | zero => intro l hl; rw [Nat.zero_mul] at hl; simp [List.length_eq_zero_iff.1 hl]
    | succ r ih =>
      intro l hl
      rw [Nat.succ_mul] at hl
      rw [List.range_succ, List.map_append, List.flatten_append]
      have := ih (l.take (r * c)) (by rw [List.length_take]; omega)
      have e : ((List.range r).map fun i => (l.drop (i * c)).take c) = ((List.range r).map fun i => ((l.take (r * c)).drop (i * c)).take c) := by
        refine List.map_congr_left fun i hi => ?_
        have hir : i < r := by simpa using hi
        have : (i + 1) * c ≤ r * c := Nat.mul_le_mul_right _ hir
        rw [Nat.succ_mul] at this
        rw [List.drop_take, List.take_take, Nat.min_eq_left (by omega)]
      rw [e, this]
      simp only [List.map_cons, List.map_nil, List.flatten_cons, List.flatten_nil, List.append_nil]
      rw [List.take_of_length_le (l := l.drop (r * c)) (by rw [List.length_drop]; omega), List.take_append_drop]
  intro l hl
  refine ⟨key r l hl, fun x hx => ?_⟩
  obtain ⟨i, hi, rfl⟩ := List.mem_map.1 hx
  have hir : i < r := by simpa using hi
  have : (i + 1) * c ≤ r * c := Nat.mul_le_mul_right _ hir
  rw [Nat.succ_mul] at this
  rw [List.length_take, List.length_drop]
  omega
theorem idx_small {i c j : Nat} (hi : i ≤ 64) (hc : c ≤ 64) (hj : j ≤ 64) : wrap64 ((i : Int) * (c : Int)) = ((i * c : Nat) : Int) ∧ wrap64 (wrap64 ((i : Int) * (c : Int)) + (j : Int)) = ((i * c + j : Nat) : Int) := by
  have hm : i * c ≤ 64 * 64 := Nat.mul_le_mul hi hc
  rw [← Int.natCast_mul]
  generalize i * c = p at *
  rw [w64 (by omega) (by omega), w64 (by omega) (by omega)]
  exact ⟨rfl, by omega⟩
theorem idx_lt {i c j n : Nat} (hi : i < n) (hj : j < c) : i * c + j < n * c := by
  have : (i + 1) * c ≤ n * c := Nat.mul_le_mul_right _ hi
  rw [Nat.succ_mul] at this
  omega
theorem At_eq {c i j : Nat} {M : List (List Int)} (h : U M c) (hm : M.length ≤ 64) (hc : c ≤ 64) (hi : i < M.length) (hj : j < c) (a : Int) : recoupref03_At.f a (c : Int) M.flatten (i : Int) (j : Int) = some (entry M i j) := by
  obtain ⟨_, e⟩ := idx_small (i := i) (c := c) (j := j) (by omega) hc (by omega)
  have hl := idx_lt hi hj
  unfold recoupref03_At.f
  rw [e, flat_len h, if_pos (Int.natCast_nonneg _), if_pos (Int.ofNat_lt.2 hl), rd_nat, flat_get h hi hj]
theorem Right_true {c : Nat} {M : List (List Int)} (h : U M c) (hm : M.length ≤ 64) (hc : c ≤ 64) : recoupref03_Right.f (M.length : Int) (c : Int) M.flatten = some true := by
  obtain ⟨e, _⟩ := idx_small (i := M.length) (c := c) (j := 0) hm hc (by omega)
  unfold recoupref03_Right.f
  rw [if_pos (by omega), if_pos (by omega), if_pos (by omega), if_pos (by omega), e, flat_len h]
  simp
end Go.Proofs.Ytccfbhnhedoggaa.M
namespace Go.Proofs.Ytccfbhnhedoggaa.M
open Go.RowKit Go.Proofs.YtccfbhnhedoggaaW.PrintWords Go.Proofs.YtccfbhnhedoggaaW.PrintLast Go.Proofs.YtccfbhnhedoggaaW.PrintMore Go.Proofs.Ytccfbhnhedoggaa.Q
set_option linter.unusedVariables false
theorem U.of {M D : List (List Int)} {cols wd : Nat} (h : Shp M D cols wd) : U M cols := fun r hr => by
 obtain ⟨i, hi, rfl⟩ := List.getElem_of_mem hr
 have := h.eM i hi
 rwa [List.getD_eq_getElem?_getD, List.getElem?_eq_getElem hi, Option.getD_some] at this
theorem mid_set {g r : List Int} {l : Nat} (hg : l < g.length) (hr : g.length = r.length) : (g.take l ++ r.drop l).set l (g.getD l 0) = g.take (l + 1) ++ r.drop (l + 1) := by
 rw [List.set_append_right _ _ (by rw [List.length_take]; omega), List.length_take, Nat.min_eq_left (by omega), Nat.sub_self, List.drop_eq_getElem_cons (by omega : l < r.length), List.set_cons_zero, List.take_succ_eq_append_getElem hg, List.append_assoc, List.getD_eq_getElem?_getD, List.getElem?_eq_getElem hg]
 rfl
end Go.Proofs.Ytccfbhnhedoggaa.M
namespace Go.Proofs.Ytccfbhnhedoggaa.M
open Go.RowKit Go.Proofs.YtccfbhnhedoggaaW.PrintWords Go.Proofs.YtccfbhnhedoggaaW.PrintLast Go.Proofs.YtccfbhnhedoggaaW.PrintMore Go.Proofs.Ytccfbhnhedoggaa.Q
set_option linter.unusedVariables false
theorem i64_succ {i : Nat} (h : i ≤ 4096) : wrap64 ((i : Int) + 1) = ((i + 1 : Nat) : Int) := by rw [w64 (by omega) (by omega)]; omega
theorem getD_set_self {α : Type} {l : List α} {i : Nat} {v d : α} (h : i < l.length) : (l.set i v).getD i d = v := by
 rw [List.getD_eq_getElem?_getD, List.getElem?_set_self h, Option.getD_some]
theorem getD_set_ne {α : Type} {l : List α} {i j : Nat} {v d : α} (h : i ≠ j) : (l.set i v).getD j d = l.getD j d := by
 rw [List.getD_eq_getElem?_getD, List.getD_eq_getElem?_getD, List.getElem?_set_ne h]
theorem set_getD_self {α : Type} {l : List α} {i : Nat} {d : α} (h : i < l.length) : l.set i (l.getD i d) = l := by
 rw [List.getD_eq_getElem?_getD, List.getElem?_eq_getElem h, Option.getD_some, List.set_getElem_self]
theorem rows_bytes {M : List (List Int)} (h : rowsB M = true) (i : Nat) : bytesB (M.getD i []) = true := rowsB_at h i
end Go.Proofs.Ytccfbhnhedoggaa.M
namespace Go.Proofs.Ytccfbhnhedoggaa.M
open Go.RowKit Go.Proofs.YtccfbhnhedoggaaW.PrintWords Go.Proofs.YtccfbhnhedoggaaW.PrintLast Go.Proofs.YtccfbhnhedoggaaW.PrintMore Go.Proofs.Ytccfbhnhedoggaa.Q
set_option linter.unusedVariables false
theorem Right_eq {a b : Int} {l : List Int} (ha : -9223372036854775808 ≤ a ∧ a ≤ 9223372036854775807) : recoupref03_Right.f a b l = matrix_Right.f a b l := by
 unfold recoupref03_Right.f matrix_Right.f matrix_side.f
 by_cases h1 : a ≥ 0 <;> by_cases h2 : a ≤ 64 <;> by_cases h3 : b ≥ 0 <;> by_cases h4 : b ≤ 64 <;> simp only [h1, h2, h3, h4, if_true, if_false, Option.bind_some, decide_true, decide_false, Bool.false_eq_true]
theorem Right_cases (a b : Int) (l : List Int) : recoupref03_Right.f a b l = some true ∨ recoupref03_Right.f a b l = some false := by
 unfold recoupref03_Right.f
 split
 ·split
  ·split
   ·split
    ·by_cases h : ((l.length : Int) == wrap64 (a * b)) = true
     ·left; rw [h]
     ·right; rw [Bool.not_eq_true] at h; rw [h]
    ·exact .inr rfl
   ·exact .inr rfl
  ·exact .inr rfl
 ·exact .inr rfl
theorem bytesB_wf {l : List Int} (h : ∀ x ∈ l, (Lit.int .u8 x).wf = true) : bytesB l = true := by
 unfold bytesB
 rw [List.all_eq_true]
 intro x hx
 have := wf_u8 (h x hx)
 simp
 omega
theorem Copy_eq {a b : Int} {l : List Int} (h : l.length ≤ 4096) : recoupref03_Copy.f a b l = some (a, b, l) := by
 unfold recoupref03_Copy.f recoupref01_Copy.f
 rw [Option.bind_some, if_pos (by rw [List.length_nil]; omega)]
 rfl
theorem right_nat {a b : Int} {l : List Int} (h : matrix_Right.f a b l = some true) : ∃ r c : Nat, a = (r : Int) ∧ b = (c : Int) ∧ r ≤ 64 ∧ c ≤ 64 ∧ l.length = r * c ∧ l.length ≤ 4096 := by
 obtain ⟨h1, h2, h3, h4, h5⟩ := right_true h
 obtain ⟨r, rfl⟩ := Int.eq_ofNat_of_zero_le h1
 obtain ⟨c, rfl⟩ := Int.eq_ofNat_of_zero_le h3
 rw [Int.toNat_natCast, Int.toNat_natCast] at h5
 have : r * c ≤ 64 * 64 := Nat.mul_le_mul (by omega) (by omega)
 exact ⟨r, c, rfl, rfl, by omega, by omega, h5, by omega⟩
def redL (r c : Nat) (l : List Int) : (List (List Int) × List (List Int)) × List Int := redTo (rowsOf c r l) (List.replicate r []) c
theorem gReduce_eq {r c : Nat} {l : List Int} (hR : matrix_Right.f (r : Int) (c : Int) l = some true) (hb : bytesB l = true) : gauss_Reduce.f (r : Int) (c : Int) l = some ((r : Int), (c : Int), (redL r c l).1.1.flatten, (redL r c l).2, 0) := by
 unfold gauss_Reduce.f
 rw [hR, Option.bind_some, if_pos rfl, if_pos hb]
 rfl
theorem gReduce_bad {a b : Int} {l : List Int} (hR : matrix_Right.f a b l = some false) : gauss_Reduce.f a b l = some (0, 0, [], [], 3) := by
 unfold gauss_Reduce.f
 rw [hR, Option.bind_some, if_neg (by decide)]
theorem Same_self (l : List Int) : recoupref01_Same.f l l = some true := by
 unfold recoupref01_Same.f
 rw [beq_self_eq_true]
theorem Like_self (a b : Int) (l : List Int) : recoupref03_Like.f a b l a b l = some true := by
 unfold recoupref03_Like.f
 rw [if_pos rfl, if_pos rfl, Same_self]
 rfl
end Go.Proofs.Ytccfbhnhedoggaa.M
namespace Go.Proofs.Ytccfbhnhedoggaa.M
open Go.RowKit Go.Proofs.YtccfbhnhedoggaaW.PrintWords Go.Proofs.YtccfbhnhedoggaaW.PrintLast Go.Proofs.YtccfbhnhedoggaaW.PrintMore Go.Proofs.Ytccfbhnhedoggaa.Q
set_option linter.unusedVariables false
def el1 (col top : Nat) : Nat → List (List Int) → List (List Int)
 | 0, A => A
 | k + 1, A => let t := el1 col top k A; if k ≠ top ∧ entry t k col ≠ 0 then macS t k top (entry t k col) else t
def stepA (j : Nat) (s : List (List Int) × List Int) : List (List Int) × List Int := match firstIn s.1 s.2.length j with
 | none => s
 | some i => (el1 j s.2.length s.1.length (swapS (invT (entry s.1 i j)) s.1 s.2.length i), s.2 ++ [(j : Int)])
def redA (A : List (List Int)) : Nat → List (List Int) × List Int
 | 0 => (A, [])
 | j + 1 => stepA j (redA A j)
theorem stepA_none {j : Nat} {s : List (List Int) × List Int} (h : firstIn s.1 s.2.length j = none) : stepA j s = s := by unfold stepA; rw [h]
theorem stepA_some {j i : Nat} {s : List (List Int) × List Int} (h : firstIn s.1 s.2.length j = some i) : stepA j s = (el1 j s.2.length s.1.length (swapS (invT (entry s.1 i j)) s.1 s.2.length i), s.2 ++ [(j : Int)]) := by unfold stepA; rw [h]
structure Sh (A : List (List Int)) (W : Nat) : Prop where
 u : U A W
 b : rowsB A = true
 m : A.length ≤ 64
 w : W ≤ 65
theorem Sh.set {A : List (List Int)} {W k : Nat} {r : List Int} (h : Sh A W) (hr : r.length = W) (hb : bytesB r = true) : Sh (A.set k r) W := by
 refine ⟨h.u.set hr, ?_, by rw [List.length_set]; exact h.m, h.w⟩
 have := h.b
 rw [rowsB, List.all_eq_true] at this ⊢
 intro x hx
 rcases List.mem_or_eq_of_mem_set hx with hx | rfl
 ·exact this x hx
 ·exact hb
theorem scale_bytes {o : Int} (ho : 0 ≤ o ∧ o < 256) {r : List Int} (h : bytesB r = true) : bytesB (r.map (mulT o)) = true := by
 unfold bytesB
 rw [List.all_eq_true]
 intro x hx
 obtain ⟨y, hy, rfl⟩ := List.mem_map.1 hx
 unfold bytesB at h
 rw [List.all_eq_true] at h
 have hy2 := h y hy
 simp only [Bool.and_eq_true, decide_eq_true_eq] at hy2
 have := mulT_range ho hy2
 simp
 omega
theorem xorL_bytes {r s : List Int} : bytesB (xorL r s) = true := by
 unfold bytesB xorL
 rw [List.all_eq_true]
 intro x hx
 obtain ⟨i, hi, rfl⟩ := List.getElem_of_mem hx
 rw [List.getElem_zipWith]
 have := xor_range (r[i]'(by simp at hi; omega)) (s[i]'(by simp at hi; omega))
 simp
 omega
theorem Sh.byte {A : List (List Int)} {W i j : Nat} (h : Sh A W) (hi : i < A.length) (hj : j < W) : 0 ≤ entry A i j ∧ entry A i j < 256 := bytesB_at (rows_bytes h.b i) (by rw [h.u.at hi]; exact hj)
theorem Sh.swap {A : List (List Int)} {W top i : Nat} {o : Int} (h : Sh A W) (ho : 0 ≤ o ∧ o < 256) (ht : top < A.length) (hi : i < A.length) : Sh (swapS o A top i) W := by
 unfold swapS
 exact ((h.set (h.u.at ht) (rows_bytes h.b top)).set (h.u.at hi) (rows_bytes h.b i)).set (by rw [List.length_map]; exact h.u.at hi) (scale_bytes ho (rows_bytes h.b i))
theorem Sh.mac {A : List (List Int)} {W k top : Nat} (h : Sh A W) (hk : k < A.length) (ht : top < A.length) (c : Int) : Sh (macS A k top c) W := by
 unfold macS
 refine h.set ?_ xorL_bytes
 unfold xorL
 rw [List.length_zipWith, List.length_map, h.u.at ht, h.u.at hk]
 omega
theorem Sh.el {A : List (List Int)} {W col top : Nat} (h : Sh A W) (ht : top < A.length) : ∀ k, k ≤ A.length → Sh (el1 col top k A) W ∧ (el1 col top k A).length = A.length
 | 0, _ => ⟨h, rfl⟩
 | k + 1, hk => by
  obtain ⟨ih, il⟩ := Sh.el (col := col) h ht k (by omega)
  show Sh (if k ≠ top ∧ entry (el1 col top k A) k col ≠ 0 then macS (el1 col top k A) k top (entry (el1 col top k A) k col) else el1 col top k A) W ∧ (if k ≠ top ∧ entry (el1 col top k A) k col ≠ 0 then macS (el1 col top k A) k top (entry (el1 col top k A) k col) else el1 col top k A).length = A.length
  split
  ·exact ⟨ih.mac (by omega) (by omega) _, by simp [macS, il]⟩
  ·exact ⟨ih, il⟩
end Go.Proofs.Ytccfbhnhedoggaa.M
namespace Go.Proofs.Ytccfbhnhedoggaa.M
open Go.RowKit Go.Proofs.YtccfbhnhedoggaaW.PrintWords Go.Proofs.YtccfbhnhedoggaaW.PrintLast Go.Proofs.YtccfbhnhedoggaaW.PrintMore Go.Proofs.Ytccfbhnhedoggaa.Q
set_option linter.unusedVariables false
theorem map_getD {f : Int → Int} {l : List Int} {i : Nat} (h : i < l.length) : (l.map f).getD i 0 = f (l.getD i 0) := by
 rw [List.getD_eq_getElem?_getD, List.getD_eq_getElem?_getD, List.getElem?_map, List.getElem?_eq_getElem h]
 rfl
end Go.Proofs.Ytccfbhnhedoggaa.M
namespace Go.Proofs.Ytccfbhnhedoggaa.M
open Go.RowKit Go.Proofs.YtccfbhnhedoggaaW.PrintWords Go.Proofs.YtccfbhnhedoggaaW.PrintLast Go.Proofs.YtccfbhnhedoggaaW.PrintMore Go.Proofs.Ytccfbhnhedoggaa.Q
set_option linter.unusedVariables false
theorem seek_zero {M : List (List Int)} {j : Nat} : ∀ f i, seekCol M j f i = none → ∀ i', i ≤ i' → i' < i + f → entry M i' j = 0
 | 0, i, _, i', a, b => by omega
 | f + 1, i, h, i', a, b => by
  unfold seekCol at h
  by_cases e : entry M i j = 0
  ·rw [if_neg (fun x => x e)] at h
   by_cases e2 : i' = i
   ·rw [e2]; exact e
   ·exact seek_zero f (i + 1) h i' (by omega) (by omega)
  ·rw [if_pos e] at h; cases h
end Go.Proofs.Ytccfbhnhedoggaa.M
namespace Go.Proofs.Ytccfbhnhedoggaa.M
open Go.RowKit Go.Proofs.YtccfbhnhedoggaaW.PrintWords Go.Proofs.YtccfbhnhedoggaaW.PrintLast Go.Proofs.YtccfbhnhedoggaaW.PrintMore Go.Proofs.Ytccfbhnhedoggaa.Q
set_option linter.unusedVariables false
theorem entry_set {A : List (List Int)} {i a b : Nat} {r : List Int} (hi : i < A.length) : entry (A.set i r) a b = if a = i then r.getD b 0 else entry A a b := by
  unfold entry
  by_cases e : a = i
  · subst e
    rw [if_pos rfl, getD_set_self hi]
  · rw [if_neg e, getD_set_ne (fun x => e x.symm)]
theorem xor_getD {r s : List Int} {b : Nat} (h1 : b < r.length) (h2 : b < s.length) : (xorL r s).getD b 0 = Go.bits .xor .u8 (r.getD b 0) (s.getD b 0) := by
  unfold xorL
  rw [List.getD_eq_getElem?_getD, List.getD_eq_getElem?_getD, List.getD_eq_getElem?_getD, List.getElem?_zipWith, List.getElem?_eq_getElem h1, List.getElem?_eq_getElem h2]
  rfl
theorem entry_swap {A : List (List Int)} {W top i a b : Nat} {o : Int} (h : Sh A W) (ht : top < A.length) (hi : i < A.length) (hb : b < W) : entry (swapS o A top i) a b = if a = top then mulT o (entry A i b) else if a = i then entry A top b else entry A a b := by
  unfold swapS
  have h2 := h.u.at hi
  rw [entry_set (by simpa using ht), map_getD (by omega), entry_set (by simpa using ht), entry_set hi]
  by_cases e : a = top
  · rw [if_pos e, if_pos e]; rfl
  · rw [if_neg e, if_neg e, if_neg e]; rfl
theorem entry_mac {A : List (List Int)} {W top k a b : Nat} {c : Int} (h : Sh A W) (ht : top < A.length) (hk : k < A.length) (hb : b < W) : entry (macS A k top c) a b = if a = k then Go.bits .xor .u8 (mulT c (entry A top b)) (entry A k b) else entry A a b := by
  unfold macS
  have h1 := h.u.at ht
  have h2 := h.u.at hk
  rw [entry_set hk, xor_getD (by rw [List.length_map]; omega) (by omega), map_getD (by omega)]
  rfl
theorem Sh.of1 {M D : List (List Int)} {C wd : Nat} (h : Shp M D C wd) : Sh M C := ⟨U.of h, h.bM, h.small.1, by have := h.small.2.1; omega⟩
theorem elim_fst (col top : Nat) (M D : List (List Int)) : ∀ k, (elimTo col top k (M, D)).1 = el1 col top k M
  | 0 => rfl
  | k + 1 => by
    have ih := elim_fst col top M D k
    show (if k ≠ top ∧ entry (elimTo col top k (M, D)).1 k col ≠ 0 then (macS (elimTo col top k (M, D)).1 k top (entry (elimTo col top k (M, D)).1 k col), macS (elimTo col top k (M, D)).2 k top (entry (elimTo col top k (M, D)).1 k col)) else elimTo col top k (M, D)).1 = (if k ≠ top ∧ entry (el1 col top k M) k col ≠ 0 then macS (el1 col top k M) k top (entry (el1 col top k M) k col) else el1 col top k M)
    rw [← ih]
    split <;> rfl
theorem red_fst (M D : List (List Int)) : ∀ j, ((redTo M D j).1.1, (redTo M D j).2) = redA M j
  | 0 => rfl
  | j + 1 => by
    have ih := red_fst M D j
    show ((redStep j (redTo M D j)).1.1, (redStep j (redTo M D j)).2) = stepA j (redA M j)
    rw [← ih]
    generalize redTo M D j = T
    cases hf : firstIn T.1.1 T.2.length j with
    | none => rw [redStep_none hf, stepA_none (s := (T.1.1, T.2)) hf]
    | some i =>
      rw [redStep_some hf, stepA_some (s := (T.1.1, T.2)) hf]
      show ((elimTo j T.2.length T.1.1.length (_, _)).1, _) = _
      rw [elim_fst]
end Go.Proofs.Ytccfbhnhedoggaa.M
namespace Go.Proofs.Ytccfbhnhedoggaa.M
set_option linter.unusedVariables false
abbrev Vec := Nat → El
def zv : Vec := fun _ => 0
def lc (b : Nat → Vec) (n : Nat) (x : Nat → El) : Vec := fun j => sm n (fun i => x i * b i j)
def Span (b : Nat → Vec) (n : Nat) (v : Vec) : Prop := ∃ x : Nat → El, v = lc b n x
theorem lc_congr {b c : Nat → Vec} {n : Nat} {x y : Nat → El} (h : ∀ i, i < n → b i = c i) (k : ∀ i, i < n → x i = y i) : lc b n x = lc c n y :=
 funext fun j => sm_congr fun i hi => by rw [h i hi, k i hi]
theorem lc_add (b : Nat → Vec) (n : Nat) (x y : Nat → El) : lc b n (fun i => x i + y i) = fun j => lc b n x j + lc b n y j := by
 funext j
 unfold lc
 rw [← sm_add]
 exact sm_congr fun i _ => add_mul _ _ _
theorem lc_mul (b : Nat → Vec) (n : Nat) (a : El) (x : Nat → El) : lc b n (fun i => a * x i) = fun j => a * lc b n x j := by
 funext j
 unfold lc
 rw [← sm_mul]
 exact sm_congr fun i _ => mul_assoc _ _ _
theorem lc_zero (b : Nat → Vec) (n : Nat) : lc b n (fun _ => 0) = zv := funext fun j => sm_zero fun i _ => zero_mul _
theorem lc_unit (b : Nat → Vec) {n k : Nat} (hk : k < n) : lc b n (fun i => if i = k then 1 else 0) = b k := by
 funext j
 show sm n (fun i => (if i = k then 1 else 0) * b i j) = b k j
 rw [sm_one hk (fun i _ hne => by rw [if_neg hne, zero_mul]), if_pos rfl, one_mul]
theorem lc_lc (b u : Nat → Vec) (n m : Nat) (x : Nat → El) (a : Nat → Nat → El) (h : ∀ i, i < m → u i = lc b n (a i)) : lc u m x = lc b n (fun k => sm m (fun i => x i * a i k)) := by
 funext j
 unfold lc
 have e : sm m (fun i => x i * u i j) = sm m (fun i => sm n (fun k => x i * a i k * b k j)) := sm_congr fun i hi => by
  rw [h i hi]
  unfold lc
  rw [← sm_mul]
  exact sm_congr fun k _ => (mul_assoc _ _ _).symm
 rw [e, sm_swap]
 exact sm_congr fun k _ => sm_mul_right _ _ _
theorem span_mem (b : Nat → Vec) {n k : Nat} (hk : k < n) : Span b n (b k) := ⟨_, (lc_unit b hk).symm⟩
theorem span_add {b : Nat → Vec} {n : Nat} {u v : Vec} (h : Span b n u) (k : Span b n v) : Span b n (fun j => u j + v j) := by
 obtain ⟨x, rfl⟩ := h
 obtain ⟨y, rfl⟩ := k
 exact ⟨_, (lc_add b n x y).symm⟩
theorem span_mul {b : Nat → Vec} {n : Nat} {u : Vec} (a : El) (h : Span b n u) : Span b n (fun j => a * u j) := by
 obtain ⟨x, rfl⟩ := h
 exact ⟨_, (lc_mul b n a x).symm⟩
theorem span_lc {b u : Nat → Vec} {n m : Nat} (h : ∀ i, i < m → Span b n (u i)) (x : Nat → El) : Span b n (lc u m x) := by
 have h' : ∀ i, ∃ a : Nat → El, i < m → u i = lc b n a := fun i => by
  by_cases hi : i < m
  ·obtain ⟨a, ha⟩ := h i hi
   exact ⟨a, fun _ => ha⟩
  ·exact ⟨fun _ => 0, fun e => absurd e hi⟩
 obtain ⟨a, ha⟩ := Classical.axiomOfChoice h'
 exact ⟨_, lc_lc b u n m x a ha⟩
theorem span_trans {b u : Nat → Vec} {n m : Nat} {v : Vec} (h : ∀ i, i < m → Span b n (u i)) (k : Span u m v) : Span b n v := by
 obtain ⟨x, rfl⟩ := k
 exact span_lc h x
def skip (p i : Nat) : Nat := if i < p then i else i + 1
end Go.Proofs.Ytccfbhnhedoggaa.M
namespace Go.Proofs.Ytccfbhnhedoggaa.M
set_option linter.unusedVariables false
structure RR (n W t : Nat) (S : Nat → Vec) (p : Nat → Nat) : Prop where
  tn : t ≤ n
  lt : ∀ i, i < t → p i < W
  mono : ∀ i k, i < k → k < t → p i < p k
  one : ∀ i, i < t → ∀ a, a < n → S a (p i) = if a = i then 1 else 0
  low : ∀ a, t ≤ a → a < n → S a = zv
  lead : ∀ i, i < t → ∀ b, b < p i → S i b = 0
  sup : ∀ a, a < n → ∀ b, W ≤ b → S a b = 0
section
variable {n W t : Nat} {S : Nat → Vec} {p : Nat → Nat}
theorem lc_low (hl : ∀ a, t ≤ a → a < n → S a = zv) (ht : t ≤ n) (x : Nat → El) : lc S n x = lc S t x := by
  funext j
  exact sm_take ht fun i h1 h2 => by rw [hl i h1 h2]; exact mul_zero _
theorem RR.at_piv (h : RR n W t S p) (x : Nat → El) {i : Nat} (hi : i < t) : lc S n x (p i) = x i := by
  have htn := h.tn
  show sm n (fun a => x a * S a (p i)) = x i
  rw [sm_one (k := i) (by omega) fun a ha hne => by rw [h.one i hi a ha, if_neg hne, mul_zero]]
  rw [h.one i hi i (by omega), if_pos rfl, mul_one]
theorem RR.coord (h : RR n W t S p) {v : Vec} (hv : Span S n v) : v = lc S t (fun i => v (p i)) := by
  obtain ⟨x, rfl⟩ := hv
  have : lc S n x = lc S t x := lc_low h.low h.tn x
  rw [this]
  refine lc_congr (fun _ _ => rfl) fun i hi => ?_
  rw [← this]
  exact (h.at_piv x hi).symm
theorem RR.first (h : RR n W t S p) {v : Vec} (hv : Span S n v) (hne : v ≠ zv) : ∃ i, i < t ∧ v (p i) ≠ 0 ∧ ∀ b, b < p i → v b = 0 := by
  have hc := h.coord hv
  have hex : ∃ i, i < t ∧ v (p i) ≠ 0 := Classical.byContradiction fun hn => hne (by
    rw [hc]
    rw [← lc_zero S t]
    exact lc_congr (fun _ _ => rfl) fun i hi => Classical.byContradiction fun h2 => hn ⟨i, hi, h2⟩)
  have hle : ∀ m, (∃ i, i < m ∧ i < t ∧ v (p i) ≠ 0) → ∃ i, i < t ∧ v (p i) ≠ 0 ∧ ∀ k, k < i → v (p k) = 0 := by
    intro m
    induction m with
    | zero => rintro ⟨i, hi, _⟩; omega
    | succ m ih =>
      rintro ⟨i, him, hi⟩
      by_cases e : ∃ i, i < m ∧ i < t ∧ v (p i) ≠ 0
      · exact ih e
      · refine ⟨i, hi.1, hi.2, fun k hk => Classical.byContradiction fun h2 => e ⟨k, by omega, by omega, h2⟩⟩
  obtain ⟨i, h1, h2, h3⟩ := hle t (by obtain ⟨i, a, b⟩ := hex; exact ⟨i, a, a, b⟩)
  refine ⟨i, h1, h2, fun b hb => ?_⟩
  rw [hc]
  refine sm_zero fun k hk => ?_
  show v (p k) * S k b = 0
  by_cases e : k < i
  · rw [h3 k e, zero_mul]
  · have : b < p k := by
      by_cases e2 : k = i
      · rw [e2]; exact hb
      · have := h.mono i k (by omega) hk; omega
    rw [h.lead k hk b this, mul_zero]
theorem RR.piv_iff (h : RR n W t S p) (q : Nat) : (∃ v, Span S n v ∧ v q ≠ 0 ∧ ∀ b, b < q → v b = 0) ↔ ∃ i, i < t ∧ p i = q := by
  constructor
  · rintro ⟨v, hv, h1, h2⟩
    obtain ⟨i, hi, h3, h4⟩ := h.first hv (fun e => h1 (by rw [e]; rfl))
    refine ⟨i, hi, ?_⟩
    rcases Nat.lt_trichotomy (p i) q with h5 | h5 | h5
    · exact absurd (h2 _ h5) h3
    · exact h5
    · exact absurd (h4 _ h5) h1
  · rintro ⟨i, hi, rfl⟩
    have htn := h.tn
    refine ⟨S i, span_mem S (by omega), ?_, h.lead i hi⟩
    rw [h.one i hi i (by omega), if_pos rfl]
    exact one_ne_zero
theorem rise_eq {t t' : Nat} {p p' : Nat → Nat} (m : ∀ i k, i < k → k < t → p i < p k) (m' : ∀ i k, i < k → k < t' → p' i < p' k) (h : ∀ q, (∃ i, i < t ∧ p i = q) ↔ ∃ i, i < t' ∧ p' i = q) : t = t' ∧ ∀ i, i < t → p i = p' i := by
  have key : ∀ i, (i < t → i < t' ∧ p i = p' i) ∧ (i < t' → i < t ∧ p i = p' i) := by
    intro i
    induction i using Nat.strongRecOn with
    | _ i ih =>
      have a1 : i < t → ∃ k, k < t' ∧ p' k = p i ∧ i ≤ k := fun hi => by
        obtain ⟨k, hk, e⟩ := (h (p i)).1 ⟨i, hi, rfl⟩
        refine ⟨k, hk, e, Nat.le_of_not_lt fun hlt => ?_⟩
        have := ((ih k hlt).2 hk)
        have := m k i hlt hi
        omega
      have a2 : i < t' → ∃ k, k < t ∧ p k = p' i ∧ i ≤ k := fun hi => by
        obtain ⟨k, hk, e⟩ := (h (p' i)).2 ⟨i, hi, rfl⟩
        refine ⟨k, hk, e, Nat.le_of_not_lt fun hlt => ?_⟩
        have := ((ih k hlt).1 hk)
        have := m' k i hlt hi
        omega
      have fin : i < t → i < t' → p i = p' i := fun hi hi' => by
        obtain ⟨k, hk, e, hle⟩ := a1 hi
        obtain ⟨k', hk', e', hle'⟩ := a2 hi'
        have x1 : p' i ≤ p' k := by
          by_cases z : i = k
          · rw [z]; exact Nat.le_refl _
          · exact Nat.le_of_lt (m' i k (by omega) hk)
        have x2 : p i ≤ p k' := by
          by_cases z : i = k'
          · rw [z]; exact Nat.le_refl _
          · exact Nat.le_of_lt (m i k' (by omega) hk')
        omega
      refine ⟨fun hi => ?_, fun hi => ?_⟩
      · obtain ⟨k, hk, _, hle⟩ := a1 hi
        exact ⟨by omega, fin hi (by omega)⟩
      · obtain ⟨k, hk, _, hle⟩ := a2 hi
        exact ⟨by omega, fin (by omega) hi⟩
  refine ⟨?_, fun i hi => ((key i).1 hi).2⟩
  rcases Nat.lt_trichotomy t t' with h1 | h1 | h1
  · have := ((key t).2 h1).1; omega
  · exact h1
  · have := ((key t').1 h1).1; omega
theorem RR.unique {n' t' : Nat} {S' : Nat → Vec} {p' : Nat → Nat} (h : RR n W t S p) (h' : RR n' W t' S' p') (hs : ∀ v, Span S n v ↔ Span S' n' v) : t = t' ∧ (∀ i, i < t → p i = p' i) ∧ ∀ i, i < t → S i = S' i := by
  have hp := rise_eq h.mono h'.mono fun q => by
    rw [← h.piv_iff q, ← h'.piv_iff q]
    exact ⟨fun ⟨v, a, b⟩ => ⟨v, (hs v).1 a, b⟩, fun ⟨v, a, b⟩ => ⟨v, (hs v).2 a, b⟩⟩
  obtain ⟨rfl, hp⟩ := hp
  refine ⟨rfl, hp, fun i hi => ?_⟩
  have htn := h.tn
  have htn' := h'.tn
  have h1 := h'.coord ((hs _).1 (span_mem S (n := n) (k := i) (by omega)))
  rw [h1, ← lc_unit S' hi]
  refine lc_congr (fun _ _ => rfl) fun k hk => ?_
  show S i (p' k) = _
  rw [← hp k hk, h.one k hk i (by omega)]
  by_cases e : k = i
  · rw [if_pos e.symm, if_pos e]
  · rw [if_neg (fun x => e x.symm), if_neg e]
end
def col (n : Nat) (N : Nat → Vec) (b : Nat) : Vec := fun a => if a < n then N a b else 0
end Go.Proofs.Ytccfbhnhedoggaa.M
namespace Go.Proofs.Ytccfbhnhedoggaa.M
open Go.RowKit Go.Proofs.YtccfbhnhedoggaaW.PrintWords Go.Proofs.YtccfbhnhedoggaaW.PrintLast Go.Proofs.YtccfbhnhedoggaaW.PrintMore Go.Proofs.Ytccfbhnhedoggaa.Q
set_option linter.unusedVariables false
def mv (A : List (List Int)) (W : Nat) : Nat → Vec := fun i j => if j < W then toE (entry A i j) else 0
theorem mv_at {A : List (List Int)} {W i j : Nat} (h : j < W) : mv A W i j = toE (entry A i j) := if_pos h
theorem mv_out {A : List (List Int)} {W i j : Nat} (h : ¬ j < W) : mv A W i j = 0 := if_neg h
theorem invT_mul {a : Int} (h : 0 ≤ a ∧ a < 256) (h0 : a ≠ 0) : toE (invT a) * toE a = 1 := by rw [invT_el h h0, inv_mul (toE_ne h h0)]
theorem invT_ne {a : Int} (h : 0 ≤ a ∧ a < 256) (h0 : a ≠ 0) : toE (invT a) ≠ 0 := by rw [invT_el h h0]; exact inv_ne (toE_ne h h0)
theorem mv_swap {A : List (List Int)} {W top i : Nat} {o : Int} (h : Sh A W) (ho : 0 ≤ o ∧ o < 256) (ht : top < A.length) (hi : i < A.length) (a : Nat) : mv (swapS o A top i) W a = if a = top then (fun b => toE o * mv A W i b) else if a = i then mv A W top else mv A W a := by
  funext b
  by_cases hb : b < W
  · rw [mv_at hb, entry_swap h ht hi hb]
    by_cases e1 : a = top
    · rw [if_pos e1, if_pos e1, mv_at hb, mulT_el ho (h.byte hi hb)]
    · rw [if_neg e1, if_neg e1]
      by_cases e2 : a = i
      · rw [if_pos e2, if_pos e2, mv_at hb]
      · rw [if_neg e2, if_neg e2, mv_at hb]
  · rw [mv_out hb]
    by_cases e1 : a = top
    · rw [if_pos e1, mv_out hb, mul_zero]
    · rw [if_neg e1]
      by_cases e2 : a = i
      · rw [if_pos e2, mv_out hb]
      · rw [if_neg e2, mv_out hb]
theorem mv_mac {A : List (List Int)} {W top k : Nat} {c : Int} (h : Sh A W) (hc : 0 ≤ c ∧ c < 256) (ht : top < A.length) (hk : k < A.length) (a : Nat) : mv (macS A k top c) W a = if a = k then (fun b => toE c * mv A W top b + mv A W k b) else mv A W a := by
  funext b
  by_cases hb : b < W
  · rw [mv_at hb, entry_mac h ht hk hb]
    by_cases e1 : a = k
    · rw [if_pos e1, if_pos e1, mv_at hb, mv_at hb, xor_el, mulT_el hc (h.byte ht hb)]
    · rw [if_neg e1, if_neg e1, mv_at hb]
  · rw [mv_out hb]
    by_cases e1 : a = k
    · rw [if_pos e1, mv_out hb, mv_out hb, mul_zero, add_zero]
    · rw [if_neg e1, mv_out hb]
theorem mv_el {A : List (List Int)} {W top col : Nat} (h : Sh A W) (ht : top < A.length) (hc : col < W) : ∀ k, k ≤ A.length → ∀ a, mv (el1 col top k A) W a = if a < k ∧ a ≠ top then (fun b => mv A W a col * mv A W top b + mv A W a b) else mv A W a
  | 0, _, a => by rw [if_neg (by omega)]; rfl
  | k + 1, hk, a => by
    have ih := mv_el h ht hc k (by omega)
    obtain ⟨hT, hTl⟩ := h.el (col := col) ht k (by omega)
    have hE : el1 col top (k + 1) A = (if k ≠ top ∧ entry (el1 col top k A) k col ≠ 0 then macS (el1 col top k A) k top (entry (el1 col top k A) k col) else el1 col top k A) := rfl
    have hk2 : mv (el1 col top k A) W k = mv A W k := by rw [ih, if_neg (by omega)]
    have ht2 : mv (el1 col top k A) W top = mv A W top := by rw [ih, if_neg (by omega)]
    have hkc : toE (entry (el1 col top k A) k col) = mv A W k col := by rw [← hk2, mv_at hc]
    rw [hE]
    generalize el1 col top k A = T at *
    by_cases e : k ≠ top ∧ entry T k col ≠ 0
    · rw [if_pos e, mv_mac hT (hT.byte (by omega) hc) (by omega) (by omega)]
      by_cases e2 : a = k
      · subst e2
        rw [if_pos rfl, if_pos ⟨by omega, e.1⟩, hkc, ht2, hk2]
      · rw [if_neg e2, ih]
        by_cases e3 : a < k ∧ a ≠ top
        · rw [if_pos e3, if_pos ⟨by omega, e3.2⟩]
        · rw [if_neg e3, if_neg (by omega)]
    · rw [if_neg e, ih]
      by_cases e3 : a < k ∧ a ≠ top
      · rw [if_pos e3, if_pos ⟨by omega, e3.2⟩]
      · rw [if_neg e3]
        by_cases e4 : a < k + 1 ∧ a ≠ top
        · rw [if_pos e4]
          obtain rfl : a = k := by omega
          have h0 : entry T a col = 0 := Classical.byContradiction fun hn => e ⟨e4.2, hn⟩
          rw [h0, toE_zero] at hkc
          funext b
          rw [← hkc, zero_mul, zero_add]
        · rw [if_neg e4]
theorem span_iff {b c : Nat → Vec} {n : Nat} (h1 : ∀ i, i < n → Span b n (c i)) (h2 : ∀ i, i < n → Span c n (b i)) (v : Vec) : Span c n v ↔ Span b n v := ⟨span_trans h1, span_trans h2⟩
theorem span_swap {A : List (List Int)} {W top i : Nat} {o : Int} (h : Sh A W) (ho : 0 ≤ o ∧ o < 256) (h0 : toE o ≠ 0) (ht : top < A.length) (hi : i < A.length) (v : Vec) : Span (mv (swapS o A top i) W) A.length v ↔ Span (mv A W) A.length v := by
  have hm := mv_swap h ho ht hi
  refine span_iff (fun a ha => ?_) (fun a ha => ?_) v
  · rw [hm]
    split
    · exact span_mul _ (span_mem _ hi)
    · split
      · exact span_mem _ ht
      · exact span_mem _ ha
  · by_cases e1 : a = i
    · subst e1
      have : mv A W a = fun b => (toE o).inv * mv (swapS o A top a) W top b := by
        funext b
        rw [hm, if_pos rfl, ← mul_assoc, inv_mul h0, one_mul]
      rw [this]
      exact span_mul _ (span_mem _ ht)
    · by_cases e2 : a = top
      · subst e2
        have : mv A W a = mv (swapS o A a i) W i := by rw [hm, if_neg (fun e => e1 e.symm), if_pos rfl]
        rw [this]
        exact span_mem _ hi
      · have : mv A W a = mv (swapS o A top i) W a := by rw [hm, if_neg e2, if_neg e1]
        rw [this]
        exact span_mem _ ha
theorem span_el {A : List (List Int)} {W top col : Nat} (h : Sh A W) (ht : top < A.length) (hc : col < W) (v : Vec) : Span (mv (el1 col top A.length A) W) A.length v ↔ Span (mv A W) A.length v := by
  have hm := mv_el h ht hc A.length (Nat.le_refl _)
  refine span_iff (fun a ha => ?_) (fun a ha => ?_) v
  · rw [hm]
    split
    · exact span_add (span_mul _ (span_mem _ ht)) (span_mem _ ha)
    · exact span_mem _ ha
  · by_cases e : a = top
    · subst e
      have : mv A W a = mv (el1 col a A.length A) W a := by rw [hm, if_neg (fun hh => hh.2 rfl)]
      rw [this]
      exact span_mem _ ha
    · have : mv A W a = fun b => mv A W a col * mv (el1 col top A.length A) W top b + mv (el1 col top A.length A) W a b := by
        funext b
        rw [hm, hm, if_neg (fun hh => hh.2 rfl), if_pos ⟨ha, e⟩, ← add_assoc, add_self, zero_add]
      rw [this]
      exact span_add (span_mul _ (span_mem _ ht)) (span_mem _ ha)
def pv (P : List Int) (i : Nat) : Nat := (P.getD i 0).toNat
theorem pv_last (P : List Int) (j : Nat) : pv (P ++ [(j : Int)]) P.length = j := by
  unfold pv
  rw [List.getD_eq_getElem?_getD, List.getElem?_append_right (Nat.le_refl _), Nat.sub_self]
  rfl
theorem pv_init {P : List Int} {j i : Nat} (hi : i < P.length) : pv (P ++ [(j : Int)]) i = pv P i := by
  unfold pv
  rw [List.getD_eq_getElem?_getD, List.getElem?_append_left hi, ← List.getD_eq_getElem?_getD]
structure RI (A S : List (List Int)) (W j : Nat) (P : List Int) : Prop where
  sh : Sh S W
  len : S.length = A.length
  tn : P.length ≤ A.length
  nat : ∀ i, i < P.length → P.getD i 0 = (pv P i : Int)
  lt : ∀ i, i < P.length → pv P i < j
  mono : ∀ i k, i < k → k < P.length → pv P i < pv P k
  one : ∀ i, i < P.length → ∀ a, a < A.length → mv S W a (pv P i) = if a = i then 1 else 0
  low : ∀ a, P.length ≤ a → a < A.length → ∀ b, b < j → mv S W a b = 0
  lead : ∀ i, i < P.length → ∀ b, b < pv P i → mv S W i b = 0
  span : ∀ v, Span (mv S W) A.length v ↔ Span (mv A W) A.length v
theorem RI.step {A S : List (List Int)} {W j : Nat} {P : List Int} (h : RI A S W j P) (hj : j < W) {x : Nat} (hx : P.length ≤ x) (hxn : x < A.length) (h0 : entry S x j ≠ 0) :
    RI A (el1 j P.length S.length (swapS (invT (entry S x j)) S P.length x)) W (j + 1) (P ++ [(j : Int)]) := by
  have hlen := h.len
  have hb := h.sh.byte (i := x) (j := j) (by omega) hj
  have ho := invT_range hb h0
  have hxl : x < S.length := by omega
  have htl : P.length < S.length := by omega
  have hsw := h.sh.swap ho htl hxl
  have hsl : (swapS (invT (entry S x j)) S P.length x).length = S.length := by simp [swapS]
  have hB := mv_swap h.sh ho htl hxl
  have hel := hsw.el (col := j) (top := P.length) (by omega) S.length (by omega)
  have hmE := mv_el hsw (top := P.length) (col := j) (by omega) hj S.length (by omega)
  have hsp1 := span_swap h.sh ho (invT_ne hb h0) htl hxl
  have hsp2 := span_el hsw (top := P.length) (col := j) (by omega) hj
  have hp1 : toE (invT (entry S x j)) * mv S W x j = 1 := by rw [mv_at hj]; exact invT_mul hb h0
  rw [hsl] at hsp2
  generalize swapS (invT (entry S x j)) S P.length x = B at *
  generalize toE (invT (entry S x j)) = o at *
  -- the row that has come up
  have hT : ∀ b, b < j → mv B W P.length b = 0 := fun b hbj => by
    rw [hB, if_pos rfl]
    show o * mv S W x b = 0
    rw [h.low x hx hxn b hbj, mul_zero]
  have hTj : mv B W P.length j = 1 := by rw [hB, if_pos rfl]; exact hp1
  have hlow : ∀ a, P.length < a → a < A.length → ∀ b, b < j → mv B W a b = 0 := fun a h1 h2 b hbj => by
    rw [hB, if_neg (by omega)]
    split
    · exact h.low _ (Nat.le_refl _) (by omega) b hbj
    · exact h.low a (by omega) h2 b hbj
  have htop : ∀ a, a < P.length → mv B W a = mv S W a := fun a ha => by rw [hB, if_neg (by omega), if_neg (by omega)]
  have hcol : ∀ i, i < P.length → ∀ a, a < A.length → mv B W a (pv P i) = if a = i then 1 else 0 := fun i hi a ha => by
    have hpj := h.lt i hi
    by_cases e : a < P.length
    · rw [htop a e]; exact h.one i hi a ha
    · rw [if_neg (by omega)]
      by_cases e2 : a = P.length
      · subst e2; exact hT _ hpj
      · exact hlow a (by omega) ha _ hpj
  have hE : ∀ a, a < A.length → mv (el1 j P.length S.length B) W a = if a ≠ P.length then (fun b => mv B W a j * mv B W P.length b + mv B W a b) else mv B W a := fun a ha => by
    rw [hmE]
    by_cases e : a = P.length
    · rw [if_neg (fun hh => hh.2 e), if_neg (fun hh => hh e)]
    · rw [if_pos ⟨by omega, e⟩, if_pos e]
  have hEj : ∀ a, a < A.length → mv (el1 j P.length S.length B) W a j = if a = P.length then 1 else 0 := fun a ha => by
    rw [hE a ha]
    by_cases e : a = P.length
    · subst e
      rw [if_neg (fun hh => hh rfl), if_pos rfl, hTj]
    · rw [if_pos e, if_neg e]
      show mv B W a j * mv B W P.length j + mv B W a j = 0
      rw [hTj, mul_one, add_self]
  have hElo : ∀ a, a < A.length → ∀ b, b < j → mv (el1 j P.length S.length B) W a b = mv B W a b := fun a ha b hb => by
    rw [hE a ha]
    split
    · show mv B W a j * mv B W P.length b + mv B W a b = _
      rw [hT b hb, mul_zero, zero_add]
    · rfl
  have hL : (P ++ [(j : Int)]).length = P.length + 1 := by simp
  refine ⟨hel.1, by omega, by omega, fun i hi => ?_, fun i hi => ?_, fun i k hik hk => ?_, fun i hi a ha => ?_, fun a h1 h2 b hbj => ?_, fun i hi b hbi => ?_, fun v => ?_⟩
  · rw [hL] at hi
    by_cases e : i = P.length
    · subst e
      rw [pv_last, List.getD_eq_getElem?_getD, List.getElem?_append_right (Nat.le_refl _), Nat.sub_self]
      rfl
    · rw [pv_init (by omega), ← h.nat i (by omega), List.getD_eq_getElem?_getD, List.getElem?_append_left (by omega), ← List.getD_eq_getElem?_getD]
  · rw [hL] at hi
    by_cases e : i = P.length
    · subst e; rw [pv_last]; omega
    · rw [pv_init (by omega)]; have := h.lt i (by omega); omega
  · rw [hL] at hk
    by_cases e : k = P.length
    · subst e; rw [pv_last, pv_init hik]; exact h.lt i hik
    · rw [pv_init (by omega), pv_init (by omega)]; exact h.mono i k hik (by omega)
  · rw [hL] at hi
    by_cases e : i = P.length
    · subst e; rw [pv_last]; exact hEj a ha
    · rw [pv_init (by omega), hElo a ha _ (h.lt i (by omega))]
      exact hcol i (by omega) a ha
  · rw [hL] at h1
    by_cases e : b = j
    · subst e
      rw [hEj a h2, if_neg (by omega)]
    · rw [hElo a h2 b (by omega)]
      exact hlow a (by omega) h2 b (by omega)
  · rw [hL] at hi
    by_cases e : i = P.length
    · subst e
      rw [pv_last] at hbi
      rw [hElo _ (by omega) b hbi]
      exact hT b hbi
    · rw [pv_init (by omega)] at hbi
      have hlt := h.lt i (by omega)
      rw [hElo i (by omega) b (by omega), htop i (by omega)]
      exact h.lead i (by omega) b hbi
  · rw [← h.span, ← hlen, hsp2 v]
    exact hsp1 v
theorem redA_inv {A : List (List Int)} {W : Nat} (h : Sh A W) : ∀ j, j ≤ W → RI A (redA A j).1 W j (redA A j).2
  | 0, _ => ⟨h, rfl, Nat.zero_le _, fun i hi => absurd hi (Nat.not_lt_zero _), fun i hi => absurd hi (Nat.not_lt_zero _), fun i k _ hk => absurd hk (Nat.not_lt_zero _), fun i hi => absurd hi (Nat.not_lt_zero _), fun a _ _ b hb => absurd hb (Nat.not_lt_zero _), fun i hi => absurd hi (Nat.not_lt_zero _), fun v => Iff.rfl⟩
  | j + 1, hj => by
    have ih := redA_inv h j (by omega)
    show RI A (stepA j (redA A j)).1 W (j + 1) (stepA j (redA A j)).2
    generalize redA A j = T at *
    cases hf : firstIn T.1 T.2.length j with
    | none =>
      rw [stepA_none hf]
      have hz := seek_zero _ _ hf
      have hlen := ih.len
      exact ⟨ih.sh, ih.len, ih.tn, ih.nat, fun i hi => Nat.lt_succ_of_lt (ih.lt i hi), ih.mono, ih.one, fun a h1 h2 b hb => by
        by_cases e : b = j
        · subst e
          rw [mv_at (by omega), hz a h1 (by have := ih.tn; omega), toE_zero]
        · exact ih.low a h1 h2 b (by omega), ih.lead, ih.span⟩
    | some x =>
      obtain ⟨q1, q2, q3, _⟩ := seekCol_spec _ _ hf
      have hlen := ih.len
      have htn := ih.tn
      rw [stepA_some hf]
      exact ih.step (by omega) q1 (by omega) q3
theorem RI.rr {A S : List (List Int)} {W : Nat} {P : List Int} (h : RI A S W W P) : RR A.length W P.length (mv S W) (pv P) :=
  ⟨h.tn, h.lt, h.mono, h.one, fun a h1 h2 => funext fun b => by
    by_cases e : b < W
    · exact h.low a h1 h2 b e
    · exact mv_out e, h.lead, fun a _ b hb => mv_out (by omega)⟩
end Go.Proofs.Ytccfbhnhedoggaa.M
namespace Go.Proofs.Ytccfbhnhedoggaa.M
open Go.RowKit Go.Proofs.YtccfbhnhedoggaaW.PrintWords Go.Proofs.YtccfbhnhedoggaaW.PrintLast Go.Proofs.YtccfbhnhedoggaaW.PrintMore Go.Proofs.Ytccfbhnhedoggaa.Q
set_option linter.unusedVariables false
theorem right_of {r c : Nat} {l : List Int} (hr : r ≤ 64) (hc : c ≤ 64) (hl : l.length = r * c) : matrix_Right.f (r : Int) (c : Int) l = some true ∧ recoupref03_Right.f (r : Int) (c : Int) l = some true := by
 have hf := flat_rowsOf r l hl
 have hlen := rowsOf_length c r l
 have h1 := Right_true hf.2 (by omega) hc
 rw [hf.1, hlen] at h1
 exact ⟨(Right_eq (a := (r : Int)) (b := (c : Int)) (l := l) (by omega)) ▸ h1, h1⟩
theorem sh_rows {r c : Nat} {l : List Int} (hb : bytesB l = true) (hl : l.length = r * c) (hr : r ≤ 64) (hc : c ≤ 64) : Sh (rowsOf c r l) c := Sh.of1 (shp_nil hb hl ⟨hr, hc⟩)
theorem rowsOf_elem {r c p : Nat} {l : List Int} (h : p < (rowsOf c r l).length) : (rowsOf c r l)[p] = (l.drop (p * c)).take c := by simp [rowsOf]
end Go.Proofs.Ytccfbhnhedoggaa.M
namespace Go.Proofs.Ytccfbhnhedoggaa.M
open Go.RowKit Go.Proofs.YtccfbhnhedoggaaW.PrintWords Go.Proofs.YtccfbhnhedoggaaW.PrintLast Go.Proofs.YtccfbhnhedoggaaW.PrintMore Go.Proofs.Ytccfbhnhedoggaa.Q
set_option linter.unusedVariables false
theorem rows_ext {A B : List (List Int)} {W : Nat} (hA : Sh A W) (hB : Sh B W) (hl : A.length = B.length) (h : ∀ i, i < A.length → mv A W i = mv B W i) : A = B := by
 refine List.ext_getElem hl fun i h1 h2 => ?_
 have e1 := hA.u _ (List.getElem_mem h1)
 have e2 := hB.u _ (List.getElem_mem h2)
 refine List.ext_getElem (by omega) fun j g1 g2 => ?_
 have hj : j < W := by omega
 have hx := congrFun (h i h1) j
 rw [mv_at hj, mv_at hj] at hx
 have := toE_inj (hA.byte h1 hj) (hB.byte h2 hj) hx
 unfold entry at this
 rw [List.getD_eq_getElem?_getD (l := A), List.getD_eq_getElem?_getD (l := B), List.getElem?_eq_getElem h1, List.getElem?_eq_getElem h2, Option.getD_some, Option.getD_some, List.getD_eq_getElem?_getD, List.getD_eq_getElem?_getD, List.getElem?_eq_getElem g1, List.getElem?_eq_getElem g2] at this
 exact this
theorem ri_unique {A B S S' : List (List Int)} {W : Nat} {P P' : List Int} (h : RI A S W W P) (h' : RI B S' W W P') (hl : A.length = B.length) (hs : ∀ v, Span (mv A W) A.length v ↔ Span (mv B W) B.length v) : S = S' ∧ P.length = P'.length := by
 obtain ⟨u1, u2, u3⟩ := h.rr.unique h'.rr (fun v => by rw [h.span, hs, h'.span])
 refine ⟨rows_ext h.sh h'.sh (by rw [h.len, h'.len, hl]) fun i hi => ?_, u1⟩
 have hlen := h.len
 by_cases e : i < P.length
 ·exact u3 i e
 ·rw [h.rr.low i (by omega) (by omega), h'.rr.low i (by omega) (by omega)]
theorem span_mac {A : List (List Int)} {W top k : Nat} {c : Int} (h : Sh A W) (hc : 0 ≤ c ∧ c < 256) (ht : top < A.length) (hk : k < A.length) (hne : k ≠ top) (v : Vec) : Span (mv (macS A k top c) W) A.length v ↔ Span (mv A W) A.length v := by
 have hm := mv_mac h hc ht hk
 refine span_iff (fun a ha => ?_) (fun a ha => ?_) v
 ·rw [hm]
  split
  ·exact span_add (span_mul _ (span_mem _ ht)) (span_mem _ hk)
  ·exact span_mem _ ha
 ·by_cases e : a = k
  ·have : mv A W a = fun b => toE c * mv (macS A k top c) W top b + mv (macS A k top c) W k b := by
    funext b
    rw [hm, hm, if_neg (fun e => hne e.symm), if_pos rfl, ← add_assoc, add_self, zero_add, e]
   rw [this]
   exact span_add (span_mul _ (span_mem _ ht)) (span_mem _ hk)
  ·have : mv A W a = mv (macS A k top c) W a := by rw [hm, if_neg e]
   rw [this]
   exact span_mem _ ha
theorem redL_ri {r c : Nat} {l : List Int} (hb : bytesB l = true) (hl : l.length = r * c) (hr : r ≤ 64) (hc : c ≤ 64) : RI (rowsOf c r l) (redL r c l).1.1 c c (redL r c l).2 := by
 have h := redA_inv (sh_rows hb hl hr hc) c (Nat.le_refl _)
 rw [← red_fst (rowsOf c r l) (List.replicate r []) c] at h
 exact h
end Go.Proofs.Ytccfbhnhedoggaa.M
namespace Go.Proofs.Ytccfbhnhedoggaa.M
open Go.RowKit Go.Proofs.YtccfbhnhedoggaaW.PrintWords Go.Proofs.YtccfbhnhedoggaaW.PrintLast Go.Proofs.YtccfbhnhedoggaaW.PrintMore Go.Proofs.Ytccfbhnhedoggaa.Q
set_option linter.unusedVariables false
theorem anchored_ok : recouplaw04_anchored.f = some true := by kernel_rfl
end Go.Proofs.Ytccfbhnhedoggaa.M
