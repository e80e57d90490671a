import Derived.Test.YtccfbhnhedoggaaQx8
import Derived.Test.YtccfbhnhedoggaaMFuel
import Derived.Test.YtccfbhnhedoggaaMField
namespace Go.Proofs.Ytccfbhnhedoggaa.M
open Go.RowKit Go.Proofs.YtccfbhnhedoggaaW.PrintWords Go.Proofs.YtccfbhnhedoggaaW.PrintLast Go.Proofs.YtccfbhnhedoggaaW.PrintMore Go.Proofs.Ytccfbhnhedoggaa.Q

/-! ### bits of i64 and u8 words -/
theorem wi64 {x : Nat} (h : x < 2 ^ 63) : IntKind.i64.wrap (x : Int) = (x : Int) := by
  rw [show IntKind.i64.wrap (x : Int) = wrap64 (x : Int) from i64_w _]
  exact w64 (by omega) (by omega)
theorem toNat64 {a : Nat} (h : a < 2 ^ 63) : (BitVec.ofInt 64 (a : Int)).toNat = a := by
  rw [BitVec.ofInt_natCast, BitVec.toNat_ofNat]; exact Nat.mod_eq_of_lt (by omega)
theorem band64 {a b : Nat} (ha : a < 2 ^ 63) (hb : b < 2 ^ 63) : Go.bits .and .i64 (a : Int) (b : Int) = ((a &&& b : Nat) : Int) := by
  show IntKind.i64.wrap ((BitVec.ofInt 64 (a : Int) &&& BitVec.ofInt 64 (b : Int)).toNat : Int) = _
  rw [BitVec.toNat_and, toNat64 ha, toNat64 hb]
  exact wi64 (Nat.lt_of_le_of_lt Nat.and_le_left ha)
theorem bxor64 {a b : Nat} (ha : a < 2 ^ 63) (hb : b < 2 ^ 63) : Go.bits .xor .i64 (a : Int) (b : Int) = ((a ^^^ b : Nat) : Int) := by
  show IntKind.i64.wrap ((BitVec.ofInt 64 (a : Int) ^^^ BitVec.ofInt 64 (b : Int)).toNat : Int) = _
  rw [BitVec.toNat_xor, toNat64 ha, toNat64 hb]
  exact wi64 (Nat.xor_lt_two_pow ha hb)
theorem shr64 {n i : Nat} (hi : i ≤ 64) : shr .i64 (n : Int) (i : Int) = ((n >>> i : Nat) : Int) := by
  unfold shr
  have e : min (i : Int).toNat IntKind.i64.bits = i := by simp [IntKind.bits]; omega
  rw [e, Nat.shiftRight_eq_div_pow]
  simp
theorem shr8 {n i : Nat} (hi : i ≤ 8) : shr .u8 (n : Int) (i : Int) = ((n >>> i : Nat) : Int) := by
  unfold shr
  have e : min (i : Int).toNat IntKind.u8.bits = i := by simp [IntKind.bits]; omega
  rw [e, Nat.shiftRight_eq_div_pow]
  simp
theorem shl64 {n i : Nat} (hn : n < 2 ^ 16) (hi : i ≤ 16) : shl .i64 (n : Int) (i : Int) = ((n <<< i : Nat) : Int) := by
  unfold shl
  have e : min (i : Int).toNat IntKind.i64.bits = i := by simp [IntKind.bits]; omega
  rw [e, Nat.shiftLeft_eq]
  have h : n * 2 ^ i < 2 ^ 63 := Nat.lt_of_lt_of_le (Nat.mul_lt_mul_of_lt_of_le hn (Nat.pow_le_pow_right (by decide) hi) (by decide)) (by decide)
  rw [show ((n : Int) * 2 ^ i) = ((n * 2 ^ i : Nat) : Int) from by simp]
  exact wi64 h
theorem and_one (n i : Nat) : (((n >>> i) &&& 1 : Nat) : Int) = 1 ↔ n.testBit i = true := by
  unfold Nat.testBit
  rw [Nat.and_comm 1 (n >>> i), bne_iff_ne, Nat.and_one_is_mod]
  omega
theorem bit64 {n i : Nat} (hn : n < 2 ^ 63) (hi : i ≤ 64) : (Go.bits .and .i64 (shr .i64 (n : Int) (i : Int)) 1 = 1) ↔ n.testBit i = true := by
  rw [shr64 hi, show (1 : Int) = ((1 : Nat) : Int) from rfl, band64 (Nat.lt_of_le_of_lt (Nat.shiftRight_le _ _) hn) (by decide)]
  exact and_one n i
theorem bit8 {n i : Nat} (hn : n < 256) (hi : i ≤ 8) : (Go.bits .and .u8 (shr .u8 (n : Int) (i : Int)) 1 = 1) ↔ n.testBit i = true := by
  rw [shr8 hi]
  have h1 : n >>> i < 256 := Nat.lt_of_le_of_lt (Nat.shiftRight_le _ _) hn
  have e : Go.bits .and .u8 ((n >>> i : Nat) : Int) 1 = (((n >>> i) &&& 1 : Nat) : Int) := by
    show IntKind.u8.wrap ((BitVec.ofInt 8 ((n >>> i : Nat) : Int) &&& BitVec.ofInt 8 ((1 : Nat) : Int)).toNat : Int) = _
    rw [BitVec.toNat_and, BitVec.ofInt_natCast, BitVec.ofInt_natCast, BitVec.toNat_ofNat, BitVec.toNat_ofNat, Nat.mod_eq_of_lt (by omega : n >>> i < 2 ^ 8), show 1 % 2 ^ 8 = 1 from rfl]
    have : (n >>> i) &&& 1 ≤ 1 := Nat.and_le_right
    rw [IntKind.wrap_u8]
    omega
  rw [e]
  exact and_one n i

/-! ### the reference's product -/
/-- The product of polynomials, the first i bits of b. -/
def acc (a b : Nat) : Nat → Nat
  | 0 => 0
  | i + 1 => if b.testBit i then acc a b i ^^^ (a <<< i) else acc a b i
/-- One step of the remainder: at bit i + 8. -/
def rst (i p : Nat) : Nat := if p.testBit (i + 8) then p ^^^ (285 <<< i) else p
/-- Steps i - 1 .. 0. -/
def red : Nat → Nat → Nat
  | 0, p => p
  | i + 1, p => red i (rst i p)
theorem rst_xor (i x y : Nat) : rst i (x ^^^ y) = rst i x ^^^ rst i y := by
  unfold rst
  rw [Nat.testBit_xor]
  cases x.testBit (i + 8) <;> cases y.testBit (i + 8) <;> simp
  · rw [Nat.xor_assoc]
  · rw [Nat.xor_assoc, Nat.xor_comm y, Nat.xor_assoc]
  · rw [Nat.xor_assoc, Nat.xor_comm (285 <<< i) , Nat.xor_assoc, Nat.xor_self, Nat.xor_zero]
theorem red_xor : ∀ i x y, red i (x ^^^ y) = red i x ^^^ red i y
  | 0, _, _ => rfl
  | i + 1, x, y => by unfold red; rw [rst_xor, red_xor i]
theorem red_zero : ∀ i, red i 0 = 0
  | 0 => rfl
  | i + 1 => by unfold red rst; simp [red_zero i]
theorem red_shl : ∀ a : BitVec 8, ∀ i : Fin 8, red 7 (a.toNat <<< i.val) = (xtn i.val a).toNat := by decide +kernel
theorem acc_lt {a b : Nat} (ha : a < 256) : ∀ i, i ≤ 8 → acc a b i < 2 ^ 16
  | 0, _ => by unfold acc; decide
  | i + 1, h => by
    unfold acc
    split
    · refine Nat.xor_lt_two_pow (acc_lt ha i (by omega)) ?_
      rw [Nat.shiftLeft_eq]
      exact Nat.lt_of_lt_of_le (Nat.mul_lt_mul_of_lt_of_le ha (Nat.pow_le_pow_right (by decide) (by omega : i ≤ 8)) (by decide)) (by decide)
    · exact acc_lt ha i (by omega)
theorem red_acc (a b : BitVec 8) : ∀ i, i ≤ 8 → red 7 (acc a.toNat b.toNat i) = (gmN a b i).toNat
  | 0, _ => by unfold acc gmN; rw [red_zero]; rfl
  | i + 1, h => by
    unfold acc gmN
    have e : b.getLsbD i = b.toNat.testBit i := rfl
    rw [e]
    split
    · rw [red_xor, red_acc a b i (by omega), red_shl a ⟨i, by omega⟩]
      simp
    · rw [red_acc a b i (by omega)]
      simp
theorem rst_lt {i p : Nat} (hp : p < 2 ^ 16) (hi : i ≤ 7) : rst i p < 2 ^ 16 := by
  unfold rst
  split
  · refine Nat.xor_lt_two_pow hp ?_
    rw [Nat.shiftLeft_eq]
    exact Nat.lt_of_lt_of_le (Nat.mul_lt_mul_of_lt_of_le (by decide : 285 < 512) (Nat.pow_le_pow_right (by decide) hi) (by decide)) (by decide)
  · exact hp
theorem Mul_l1 : ∀ i p : Nat, i ≤ 7 → p < 2 ^ 16 → Ends (fun k => recoupref01_Mul.l1 k (p : Int) ((i : Int) + 7)) (((red i p) % 256 : Nat) : Int)
  | 0, p, _, _ => Ends.succ (fun k => by rw [recoupref01_Mul.l1]) (Ends.neg (by omega) (Ends.const (by unfold red; simp)))
  | i + 1, p, hi, hp => by
    refine Ends.succ (fun k => by rw [recoupref01_Mul.l1]) (Ends.pos (by omega) ?_)
    have e0 : ((i + 1 : Nat) : Int) + 7 = ((i + 8 : Nat) : Int) := by omega
    have e1 : IntKind.u64.wrap (((i + 1 : Nat) : Int) + 7) = ((i + 8 : Nat) : Int) := by rw [e0]; exact wu64 (by omega) (by omega)
    have e2 : wrap64 (((i + 1 : Nat) : Int) + 7 - 1) = (i : Int) + 7 := by rw [w64 (by omega) (by omega)]; omega
    have e3 : IntKind.u64.wrap (wrap64 (((i + 1 : Nat) : Int) + 7 - 8)) = (i : Int) := by rw [w64 (by omega) (by omega), wu64 (by omega) (by omega)]; omega
    rw [e1, e2, e3]
    refine Ends.pos (Int.natCast_nonneg _) ?_
    have hb := bit64 (n := p) (i := i + 8) (by omega) (by omega)
    by_cases h : p.testBit (i + 8) = true
    · refine Ends.pos (hb.2 h) (Ends.pos (Int.natCast_nonneg _) ?_)
      have e4 : Go.bits .xor .i64 (p : Int) (shl .i64 285 (i : Int)) = ((rst i p : Nat) : Int) := by
        rw [show (285 : Int) = ((285 : Nat) : Int) from rfl, shl64 (by decide) (by omega), bxor64 (by omega) (by
          rw [Nat.shiftLeft_eq]
          exact Nat.lt_of_lt_of_le (Nat.mul_lt_mul_of_lt_of_le (by decide : 285 < 512) (Nat.pow_le_pow_right (by decide) (by omega : i ≤ 7)) (by decide)) (by decide))]
        unfold rst
        rw [if_pos h]
      rw [e4]
      exact Mul_l1 i (rst i p) (by omega) (rst_lt hp (by omega))
    · refine Ends.neg (fun e => h (hb.1 e)) ?_
      have e4 : rst i p = p := by unfold rst; rw [if_neg h]
      have := Mul_l1 i p (by omega) hp
      unfold red
      rw [e4]
      exact this
theorem Mul_l0 {a b : Nat} (ha : a < 256) (hb : b < 256) : ∀ n i : Nat, i + n = 8 → Ends (fun k => recoupref01_Mul.l0 k (a : Int) (b : Int) ((acc a b i : Nat) : Int) (i : Int)) (((red 7 (acc a b 8)) % 256 : Nat) : Int)
  | 0, i, h => by
    obtain rfl : i = 8 := by omega
    refine Ends.succ (fun k => by rw [recoupref01_Mul.l0]) (Ends.neg (by decide) ?_)
    exact Mul_l1 7 _ (by omega) (acc_lt ha 8 (Nat.le_refl _))
  | n + 1, i, h => by
    refine Ends.succ (fun k => by rw [recoupref01_Mul.l0]) (Ends.pos (by omega) ?_)
    have e1 : IntKind.u64.wrap (i : Int) = (i : Int) := wu64 (by omega) (by omega)
    have e2 : wrap64 ((i : Int) + 1) = ((i + 1 : Nat) : Int) := by rw [w64 (by omega) (by omega)]; omega
    rw [e1, e2]
    refine Ends.pos (Int.natCast_nonneg _) ?_
    have hbt := bit8 (n := b) (i := i) hb (by omega)
    have ih := Mul_l0 ha hb n (i + 1) (by omega)
    by_cases h1 : b.testBit i = true
    · refine Ends.pos (hbt.2 h1) ?_
      have e4 : Go.bits .xor .i64 ((acc a b i : Nat) : Int) (shl .i64 (wrap64 (a : Int)) (i : Int)) = ((acc a b (i + 1) : Nat) : Int) := by
        rw [w64 (by omega) (by omega), shl64 (by omega) (by omega), bxor64 (by have := acc_lt (b := b) ha i (by omega); omega) (by
          rw [Nat.shiftLeft_eq]
          exact Nat.lt_of_lt_of_le (Nat.mul_lt_mul_of_lt_of_le ha (Nat.pow_le_pow_right (by decide) (by omega : i ≤ 8)) (by decide)) (by decide))]
        conv => rhs; rw [acc]
        rw [if_pos h1]
      rw [e4]
      exact ih
    · refine Ends.neg (fun e => h1 (hbt.1 e)) ?_
      have e4 : acc a b (i + 1) = acc a b i := by conv => lhs; rw [acc]
                                                  rw [if_neg h1]
      rw [e4] at ih
      exact ih

/-! ### elements -/
def toE (x : Int) : El := ⟨BitVec.ofInt 8 x⟩
def ofE (e : El) : Int := ((e.v.toNat : Nat) : Int)
theorem toE_ofE (e : El) : toE (ofE e) = e := El.eq (by unfold toE ofE; simp [BitVec.ofInt_natCast])
theorem ofE_toE {x : Int} (h : 0 ≤ x ∧ x < 256) : ofE (toE x) = x := by
  obtain ⟨n, rfl⟩ := Int.eq_ofNat_of_zero_le h.1
  unfold ofE toE
  rw [BitVec.ofInt_natCast, BitVec.toNat_ofNat, Nat.mod_eq_of_lt (by omega)]
theorem ofE_range (e : El) : 0 ≤ ofE e ∧ ofE e < 256 := by unfold ofE; have := e.v.isLt; omega
theorem toE_inj {x y : Int} (hx : 0 ≤ x ∧ x < 256) (hy : 0 ≤ y ∧ y < 256) (h : toE x = toE y) : x = y := by rw [← ofE_toE hx, ← ofE_toE hy, h]
theorem Mul_ends {a b : Int} (ha : 0 ≤ a ∧ a < 256) (hb : 0 ≤ b ∧ b < 256) : Ends (fun k => recoupref01_Mul.f k a b) (ofE (toE a * toE b)) := by
  obtain ⟨x, rfl⟩ := Int.eq_ofNat_of_zero_le ha.1
  obtain ⟨y, rfl⟩ := Int.eq_ofNat_of_zero_le hb.1
  have hx : x < 256 := by omega
  have hy : y < 256 := by omega
  have h := Mul_l0 hx hy 8 0 rfl
  have e := red_acc (BitVec.ofNat 8 x) (BitVec.ofNat 8 y) 8 (Nat.le_refl _)
  rw [BitVec.toNat_ofNat, BitVec.toNat_ofNat, Nat.mod_eq_of_lt (by omega : x < 2 ^ 8), Nat.mod_eq_of_lt (by omega : y < 2 ^ 8)] at e
  refine Ends.eq h ?_
  rw [e, Nat.mod_eq_of_lt (gmN _ _ 8).isLt]
  unfold ofE toE
  rw [BitVec.ofInt_natCast, BitVec.ofInt_natCast]
  rfl
theorem xor_el {a b : Int} : toE (Go.bits .xor .u8 a b) = toE a + toE b := by
  refine El.eq ?_
  show BitVec.ofInt 8 (IntKind.u8.wrap ((BitVec.ofInt 8 a ^^^ BitVec.ofInt 8 b).toNat : Int)) = BitVec.ofInt 8 a ^^^ BitVec.ofInt 8 b
  have h := (BitVec.ofInt 8 a ^^^ BitVec.ofInt 8 b).isLt
  rw [IntKind.wrap_u8, Int.emod_eq_of_lt (by omega) (by omega), BitVec.ofInt_natCast, BitVec.ofNat_toNat, BitVec.setWidth_eq]
theorem xor_range (a b : Int) : 0 ≤ Go.bits .xor .u8 a b ∧ Go.bits .xor .u8 a b < 256 := by
  show 0 ≤ IntKind.u8.wrap _ ∧ IntKind.u8.wrap _ < 256
  rw [IntKind.wrap_u8]
  omega
end Go.Proofs.Ytccfbhnhedoggaa.M
