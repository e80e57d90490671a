/- The field of 256 elements: bytes, whose sum is the exclusive or, whose product is that of polynomials, reduced; sums of many. Plain: no program in sight. -/
namespace Go.Proofs.Ytccfbhnhedoggaa.M
/-- An element of the field. -/
structure El where
 v : BitVec 8
deriving DecidableEq
theorem El.eq {a b : El} (h : a.v = b.v) : a = b := by cases a; cases b; cases h; rfl
instance : Add El := ⟨fun a b => ⟨a.v ^^^ b.v⟩⟩
instance : Zero El := ⟨⟨0⟩⟩
instance : OfNat El 0 := ⟨⟨0⟩⟩
instance : OfNat El 1 := ⟨⟨1⟩⟩
theorem add_v (a b : El) : (a + b).v = a.v ^^^ b.v := rfl
theorem zero_v : (0 : El).v = 0 := rfl
theorem one_v : (1 : El).v = 1 := rfl
theorem add_comm (a b : El) : a + b = b + a := El.eq (BitVec.xor_comm _ _)
theorem add_assoc (a b c : El) : a + b + c = a + (b + c) := El.eq (BitVec.xor_assoc _ _ _)
theorem add_self (a : El) : a + a = 0 := El.eq BitVec.xor_self
theorem add_zero (a : El) : a + 0 = a := El.eq BitVec.xor_zero
theorem zero_add (a : El) : 0 + a = a := El.eq BitVec.zero_xor
instance : Std.Commutative (α := El) (· + ·) := ⟨add_comm⟩
instance : Std.Associative (α := El) (· + ·) := ⟨add_assoc⟩
theorem add_left_comm (a b c : El) : a + (b + c) = b + (a + c) := by ac_rfl
theorem add_cancel {a b : El} (h : a + b = 0) : a = b := by
 have : a + b + b = 0 + b := by rw [h]
 rw [add_assoc, add_self, add_zero, zero_add] at this
 exact this
theorem eq_add {a b c : El} (h : a + b = c) : a = c + b := by rw [← h, add_assoc, add_self, add_zero]
/-- An element times x. -/
def xt (a : BitVec 8) : BitVec 8 := (a <<< 1) ^^^ (if a.getLsbD 7 then 0x1d#8 else 0#8)
theorem xt_xor (a b : BitVec 8) : xt (a ^^^ b) = xt a ^^^ xt b := by
 unfold xt
 rw [BitVec.shiftLeft_xor_distrib, BitVec.getLsbD_xor]
 cases a.getLsbD 7 <;> cases b.getLsbD 7 <;> simp <;> first | ac_rfl | skip
 ·rw [show a <<< 1 ^^^ 29#8 ^^^ (b <<< 1 ^^^ 29#8) = (a <<< 1 ^^^ b <<< 1) ^^^ (29#8 ^^^ 29#8) from by ac_rfl]
  simp
def xtn : Nat → BitVec 8 → BitVec 8
 | 0, a => a
 | n + 1, a => xt (xtn n a)
theorem xtn_xor : ∀ n a b, xtn n (a ^^^ b) = xtn n a ^^^ xtn n b
 | 0, _, _ => rfl
 | n + 1, a, b => by
  show xt (xtn n (a ^^^ b)) = _
  rw [xtn_xor n, xt_xor]
  rfl
theorem xtn_xt : ∀ n a, xtn n (xt a) = xt (xtn n a)
 | 0, _ => rfl
 | n + 1, a => by
  show xt (xtn n (xt a)) = _
  rw [xtn_xt n]
  rfl
theorem xtn_add : ∀ m n a, xtn (m + n) a = xtn m (xtn n a)
 | 0, n, a => by rw [Nat.zero_add]; rfl
 | m + 1, n, a => by
  rw [show m + 1 + n = (m + n) + 1 from by omega]
  show xt (xtn (m + n) a) = xt (xtn m (xtn n a))
  rw [xtn_add m]
def gmN (a b : BitVec 8) : Nat → BitVec 8
 | 0 => 0
 | n + 1 => gmN a b n ^^^ (if b.getLsbD n then xtn n a else 0)
def gm (a b : BitVec 8) : BitVec 8 := gmN a b 8
theorem gmN_xor_right (a b c : BitVec 8) : ∀ n, gmN a (b ^^^ c) n = gmN a b n ^^^ gmN a c n
 | 0 => by simp [gmN]
 | n + 1 => by
  show gmN a (b ^^^ c) n ^^^ _ = (gmN a b n ^^^ _) ^^^ (gmN a c n ^^^ _)
  rw [gmN_xor_right a b c n, BitVec.getLsbD_xor, show (gmN a b n ^^^ if b.getLsbD n = true then xtn n a else 0) ^^^ (gmN a c n ^^^ if c.getLsbD n = true then xtn n a else 0) = (gmN a b n ^^^ gmN a c n) ^^^ ((if b.getLsbD n = true then xtn n a else 0) ^^^ (if c.getLsbD n = true then xtn n a else 0)) from by ac_rfl]
  cases b.getLsbD n <;> cases c.getLsbD n <;> simp
theorem gmN_xor_left (a b c : BitVec 8) : ∀ n, gmN (a ^^^ b) c n = gmN a c n ^^^ gmN b c n
 | 0 => by simp [gmN]
 | n + 1 => by
  show gmN (a ^^^ b) c n ^^^ _ = (gmN a c n ^^^ _) ^^^ (gmN b c n ^^^ _)
  rw [gmN_xor_left a b c n, show (gmN a c n ^^^ if c.getLsbD n = true then xtn n a else 0) ^^^ (gmN b c n ^^^ if c.getLsbD n = true then xtn n b else 0) = (gmN a c n ^^^ gmN b c n) ^^^ ((if c.getLsbD n = true then xtn n a else 0) ^^^ (if c.getLsbD n = true then xtn n b else 0)) from by ac_rfl, xtn_xor]
  cases c.getLsbD n <;> simp
theorem gmN_xt (a b : BitVec 8) : ∀ n, gmN (xt a) b n = xt (gmN a b n)
 | 0 => show (0 : BitVec 8) = xt 0 by decide
 | n + 1 => by
  show gmN (xt a) b n ^^^ _ = xt (gmN a b n ^^^ _)
  rw [gmN_xt a b n, xt_xor, xtn_xt]
  cases b.getLsbD n
  ·have : xt (0 : BitVec 8) = 0 := by decide
   simp only [Bool.false_eq_true, if_false]
   rw [this]
  ·simp
theorem gm_one_left : ∀ b : BitVec 8, gm 1 b = b := by decide +kernel
theorem gm_one_right : ∀ a : BitVec 8, gm a 1 = a := by decide +kernel
/-- The powers of x. -/
def pw (n : Nat) : BitVec 8 := xtn n 1
theorem gm_pw : ∀ i b, gm (pw i) b = xtn i b
 | 0, b => gm_one_left b
 | i + 1, b => by
  show gmN (xt (pw i)) b 8 = _
  rw [gmN_xt]
  show xt (gm (pw i) b) = _
  rw [gm_pw i b]
  rfl
theorem gm_pw_pw (i j : Nat) : gm (pw i) (pw j) = pw (i + j) := by
 rw [gm_pw]
 unfold pw
 rw [xtn_add]
theorem pw_255 : pw 255 = 1 := by decide +kernel
theorem pw_add_255 (n : Nat) : pw (n + 255) = pw n := by
 unfold pw
 rw [xtn_add]
 exact congrArg _ pw_255
/-- The least power of x below n, from one on, that is an element. -/
def lgFrom (a : BitVec 8) : Nat → Nat → BitVec 8 → Nat
 | 0, i, _ => i
 | f + 1, i, p => if p = a then i else lgFrom a f (i + 1) (xt p)
def lg (a : BitVec 8) : Nat := lgFrom a 254 0 1
theorem lgFrom_le (a : BitVec 8) : ∀ f i p, lgFrom a f i p ≤ i + f
 | 0, i, p => Nat.le_refl _
 | f + 1, i, p => by
  unfold lgFrom
  split
  ·omega
  ·have := lgFrom_le a f (i + 1) (xt p)
   omega
theorem lg_le (a : BitVec 8) : lg a ≤ 254 := by have := lgFrom_le a 254 0 1; unfold lg; omega
theorem pw_lg : ∀ a : BitVec 8, a ≠ 0 → pw (lg a) = a := by decide +kernel
theorem gm_zero_right (a : BitVec 8) : gm a 0 = 0 := by
 have := gmN_xor_right a 0 0 8
 simpa [gm] using this
theorem gm_zero_left (b : BitVec 8) : gm 0 b = 0 := by
 have := gmN_xor_left 0 0 b 8
 simpa [gm] using this
theorem gm_comm (a b : BitVec 8) : gm a b = gm b a := by
 by_cases ha : a = 0
 ·subst ha; rw [gm_zero_left, gm_zero_right]
 ·by_cases hb : b = 0
  ·subst hb; rw [gm_zero_left, gm_zero_right]
  ·rw [← pw_lg a ha, ← pw_lg b hb, gm_pw_pw, gm_pw_pw, Nat.add_comm]
theorem gm_assoc (a b c : BitVec 8) : gm (gm a b) c = gm a (gm b c) := by
 by_cases ha : a = 0
 ·subst ha; rw [gm_zero_left, gm_zero_left, gm_zero_left]
 ·by_cases hb : b = 0
  ·subst hb; rw [gm_zero_right, gm_zero_left, gm_zero_right]
  ·by_cases hc : c = 0
   ·subst hc; rw [gm_zero_right, gm_zero_right, gm_zero_right]
   ·rw [← pw_lg a ha, ← pw_lg b hb, ← pw_lg c hc, gm_pw_pw, gm_pw_pw, gm_pw_pw, gm_pw_pw, Nat.add_assoc]
def ginv (a : BitVec 8) : BitVec 8 := if a = 0 then 0 else pw (255 - lg a)
theorem gm_inv (a : BitVec 8) (h : a ≠ 0) : gm a (ginv a) = 1 := by
 unfold ginv
 have hl := lg_le a
 rw [if_neg h]
 conv => lhs; arg 1; rw [← pw_lg a h]
 rw [gm_pw_pw, show lg a + (255 - lg a) = 255 from by omega, pw_255]
instance : Mul El := ⟨fun a b => ⟨gm a.v b.v⟩⟩
def El.inv (a : El) : El := ⟨ginv a.v⟩
theorem mul_v (a b : El) : (a * b).v = gm a.v b.v := rfl
theorem mul_comm (a b : El) : a * b = b * a := El.eq (gm_comm _ _)
theorem mul_assoc (a b c : El) : a * b * c = a * (b * c) := El.eq (gm_assoc _ _ _)
instance : Std.Commutative (α := El) (· * ·) := ⟨mul_comm⟩
instance : Std.Associative (α := El) (· * ·) := ⟨mul_assoc⟩
theorem mul_left_comm (a b c : El) : a * (b * c) = b * (a * c) := by ac_rfl
theorem mul_one (a : El) : a * 1 = a := El.eq (gm_one_right _)
theorem one_mul (a : El) : 1 * a = a := El.eq (gm_one_left _)
theorem mul_zero (a : El) : a * 0 = 0 := El.eq (gm_zero_right _)
theorem zero_mul (a : El) : 0 * a = 0 := El.eq (gm_zero_left _)
theorem mul_add (a b c : El) : a * (b + c) = a * b + a * c := El.eq (gmN_xor_right _ _ _ 8)
theorem add_mul (a b c : El) : (a + b) * c = a * c + b * c := El.eq (gmN_xor_left _ _ _ 8)
theorem one_ne_zero : (1 : El) ≠ 0 := by decide
theorem v_ne {a : El} (h : a ≠ 0) : a.v ≠ 0 := fun e => h (El.eq e)
theorem mul_inv {a : El} (h : a ≠ 0) : a * a.inv = 1 := El.eq (gm_inv _ (v_ne h))
theorem inv_mul {a : El} (h : a ≠ 0) : a.inv * a = 1 := by rw [mul_comm, mul_inv h]
theorem inv_ne {a : El} (h : a ≠ 0) : a.inv ≠ 0 := fun e => by
 have := mul_inv h
 rw [e, mul_zero] at this
 exact one_ne_zero this.symm
theorem mul_eq_zero {a b : El} (h : a * b = 0) : a = 0 ∨ b = 0 := by
 by_cases ha : a = 0
 ·exact .inl ha
 ·right
  rw [← one_mul b, ← inv_mul ha, mul_assoc, h, mul_zero]
theorem inv_unique {a b : El} (h : a * b = 1) : b = a.inv := by
 have ha : a ≠ 0 := fun e => by rw [e, zero_mul] at h; exact one_ne_zero h.symm
 rw [← one_mul b, ← inv_mul ha, mul_assoc, h, mul_one]
theorem mul_cancel {a b c : El} (h : a ≠ 0) (e : a * b = a * c) : b = c := by
 rw [← one_mul b, ← one_mul c, ← inv_mul h, mul_assoc, mul_assoc, e]

/-! ### sums of many -/
def sm : Nat → (Nat → El) → El
 | 0, _ => 0
 | n + 1, f => sm n f + f n
theorem sm_congr {f g : Nat → El} : ∀ {n}, (∀ i, i < n → f i = g i) → sm n f = sm n g
 | 0, _ => rfl
 | n + 1, h => by
  show sm n f + f n = sm n g + g n
  rw [sm_congr (fun i hi => h i (by omega)), h n (by omega)]
theorem sm_zero {f : Nat → El} {n : Nat} (h : ∀ i, i < n → f i = 0) : sm n f = 0 := by
 induction n with
 | zero => rfl
 | succ n ih =>
  show sm n f + f n = 0
  rw [ih (fun i hi => h i (by omega)), h n (by omega), add_zero]
theorem sm_add (f g : Nat → El) : ∀ n, sm n (fun i => f i + g i) = sm n f + sm n g
 | 0 => (add_zero 0).symm
 | n + 1 => by
  show sm n (fun i => f i + g i) + (f n + g n) = (sm n f + f n) + (sm n g + g n)
  rw [sm_add f g n]
  ac_rfl
theorem sm_mul (a : El) (f : Nat → El) : ∀ n, sm n (fun i => a * f i) = a * sm n f
 | 0 => (mul_zero a).symm
 | n + 1 => by
  show sm n (fun i => a * f i) + a * f n = a * (sm n f + f n)
  rw [sm_mul a f n, mul_add]
theorem sm_mul_right (a : El) (f : Nat → El) (n : Nat) : sm n (fun i => f i * a) = sm n f * a := by
 rw [mul_comm, ← sm_mul]
 exact sm_congr fun i _ => mul_comm _ _
theorem sm_swap (f : Nat → Nat → El) : ∀ m n, sm m (fun i => sm n (fun j => f i j)) = sm n (fun j => sm m (fun i => f i j))
 | 0, n => (sm_zero fun _ _ => rfl).symm
 | m + 1, n => by
  show sm m (fun i => sm n (fun j => f i j)) + sm n (fun j => f m j) = sm n (fun j => sm m (fun i => f i j) + f m j)
  rw [sm_swap f m n, sm_add]
theorem sm_one {f : Nat → El} {n k : Nat} (hk : k < n) (h : ∀ i, i < n → i ≠ k → f i = 0) : sm n f = f k := by
 induction n with
 | zero => omega
 | succ n ih =>
  show sm n f + f n = f k
  by_cases e : k = n
  ·subst e
   rw [sm_zero fun i hi => h i (by omega) (by omega), zero_add]
  ·rw [ih (by omega) (fun i hi hne => h i (by omega) hne), h n (by omega) (fun x => e x.symm), add_zero]
theorem sm_split (f : Nat → El) (m : Nat) : ∀ n, sm (m + n) f = sm m f + sm n (fun i => f (m + i))
 | 0 => (add_zero _).symm
 | n + 1 => by
  show sm (m + n) f + f (m + n) = sm m f + (sm n (fun i => f (m + i)) + f (m + n))
  rw [sm_split f m n, add_assoc]
theorem sm_take {f : Nat → El} {m n : Nat} (h : m ≤ n) (hz : ∀ i, m ≤ i → i < n → f i = 0) : sm n f = sm m f := by
 obtain ⟨d, rfl⟩ : ∃ d, n = m + d := ⟨n - m, by omega⟩
 rw [sm_split, sm_zero (n := d) fun i hi => hz _ (by omega) (by omega), add_zero]
/-- All but one, and that one. -/
theorem sm_pick {f : Nat → El} {n k : Nat} (hk : k < n) : sm n f = f k + sm n (fun i => if i = k then 0 else f i) := by
 have h1 : sm n f = sm n (fun i => (if i = k then f i else 0) + (if i = k then 0 else f i)) := sm_congr fun i _ => by
  by_cases e : i = k
  ·rw [if_pos e, if_pos e, add_zero]
  ·rw [if_neg e, if_neg e, zero_add]
 rw [h1, sm_add, sm_one hk (fun i _ hne => if_neg hne), if_pos rfl]
end Go.Proofs.Ytccfbhnhedoggaa.M
