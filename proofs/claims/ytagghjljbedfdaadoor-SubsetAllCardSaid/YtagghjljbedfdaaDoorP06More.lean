/- What the printed functions over sets come to: Of at any numbers, Full, Has, Count; Place and At, and the reference's. -/
import Derived.Test.YtagghjljbedfdaaDoorP06Sets
import Derived.Test.YtagghjljbedfdaaDoorWLast
import Derived.Test.YtagghjljbedfdaaDoorQx4
import Derived.Test.YtagghjljbedfdaaDoorQx3
import Derived.Test.YtagghjljbedfdaaDoorQx5
import Derived.Test.YtagghjljbedfdaaDoorQx6
import Derived.Test.YtagghjljbedfdaaDoorQx7
namespace Go.Proofs.YtagghjljbedfdaaDoor.M
set_option linter.unusedVariables false
set_option linter.unusedSimpArgs false
open Go.RowKit Go.Proofs.YtagghjljbedfdaaDoor.Q Go.Proofs.YtagghjljbedfdaaDoorW.PrintWords Go.Proofs.YtagghjljbedfdaaDoorW.PrintMore

/-! ### two lists held against each other -/
theorem ints_l0 {a b : List Int} (hl : a.length = b.length) (hlen : a.length ≤ 9223372036854775806) (d : Nat) : ∀ i, i + d = a.length → ((∀ j, j < i → a.getD j 0 = b.getD j 0)) →
    Ends (fun k => recouplaw06_ints.l0 k a b (i : Int)) (decide (a = b)) := by
  induction d with
  | zero =>
    intro i hi h
    refine Ends.succ (fun k => by rw [recouplaw06_ints.l0]) (Ends.neg (by omega) (Ends.const ?_))
    have : a = b := by
      apply List.ext_getElem hl
      intro j h1 h2
      have := h j (by omega)
      rw [List.getD_eq_getElem?_getD, List.getD_eq_getElem?_getD, List.getElem?_eq_getElem h1, List.getElem?_eq_getElem h2] at this
      exact this
    simp [this]
  | succ d ih =>
    intro i hi h
    refine Ends.succ (fun k => by rw [recouplaw06_ints.l0]) ?_
    refine Ends.pos (by omega) (Ends.pos (by omega) (Ends.pos (by omega) ?_))
    rw [rd_nat, rd_nat, show wrap64 ((i : Int) + 1) = ((i + 1 : Nat) : Int) from by rw [w64 (by omega) (by omega)]; omega]
    by_cases hc : a.getD i 0 = b.getD i 0
    · refine Ends.pos hc ?_
      refine ih (i + 1) (by omega) fun j hj => ?_
      rcases Nat.lt_or_ge j i with h1 | h1
      · exact h j h1
      · obtain rfl : j = i := by omega
        exact hc
    · refine Ends.neg hc (Ends.const ?_)
      have : a ≠ b := fun e => hc (by rw [e])
      simp [this]
theorem ints_eq (a b : List Int) (hlen : a.length ≤ 9223372036854775806) : Ends (fun k => recouplaw06_ints.f k a b) (decide (a = b)) := by
  unfold recouplaw06_ints.f
  by_cases h : a.length = b.length
  · exact Ends.pos (by omega) (ints_l0 h hlen _ 0 (Nat.zero_add _) (fun j hj => by omega))
  · refine Ends.neg (by omega) (Ends.const ?_)
    have : a ≠ b := fun e => h (by rw [e])
    simp [this]
/-! ### Of, at any numbers -/
/-- What Of says from place i on, s being the set so far. -/
def ofV (l : List Int) (s : Nat) : Int × Int := if l.all (fun x => decide (0 ≤ x) && decide (x < 64)) = true then (((s ||| ofL (l.map Int.toNat) : Nat) : Int), 0) else (0, 2)
theorem ofV_cons {x : Int} {l : List Int} {s : Nat} (h0 : 0 ≤ x) (h1 : x < 64) : ofV (x :: l) s = ofV l (s ||| 2 ^ x.toNat) := by
  unfold ofV
  simp only [List.all_cons, h0, h1, decide_true, Bool.true_and, List.map_cons, ofL_cons, Nat.or_assoc]
theorem ofV_bad {x : Int} {l : List Int} {s : Nat} (h : x < 0 ∨ 64 ≤ x) : ofV (x :: l) s = (0, 2) := by
  unfold ofV
  rw [if_neg]
  simp only [List.all_cons, Bool.and_eq_true, decide_eq_true_eq]
  omega
theorem drop_cons' {l : List Int} {i : Nat} (h : i < l.length) : l.drop i = l.getD i 0 :: l.drop (i + 1) := by
  rw [List.drop_eq_getElem_cons h, List.getD_eq_getElem?_getD, List.getElem?_eq_getElem h]
  rfl
theorem Of_l0 {l : List Int} (hlen : l.length ≤ 9223372036854775806) (d : Nat) : ∀ i (s : Nat), s < 2 ^ 64 → i + d = l.length → Ends (fun k => subset_Of.l0 k (s : Int) l (l.length : Int) (i : Int)) (ofV (l.drop i) s) := by
  induction d with
  | zero =>
    intro i s hs hi
    refine Ends.succ (fun k => by rw [subset_Of.l0]) (Ends.neg (by omega) (Ends.const ?_))
    rw [List.drop_of_length_le (by omega)]
    simp [ofV, ofL_nil]
  | succ d ih =>
    intro i s hs hi
    refine Ends.succ (fun k => by rw [subset_Of.l0]) ?_
    refine Ends.pos (by omega) (Ends.pos (by omega) (Ends.pos (by omega) ?_))
    rw [rd_nat, drop_cons' (by omega), show wrap64 ((i : Int) + 1) = ((i + 1 : Nat) : Int) from by rw [w64 (by omega) (by omega)]; omega]
    generalize l.getD i 0 = x
    by_cases h0 : x < 0
    · exact Ends.pos h0 (Ends.const (by rw [ofV_bad (Or.inl h0)]))
    · refine Ends.neg h0 ?_
      by_cases h1 : x ≥ 64
      · exact Ends.pos h1 (Ends.const (by rw [ofV_bad (Or.inr h1)]))
      · refine Ends.neg h1 (Ends.pos (by omega) ?_)
        obtain ⟨y, rfl⟩ := Int.eq_ofNat_of_zero_le (show 0 ≤ x by omega)
        rw [ofV_cons (by omega) (by omega), Int.toNat_natCast, shl_one (by omega), bor hs (pow_lt (by omega))]
        exact ih (i + 1) _ (lt_or hs (pow_lt (by omega))) (by omega)
theorem Of_eq (l : List Int) (hlen : l.length ≤ 9223372036854775806) : Ends (fun k => subset_Of.f k l) (ofV l 0) := by
  unfold subset_Of.f
  exact Of_l0 hlen _ 0 0 (by decide) (Nat.zero_add _)
theorem refOfAny_l0 {l : List Int} (hlen : l.length ≤ 9223372036854775806) (d : Nat) : ∀ i (s : Nat), s < 2 ^ 64 → i + d = l.length → Ends (fun k => recoupref06_Of.l0 k l (s : Int) (i : Int)) (ofV (l.drop i) s) := by
  induction d with
  | zero =>
    intro i s hs hi
    refine Ends.succ (fun k => by rw [recoupref06_Of.l0]) (Ends.neg (by omega) (Ends.const ?_))
    rw [List.drop_of_length_le (by omega)]
    simp [ofV, ofL_nil]
  | succ d ih =>
    intro i s hs hi
    refine Ends.succ (fun k => by rw [recoupref06_Of.l0]) ?_
    refine Ends.pos (by omega) (Ends.pos (by omega) ?_)
    rw [rd_nat, drop_cons' (by omega), show wrap64 ((i : Int) + 1) = ((i + 1 : Nat) : Int) from by rw [w64 (by omega) (by omega)]; omega]
    generalize l.getD i 0 = x
    by_cases h0 : x < 0
    · exact Ends.pos h0 (Ends.const (by rw [ofV_bad (Or.inl h0)]))
    · refine Ends.neg h0 ?_
      by_cases h1 : x > 63
      · exact Ends.pos h1 (Ends.const (by rw [ofV_bad (Or.inr (by omega))]))
      · obtain ⟨y, rfl⟩ := Int.eq_ofNat_of_zero_le (show 0 ≤ x by omega)
        rw [show IntKind.u64.wrap (y : Int) = (y : Int) from wu64 (by omega) (by omega)]
        refine Ends.neg h1 (Ends.pos (by omega) ?_)
        rw [ofV_cons (by omega) (by omega), Int.toNat_natCast, shl_one (by omega), bor hs (pow_lt (by omega))]
        exact ih (i + 1) _ (lt_or hs (pow_lt (by omega))) (by omega)
theorem refOfAny_eq (l : List Int) (hlen : l.length ≤ 9223372036854775806) : Ends (fun k => recoupref06_Of.f k l) (ofV l 0) := by
  unfold recoupref06_Of.f
  exact refOfAny_l0 hlen _ 0 0 (by decide) (Nat.zero_add _)
theorem Full_eq (n : Int) : subset_Full.f n = some (fullV n) := by
  unfold subset_Full.f fullV
  rw [may_eq, Option.bind_some]
  by_cases h : 0 ≤ n ∧ n ≤ 64
  · rw [if_pos (by simpa using h), if_pos h]
    obtain ⟨m, rfl⟩ := Int.eq_ofNat_of_zero_le h.1
    rw [low_eq (by omega)]
    rfl
  · rw [if_neg (by simpa using h), if_neg h]
theorem Has_eq {s : Nat} (hs : s < 2 ^ 64) (i : Int) : subset_Has.f (s : Int) i = some (decide (0 ≤ i) && s.testBit i.toNat) := by
  unfold subset_Has.f
  by_cases h0 : i ≥ 0
  · rw [if_pos h0]
    obtain ⟨j, rfl⟩ := Int.eq_ofNat_of_zero_le h0
    by_cases h1 : (j : Int) < 64
    · rw [if_pos h1, if_pos (by omega), bit_asked hs (by omega)]
      simp
    · rw [if_neg h1, Int.toNat_natCast, testBit_big hs (by omega)]
      simp
  · rw [if_neg h0, show decide (0 ≤ i) = false from by simpa using h0]
    rfl
/-! ### Count -/
theorem div_nat (a b : Nat) : ((a : Nat) : Int) / (b : Int) = ((a / b : Nat) : Int) := by simp
theorem band64 {x : Nat} (hx : x < 2 ^ 63) : Go.bits .and .i64 (x : Int) 127 = ((x % 128 : Nat) : Int) := by
  have h1 : (BitVec.ofInt 64 (x : Int)).toNat = x := by
    rw [BitVec.ofInt_natCast, BitVec.toNat_ofNat]; exact Nat.mod_eq_of_lt (by omega)
  have h2 : (BitVec.ofInt 64 (127 : Int)).toNat = 127 := by decide
  show IntKind.i64.wrap ((BitVec.ofInt 64 (x : Int) &&& BitVec.ofInt 64 127).toNat : Int) = _
  rw [BitVec.toNat_and, h1, h2, show (127 : Nat) = 2 ^ 7 - 1 from rfl, Nat.and_two_pow_sub_one_eq_mod]
  have : x % 2 ^ 7 < 128 := Nat.mod_lt _ (by decide)
  have e : IntKind.i64.wrap ((x % 2 ^ 7 : Nat) : Int) = wrap64 ((x % 2 ^ 7 : Nat) : Int) := Go.Proofs.YtagghjljbedfdaaDoorW.PrintLast.i64_w _
  rw [e, w64 (by omega) (by omega)]
theorem ones_eq {s : Nat} (hs : s < 2 ^ 64) : bits_OnesCount64.f (s : Int) = some (((setL s).length : Nat) : Int) := by
  obtain ⟨l1, l2, l3, p1, q1, p2, q2, p3, q3, hsum, e1, e2, e3⟩ := steps s hs
  have b1 : ofD 4 l1 < 2 ^ 64 := by
    have := ofD_lt (B := 4) (by decide) (l := l1) fun c hc => by have := q1 c hc; omega
    rw [p1] at this
    exact this
  have b2 : ofD 16 l2 < 2 ^ 64 := by
    have := ofD_lt (B := 16) (by decide) (l := l2) fun c hc => by have := q2 c hc; omega
    rw [p2] at this
    exact this
  obtain ⟨c1, c2, c3⟩ := last l3 p3 q3
  have X1 : IntKind.u64.wrap ((Go.bits .and .u64 ((s : Int) / 2) 6148914691236517205) + (Go.bits .and .u64 (s : Int) 6148914691236517205)) = ((ofD 4 l1 : Nat) : Int) := by
    rw [show ((s : Int) / 2) = ((s / 2 : Nat) : Int) from div_nat s 2, show (6148914691236517205 : Int) = ((6148914691236517205 : Nat) : Int) from rfl, band (by omega) (by decide), band hs (by decide), ← Int.natCast_add, e1]
    exact wuN b1
  have X2 : IntKind.u64.wrap ((Go.bits .and .u64 (((ofD 4 l1 : Nat) : Int) / 4) 3689348814741910323) + (Go.bits .and .u64 ((ofD 4 l1 : Nat) : Int) 3689348814741910323)) = ((ofD 16 l2 : Nat) : Int) := by
    rw [show (((ofD 4 l1 : Nat) : Int) / 4) = ((ofD 4 l1 / 4 : Nat) : Int) from div_nat _ 4, show (3689348814741910323 : Int) = ((3689348814741910323 : Nat) : Int) from rfl, band (by omega) (by decide), band b1 (by decide), ← Int.natCast_add, e2]
    exact wuN b2
  have b3 : ofD 16 l2 / 16 + ofD 16 l2 < 2 ^ 64 := by
    have h := last16 l2 p2 q2
    omega
  have X3 : Go.bits .and .u64 (IntKind.u64.wrap (((ofD 16 l2 : Nat) : Int) / 16 + ((ofD 16 l2 : Nat) : Int))) 1085102592571150095 = ((ofD 256 l3 : Nat) : Int) := by
    rw [show (((ofD 16 l2 : Nat) : Int) / 16) = ((ofD 16 l2 / 16 : Nat) : Int) from div_nat _ 16, ← Int.natCast_add, wuN b3, show (1085102592571150095 : Int) = ((1085102592571150095 : Nat) : Int) from rfl, band b3 (by decide), e3]
  have X4 : IntKind.u64.wrap (((ofD 256 l3 : Nat) : Int) + ((ofD 256 l3 : Nat) : Int) / 256) = ((ofD 256 l3 + ofD 256 l3 / 256 : Nat) : Int) := by
    rw [show (((ofD 256 l3 : Nat) : Int) / 256) = ((ofD 256 l3 / 256 : Nat) : Int) from div_nat _ 256, ← Int.natCast_add]
    exact wuN (by omega)
  have X5 : ∀ y : Nat, y + y / 65536 < 2 ^ 63 → IntKind.u64.wrap ((y : Int) + (y : Int) / 65536) = ((y + y / 65536 : Nat) : Int) := by
    intro y hy
    rw [show ((y : Int) / 65536) = ((y / 65536 : Nat) : Int) from div_nat _ 65536, ← Int.natCast_add]
    exact wuN (by omega)
  have X6 : ∀ y : Nat, y < 2 ^ 63 → y + y / 4294967296 < 2 ^ 63 → wrap64 (IntKind.u64.wrap ((y : Int) + (y : Int) / 4294967296)) = ((y + y / 4294967296 : Nat) : Int) := by
    intro y _ hy
    rw [show ((y : Int) / 4294967296) = ((y / 4294967296 : Nat) : Int) from div_nat _ 4294967296, ← Int.natCast_add, wuN (by omega)]
    exact w64 (by omega) (by omega)
  unfold bits_OnesCount64.f
  rw [X1, X2, X3, X4, X5 _ c2]
  have b7 : (ofD 256 l3 + ofD 256 l3 / 256 + (ofD 256 l3 + ofD 256 l3 / 256) / 65536) < 2 ^ 60 := by omega
  rw [X6 _ (by omega) (by omega), band64 (by omega), c3, hsum]
theorem Count_eq {s : Nat} (hs : s < 2 ^ 64) : subset_Count.f (s : Int) = some (((setL s).length : Nat) : Int) := by
  unfold subset_Count.f
  rw [ones_eq hs]
  rfl
end Go.Proofs.YtagghjljbedfdaaDoor.M
