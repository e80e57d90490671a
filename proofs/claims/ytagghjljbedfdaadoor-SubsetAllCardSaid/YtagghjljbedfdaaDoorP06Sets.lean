/- What the printed functions over sets come to: Full, List, Of, Has, Count, Next, and the reference's. -/
import Derived.Test.YtagghjljbedfdaaDoorP06Choose
import Derived.Test.YtagghjljbedfdaaDoorMPop
import Derived.Test.YtagghjljbedfdaaDoorQx1
import Derived.Test.YtagghjljbedfdaaDoorQx2
import Derived.Test.YtagghjljbedfdaaDoorQx3
namespace Go.Proofs.YtagghjljbedfdaaDoor.M
set_option linter.unusedVariables false
set_option linter.unusedSimpArgs false
open Go.RowKit Go.Proofs.YtagghjljbedfdaaDoor.Q Go.Proofs.YtagghjljbedfdaaDoorW.PrintWords Go.Proofs.YtagghjljbedfdaaDoorW.PrintMore

/-- All numbers below n. -/
theorem low_lt {n : Nat} (hn : n ≤ 64) : 2 ^ n - 1 < 2 ^ 64 := by
  have : 2 ^ n ≤ 2 ^ 64 := Nat.pow_le_pow_right (by decide) hn
  have : 0 < 2 ^ n := Nat.pow_pos (by decide)
  omega
theorem low_eq {n : Nat} (hn : n ≤ 64) : subset_low.f (n : Int) = some ((2 ^ n - 1 : Nat) : Int) := by
  unfold subset_low.f
  rw [if_pos (by omega)]
  congr 1
  rcases Nat.lt_or_ge n 64 with h | h
  · rw [shl_one h]
    have h1 : 2 ^ n < 2 ^ 64 := pow_lt h
    have h0 : 0 < 2 ^ n := Nat.pow_pos (by decide)
    rw [wu64 (by omega) (by omega)]
    omega
  · obtain rfl : n = 64 := by omega
    rw [shl_one_64 (by omega)]
    decide
theorem testBit_low (n i : Nat) : (2 ^ n - 1).testBit i = decide (i < n) := Nat.testBit_two_pow_sub_one n i

/-! ### the sets of the reference -/
theorem refFull_l0 {n : Nat} (hn : n ≤ 64) (d : Nat) : ∀ i, i + d = n → Ends (fun k => recoupref06_Full.l0 k (n : Int) ((2 ^ i - 1 : Nat) : Int) (i : Int)) (((2 ^ n - 1 : Nat) : Int), 0) := by
  induction d with
  | zero =>
    intro i hi
    obtain rfl : i = n := by omega
    refine Ends.succ (fun k => by rw [recoupref06_Full.l0]) ?_
    exact Ends.neg (by omega) (Ends.const rfl)
  | succ d ih =>
    intro i hi
    refine Ends.succ (fun k => by rw [recoupref06_Full.l0]) ?_
    rw [show IntKind.u64.wrap (i : Int) = (i : Int) from wu64 (by omega) (by omega), show wrap64 ((i : Int) + 1) = ((i + 1 : Nat) : Int) from by rw [w64 (by omega) (by omega)]; omega]
    refine Ends.pos (by omega) (Ends.pos (by omega) ?_)
    have e : Go.bits .or .u64 ((2 ^ i - 1 : Nat) : Int) (shl .u64 1 (i : Int)) = ((2 ^ (i + 1) - 1 : Nat) : Int) := by
      rw [shl_one (by omega), bor (low_lt (by omega)) (pow_lt (by omega))]
      congr 1
      apply Nat.eq_of_testBit_eq
      intro j
      rw [Nat.testBit_or, testBit_low, testBit_low, Nat.testBit_two_pow, Bool.eq_iff_iff, Bool.or_eq_true, decide_eq_true_eq, decide_eq_true_eq, decide_eq_true_eq]
      omega
    rw [e]
    exact ih (i + 1) (by omega)
def fullV (n : Int) : Int × Int := if 0 ≤ n ∧ n ≤ 64 then (((2 ^ n.toNat - 1 : Nat) : Int), 0) else (0, 2)
theorem refFull_eq (n : Int) : Ends (fun k => recoupref06_Full.f k n) (fullV n) := by
  unfold recoupref06_Full.f fullV
  by_cases h0 : n < 0
  · refine Ends.pos h0 (Ends.succ (fun j => by rw [recoupref06_Full.j0]) (Ends.pos rfl (Ends.const ?_)))
    rw [if_neg (by omega)]
  · refine Ends.neg h0 ?_
    by_cases h1 : n > 64
    · refine Ends.succ (fun j => by rw [recoupref06_Full.j0]) (Ends.pos (by simpa using h1) (Ends.const ?_))
      rw [if_neg (by omega)]
    · rw [if_pos (by omega)]
      refine Ends.succ (fun j => by rw [recoupref06_Full.j0]) (Ends.neg (by simpa using h1) ?_)
      obtain ⟨m, rfl⟩ := Int.eq_ofNat_of_zero_le (show 0 ≤ n by omega)
      exact refFull_l0 (by omega) _ 0 (Nat.zero_add _)
theorem has_eq {s : Nat} (hs : s < 2 ^ 64) (i : Int) : recoupref06_Has.f (s : Int) i = some (decide (0 ≤ i) && s.testBit i.toNat) := by
  unfold recoupref06_Has.f
  by_cases h0 : i ≥ 0
  · rw [if_pos h0]
    obtain ⟨j, rfl⟩ := Int.eq_ofNat_of_zero_le h0
    by_cases h1 : (j : Int) < 64
    · rw [if_pos h1, show IntKind.u64.wrap (j : Int) = (j : Int) from wu64 (by omega) (by omega), if_pos (by omega), bit_asked hs (by omega)]
      simp
    · rw [if_neg h1, Int.toNat_natCast, testBit_big hs (by omega)]
      simp
  · rw [if_neg h0, show decide (0 ≤ i) = false from by simpa using h0]
    rfl
theorem refList_l0 {s : Nat} (hs : s < 2 ^ 64) (d : Nat) : ∀ i, i + d = 64 → Ends (fun k => recoupref06_List.l0 k (s : Int) (ints ((List.range i).filter fun j => s.testBit j)) (i : Int)) (ints (setL s)) := by
  induction d with
  | zero =>
    intro i hi
    obtain rfl : i = 64 := by omega
    refine Ends.succ (fun k => by rw [recoupref06_List.l0]) ?_
    exact Ends.neg (by omega) (Ends.const rfl)
  | succ d ih =>
    intro i hi
    have ihn := ih (i + 1) (by omega)
    refine Ends.succ (fun k => by rw [recoupref06_List.l0]) ?_
    rw [show wrap64 ((i : Int) + 1) = ((i + 1 : Nat) : Int) from by rw [w64 (by omega) (by omega)]; omega]
    refine Ends.pos (by omega) (Ends.bind1 (has_eq hs _) ?_)
    have hl : (ints ((List.range i).filter fun j => s.testBit j)).length < 17592186044416 := by
      rw [ints_length]
      have := List.length_filter_le (fun j => s.testBit j) (List.range i)
      rw [List.length_range] at this
      omega
    rw [List.range_succ, List.filter_append] at ihn
    by_cases hb : s.testBit i = true
    · refine Ends.pos (by simp [hb]) (Ends.pos hl ?_)
      rw [show List.filter (fun j => s.testBit j) [i] = [i] from by simp [hb], ints_append] at ihn
      exact ihn
    · refine Ends.neg (by simp [hb]) ?_
      rw [show List.filter (fun j => s.testBit j) [i] = [] from by simp [hb], List.append_nil] at ihn
      exact ihn
theorem refList_eq {s : Nat} (hs : s < 2 ^ 64) : Ends (fun k => recoupref06_List.f k (s : Int)) (ints (setL s)) := by
  unfold recoupref06_List.f
  exact refList_l0 hs 64 0 (by omega)
/-! ### the program's list -/
theorem List_l0 (d : Nat) : ∀ (s : Nat) (acc : List Nat), s < 2 ^ 64 → (setL s).length ≤ d → acc.length + (setL s).length ≤ 64 → Ends (fun k => subset_List.l0 k (s : Int) (ints acc)) (ints (acc ++ setL s)) := by
  induction d with
  | zero =>
    intro s acc hs hd hl
    have h0 : s = 0 := by
      apply Classical.byContradiction
      intro h
      rw [setL_step h hs] at hd
      simp at hd
    subst h0
    refine Ends.succ (fun k => by rw [subset_List.l0]) ?_
    refine Ends.pos (by rfl) (Ends.const ?_)
    rw [setL_zero, List.append_nil]
  | succ d ih =>
    intro s acc hs hd hl
    by_cases h0 : s = 0
    · subst h0
      refine Ends.succ (fun k => by rw [subset_List.l0]) ?_
      refine Ends.pos (by rfl) (Ends.const ?_)
      rw [setL_zero, List.append_nil]
    · have hst := setL_step h0 hs
      rw [hst, List.length_cons] at hd hl
      refine Ends.succ (fun k => by rw [subset_List.l0]) (Ends.neg (by omega) ?_)
      have ht : bits_TrailingZeros64.f (s : Int) = some ((Lib.ctz 64 s : Nat) : Int) := by
        unfold bits_TrailingZeros64.f
        rw [if_pos (by unfold u64B; simp; omega), Int.toNat_natCast]
      refine Ends.bind1 ht (Ends.pos (by rw [ints_length]; omega) ?_)
      have e : Go.bits .and .u64 (s : Int) (IntKind.u64.wrap ((s : Int) - 1)) = ((s &&& (s - 1) : Nat) : Int) := by
        rw [wu64 (by omega) (by omega), show ((s : Int) - 1) = ((s - 1 : Nat) : Int) from by omega, band hs (by omega)]
      rw [e, show ints acc ++ [((Lib.ctz 64 s : Nat) : Int)] = ints (acc ++ [Lib.ctz 64 s]) from by rw [ints_append]; rfl]
      refine (ih (s &&& (s - 1)) (acc ++ [Lib.ctz 64 s]) (lt_and hs) (by omega) (by simp; omega)).eq ?_
      rw [hst, List.append_assoc]
      rfl
theorem List_eq {s : Nat} (hs : s < 2 ^ 64) : Ends (fun k => subset_List.f k (s : Int)) (ints (setL s)) := by
  unfold subset_List.f
  exact List_l0 64 s [] hs (setL_length s) (by have := setL_length s; simpa using this)
/-! ### the set of a list -/
theorem refOf_l0 {l : List Nat} (h : ∀ x ∈ l, x < 64) (hlen : l.length ≤ 1000000) (d : Nat) : ∀ i, i + d = l.length → Ends (fun k => recoupref06_Of.l0 k (ints l) ((ofL (l.take i) : Nat) : Int) (i : Int)) (((ofL l : Nat) : Int), 0) := by
  induction d with
  | zero =>
    intro i hi
    refine Ends.succ (fun k => by rw [recoupref06_Of.l0]) (Ends.neg (by rw [ints_length]; omega) (Ends.const ?_))
    rw [List.take_of_length_le (by omega)]
  | succ d ih =>
    intro i hi
    have hil : i < l.length := by omega
    have hx := h _ (List.getElem_mem hil)
    refine Ends.succ (fun k => by rw [recoupref06_Of.l0]) ?_
    rw [rd_ints l i hil, show IntKind.u64.wrap ((l[i] : Nat) : Int) = ((l[i] : Nat) : Int) from wu64 (by omega) (by omega), show wrap64 ((i : Int) + 1) = ((i + 1 : Nat) : Int) from by rw [w64 (by omega) (by omega)]; omega]
    refine Ends.pos (by rw [ints_length]; omega) (Ends.pos (by omega) (Ends.neg (by omega) (Ends.neg (by omega) (Ends.pos (by omega) ?_))))
    rw [shl_one hx, bor (ofL_lt _ fun j hj => h j (List.mem_of_mem_take hj)) (pow_lt hx), ← ofL_snoc, ← List.take_succ_eq_append_getElem hil]
    exact ih (i + 1) (by omega)
theorem refOf_eq {l : List Nat} (h : ∀ x ∈ l, x < 64) (hlen : l.length ≤ 1000000) : Ends (fun k => recoupref06_Of.f k (ints l)) (((ofL l : Nat) : Int), 0) := by
  unfold recoupref06_Of.f
  exact refOf_l0 h hlen _ 0 (Nat.zero_add _)
theorem refof_eq {l : List Nat} (h : ∀ x ∈ l, x < 64) (hlen : l.length ≤ 1000000) : Ends (fun k => recoupref06_of.f k (ints l)) ((ofL l : Nat) : Int) := by
  unfold recoupref06_of.f
  exact Ends.bind (refOf_eq h hlen) (Ends.const rfl)
/-! ### the next set -/
/-- So many numbers from one on. -/
def run (x c : Nat) : List Nat := List.range' x c
/-- The place of the number that can rise: the greatest one. -/
def downN (l : List Nat) (n : Nat) : Nat → Option Nat
  | 0 => none
  | i + 1 => if l.getD i 0 + l.length < n + i then some i else downN l n i
/-- The list of the next set, if there is one. -/
def nextL (n : Nat) (l : List Nat) : Option (List Nat) := (downN l n l.length).map fun i => l.take i ++ run (l.getD i 0 + 1) (l.length - i)
theorem downN_lt {l : List Nat} {n i : Nat} : ∀ m, downN l n m = some i → i < m ∧ l.getD i 0 + l.length < n + i
  | 0, h => by cases h
  | m + 1, h => by
    unfold downN at h
    split at h
    · injection h with h
      subst h
      exact ⟨by omega, by assumption⟩
    · have := downN_lt m h
      exact ⟨by omega, this.2⟩
theorem down_eq {l : List Nat} {n : Nat} : ∀ m, m ≤ l.length → subset_Next.down (ints l) (n : Int) m = downN l n m
  | 0, _ => rfl
  | i + 1, h => by
    have ih := down_eq (l := l) (n := n) i (by omega)
    unfold subset_Next.down downN
    rw [ih, ints_getD, ints_length]
    by_cases hc : l.getD i 0 + l.length < n + i
    · rw [if_pos hc, if_pos (by omega)]
    · rw [if_neg hc, if_neg (by omega)]
theorem fill_eq (c : Nat) : ∀ (out x : Nat), out < 2 ^ 64 → x + c ≤ 64 → subset_Next.fill c (out : Int) (x : Int) = ((out ||| ofL (run x c) : Nat) : Int) := by
  induction c with
  | zero => intro out x _ _; simp [subset_Next.fill, run, ofL_nil]
  | succ c ih =>
    intro out x ho hx
    unfold subset_Next.fill
    rw [shl_one (by omega), bor ho (pow_lt (by omega)), show ((x : Int) + 1) = ((x + 1 : Nat) : Int) from by omega, ih _ _ (lt_or ho (pow_lt (by omega))) (by omega), show run x (c + 1) = x :: run (x + 1) c from List.range'_succ, ofL_cons, Nat.or_assoc]
/-- The numbers of a rising list below its number at place i are those ahead of it. -/
theorem take_below {l : List Nat} (hs : l.Pairwise (· < ·)) (hl : ∀ x ∈ l, x < 64) {i : Nat} (hi : i < l.length) : ofL l &&& (2 ^ (l.getD i 0) - 1) = ofL (l.take i) := by
  have hg : l.getD i 0 = l[i] := by rw [List.getD_eq_getElem?_getD, List.getElem?_eq_getElem hi]; rfl
  apply Nat.eq_of_testBit_eq
  intro j
  rw [Nat.testBit_and, testBit_ofL, testBit_low, testBit_ofL, Bool.eq_iff_iff, Bool.and_eq_true, decide_eq_true_eq, decide_eq_true_eq, decide_eq_true_eq, hg]
  rw [List.pairwise_iff_getElem] at hs
  constructor
  · rintro ⟨h1, h2⟩
    obtain ⟨p, hp, rfl⟩ := List.mem_iff_getElem.1 h1
    have hpi : p < i := by
      rcases Nat.lt_trichotomy p i with h | h | h
      · exact h
      · subst h; omega
      · have := hs i p hi hp h; omega
    rw [List.mem_iff_getElem]
    exact ⟨p, by rw [List.length_take]; omega, by rw [List.getElem_take]⟩
  · intro h
    obtain ⟨p, hp, rfl⟩ := List.mem_iff_getElem.1 h
    rw [List.length_take] at hp
    rw [List.getElem_take]
    exact ⟨List.getElem_mem _, hs p i (by omega) hi (by omega)⟩
/-- Is the set s one of n? -/
def setOk (n : Int) (s : Nat) : Prop := 0 ≤ n ∧ n ≤ 64 ∧ ∀ i ∈ setL s, (i : Int) < n
instance (n : Int) (s : Nat) : Decidable (setOk n s) := by unfold setOk; infer_instance
theorem within {n s : Nat} (hn : n ≤ 64) (hs : s < 2 ^ 64) : (s &&& (2 ^ 64 - 1 - (2 ^ n - 1)) = 0) ↔ ∀ i ∈ setL s, i < n := by
  constructor
  · intro h i hi
    have h1 := congrArg (fun x => x.testBit i) h
    simp only [Nat.zero_testBit] at h1
    rw [testBit_andNot hs (low_lt hn), (mem_setL.1 hi).2, testBit_low] at h1
    simpa using h1
  · intro h
    apply Nat.eq_of_testBit_eq
    intro i
    rw [testBit_andNot hs (low_lt hn), testBit_low, Nat.zero_testBit]
    by_cases hb : s.testBit i = true
    · have := h i ((mem_setL' hs).2 hb)
      simp [this]
    · simp [hb]
theorem asked {n s : Nat} (hn : n ≤ 64) (hs : s < 2 ^ 64) : (Go.bits .andNot .u64 (s : Int) ((2 ^ n - 1 : Nat) : Int) = 0) ↔ setOk (n : Int) s := by
  rw [bandNot hs (low_lt hn)]
  have h := within hn hs
  unfold setOk
  constructor
  · intro h1
    have h2 := h.1 (by omega)
    exact ⟨by omega, by omega, fun i hi => by have := h2 i hi; omega⟩
  · rintro ⟨_, _, h1⟩
    have := h.2 fun i hi => by have := h1 i hi; omega
    omega
def nextV (n : Int) (s : Nat) : Int × Bool := if setOk n s then match nextL n.toNat (setL s) with
    | some l => (((ofL l : Nat) : Int), true)
    | none => (0, false)
  else (0, false)
theorem nextL_ok {n : Nat} (hn : n ≤ 64) {l m : List Nat} (hs : l.Pairwise (· < ·)) (hl : ∀ x ∈ l, x < n) (h : nextL n l = some m) : m.Pairwise (· < ·) ∧ (∀ x ∈ m, x < n) ∧ m.length = l.length := by
  unfold nextL at h
  obtain ⟨i, hi, rfl⟩ := Option.map_eq_some_iff.1 h
  obtain ⟨h1, h2⟩ := downN_lt _ hi
  have hg : l.getD i 0 = l[i] := by rw [List.getD_eq_getElem?_getD, List.getElem?_eq_getElem h1]; rfl
  rw [hg] at h2 ⊢
  refine ⟨?_, ?_, ?_⟩
  · rw [List.pairwise_append]
    refine ⟨List.Pairwise.sublist (List.take_sublist _ _) hs, by unfold run; exact List.pairwise_lt_range', fun a ha b hb => ?_⟩
    rw [List.pairwise_iff_getElem] at hs
    obtain ⟨p, hp, rfl⟩ := List.mem_iff_getElem.1 ha
    rw [List.length_take] at hp
    rw [List.getElem_take]
    have := hs p i (by omega) h1 (by omega)
    simp [run] at hb
    omega
  · intro x hx
    rw [List.mem_append] at hx
    rcases hx with hx | hx
    · exact hl x (List.mem_of_mem_take hx)
    · simp [run] at hx
      omega
  · simp [run]
    omega
theorem Next_eq (n : Int) {s : Nat} (hs : s < 2 ^ 64) : Ends (fun k => subset_Next.f k n (s : Int)) (nextV n s) := by
  unfold subset_Next.f
  refine Ends.bind1 (may_eq n) ?_
  by_cases hm : 0 ≤ n ∧ n ≤ 64
  · refine Ends.pos (by simpa using hm) ?_
    obtain ⟨m, rfl⟩ := Int.eq_ofNat_of_zero_le hm.1
    have hm64 : m ≤ 64 := by omega
    refine Ends.bind1 (low_eq hm64) ?_
    by_cases ha : setOk (m : Int) s
    · refine Ends.pos ((asked hm64 hs).2 ha) ?_
      refine Ends.bind (List_eq hs) (Ends.const ?_)
      have hsl := setL_sorted s
      have hin : ∀ x ∈ setL s, x < m := fun x hx => by have := ha.2.2 x hx; omega
      have hlen := setL_length s
      unfold subset_Next.behind nextV
      rw [if_pos ha, if_pos, ints_length, Int.toNat_natCast]
      · rw [down_eq _ (Nat.le_refl _)]
        unfold nextL
        cases hd : downN (setL s) m (setL s).length with
        | none => rfl
        | some i =>
          obtain ⟨h1, h2⟩ := downN_lt _ hd
          have hg : (setL s).getD i 0 = (setL s)[i] := by rw [List.getD_eq_getElem?_getD, List.getElem?_eq_getElem h1]; rfl
          have hx := hin _ (List.getElem_mem h1)
          simp only [subset_Next.tail]
          rw [ints_getD, ints_length, low_eq (by omega), Option.bind_some, band hs (low_lt (by omega)), show (((setL s).getD i 0 : Nat) : Int) + 1 = (((setL s).getD i 0 + 1 : Nat) : Int) from by omega, fill_eq _ _ _ (lt_and hs) (by omega)]
          simp only [Option.map_some]
          have h3 := take_below hsl (fun x hx => by have := hin x hx; omega) h1
          rw [ofL_setL hs] at h3
          rw [h3]
          congr 2
          congr 1
          apply Nat.eq_of_testBit_eq
          intro j
          rw [Nat.testBit_or, testBit_ofL, testBit_ofL, testBit_ofL, Bool.eq_iff_iff, Bool.or_eq_true, decide_eq_true_eq, decide_eq_true_eq, decide_eq_true_eq, List.mem_append]
      · unfold subset_Next.okB
        simp only [Bool.and_eq_true, decide_eq_true_eq, List.all_eq_true, ints_length]
        refine ⟨⟨⟨by omega, by omega⟩, hlen⟩, fun x hx => ?_⟩
        unfold ints at hx
        obtain ⟨y, hy, rfl⟩ := List.mem_map.1 hx
        have := (mem_setL.1 hy).1
        omega
    · refine Ends.neg (fun h => ha ((asked hm64 hs).1 h)) (Ends.const ?_)
      unfold nextV
      rw [if_neg ha]
  · refine Ends.neg (by simpa using hm) (Ends.const ?_)
    unfold nextV
    rw [if_neg (fun h => hm ⟨h.1, h.2.1⟩)]
/-! ### the reference's next set -/
/-- The list while the reference writes it anew from place i on, up to place j. -/
def midL (l : List Nat) (i j : Nat) : List Nat := l.take i ++ run (l.getD i 0 + 1) (j - i) ++ l.drop j
theorem midL_length {l : List Nat} {i j : Nat} (hi : i ≤ j) (hj : j ≤ l.length) : (midL l i j).length = l.length := by
  simp [midL, run]
  omega
theorem midL_getD {l : List Nat} {i j : Nat} (hi : i ≤ j) (hj : j < l.length) : (midL l i (j + 1)).getD j 0 = l.getD i 0 + 1 + (j - i) := by
  unfold midL
  rw [List.getD_eq_getElem?_getD, List.append_assoc, List.getElem?_append_right (by rw [List.length_take]; omega), List.getElem?_append_left (by simp [run]; omega), run, List.length_take, List.getElem?_range' (by omega)]
  simp
  omega
theorem midL_set {l : List Nat} {i j : Nat} (hi : i ≤ j) (hj : j < l.length) : (midL l i j).set j (l.getD i 0 + 1 + (j - i)) = midL l i (j + 1) := by
  unfold midL
  have e1 : (l.take i ++ run (l.getD i 0 + 1) (j - i)).length = j := by simp [run]; omega
  have e2 : l.drop j = l[j] :: l.drop (j + 1) := (List.drop_eq_getElem_cons hj)
  rw [e2, List.set_append, if_neg (by omega), e1, Nat.sub_self, List.set_cons_zero]
  have e3 : run (l.getD i 0 + 1) (j + 1 - i) = run (l.getD i 0 + 1) (j - i) ++ [l.getD i 0 + 1 + (j - i)] := by
    unfold run
    rw [show j + 1 - i = (j - i) + 1 from by omega, List.range'_concat]
    simp
  rw [e3]
  simp
theorem ints_set (l : List Nat) (i x : Nat) : (ints l).set i (x : Int) = ints (l.set i x) := by simp [ints, List.map_set]
theorem refNext_l1 {l : List Nat} {i : Nat} (hi : i < l.length) (hlen : l.length ≤ 64) (hb : l.getD i 0 + 1 + (l.length - i) ≤ 64) (hl : ∀ x ∈ l, x < 64) (d : Nat) : ∀ j, j + d = l.length → i < j →
    Ends (fun k => recoupref06_Next.l1 k (ints (midL l i j)) (j : Int)) (((ofL (midL l i l.length) : Nat) : Int), true) := by
  induction d with
  | zero =>
    intro j hj hij
    obtain rfl : j = l.length := by omega
    refine Ends.succ (fun k => by rw [recoupref06_Next.l1]) (Ends.neg (by rw [ints_length, midL_length (by omega) (by omega)]; omega) ?_)
    refine Ends.bind (refof_eq (fun x hx => ?_) (by rw [midL_length (by omega) (by omega)]; omega)) (Ends.const rfl)
    unfold midL at hx
    rw [List.mem_append, List.mem_append] at hx
    rcases hx with (hx | hx) | hx
    · exact hl x (List.mem_of_mem_take hx)
    · simp only [run, List.mem_range'_1] at hx
      omega
    · exact hl x (List.mem_of_mem_drop hx)
  | succ d ih =>
    intro j hj hij
    refine Ends.succ (fun k => by rw [recoupref06_Next.l1]) ?_
    have hL : ((ints (midL l i j)).length : Int) = l.length := by rw [ints_length, midL_length (by omega) (by omega)]
    rw [hL, show wrap64 ((j : Int) - 1) = ((j - 1 : Nat) : Int) from by rw [w64 (by omega) (by omega)]; omega, show wrap64 ((j : Int) + 1) = ((j + 1 : Nat) : Int) from by rw [w64 (by omega) (by omega)]; omega]
    refine Ends.pos (by omega) (Ends.pos (by omega) (Ends.pos (by omega) (Ends.pos (by omega) ?_)))
    have hg := midL_getD (l := l) (i := i) (j := j - 1) (by omega) (by omega)
    rw [show j - 1 + 1 = j from by omega] at hg
    rw [rd_nat, ints_getD, hg, Int.toNat_natCast, show wrap64 (((l.getD i 0 + 1 + (j - 1 - i) : Nat) : Int) + 1) = ((l.getD i 0 + 1 + (j - i) : Nat) : Int) from by rw [w64 (by omega) (by omega)]; omega, ints_set, midL_set (by omega) (by omega)]
    exact ih (j + 1) (by omega) (by omega)
theorem midL_all {l : List Nat} {i : Nat} (hi : i ≤ l.length) : midL l i l.length = l.take i ++ run (l.getD i 0 + 1) (l.length - i) := by simp [midL]
theorem refNext_l0 {l : List Nat} {n : Nat} (hn : n ≤ 64) (hlen : l.length ≤ 64) (hl : ∀ x ∈ l, x < n) : ∀ m, m ≤ l.length →
    Ends (fun k => recoupref06_Next.l0 k (n : Int) (ints l) ((m : Int) - 1)) (match (downN l n m).map fun i => l.take i ++ run (l.getD i 0 + 1) (l.length - i) with | some m => (((ofL m : Nat) : Int), true) | none => (0, false))
  | 0, _ => by
    refine Ends.succ (fun k => by rw [recoupref06_Next.l0]) ?_
    exact Ends.neg (by omega) (Ends.const rfl)
  | i + 1, hm => by
    have ih := refNext_l0 hn hlen hl i (by omega)
    refine Ends.succ (fun k => by rw [recoupref06_Next.l0]) ?_
    have hil : i < l.length := by omega
    have hg : l.getD i 0 = l[i] := by rw [List.getD_eq_getElem?_getD, List.getElem?_eq_getElem hil]; rfl
    have hx : l.getD i 0 < n := by rw [hg]; exact hl _ (List.getElem_mem hil)
    rw [show ((i + 1 : Nat) : Int) - 1 = (i : Int) from by omega, ints_length, rd_nat, ints_getD, show wrap64 ((n : Int) - (l.length : Int)) = (n : Int) - (l.length : Int) from w64 (by omega) (by omega), show wrap64 ((n : Int) - (l.length : Int) + (i : Int)) = (n : Int) - (l.length : Int) + (i : Int) from w64 (by omega) (by omega)]
    refine Ends.pos (by omega) (Ends.pos (by omega) (Ends.pos (by omega) ?_))
    by_cases hc : l.getD i 0 + l.length < n + i
    · refine Ends.pos (by omega) ?_
      rw [show wrap64 (((l.getD i 0 : Nat) : Int) + 1) = ((l.getD i 0 + 1 : Nat) : Int) from by rw [w64 (by omega) (by omega)]; omega, show wrap64 ((i : Int) + 1) = ((i + 1 : Nat) : Int) from by rw [w64 (by omega) (by omega)]; omega, Int.toNat_natCast, ints_set]
      have e0 : l = midL l i i := by simp [midL, run]
      have e1 : l.set i (l.getD i 0 + 1) = midL l i (i + 1) := by
        have := midL_set (l := l) (i := i) (j := i) (Nat.le_refl _) hil
        rw [← e0] at this
        simpa using this
      rw [e1]
      refine (refNext_l1 hil hlen (by omega) (fun x hx => by have := hl x hx; omega) (l.length - (i + 1)) (i + 1) (by omega) (by omega)).eq ?_
      rw [midL_all (by omega), downN, if_pos hc]
      rfl
    · refine Ends.neg (by omega) ?_
      rw [show wrap64 ((i : Int) - 1) = (i : Int) - 1 from w64 (by omega) (by omega)]
      refine ih.eq ?_
      rw [downN, if_neg hc]
theorem refNext_eq (n : Int) {s : Nat} (hs : s < 2 ^ 64) : Ends (fun k => recoupref06_Next.f k n (s : Int)) (nextV n s) := by
  unfold recoupref06_Next.f
  refine Ends.bind (refFull_eq n) ?_
  unfold fullV
  by_cases hm : 0 ≤ n ∧ n ≤ 64
  · rw [if_pos hm]
    obtain ⟨m, rfl⟩ := Int.eq_ofNat_of_zero_le hm.1
    have hm64 : m ≤ 64 := by omega
    rw [Int.toNat_natCast]
    refine Ends.pos rfl (Ends.succ (fun k => by rw [recoupref06_Next.j0]) ?_)
    have ha := asked hm64 hs
    by_cases hk : setOk (m : Int) s
    · have h0 := ha.2 hk
      refine Ends.neg (by simpa using h0) ?_
      refine Ends.bind (refList_eq hs) ?_
      have hlen := setL_length s
      rw [ints_length, show wrap64 (((setL s).length : Int) - 1) = ((setL s).length : Int) - 1 from w64 (by omega) (by omega)]
      refine (refNext_l0 hm64 hlen (fun x hx => by have := hk.2.2 x hx; omega) _ (Nat.le_refl _)).eq ?_
      unfold nextV nextL
      rw [if_pos hk, Int.toNat_natCast]
    · have h0 : ¬ Go.bits .andNot .u64 (s : Int) ((2 ^ m - 1 : Nat) : Int) = 0 := fun h => hk (ha.1 h)
      refine Ends.pos (by simpa using h0) (Ends.const ?_)
      unfold nextV
      rw [if_neg hk]
  · rw [if_neg hm]
    refine Ends.neg (by decide) (Ends.succ (fun k => by rw [recoupref06_Next.j0]) (Ends.pos rfl (Ends.const ?_)))
    unfold nextV
    rw [if_neg (fun h => hm ⟨h.1, h.2.1⟩)]
end Go.Proofs.YtagghjljbedfdaaDoor.M
