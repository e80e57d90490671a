/- What the printed Place and At come to, and the reference's. -/
import Derived.Test.YtagghjljbedfdaaDoorP06More
import Derived.Test.YtagghjljbedfdaaDoorMPlace
namespace Go.Proofs.YtagghjljbedfdaaDoor.M
set_option linter.unusedVariables false
set_option linter.unusedSimpArgs false
open Go.RowKit Go.Proofs.YtagghjljbedfdaaDoor.Q Go.Proofs.YtagghjljbedfdaaDoorW.PrintWords Go.Proofs.YtagghjljbedfdaaDoorW.PrintMore

theorem wrap_pred {a b : Nat} (h : b < a) (ha : a ≤ 1000) : wrap64 (wrap64 ((a : Int) - (b : Int)) - 1) = ((a - b - 1 : Nat) : Int) := by
  rw [show wrap64 ((a : Int) - (b : Int)) = (a : Int) - (b : Int) from w64 (by omega) (by omega), w64 (by omega) (by omega)]
  omega
theorem wrap_succ {a : Nat} (ha : a ≤ 1000) : wrap64 ((a : Int) + 1) = ((a + 1 : Nat) : Int) := by
  rw [w64 (by omega) (by omega)]
  omega
theorem wrap_sum {p c : Nat} (h : p + c ≤ 1832624140942590534) : wrap64 ((p : Int) + (c : Int)) = ((p + c : Nat) : Int) := by
  rw [w64 (by omega) (by omega)]
  omega
theorem Place_l1 {n : Nat} (hn : n ≤ 64) {x t : Nat} (hx : x < n) {L : List Int} {len i : Int} {R : Int × Int} : ∀ d v p, v + d = x → p + gap n v d t ≤ 1832624140942590534 →
    Ends (fun k => subset_Place.l0 k (n : Int) ((p + gap n v d t : Nat) : Int) ((x + 1 : Nat) : Int) (t : Int) L len (wrap64 (i + 1))) R →
    Ends (fun k => subset_Place.l1 k (n : Int) (p : Int) (t : Int) (x : Int) (v : Int) L len i) R
  | 0, v, p, hv, hb, hR => by
    refine Ends.succ (fun k => by rw [subset_Place.l1]) ?_
    rw [wrap_succ (show x ≤ 1000 by omega)]
    exact Ends.neg (by omega) hR
  | d + 1, v, p, hv, hb, hR => by
    simp only [gap] at hb hR
    refine Ends.succ (fun k => by rw [subset_Place.l1]) ?_
    rw [wrap_pred (show v < n by omega) (by omega), wrap_succ (show v ≤ 1000 by omega)]
    refine Ends.pos (by omega) (Ends.bind1 (choose_eq (by omega) _) ?_)
    rw [bz_nat, wrap_sum (by omega)]
    refine Place_l1 hn hx d (v + 1) (p + binom (n - v - 1) t) (by omega) (by omega) ?_
    rw [Nat.add_assoc]
    exact hR
theorem drop_nat {l : List Nat} {i : Nat} (h : i < l.length) : l.drop i = l[i] :: l.drop (i + 1) := List.drop_eq_getElem_cons h
theorem Place_l0 {n : Nat} (hn : n ≤ 64) {l : List Nat} (hlen : l.length ≤ 64) (d : Nat) : ∀ i p f, i + d = l.length → okL n f (l.drop i) → p + placeL n f (l.drop i) ≤ 1832624140942590534 →
    Ends (fun k => subset_Place.l0 k (n : Int) (p : Int) (f : Int) ((l.length - i : Nat) : Int) (ints l) (l.length : Int) (i : Int)) (((p + placeL n f (l.drop i) : Nat) : Int), 0) := by
  induction d with
  | zero =>
    intro i p f hi hok hb
    refine Ends.succ (fun k => by rw [subset_Place.l0]) (Ends.neg (by omega) (Ends.const ?_))
    rw [List.drop_of_length_le (by omega)]
    rfl
  | succ d ih =>
    intro i p f hi hok hb
    have hil : i < l.length := by omega
    rw [drop_nat hil] at hok hb ⊢
    obtain ⟨h1, h2, h3⟩ := hok
    simp only [placeL] at hb ⊢
    have hrl : (l.drop (i + 1)).length = l.length - i - 1 := by rw [List.length_drop]; omega
    rw [hrl] at hb ⊢
    refine Ends.succ (fun k => by rw [subset_Place.l0]) ?_
    rw [ints_length, rd_ints l i hil, show wrap64 (((l.length - i : Nat) : Int) - 1) = ((l.length - i - 1 : Nat) : Int) from by rw [w64 (by omega) (by omega)]; omega]
    refine Ends.pos (by omega) (Ends.pos (by omega) (Ends.pos (by omega) ?_))
    refine Place_l1 hn h2 (l[i] - f) f p (by omega) (by omega) ?_
    rw [wrap_succ (by omega)]
    have := ih (i + 1) (p + gap n f (l[i] - f) (l.length - i - 1)) (l[i] + 1) (by omega) h3 (by omega)
    rw [show l.length - (i + 1) = l.length - i - 1 from by omega, Nat.add_assoc p] at this
    exact this
def placeV (n : Int) (s : Nat) : Int × Int := if setOk n s then (((placeL n.toNat 0 (setL s) : Nat) : Int), 0) else (0, 2)
theorem okL_set {n s : Nat} (h : setOk (n : Int) s) : okL n 0 (setL s) := okL_of (setL_sorted s) fun x hx => ⟨Nat.zero_le _, by have := h.2.2 x hx; omega⟩
theorem place_bound {n s : Nat} (h : setOk (n : Int) s) : placeL n 0 (setL s) ≤ 1832624140942590534 := by
  have h1 := placeL_lt (okL_set h)
  have h2 := binom_le (n := n - 0) (by have := h.2.1; omega) (setL s).length
  omega
theorem Place_eq (n : Int) {s : Nat} (hs : s < 2 ^ 64) : Ends (fun k => subset_Place.f k n (s : Int)) (placeV n s) := by
  unfold subset_Place.f placeV
  refine Ends.bind1 (may_eq n) ?_
  by_cases hm : 0 ≤ n ∧ n ≤ 64
  · refine Ends.pos (by simpa using hm) ?_
    obtain ⟨m, rfl⟩ := Int.eq_ofNat_of_zero_le hm.1
    have hm64 : m ≤ 64 := by omega
    refine Ends.bind1 (low_eq hm64) (Ends.succ (fun k => by rw [subset_Place.j0]) ?_)
    have ha := asked hm64 hs
    by_cases hk : setOk (m : Int) s
    · have h0 := ha.2 hk
      refine Ends.neg (by simpa using h0) (Ends.bind1 (Count_eq hs) (Ends.bind (List_eq hs) ?_))
      rw [if_pos hk, Int.toNat_natCast, ints_length]
      have := Place_l0 hm64 (setL_length s) (setL s).length 0 0 0 (by omega) (okL_set hk) (by have := place_bound hk; simpa using this)
      simpa using this
    · have h0 : ¬ Go.bits .andNot .u64 (s : Int) ((2 ^ m - 1 : Nat) : Int) = 0 := fun h => hk (ha.1 h)
      refine Ends.pos (by simpa using h0) (Ends.const ?_)
      rw [if_neg hk]
  · refine Ends.neg (by simpa using hm) (Ends.succ (fun k => by rw [subset_Place.j0]) (Ends.pos rfl (Ends.const ?_)))
    rw [if_neg (fun h => hm ⟨h.1, h.2.1⟩)]
/-! ### the reference's Place -/
theorem refPlace_l1 {n : Nat} (hn : n ≤ 64) {l : List Nat} {i : Nat} (hi : i < l.length) (hlen : l.length ≤ 64) (hx : l[i] < n) {R : Int × Int} : ∀ d v p, v + d = l[i] → p + gap n v d (l.length - i - 1) ≤ 1832624140942590534 →
    Ends (fun k => recoupref06_Place.l0 k (n : Int) (ints l) ((p + gap n v d (l.length - i - 1) : Nat) : Int) ((l[i] + 1 : Nat) : Int) ((i + 1 : Nat) : Int)) R →
    Ends (fun k => recoupref06_Place.l1 k (n : Int) (ints l) (p : Int) (i : Int) (v : Int)) R
  | 0, v, p, hv, hb, hR => by
    refine Ends.succ (fun k => by rw [recoupref06_Place.l1]) ?_
    rw [ints_length, rd_ints l i hi, wrap_succ (show l[i] ≤ 1000 by omega), wrap_succ (show i ≤ 1000 by omega)]
    exact Ends.pos (by omega) (Ends.pos (by omega) (Ends.neg (by omega) hR))
  | d + 1, v, p, hv, hb, hR => by
    simp only [gap] at hb hR
    refine Ends.succ (fun k => by rw [recoupref06_Place.l1]) ?_
    rw [ints_length, rd_ints l i hi, wrap_pred (show v < n by omega) (by omega), wrap_pred (show i < l.length by omega) (by omega), wrap_succ (show v ≤ 1000 by omega)]
    have hc : (if 0 ≤ ((n - v - 1 : Nat) : Int) ∧ ((n - v - 1 : Nat) : Int) ≤ 64 then (bz ((n - v - 1 : Nat) : Int) ((l.length - i - 1 : Nat) : Int), (0 : Int)) else (0, 2)) = (((binom (n - v - 1) (l.length - i - 1) : Nat) : Int), 0) := by rw [if_pos ⟨by omega, by omega⟩, bz_nat]
    refine Ends.pos (by omega) (Ends.pos (by omega) (Ends.pos (by omega) (Ends.bind ((refChoose_eq _ _).eq hc) ?_)))
    rw [wrap_sum (by omega)]
    refine refPlace_l1 hn hi hlen hx d (v + 1) (p + binom (n - v - 1) (l.length - i - 1)) (by omega) (by omega) ?_
    rw [Nat.add_assoc]
    exact hR
theorem refPlace_l0 {n : Nat} (hn : n ≤ 64) {l : List Nat} (hlen : l.length ≤ 64) (d : Nat) : ∀ i p f, i + d = l.length → okL n f (l.drop i) → p + placeL n f (l.drop i) ≤ 1832624140942590534 →
    Ends (fun k => recoupref06_Place.l0 k (n : Int) (ints l) (p : Int) (f : Int) (i : Int)) (((p + placeL n f (l.drop i) : Nat) : Int), 0) := by
  induction d with
  | zero =>
    intro i p f hi hok hb
    refine Ends.succ (fun k => by rw [recoupref06_Place.l0]) (Ends.neg (by rw [ints_length]; omega) (Ends.const ?_))
    rw [List.drop_of_length_le (by omega)]
    rfl
  | succ d ih =>
    intro i p f hi hok hb
    have hil : i < l.length := by omega
    rw [drop_nat hil] at hok hb ⊢
    obtain ⟨h1, h2, h3⟩ := hok
    simp only [placeL] at hb ⊢
    have hrl : (l.drop (i + 1)).length = l.length - i - 1 := by rw [List.length_drop]; omega
    rw [hrl] at hb ⊢
    refine Ends.succ (fun k => by rw [recoupref06_Place.l0]) ?_
    refine Ends.pos (by rw [ints_length]; omega) ?_
    refine refPlace_l1 hn hil hlen h2 (l[i] - f) f p (by omega) (by omega) ?_
    have := ih (i + 1) (p + gap n f (l[i] - f) (l.length - i - 1)) (l[i] + 1) (by omega) h3 (by omega)
    rw [Nat.add_assoc p] at this
    exact this
theorem refPlace_eq (n : Int) {s : Nat} (hs : s < 2 ^ 64) : Ends (fun k => recoupref06_Place.f k n (s : Int)) (placeV n s) := by
  unfold recoupref06_Place.f
  refine Ends.bind (refFull_eq n) ?_
  unfold fullV placeV
  by_cases hm : 0 ≤ n ∧ n ≤ 64
  · rw [if_pos hm]
    obtain ⟨m, rfl⟩ := Int.eq_ofNat_of_zero_le hm.1
    have hm64 : m ≤ 64 := by omega
    rw [Int.toNat_natCast]
    refine Ends.pos rfl (Ends.succ (fun k => by rw [recoupref06_Place.j0]) ?_)
    have ha := asked hm64 hs
    by_cases hk : setOk (m : Int) s
    · have h0 := ha.2 hk
      refine Ends.neg (by simpa using h0) (Ends.bind (refList_eq hs) ?_)
      rw [if_pos hk]
      have := refPlace_l0 hm64 (setL_length s) (setL s).length 0 0 0 (by omega) (okL_set hk) (by have := place_bound hk; simpa using this)
      simpa using this
    · have h0 : ¬ Go.bits .andNot .u64 (s : Int) ((2 ^ m - 1 : Nat) : Int) = 0 := fun h => hk (ha.1 h)
      refine Ends.pos (by simpa using h0) (Ends.const ?_)
      rw [if_neg hk]
  · rw [if_neg hm]
    refine Ends.neg (by decide) (Ends.succ (fun k => by rw [recoupref06_Place.j0]) (Ends.pos rfl (Ends.const ?_)))
    rw [if_neg (fun h => hm ⟨h.1, h.2.1⟩)]
/-! ### At -/
theorem At_l0 {n : Nat} (hn : n ≤ 64) : ∀ (m k p s : Nat), m ≤ n → p < binom m k → s < 2 ^ 64 →
    Ends (fun j => subset_At.l0 j (n : Int) (k : Int) (p : Int) (s : Int) ((n - m : Nat) : Int)) (((s ||| ofL (atGo n m k p) : Nat) : Int), 0) := by
  intro m
  induction m with
  | zero =>
    intro k p s hm hp hs
    cases k with
    | zero =>
      refine Ends.succ (fun j => by rw [subset_At.l0]) (Ends.neg (by omega) (Ends.const ?_))
      simp [atGo, ofL_nil]
    | succ k => rw [binom] at hp; omega
  | succ m ih =>
    intro k p s hm hp hs
    cases k with
    | zero =>
      refine Ends.succ (fun j => by rw [subset_At.l0]) (Ends.neg (by omega) (Ends.const ?_))
      simp [atGo, ofL_nil]
    | succ k =>
      rw [binom_succ] at hp
      have hb := binom_le (show m ≤ 64 by omega) k
      have hb2 := binom_le (show m ≤ 64 by omega) (k + 1)
      refine Ends.succ (fun j => by rw [subset_At.l0]) ?_
      have e0 : wrap64 (((k + 1 : Nat) : Int) - 1) = (k : Int) := by
        have : k ≤ 64 := by
          apply Nat.le_of_not_lt
          intro h
          rw [binom_lt (show m < k by omega), binom_lt (show m < k + 1 by omega)] at hp
          omega
        rw [w64 (by omega) (by omega)]
        omega
      rw [wrap_pred (show n - (m + 1) < n by omega) (by omega), show n - (n - (m + 1)) - 1 = m from by omega, e0, wrap_succ (show n - (m + 1) ≤ 1000 by omega), show n - (m + 1) + 1 = n - m from by omega]
      refine Ends.pos (by omega) (Ends.bind1 (choose_eq (by omega) _) ?_)
      rw [bz_nat]
      by_cases hc : binom m k ≤ p
      · refine Ends.pos (by omega) ?_
        rw [show wrap64 ((p : Int) - ((binom m k : Nat) : Int)) = ((p - binom m k : Nat) : Int) from by rw [w64 (by omega) (by omega)]; omega]
        refine (ih (k + 1) (p - binom m k) s (by omega) (by omega) hs).eq ?_
        rw [atGo, if_pos hc]
      · refine Ends.neg (by omega) (Ends.pos (by omega) ?_)
        rw [shl_one (by omega), bor hs (pow_lt (by omega))]
        refine (ih k p _ (by omega) (by omega) (lt_or hs (pow_lt (by omega)))).eq ?_
        rw [atGo, if_neg hc, ofL_cons, Nat.or_assoc]
def atV (n k p : Int) : Int × Int := if 0 ≤ n ∧ n ≤ 64 ∧ 0 ≤ p ∧ p < bz n k then (((ofL (atGo n.toNat n.toNat k.toNat p.toNat) : Nat) : Int), 0) else (0, 2)
theorem At_eq (n k p : Int) : Ends (fun j => subset_At.f j n k p) (atV n k p) := by
  unfold subset_At.f atV
  refine Ends.bind1 (may_eq n) ?_
  by_cases hm : 0 ≤ n ∧ n ≤ 64
  · refine Ends.pos (by simpa using hm) ?_
    by_cases hp : p < 0
    · refine Ends.pos hp (Ends.succ (fun j => by rw [subset_At.j0]) (Ends.pos rfl (Ends.const ?_)))
      rw [if_neg (by omega)]
    · refine Ends.neg hp (Ends.bind1 (choose_eq hm.2 _) (Ends.succ (fun j => by rw [subset_At.j0]) ?_))
      by_cases hc : p ≥ bz n k
      · refine Ends.pos (by simpa using hc) (Ends.const ?_)
        rw [if_neg (by omega)]
      · refine Ends.neg (by simpa using hc) ?_
        rw [if_pos (by omega)]
        have hk : 0 ≤ k := by
          apply Classical.byContradiction
          intro h
          rw [bz_neg (by omega)] at hc
          omega
        obtain ⟨m, rfl⟩ := Int.eq_ofNat_of_zero_le hm.1
        obtain ⟨j, rfl⟩ := Int.eq_ofNat_of_zero_le hk
        obtain ⟨q, rfl⟩ := Int.eq_ofNat_of_zero_le (show 0 ≤ p by omega)
        rw [bz_nat] at hc
        have := At_l0 (n := m) (by omega) m j q 0 (Nat.le_refl _) (by omega) (by decide)
        simpa using this
  · refine Ends.neg (by simpa using hm) (Ends.succ (fun j => by rw [subset_At.j0]) (Ends.pos rfl (Ends.const ?_)))
    rw [if_neg (by omega)]
theorem refAt_l0 {n : Nat} (hn : n ≤ 64) : ∀ (m k p s : Nat), m ≤ n → p < binom m k → s < 2 ^ 64 →
    Ends (fun j => recoupref06_At.l0 j (n : Int) (k : Int) (p : Int) (s : Int) ((n - m : Nat) : Int)) (((s ||| ofL (atGo n m k p) : Nat) : Int), 0) := by
  intro m
  induction m with
  | zero =>
    intro k p s hm hp hs
    cases k with
    | zero =>
      refine Ends.succ (fun j => by rw [recoupref06_At.l0]) (Ends.neg (by omega) (Ends.const ?_))
      simp [atGo, ofL_nil]
    | succ k => rw [binom] at hp; omega
  | succ m ih =>
    intro k p s hm hp hs
    cases k with
    | zero =>
      refine Ends.succ (fun j => by rw [recoupref06_At.l0]) (Ends.neg (by omega) (Ends.const ?_))
      simp [atGo, ofL_nil]
    | succ k =>
      rw [binom_succ] at hp
      have hb := binom_le (show m ≤ 64 by omega) k
      have hb2 := binom_le (show m ≤ 64 by omega) (k + 1)
      refine Ends.succ (fun j => by rw [recoupref06_At.l0]) ?_
      have e0 : wrap64 (((k + 1 : Nat) : Int) - 1) = (k : Int) := by
        have : k ≤ 64 := by
          apply Nat.le_of_not_lt
          intro h
          rw [binom_lt (show m < k by omega), binom_lt (show m < k + 1 by omega)] at hp
          omega
        rw [w64 (by omega) (by omega)]
        omega
      rw [wrap_pred (show n - (m + 1) < n by omega) (by omega), show n - (n - (m + 1)) - 1 = m from by omega, e0, wrap_succ (show n - (m + 1) ≤ 1000 by omega), show n - (m + 1) + 1 = n - m from by omega]
      have hc : (if 0 ≤ (m : Int) ∧ (m : Int) ≤ 64 then (bz (m : Int) (k : Int), (0 : Int)) else (0, 2)) = (((binom m k : Nat) : Int), 0) := by rw [if_pos ⟨by omega, by omega⟩, bz_nat]
      refine Ends.pos (by omega) (Ends.bind ((refChoose_eq _ _).eq hc) ?_)
      rw [wuN (show n - (m + 1) < 2 ^ 64 by omega)]
      by_cases hc : binom m k ≤ p
      · refine Ends.neg (by simp only []; omega) ?_
        rw [show wrap64 ((p : Int) - ((binom m k : Nat) : Int)) = ((p - binom m k : Nat) : Int) from by rw [w64 (by omega) (by omega)]; omega]
        refine (ih (k + 1) (p - binom m k) s (by omega) (by omega) hs).eq ?_
        rw [atGo, if_pos hc]
      · refine Ends.pos (by simp only []; omega) (Ends.pos (by omega) ?_)
        rw [shl_one (by omega), bor hs (pow_lt (by omega))]
        refine (ih k p _ (by omega) (by omega) (lt_or hs (pow_lt (by omega)))).eq ?_
        rw [atGo, if_neg hc, ofL_cons, Nat.or_assoc]
theorem refAt_eq (n k p : Int) : Ends (fun j => recoupref06_At.f j n k p) (atV n k p) := by
  unfold recoupref06_At.f atV
  refine Ends.bind (refChoose_eq n k) ?_
  by_cases hm : 0 ≤ n ∧ n ≤ 64
  · rw [if_pos hm]
    refine Ends.pos rfl ?_
    by_cases hp : p < 0
    · refine Ends.pos hp (Ends.succ (fun j => by rw [recoupref06_At.j0]) (Ends.pos rfl (Ends.const ?_)))
      rw [if_neg (by omega)]
    · refine Ends.neg hp (Ends.succ (fun j => by rw [recoupref06_At.j0]) ?_)
      by_cases hc : p ≥ bz n k
      · refine Ends.pos (by simpa using hc) (Ends.const ?_)
        rw [if_neg (by omega)]
      · refine Ends.neg (by simpa using hc) ?_
        rw [if_pos (by omega)]
        have hk : 0 ≤ k := by
          apply Classical.byContradiction
          intro h
          rw [bz_neg (by omega)] at hc
          omega
        obtain ⟨m, rfl⟩ := Int.eq_ofNat_of_zero_le hm.1
        obtain ⟨j, rfl⟩ := Int.eq_ofNat_of_zero_le hk
        obtain ⟨q, rfl⟩ := Int.eq_ofNat_of_zero_le (show 0 ≤ p by omega)
        rw [bz_nat] at hc
        have := refAt_l0 (n := m) (by omega) m j q 0 (Nat.le_refl _) (by omega) (by decide)
        simpa using this
  · rw [if_neg hm]
    refine Ends.neg (by decide) (Ends.succ (fun j => by rw [recoupref06_At.j0]) (Ends.pos rfl (Ends.const ?_)))
    rw [if_neg (by omega)]
/-! ### the next set's place -/
theorem downN_cons {n x : Nat} {r : List Nat} : ∀ m, m ≤ r.length → downN (x :: r) n (m + 1) = match downN r n m with
    | some i => some (i + 1)
    | none => if x + (r.length + 1) < n then some 0 else none
  | 0, _ => by simp [downN]
  | m + 1, h => by
    have ih := downN_cons (n := n) (x := x) (r := r) m (by omega)
    rw [downN]
    have e : (x :: r).getD (m + 1) 0 = r.getD m 0 := rfl
    rw [e]
    by_cases hc : r.getD m 0 + r.length < n + m
    · rw [if_pos (by simp only [List.length_cons]; omega), show downN r n (m + 1) = some m from by rw [downN, if_pos hc]]
    · rw [if_neg (by simp only [List.length_cons]; omega), ih, show downN r n (m + 1) = downN r n m from by rw [downN, if_neg hc]]
theorem nextL_nxt {n : Nat} : ∀ l : List Nat, nextL n l = nxt n l
  | [] => rfl
  | x :: r => by
    have ih := nextL_nxt (n := n) r
    unfold nextL nxt
    rw [← ih, List.length_cons, downN_cons _ (Nat.le_refl _)]
    unfold nextL
    cases hd : downN r n r.length with
    | some i =>
      simp only [Option.map_some, List.take_succ_cons, List.getD_cons_succ, List.cons_append]
      rw [show r.length + 1 - (i + 1) = r.length - i from by omega]
    | none =>
      simp only [Option.map_none]
      split
      · simp [run]
      · rfl
/-! ### the anchor -/
theorem anchored_eq : Ends (fun k => recouplaw06_anchored.f k) true := by
  unfold recouplaw06_anchored.f
  have h6 : (6 : Nat) < 2 ^ 64 := by decide
  have hp := Place_eq 4 h6
  have e : placeV 4 6 = (3, 0) := by decide +kernel
  have c : subset_Choose.f 5 2 = some (10, 0) := by
    rw [Choose_eq]
    decide +kernel
  refine Ends.bind (hp.eq e) (Ends.bind1 c (Ends.pos rfl (Ends.pos rfl (Ends.pos rfl (Ends.const rfl)))))
end Go.Proofs.YtagghjljbedfdaaDoor.M
