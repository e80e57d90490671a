/- Written by drive.py (a program of this repo, over the kit's print): each Go function named here answers what the Lean function beside it answers, wherever that one answers, in every world that meets the stated premises. -/
import Derived.Test.YtagghjljbedfdaaDoorQx0
namespace Go.Proofs.YtagghjljbedfdaaDoor.Q
open Go.RowKit Go.Proofs.YtagghjljbedfdaaDoorW.PrintWords Go.Proofs.YtagghjljbedfdaaDoorW.PrintLast Go.Proofs.YtagghjljbedfdaaDoorW.PrintMore
attribute [local go_sem] max2_int min2_int max_two min_two max_three min_three max_four min_four   -- for this text's walks alone
set_option linter.unusedVariables false
set_option linter.unusedSimpArgs false

/-! ### subset_may: function 30 -/
def subset_may.f (a0 : Int) : Option (Bool) := if a0 ≥ 0 then (some (decide (a0 ≤ 64))) else (some false)
set_option maxHeartbeats 8000000 in
set_option maxRecDepth 100000 in
theorem subset_may.calls (a0 : Int) (r : Bool) (w : World) (h : subset_may.f a0 = some r) :
    Calls Tryd.prog 30 #[.int .i64 a0] w fun e w' => e = .returned (.bool r) ∧ Drawn0 w w' := by
  have H : (if a0 ≥ 0 then (some (decide (a0 ≤ 64))) else (some false)) = some r := h
  clear h
  by_cases c2 : a0 ≥ 0
  · rw [if_pos c2] at H
    have c2b0 : decide (0 ≤ a0) = true := decide_eq_true c2
    clear c2
    obtain rfl := Option.some.inj H
    go_enter Tryd.func30, Tryd.ntmps30
    go_wp2
    go_ret
    exact ⟨by first | rfl | (simp; done) | (simp [*]; done), by repeat (first | exact Drawn0.refl _ | apply Drawn0.step)⟩
  · rw [if_neg c2] at H
    have c2b0 : decide (0 ≤ a0) = false := decide_eq_false c2
    clear c2
    obtain rfl := Option.some.inj H
    go_enter Tryd.func30, Tryd.ntmps30
    go_wp2
    go_ret
    exact ⟨by first | rfl | (simp; done) | (simp [*]; done), by repeat (first | exact Drawn0.refl _ | apply Drawn0.step)⟩

/-! ### subset_low: function 31 -/
def subset_low.f (a0 : Int) : Option (Int) := if 0 ≤ a0 then (some (IntKind.u64.wrap ((shl .u64 1 a0) - 1))) else (none)
set_option maxHeartbeats 8000000 in
set_option maxRecDepth 100000 in
theorem subset_low.calls (a0 : Int) (r : Int) (w : World) (h : subset_low.f a0 = some r) :
    Calls Tryd.prog 31 #[.int .i64 a0] w fun e w' => e = .returned (.int .u64 r) ∧ Drawn0 w w' := by
  have H : (if 0 ≤ a0 then (some (IntKind.u64.wrap ((shl .u64 1 a0) - 1))) else (none)) = some r := h
  clear h
  by_cases c2 : 0 ≤ a0
  · rw [if_pos c2] at H
    have c2b0 := eq_true c2
    have c2b1 : decide (0 ≤ a0) = true := decide_eq_true c2
    clear c2
    obtain ⟨ji3, hji3⟩ : ∃ j_ : Int, (shl .u64 1 a0) = j_ := ⟨_, rfl⟩
    replace H : (some (IntKind.u64.wrap ((ji3) - 1))) = some r := by first | (rw [hji3] at H; exact H) | (simp only [hji3] at H ⊢; exact H)
    have hji3_ : (IntKind.u64.wrap (1 * 2 ^ min a0.toNat 64)) = ji3 := hji3
    have hji3z : a0 ≤ 64 → (IntKind.u64.wrap (1 * 2 ^ a0.toNat)) = ji3 := shl_small hji3
    have hji3u : (IntKind.u64.wrap (2 ^ min a0.toNat 64)) = ji3 := by have h_ := hji3_; rw [Int.one_mul] at h_; exact h_
    have hji3v : a0 ≤ 64 → (IntKind.u64.wrap (2 ^ a0.toNat)) = ji3 := fun hle_ => by have h_ := hji3z hle_; rw [Int.one_mul] at h_; exact h_
    obtain rfl := Option.some.inj H
    go_enter Tryd.func31, Tryd.ntmps31
    go_wp2
    go_ret
    exact ⟨by first | rfl | (simp; done) | (simp only [← hji3] <;> (first | rfl | simp)) | (simp [*]; done), by repeat (first | exact Drawn0.refl _ | apply Drawn0.step)⟩
  · rw [if_neg c2] at H
    exact absurd H (by simp)

/-! ### bits_TrailingZeros64: function 33 -/
def u64B (x : Int) : Bool := decide (0 ≤ x) && decide (x < 18446744073709551616)
def bits_TrailingZeros64.f (a0 : Int) : Option Int := if u64B a0 = true then some (Lib.ctz 64 a0.toNat : Nat) else none
theorem tz64_zero (w : World) : Calls Tryd.prog 33 #[.int .u64 0] w fun e w' => e = .returned (.int .i64 64) ∧ w' = w := by
  go_enter Tryd.func33, Tryd.ntmps33
  go_wp2
  go_ret
  exact ⟨rfl, rfl⟩
set_option maxHeartbeats 1000000 in
theorem tz64_core (x k idx : Nat) (w : World) (hx0 : ((x : Int) == 0) = false)
    (key : IntKind.u64.wrap (bits BinOp.and IntKind.u64 (x : Int) (IntKind.u64.wrap (-(x : Int))) * 285870213051353865) / 288230376151711744 = (idx : Int))
    (hi : idx < 64) (hk : k < 64) (hcell : w.cell? ⟨0, idx, none⟩ = some (.int .u8 k)) :
    Calls Tryd.prog 33 #[.int .u64 x] w fun e w' => e = .returned (.int .i64 k) ∧ w' = w := by
  go_enter Tryd.func33, Tryd.ntmps33
  go_wp2_with (simp only [key])
  go_ret
  exact ⟨rfl, rfl⟩
theorem bits_TrailingZeros64.calls (a0 : Int) (r : Int) (w : World) (h : bits_TrailingZeros64.f a0 = some r) (hT : TabAt 0 Lib.deBruijn64tab w) :
    Calls Tryd.prog 33 #[.int .u64 a0] w fun e w' => e = .returned (.int .i64 r) ∧ Drawn0 w w' := by
  unfold bits_TrailingZeros64.f at h
  by_cases hb : u64B a0 = true
  · rw [if_pos hb] at h
    unfold u64B at hb
    simp only [Bool.and_eq_true, decide_eq_true_eq] at hb
    obtain ⟨h0, h1⟩ := hb
    obtain ⟨x, rfl⟩ := Int.eq_ofNat_of_zero_le h0
    obtain rfl := Option.some.inj h
    have hx : x < 18446744073709551616 := by omega
    rw [Int.toNat_natCast]
    by_cases hx0 : x = 0
    · subst hx0
      refine (tz64_zero w).mono ?_
      rintro e w' ⟨rfl, rfl⟩
      exact ⟨rfl, Drawn0.refl _⟩
    · obtain ⟨hlow, hk⟩ := Lib.lowest_bit 64 x hx0 hx
      obtain ⟨hi, htab⟩ := Lib.deBruijn64_at _ hk
      have hcell := hT _ hi
      rw [htab] at hcell
      refine (tz64_core x _ _ w (by simp; omega) (tz64_key x _ hx hx0 hlow) hi hk hcell).mono ?_
      rintro e w' ⟨rfl, rfl⟩
      exact ⟨rfl, Drawn0.refl _⟩
  · rw [if_neg hb] at h
    cases h


/-! ### subset_List: function 17 -/
def subset_List.l0 : Nat → Int → List Int → Option (List Int)
  | 0, _, _ => none
  | k + 1, x0, x3 => if x0 = 0 then (some x3) else ((bits_TrailingZeros64.f x0).bind fun t101 => (if x3.length < 17592186044416 then (subset_List.l0 k (Go.bits .and .u64 x0 (IntKind.u64.wrap (x0 - 1))) (x3 ++ [t101])) else (none)))
def subset_List.f (k : Nat) (a0 : Int) : Option (List Int) := subset_List.l0 k a0 ([] : List Int)
theorem subset_List.mono_l : ∀ k, (∀ y0 y1, LeO (subset_List.l0 k y0 y1) (subset_List.l0 (k + 1) y0 y1))
  | 0 => fun _ _ r h => by simp [subset_List.l0] at h
  | k + 1 => by
    have ih0 := subset_List.mono_l k
    · intro y0 y1
      unfold subset_List.l0
      repeat' first
      | (with_reducible exact ih0 _ _)
      | (with_reducible exact LeO.refl _)
      | (with_reducible exact LeO.none _)
      | (with_reducible refine LeO.ite ?_ ?_)
      | (with_reducible refine LeO.bind ?_ (fun _ => ?_))
      | exact ih0 _ _
      | exact LeO.none _
      | refine LeO.ite ?_ ?_
      | refine LeO.bind ?_ (fun _ => ?_)
theorem subset_List.mono : ∀ a0 k, LeO (subset_List.f k a0) (subset_List.f (k + 1) a0) := by
  intro a0 k
  have ih0 := subset_List.mono_l k
  unfold subset_List.f
  repeat' first
      | (with_reducible exact ih0 _ _)
      | (with_reducible exact LeO.refl _)
      | (with_reducible exact LeO.none _)
      | (with_reducible refine LeO.ite ?_ ?_)
      | (with_reducible refine LeO.bind ?_ (fun _ => ?_))
      | exact ih0 _ _
      | exact LeO.none _
      | refine LeO.ite ?_ ?_
      | refine LeO.bind ?_ (fun _ => ?_)
set_option maxHeartbeats 8000000 in
set_option maxRecDepth 100000 in
theorem subset_List.calls (k : Nat) (a0 : Int) (r : List Int) (w : World) (h : subset_List.f k a0 = some r) (hT : TabAt 0 Lib.deBruijn64tab w) :
    Calls Tryd.prog 17 #[.int .u64 a0] w fun e w' => ∃ v0_ : Value, e = .returned (v0_) ∧ Kd.R (Kd.int .i64) 3 w' w.heap.size (fun _ => True) v0_ r ∧ Below w.heap.size w w' := by
  have HT := Aside0.mk hT
  clear hT
  have HB := Aside0.mk (Below.refl w.heap.size w)
  have H : (subset_List.l0 k a0 ([] : List Int)) = some r := h
  clear h
  have H' := Aside0.mk H
  clear H
  go_enter Tryd.func17, Tryd.ntmps17
  go_wp2
  go_loopg [0, 3] k (fun kq v0 v3 w' => ∃ (x0_1 : Int) (x3_1 : List Int), v0 = .int .u64 x0_1 ∧ Aside0 (subset_List.l0 kq x0_1 x3_1 = some r) ∧ Aside0 (kq ≤ k) ∧ Aside0 (Kd.R (Kd.int .i64) 3 w' w.heap.size (fun _ => True) v3 x3_1) ∧ Aside0 (Below w.heap.size w w'))
  case atStart => exact ⟨(a0), (([] : List Int)), (by first | rfl | (simp; done) | (simp [*]; done)), H', ⟨Nat.le_refl _⟩, ⟨by first | exact Kd.R_nil _ _ _ _ _ | exact Kd.N_nil _ _ _ _ _ | exact Kd.V_nil _ _ _ _ _ | exact Kd.Q_nil _ _ _ _ _ | exact Kd.S_nil _ _ _ _ _⟩, ⟨by repeat (first | (with_reducible first | exact HB.out | apply below_alloc | apply pw_below_drewN | apply below_drew1) | exact HB.out)⟩⟩
  case round =>
    clear H'
    try clear c1
    obtain ⟨x0_1, x3_1, rfl, HA, HK1, HO_3, HB⟩ := hrel
    cases gk with
    | zero => exact absurd HA.out (by simp [subset_List.l0])
    | succ k1 =>
      have H := HA.out
      clear HA
      simp only [subset_List.l0] at H
      by_cases c2 : x0_1 = 0
      · rw [if_pos c2] at H
        have c2b0 : (x0_1 == 0) = true := beq_iff_eq.mpr c2
        have c2b1 : (x0_1 != 0) = false := bne_eq_false_iff_eq.mpr c2
        clear c2
        obtain rfl := Option.some.inj H
        go_wp2
        go_ret
        exact ⟨_, by first | rfl | (simp [errW_none, errW_some] <;> rfl) | (simp [*, errW_none, errW_some] <;> rfl), by (with_reducible repeat (first | apply Kd.R_alloc | apply Kd.R_drewN | apply Kd.R_drew)); exact HO_3.out, by repeat (first | (with_reducible first | exact HB.out | apply below_alloc | apply pw_below_drewN | apply below_drew1) | exact HB.out)⟩
      · rw [if_neg c2] at H
        have c2b0 : (x0_1 == 0) = false := beq_eq_false_iff_ne.mpr c2
        have c2b1 : (x0_1 != 0) = true := bne_iff_ne.mpr c2
        replace H := Option.bind_eq_some_iff.mp H
        obtain ⟨t101, A30, H⟩ := H
        replace H : (if x3_1.length < 17592186044416 then (subset_List.l0 k1 (Go.bits .and .u64 x0_1 (IntKind.u64.wrap (x0_1 - 1))) (x3_1 ++ [t101])) else (none)) = some r := H
        have A3 := Aside0.mk A30
        clear A30
        by_cases c4 : x3_1.length < 17592186044416
        · rw [if_pos c4] at H
          have LMc4 := Aside0.mk c4
          clear c4
          obtain ⟨y102, hy102⟩ : ∃ y_ : List Int, y_ = (x3_1 ++ [t101]) := ⟨_, rfl⟩
          replace H : (subset_List.l0 k1 (Go.bits .and .u64 x0_1 (IntKind.u64.wrap (x0_1 - 1))) y102) = some r := by first | (rw [hy102]; with_reducible exact H) | (have H2_ := (Option.bind_some _ _).symm.trans H; rw [hy102]; with_reducible exact H2_) | (have H2_ := (Option.bind_some _ _).symm.trans H; with_reducible exact H2_) | with_reducible exact H | (rw [hy102]; exact H) | exact H
          have Ny102 := Aside0.mk hy102
          clear hy102
          have H' := Aside0.mk H
          clear H
          go_wp2_with (first | ((with_reducible refine gate_callee (f := 33) rfl ?_); refine goesL_ (some 12) rfl rfl Tryd.func33 (by kernel_rfl) rfl #[.int .u64 x0_1] rfl (by (try simp only [List.map_toArray, List.map_cons, List.map_nil]); first | done | rfl | (simp only [List.length_drop, List.length_take]; rfl)) ?_; (with_reducible refine (bits_TrailingZeros64.calls x0_1 t101 _ A3.out (tab_below HT.out (by repeat (first | (with_reducible first | exact HB.out | apply below_alloc | apply pw_below_drewN | apply below_drew1) | exact HB.out | exact Below.refl _ _)))).mono ?_); rintro e w' ⟨rfl, ⟨nd, rfl⟩⟩; refine ⟨_, rfl, ?_⟩) | ((with_reducible refine gate_builtin (b := .append) (xs := #[.tmp 10, .tmp 13]) rfl ?_); at_builtin; refine Kd.R_append (Kd.int .i64) (w0 := w) w.heap.size rfl (.tmp 10) (.tmp 13) 27 3 (.int .i64 0) 8 rfl Tryd.underlying27 info3 rfl (by decide) (by omega) u3 x3_1 t101 [.int .i64 t101] (fun _ => True) (fun _ => False) rfl rfl ?aP (fun _ hk => hk.elim) ?aF ?aO ?aB ?aS ?aL ?_; (case aP => exact rfl); (case aB => exact (by repeat (first | (with_reducible first | exact HB.out | apply below_alloc | apply pw_below_drewN | apply below_drew1) | exact HB.out))); (case aF => exact (fun _ _ => trivial)); (case aO => exact (by (with_reducible repeat (first | apply Kd.R_alloc | apply Kd.R_drewN | apply Kd.R_drew)); exact HO_3.out)); (case aS => exact (below_size (by repeat (first | (with_reducible first | exact HB.out | apply below_alloc | apply pw_below_drewN | apply below_drew1) | exact HB.out)))); (case aL => have := LMc4.out; omega); intro v103 w5 ho hb hg hat; rw [← Ny102.out] at ho; have n0_ := Aside0.mk (hb); have n1_ := Aside0.mk (ho); clear HB; clear HO_3; have HB := n0_; have HO104 := n1_; clear n0_ n1_; clear ho hb hg hat))
          go_roundg k1
          case measure => have := HK1.out; omega
          case rel => exact ⟨(Go.bits .and .u64 x0_1 (IntKind.u64.wrap (x0_1 - 1))), (y102), (by first | rfl | (simp; done) | (simp [*]; done)), H', ⟨by have := HK1.out; omega⟩, ⟨by (with_reducible repeat (first | apply Kd.R_alloc | apply Kd.R_drewN | apply Kd.R_drew)); exact HO104.out⟩, ⟨by repeat (first | (with_reducible first | exact HB.out | apply below_alloc | apply pw_below_drewN | apply below_drew1) | exact HB.out)⟩⟩
        · rw [if_neg c4] at H
          exact absurd H (by simp)

/-! ### subset_Next: function 9 -/
/-- The greatest i below m at which the list's number can rise. -/
def subset_Next.down (l : List Int) (n : Int) : Nat → Option Nat
  | 0 => none
  | i + 1 => if l.getD i 0 < n - (l.length : Int) + (i : Int) then some i else subset_Next.down l n i
/-- So many numbers, from one on, put to a set. -/
def subset_Next.fill : Nat → Int → Int → Int
  | 0, out, _ => out
  | c + 1, out, x => subset_Next.fill c (Go.bits .or .u64 out (shl .u64 1 x)) (x + 1)
def subset_Next.okB (n : Int) (l : List Int) : Bool := decide (0 ≤ n) && decide (n ≤ 64) && decide (l.length ≤ 64) && l.all fun x => decide (0 ≤ x) && decide (x < 64)
def subset_Next.tail (s : Int) (l : List Int) : Option Nat → Option (Int × Bool)
  | none => some (0, false)
  | some i => (subset_low.f (l.getD i 0)).bind fun b => some (subset_Next.fill (l.length - i) (Go.bits .and .u64 s b) (l.getD i 0 + 1), true)
def subset_Next.behind (n s : Int) (l : List Int) : Option (Int × Bool) :=
  if subset_Next.okB n l = true then subset_Next.tail s l (subset_Next.down l n l.length) else none
def subset_Next.f (k : Nat) (n s : Int) : Option (Int × Bool) :=
  (subset_may.f n).bind fun t => if t = true then ((subset_low.f n).bind fun b => if Go.bits .andNot .u64 s b = 0 then ((subset_List.f k s).bind fun l => subset_Next.behind n s l) else some (0, false)) else some (0, false)
theorem subset_Next.mono : ∀ a0 a1 k, LeO (subset_Next.f k a0 a1) (subset_Next.f (k + 1) a0 a1) := by
  intro a0 a1 k
  unfold subset_Next.f
  repeat' first
      | (with_reducible exact subset_List.mono _ _)
      | (with_reducible exact LeO.refl _)
      | (with_reducible refine LeO.ite ?_ ?_)
      | (with_reducible refine LeO.bind ?_ (fun _ => ?_))
theorem subset_Next.down_some {l : List Int} {n : Int} {i : Nat} : ∀ m, subset_Next.down l n m = some i → i < m
  | 0, h => by cases h
  | m + 1, h => by
    unfold subset_Next.down at h
    split at h
    · injection h with h
      omega
    · have := subset_Next.down_some m h
      omega
theorem subset_Next.okB_spec {n : Int} {l : List Int} (h : subset_Next.okB n l = true) : 0 ≤ n ∧ n ≤ 64 ∧ l.length ≤ 64 ∧ ∀ i, i < l.length → 0 ≤ l.getD i 0 ∧ l.getD i 0 < 64 := by
  unfold subset_Next.okB at h
  simp only [Bool.and_eq_true, decide_eq_true_eq, List.all_eq_true] at h
  obtain ⟨⟨⟨h1, h2⟩, h3⟩, h4⟩ := h
  refine ⟨h1, h2, h3, fun i hi => ?_⟩
  have := h4 (l[i]) (List.getElem_mem hi)
  rw [List.getD_eq_getElem?_getD, List.getElem?_eq_getElem hi]
  exact this

def subset_Next.J (a0 a1 : Int) (l : List Int) (w : World) (a' : Act) (w' : World) : Prop :=
  ∃ (j : Nat) (ad : Addr) (cp : Nat) (u2 u3 u4 u5 u9 u10 u11 u12 u13 u14 u15 u16 u17 u18 u19 u20 u21 u22 u23 u24 u25 u26 u27 u28 u29 u30 u31 u32 u33 u34 u35 u36 u37 u38 u39 u40 u41 u42 u43 u44 u45 u46 u47 u48 u49 u50 u51 u52 u53 u54 u55 u56 u57 u58 u59 u60 u61 u62 u63 u64 : Value), a' = { tmps := #[.int .i64 a0, .int .u64 a1, u2, u3, u4, u5, .slice (some ad) l.length cp, .int .i64 l.length, .int .i64 (j : Int), u9, u10, u11, u12, u13, u14, u15, u16, u17, u18, u19, u20, u21, u22, u23, u24, u25, u26, u27, u28, u29, u30, u31, u32, u33, u34, u35, u36, u37, u38, u39, u40, u41, u42, u43, u44, u45, u46, u47, u48, u49, u50, u51, u52, u53, u54, u55, u56, u57, u58, u59, u60, u61, u62, u63, u64], defers := [] } ∧ j < l.length ∧ subset_Next.down l a0 l.length = some j ∧ Kd.C (Kd.int .i64) w' (some ad) l.length l ∧ Below w.heap.size w w'
set_option maxHeartbeats 2000000 in
set_option maxRecDepth 100000 in
theorem subset_Next.calls (k : Nat) (a0 a1 : Int) (r1 : Int) (r2 : Bool) (w : World) (h : subset_Next.f k a0 a1 = some (r1, r2)) (hT : TabAt 0 Lib.deBruijn64tab w) :
    Calls Tryd.prog 9 #[.int .i64 a0, .int .u64 a1] w fun e w' => e = .returned (.tuple #[.int .u64 r1, .bool r2]) ∧ Below w.heap.size w w' := by
  have HB := Aside0.mk (Below.refl w.heap.size w)
  have HT := Aside0.mk hT
  clear hT
  obtain ⟨t, hm, h⟩ := Option.bind_eq_some_iff.mp h
  cases t with
  | false =>
    simp only [Bool.false_eq_true, if_false, Option.some.injEq, Prod.mk.injEq] at h
    obtain ⟨rfl, rfl⟩ := h
    have HM := Aside0.mk hm
    clear hm
    go_enter Tryd.func9, Tryd.ntmps9
    go_wp2
    go_step3
    go_wp2_with (go_at_call 30; refine (subset_may.calls a0 false _ HM.out).mono ?_; rintro e w' ⟨rfl, ⟨nd, rfl⟩⟩)
    rw [Exit.noGoto_ret]
    go_ret2
    exact ⟨rfl, pw_below_drewN HB.out _⟩
  | true =>
    simp only [if_true] at h
    obtain ⟨b, hb, h⟩ := Option.bind_eq_some_iff.mp h
    have HM := Aside0.mk hm
    have HL := Aside0.mk hb
    clear hm hb
    by_cases c : Go.bits .andNot .u64 a1 b = 0
    · rw [if_pos c] at h
      have cb : (Go.bits .andNot .u64 a1 b != 0) = false := bne_eq_false_iff_eq.mpr c
      clear c
      obtain ⟨l, hl, h⟩ := Option.bind_eq_some_iff.mp h
      have HQ := Aside0.mk hl
      clear hl
      unfold subset_Next.behind at h
      by_cases ok : subset_Next.okB a0 l = true
      · rw [if_pos ok] at h
        obtain ⟨n0, n1, l1, lr⟩ := subset_Next.okB_spec ok
        clear ok
        have LR := Aside0.mk lr
        have H := Aside0.mk h
        clear h lr
        go_enter Tryd.func9, Tryd.ntmps9
        go_wp2
        refine wp_scope_jumps 0 (subset_Next.J a0 a1 l w) (fun _ _ => 0) rfl ?_ ?_
        · skip
          go_wp2_with (first | (go_at_call 30; refine (subset_may.calls a0 true _ HM.out).mono ?_; rintro e w' ⟨rfl, ⟨nd, rfl⟩⟩) | (go_at_call 31; refine (subset_low.calls a0 b _ HL.out).mono ?_; rintro e w' ⟨rfl, ⟨nd, rfl⟩⟩) | (go_at_call 17; refine (subset_List.calls k a1 l _ HQ.out (tab_below HT.out (by repeat (first | exact HB.out | apply pw_below_drewN)))).mono ?_; rintro e w8 ⟨v0, rfl, ho0, hb⟩; obtain ⟨A, cp, eo⟩ := Kd.R_slice ho0; subst eo; have HR := Aside0.mk (Kd.R_reads' ho0).2.2; have HB2 := Aside0.mk (below_step (by repeat (first | exact HB.out | apply pw_below_drewN)) hb); clear HB; have HB := HB2; clear HB2 ho0 hb))
          obtain ⟨D, hD⟩ : ∃ D, D = subset_Next.down l a0 l.length := ⟨_, rfl⟩
          have H2 : subset_Next.tail a1 l D = some (r1, r2) := by rw [hD]; exact H.out
          clear H
          have HD := Aside0.mk hD
          have H := Aside0.mk H2
          clear hD H2
          have hlen : (l.length : Int) ≤ 64 := by omega
          go_loop [8] (fun v => ∃ m : Nat, m ≤ l.length ∧ v = .int .i64 ((m : Int) - 1) ∧ Aside0 (D = subset_Next.down l a0 m)) (fun v => (intOf v + 1).toNat)
          case atStart => exact ⟨l.length, Nat.le_refl _, rfl, HD⟩
          case round =>
            obtain ⟨m, hml, rfl, HM'⟩ := hrel
            have HDL := HD
            clear HD
            cases m with
            | zero =>
              have hd : D = none := HM'.out
              subst hd
              obtain ⟨rfl, rfl⟩ := Prod.mk.inj (Option.some.inj (show some ((0 : Int), false) = some (r1, r2) from H.out))
              go_wp2
              simp only [Exit.jump]
              go_ret2
              exact ⟨rfl, HB.out⟩
            | succ j =>
              have e1 : ((j + 1 : Nat) : Int) - 1 = (j : Int) := by omega
              rw [e1]
              clear e1
              obtain ⟨ad, ea, hx⟩ := Kd.at_int HR.out (j : Int) (by omega) (by omega)
              subst ea
              have hx' : w8.cell? (ad.add j) = some (.int .i64 (l.getD j 0)) := hx
              clear hx
              obtain ⟨x, ex⟩ : ∃ x : Int, x = l.getD j 0 := ⟨_, rfl⟩
              rw [← ex] at hx'
              have lrj := LR.out j (by omega)
              rw [← ex] at lrj
              obtain ⟨x0, x1⟩ := lrj
              have EX := Aside0.mk ex
              clear ex
              by_cases ct : x < a0 - (l.length : Int) + (j : Int)
              · have hdl : subset_Next.down l a0 l.length = some j := by
                  rw [← HDL.out, HM'.out]
                  unfold subset_Next.down
                  rw [← EX.out, if_pos ct]
                go_wp2_with fail
                go_step3
                exact ⟨rfl, j, ad, cp, _, _, _, _, _, _, _, _, _, _, _, _, _, _, _, _, _, _, _, _, _, _, _, _, _, _, _, _, _, _, _, _, _, _, _, _, _, _, _, _, _, _, _, _, _, _, _, _, _, _, _, _, _, _, _, _, _, _, _, _, rfl, by omega, hdl, HR.out, HB.out⟩
              · have hd : D = subset_Next.down l a0 j := by
                  rw [HM'.out]
                  conv => lhs; unfold subset_Next.down
                  rw [← EX.out, if_neg ct]
                have HD' := Aside0.mk hd
                clear hd
                go_wp2
                go_round
                case rel => exact ⟨j, by omega, rfl, HD'⟩
                case measure => simp [intOf]
        · rintro a' w' ⟨j, ad, cp, u2, u3, u4, u5, u9, u10, u11, u12, u13, u14, u15, u16, u17, u18, u19, u20, u21, u22, u23, u24, u25, u26, u27, u28, u29, u30, u31, u32, u33, u34, u35, u36, u37, u38, u39, u40, u41, u42, u43, u44, u45, u46, u47, u48, u49, u50, u51, u52, u53, u54, u55, u56, u57, u58, u59, u60, u61, u62, u63, u64, rfl, hj, hd, hC, hB⟩
          rw [hd] at H
          obtain ⟨b2, hb2, h2⟩ := Option.bind_eq_some_iff.mp (show (subset_low.f (l.getD j 0)).bind (fun b => some (subset_Next.fill (l.length - j) (Go.bits .and .u64 a1 b) (l.getD j 0 + 1), true)) = some (r1, r2) from H.out)
          obtain ⟨x0, x1⟩ := LR.out j hj
          obtain ⟨ad', ea, hx⟩ := Kd.at_int hC (j : Int) (by omega) (by omega)
          obtain rfl : ad = ad' := by injection ea
          have hx' : w'.cell? (ad.add j) = some (.int .i64 (l.getD j 0)) := hx
          clear hx hC hd H ea
          obtain ⟨x, ex⟩ : ∃ x : Int, x = l.getD j 0 := ⟨_, rfl⟩
          rw [← ex] at hx' hb2 h2 x0 x1
          obtain ⟨h21, h22⟩ := Prod.mk.inj (Option.some.inj h2)
          subst h22
          have H2 := Aside0.mk h21
          have HL2 := Aside0.mk hb2
          have HB3 := Aside0.mk hB
          clear h21 h2 hb2 hB HB ex
          have hlen : (l.length : Int) ≤ 64 := by omega
          go_wp2_with (first | (go_at_call 31; refine (subset_low.calls x b2 _ HL2.out).mono ?_; rintro e w' ⟨rfl, ⟨nd2, rfl⟩⟩))
          go_loop [8, 9, 10] (fun v8 v9 v10 => ∃ (i : Nat) (at_ out : Int), j ≤ i ∧ i ≤ l.length ∧ v8 = .int .i64 i ∧ v9 = .int .i64 at_ ∧ v10 = .int .u64 out ∧ 0 ≤ at_ ∧ at_ ≤ 64 + (i : Int) ∧ Aside0 (subset_Next.fill (l.length - i) out at_ = r1)) (fun v _ _ => l.length - (intOf v).toNat)
          case atStart => exact ⟨j, _, _, Nat.le_refl _, by omega, rfl, rfl, rfl, by omega, by omega, H2⟩
          case round =>
            obtain ⟨i, at_, out, hij, hil, rfl, rfl, rfl, ha0, ha1, HF⟩ := hrel
            by_cases hlt : i < l.length
            · have hlt' : (i : Int) < (l.length : Int) := by omega
              obtain ⟨sh, hsh⟩ : ∃ s_ : Int, shl .u64 1 at_ = s_ := ⟨_, rfl⟩
              have hji3_ : (IntKind.u64.wrap (1 * 2 ^ min at_.toNat 64)) = sh := hsh
              have hji3u : (IntKind.u64.wrap (2 ^ min at_.toNat 64)) = sh := by have h_ := hji3_; rw [Int.one_mul] at h_; exact h_
              have HF2 : Aside0 (subset_Next.fill (l.length - (i + 1)) (Go.bits .or .u64 out sh) (at_ + 1) = r1) := by
                refine ⟨?_⟩
                have h3 := HF.out
                rw [show l.length - i = (l.length - (i + 1)) + 1 from by omega] at h3
                unfold subset_Next.fill at h3
                rw [hsh] at h3
                exact h3
              clear hsh
              go_wp2
              go_round
              case rel => exact ⟨i + 1, _, _, by omega, by omega, by go_num, rfl, rfl, by omega, by omega, HF2⟩
              case measure => simp [intOf]; omega
            · have hlt' : ¬ (i : Int) < (l.length : Int) := by omega
              have h3 := HF.out
              rw [show l.length - i = 0 from by omega] at h3
              obtain rfl : out = r1 := h3
              go_wp2
              simp only [Exit.jump]
              go_ret2
              exact ⟨rfl, by repeat (first | exact HB3.out | apply pw_below_drewN)⟩
      · rw [if_neg ok] at h
        cases h
    · rw [if_neg c] at h
      have cb : (Go.bits .andNot .u64 a1 b != 0) = true := bne_iff_ne.mpr c
      clear c
      obtain ⟨rfl, rfl⟩ := Prod.mk.inj (Option.some.inj h)
      clear h
      go_enter Tryd.func9, Tryd.ntmps9
      go_wp2
      go_step3
      go_wp2_with (first | (go_at_call 30; refine (subset_may.calls a0 true _ HM.out).mono ?_; rintro e w' ⟨rfl, ⟨nd, rfl⟩⟩) | (go_at_call 31; refine (subset_low.calls a0 b _ HL.out).mono ?_; rintro e w' ⟨rfl, ⟨nd, rfl⟩⟩))
      rw [Exit.noGoto_ret]
      go_ret2
      exact ⟨rfl, by repeat (first | exact HB.out | apply pw_below_drewN)⟩


/-! ### recoupref06_Full: function 14 -/
mutual
def recoupref06_Full.j0 : Nat → Int → Bool → Option (Int × Int)
  | 0, _, _ => none
  | k + 1, x0, x11 => if x11 = true then (some (0, 2)) else (recoupref06_Full.l0 k x0 0 0)
def recoupref06_Full.l0 : Nat → Int → Int → Int → Option (Int × Int)
  | 0, _, _, _ => none
  | k + 1, x0, x4, x5 => if x5 < x0 then (if 0 ≤ (IntKind.u64.wrap (x5)) then (recoupref06_Full.l0 k x0 (Go.bits .or .u64 x4 (shl .u64 1 (IntKind.u64.wrap (x5)))) (wrap64 (x5 + 1))) else (none)) else (some (x4, 0))
end
def recoupref06_Full.f (k : Nat) (a0 : Int) : Option (Int × Int) := if a0 < 0 then (recoupref06_Full.j0 k a0 true) else (recoupref06_Full.j0 k a0 (decide (a0 > 64)))
theorem recoupref06_Full.mono_l : ∀ k, (∀ y0 y1, LeO (recoupref06_Full.j0 k y0 y1) (recoupref06_Full.j0 (k + 1) y0 y1)) ∧ (∀ y0 y1 y2, LeO (recoupref06_Full.l0 k y0 y1 y2) (recoupref06_Full.l0 (k + 1) y0 y1 y2))
  | 0 => ⟨fun _ _ r h => by simp [recoupref06_Full.j0] at h, fun _ _ _ r h => by simp [recoupref06_Full.l0] at h⟩
  | k + 1 => by
    obtain ⟨ih0, ih1⟩ := recoupref06_Full.mono_l k
    refine ⟨?_, ?_⟩
    · intro y0 y1
      unfold recoupref06_Full.j0
      repeat' first
      | (with_reducible exact ih0 _ _)
      | (with_reducible exact ih1 _ _ _)
      | (with_reducible exact LeO.refl _)
      | (with_reducible exact LeO.none _)
      | (with_reducible refine LeO.ite ?_ ?_)
      | (with_reducible refine LeO.bind ?_ (fun _ => ?_))
      | exact ih0 _ _
      | exact ih1 _ _ _
      | exact LeO.none _
      | refine LeO.ite ?_ ?_
      | refine LeO.bind ?_ (fun _ => ?_)
    · intro y0 y1 y2
      unfold recoupref06_Full.l0
      repeat' first
      | (with_reducible exact ih0 _ _)
      | (with_reducible exact ih1 _ _ _)
      | (with_reducible exact LeO.refl _)
      | (with_reducible exact LeO.none _)
      | (with_reducible refine LeO.ite ?_ ?_)
      | (with_reducible refine LeO.bind ?_ (fun _ => ?_))
      | exact ih0 _ _
      | exact ih1 _ _ _
      | exact LeO.none _
      | refine LeO.ite ?_ ?_
      | refine LeO.bind ?_ (fun _ => ?_)
theorem recoupref06_Full.mono : ∀ a0 k, LeO (recoupref06_Full.f k a0) (recoupref06_Full.f (k + 1) a0) := by
  intro a0 k
  obtain ⟨ih0, ih1⟩ := recoupref06_Full.mono_l k
  unfold recoupref06_Full.f
  repeat' first
      | (with_reducible exact ih0 _ _)
      | (with_reducible exact ih1 _ _ _)
      | (with_reducible exact LeO.refl _)
      | (with_reducible exact LeO.none _)
      | (with_reducible refine LeO.ite ?_ ?_)
      | (with_reducible refine LeO.bind ?_ (fun _ => ?_))
      | exact ih0 _ _
      | exact ih1 _ _ _
      | exact LeO.none _
      | refine LeO.ite ?_ ?_
      | refine LeO.bind ?_ (fun _ => ?_)
set_option maxHeartbeats 8000000 in
set_option maxRecDepth 100000 in
theorem recoupref06_Full.calls (k : Nat) (a0 : Int) (r1 : Int) (r2 : Int) (w : World) (h : recoupref06_Full.f k a0 = some (r1, r2)) :
    Calls Tryd.prog 14 #[.int .i64 a0] w fun e w' => e = .returned (.tuple #[.int .u64 r1, .int .i64 r2]) ∧ Drawn0 w w' := by
  have H : (if a0 < 0 then (recoupref06_Full.j0 k a0 true) else (recoupref06_Full.j0 k a0 (decide (a0 > 64)))) = some (r1, r2) := h
  clear h
  have HC2 := Aside0.mk H
  clear H
  go_enter Tryd.func14, Tryd.ntmps14
  go_upto_region 1 with (fail)
  go_cut [11] (fun v11 wc => ∃ (kq : Nat) (x11_1 : Bool), v11 = .bool x11_1 ∧ Aside0 (recoupref06_Full.j0 kq a0 x11_1 = some (r1, r2)) ∧ Aside0 (kq ≤ k) ∧ Drawn0 w wc)
  case first =>
    have H := HC2.out
    clear HC2
    by_cases c3 : a0 < 0
    · rw [if_pos c3] at H
      have c3b0 : decide (a0 < 0) = true := decide_eq_true c3
      clear c3
      (first | rw [c3b0] | (simp only [i64_w, i32_w]; rw [c3b0]) | skip)
      have H' := Aside0.mk H
      clear H
      go_wp2
      go_meet
      case rel => exact ⟨_, (true), (by first | rfl | (simp; done) | (simp [*]; done)), H', ⟨by first | omega | exact Nat.le_refl _⟩, by repeat (first | exact Drawn0.refl _ | apply Drawn0.step)⟩
    · rw [if_neg c3] at H
      have c3b0 : decide (a0 < 0) = false := decide_eq_false c3
      clear c3
      (first | rw [c3b0] | (simp only [i64_w, i32_w]; rw [c3b0]) | skip)
      have H' := Aside0.mk H
      clear H
      go_wp2
      go_meet
      case rel => exact ⟨_, (decide (a0 > 64)), (by first | rfl | (simp; done) | (simp [*]; done)), H', ⟨by first | omega | exact Nat.le_refl _⟩, by repeat (first | exact Drawn0.refl _ | apply Drawn0.step)⟩
  case rest =>
    clear HC2
    try clear c1
    try clear p2
    try clear c3
    try clear c3b0
    obtain ⟨kq, x11_1, rfl, HA, HJ1, ⟨mc1, rfl⟩⟩ := hcut
    cases kq with
    | zero => exact absurd HA.out (by simp [recoupref06_Full.j0])
    | succ kj1 =>
      have H := HA.out
      clear HA
      simp only [recoupref06_Full.j0] at H
      by_cases c4 : x11_1 = true
      · subst c4
        have H1 : (some (0, 2)) = some (r1, r2) := by rw [if_pos rfl] at H; exact H
        clear H
        have H := H1
        clear H1
        simp only [Option.some.injEq, Prod.mk.injEq] at H
        obtain ⟨rfl, rfl⟩ := H
        go_wp2
        go_ret2
        exact ⟨by first | rfl | (simp; done) | (simp [*]; done), by repeat (first | exact Drawn0.refl _ | apply Drawn0.step)⟩
      · replace c4 := Bool.eq_false_iff.mpr c4
        subst c4
        have H1 : (recoupref06_Full.l0 kj1 a0 0 0) = some (r1, r2) := by rw [if_neg (show ¬ (false = true) by decide)] at H; exact H
        clear H
        have H := H1
        clear H1
        have H' := Aside0.mk H
        clear H
        go_wp2
        go_loopg [4, 5] kj1 (fun kq v4 v5 w' => ∃ (x4_2 : Int) (x5_2 : Int), v4 = .int .u64 x4_2 ∧ v5 = .int .i64 x5_2 ∧ Aside0 (recoupref06_Full.l0 kq a0 x4_2 x5_2 = some (r1, r2)) ∧ Aside0 (kq ≤ kj1) ∧ Drawn0 w w')
        case atStart => exact ⟨(0), (0), (by first | rfl | (simp; done) | (simp [*]; done)), (by first | rfl | (simp; done) | (simp [*]; done)), H', ⟨Nat.le_refl _⟩, by repeat (first | exact Drawn0.refl _ | apply Drawn0.step)⟩
        case round =>
          clear H'
          try clear c1
          try clear p2
          try clear c3
          try clear c3b0
          try clear c4
          try clear p2
          obtain ⟨x4_2, x5_2, rfl, rfl, HA, HK2, ⟨m2, rfl⟩⟩ := hrel
          cases gk with
          | zero => exact absurd HA.out (by simp [recoupref06_Full.l0])
          | succ k2 =>
            have H := HA.out
            clear HA
            simp only [recoupref06_Full.l0] at H
            by_cases c5 : x5_2 < a0
            · rw [if_pos c5] at H
              have c5b0 : decide (x5_2 < a0) = true := decide_eq_true c5
              clear c5
              obtain ⟨ji6, hji6⟩ : ∃ j_ : Int, (IntKind.u64.wrap (x5_2)) = j_ := ⟨_, rfl⟩
              replace H : (if 0 ≤ (ji6) then (recoupref06_Full.l0 k2 a0 (Go.bits .or .u64 x4_2 (shl .u64 1 (ji6))) (wrap64 (x5_2 + 1))) else (none)) = some (r1, r2) := by first | (rw [hji6] at H; exact H) | (simp only [hji6] at H ⊢; exact H)
              by_cases c7 : 0 ≤ (ji6)
              · rw [if_pos c7] at H
                have c7b0 := eq_true c7
                have c7b1 : decide (0 ≤ (ji6)) = true := decide_eq_true c7
                clear c7
                obtain ⟨ji8, hji8⟩ : ∃ j_ : Int, (shl .u64 1 (ji6)) = j_ := ⟨_, rfl⟩
                replace H : (recoupref06_Full.l0 k2 a0 (Go.bits .or .u64 x4_2 (ji8)) (wrap64 (x5_2 + 1))) = some (r1, r2) := by first | (rw [hji8] at H; exact H) | (simp only [hji8] at H ⊢; exact H)
                have hji8_ : (IntKind.u64.wrap (1 * 2 ^ min (ji6).toNat 64)) = ji8 := hji8
                have hji8z : (ji6) ≤ 64 → (IntKind.u64.wrap (1 * 2 ^ (ji6).toNat)) = ji8 := shl_small hji8
                have hji8u : (IntKind.u64.wrap (2 ^ min (ji6).toNat 64)) = ji8 := by have h_ := hji8_; rw [Int.one_mul] at h_; exact h_
                have hji8v : (ji6) ≤ 64 → (IntKind.u64.wrap (2 ^ (ji6).toNat)) = ji8 := fun hle_ => by have h_ := hji8z hle_; rw [Int.one_mul] at h_; exact h_
                have H' := Aside0.mk H
                clear H
                go_wp2
                go_roundg k2
                case measure => have := HJ1.out; have := HK2.out; omega
                case rel => exact ⟨(Go.bits .or .u64 x4_2 (ji8)), (wrap64 (x5_2 + 1)), (by first | rfl | (simp; done) | (simp only [← hji8] <;> (first | rfl | simp)) | (simp [*]; done)), (by first | rfl | (simp; done) | (simp [*]; done)), H', ⟨by have := HJ1.out; have := HK2.out; omega⟩, by repeat (first | exact Drawn0.refl _ | apply Drawn0.step)⟩
              · rw [if_neg c7] at H
                exact absurd H (by simp)
            · rw [if_neg c5] at H
              have c5b0 : decide (x5_2 < a0) = false := decide_eq_false c5
              clear c5
              simp only [Option.some.injEq, Prod.mk.injEq] at H
              obtain ⟨rfl, rfl⟩ := H
              go_wp2
              go_ret2
              exact ⟨by first | rfl | (simp; done) | (simp [*]; done), by repeat (first | exact Drawn0.refl _ | apply Drawn0.step)⟩

/-! ### recoupref06_Has: function 20 -/
def recoupref06_Has.f (a0 : Int) (a1 : Int) : Option (Bool) := if a1 ≥ 0 then (if a1 < 64 then (if 0 ≤ (IntKind.u64.wrap (a1)) then (some ((Go.bits .and .u64 (shr .u64 a0 (IntKind.u64.wrap (a1))) 1) == 1)) else (none)) else (some false)) else (some false)
set_option maxHeartbeats 8000000 in
set_option maxRecDepth 100000 in
theorem recoupref06_Has.calls (a0 : Int) (a1 : Int) (r : Bool) (w : World) (h : recoupref06_Has.f a0 a1 = some r) :
    Calls Tryd.prog 20 #[.int .u64 a0, .int .i64 a1] w fun e w' => e = .returned (.bool r) ∧ Drawn0 w w' := by
  have H : (if a1 ≥ 0 then (if a1 < 64 then (if 0 ≤ (IntKind.u64.wrap (a1)) then (some ((Go.bits .and .u64 (shr .u64 a0 (IntKind.u64.wrap (a1))) 1) == 1)) else (none)) else (some false)) else (some false)) = some r := h
  clear h
  by_cases c3 : a1 ≥ 0
  · rw [if_pos c3] at H
    have c3b0 : decide (0 ≤ a1) = true := decide_eq_true c3
    clear c3
    by_cases c4 : a1 < 64
    · rw [if_pos c4] at H
      have c4b0 : decide (a1 < 64) = true := decide_eq_true c4
      clear c4
      obtain ⟨ji5, hji5⟩ : ∃ j_ : Int, (IntKind.u64.wrap (a1)) = j_ := ⟨_, rfl⟩
      replace H : (if 0 ≤ (ji5) then (some ((Go.bits .and .u64 (shr .u64 a0 (ji5)) 1) == 1)) else (none)) = some r := by first | (rw [hji5] at H; exact H) | (simp only [hji5] at H ⊢; exact H)
      by_cases c6 : 0 ≤ (ji5)
      · rw [if_pos c6] at H
        have c6b0 := eq_true c6
        have c6b1 : decide (0 ≤ (ji5)) = true := decide_eq_true c6
        clear c6
        obtain ⟨ji7, hji7⟩ : ∃ j_ : Int, (shr .u64 a0 (ji5)) = j_ := ⟨_, rfl⟩
        replace H : (some ((Go.bits .and .u64 (ji7) 1) == 1)) = some r := by first | (rw [hji7] at H; exact H) | (simp only [hji7] at H ⊢; exact H)
        have hji7_ : (a0 / 2 ^ min (ji5).toNat 64) = ji7 := hji7
        have hji7z : (ji5) ≤ 64 → (a0 / 2 ^ (ji5).toNat) = ji7 := shr_small hji7
        obtain rfl := Option.some.inj H
        go_enter Tryd.func20, Tryd.ntmps20
        go_wp2
        go_ret
        exact ⟨by first | rfl | (simp; done) | (simp only [← hji5, ← hji7] <;> (first | rfl | simp)) | (simp [*]; done), by repeat (first | exact Drawn0.refl _ | apply Drawn0.step)⟩
      · rw [if_neg c6] at H
        exact absurd H (by simp)
    · rw [if_neg c4] at H
      have c4b0 : decide (a1 < 64) = false := decide_eq_false c4
      clear c4
      obtain rfl := Option.some.inj H
      go_enter Tryd.func20, Tryd.ntmps20
      go_wp2
      go_ret
      exact ⟨by first | rfl | (simp; done) | (simp [*]; done), by repeat (first | exact Drawn0.refl _ | apply Drawn0.step)⟩
  · rw [if_neg c3] at H
    have c3b0 : decide (0 ≤ a1) = false := decide_eq_false c3
    clear c3
    obtain rfl := Option.some.inj H
    go_enter Tryd.func20, Tryd.ntmps20
    go_wp2
    go_ret
    exact ⟨by first | rfl | (simp; done) | (simp [*]; done), by repeat (first | exact Drawn0.refl _ | apply Drawn0.step)⟩

end Go.Proofs.YtagghjljbedfdaaDoor.Q
