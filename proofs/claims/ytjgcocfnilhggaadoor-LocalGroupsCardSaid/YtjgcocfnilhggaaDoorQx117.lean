/- Written by drive.py (a program of this repo, over the kit's print): each Go function named here answers what the Lean function beside it answers, wherever that one answers, in every world that meets the stated premises. -/
import Derived.Test.YtjgcocfnilhggaaDoorQx0
import Derived.Test.YtjgcocfnilhggaaDoorQx118
import Derived.Test.YtjgcocfnilhggaaDoorQx147
namespace Go.Proofs.YtjgcocfnilhggaaDoor.Q
open Go.RowKit Go.Proofs.YtjgcocfnilhggaaDoorW.PrintWords Go.Proofs.YtjgcocfnilhggaaDoorW.PrintLast Go.Proofs.YtjgcocfnilhggaaDoorW.PrintMore
attribute [local go_sem] max2_int min2_int max_two min_two max_three min_three max_four min_four   -- for this text's walks alone
set_option linter.unusedVariables false
set_option linter.unusedSimpArgs false

/-! ### recoupref06_Full: function 17 -/
mutual
def recoupref06_Full.j0 : Nat → Int → Bool → Option (Int × Int)
  | 0, _, _ => none
  | k + 1, x0, x11 => if x11 = true then (some (0, 2)) else (recoupref06_Full.l0 k x0 0 0)
def recoupref06_Full.l0 : Nat → Int → Int → Int → Option (Int × Int)
  | 0, _, _, _ => none
  | k + 1, x0, x4, x5 => if x5 < x0 then (if 0 ≤ (IntKind.u64.wrap (x5)) then (recoupref06_Full.l0 k x0 (Go.bits .or .u64 x4 (shl .u64 1 (IntKind.u64.wrap (x5)))) (wrap64 (x5 + 1))) else (none)) else (some (x4, 0))
end
def recoupref06_Full.f (k : Nat) (a0 : Int) : Option (Int × Int) := if a0 < 0 then (recoupref06_Full.j0 k a0 true) else (recoupref06_Full.j0 k a0 (decide (a0 > 64)))
theorem recoupref06_Full.mono_l : ∀ k, (∀ y0 y1, LeO (recoupref06_Full.j0 k y0 y1) (recoupref06_Full.j0 (k + 1) y0 y1)) ∧ (∀ y0 y1 y2, LeO (recoupref06_Full.l0 k y0 y1 y2) (recoupref06_Full.l0 (k + 1) y0 y1 y2))
  | 0 => ⟨fun _ _ r h => by simp [recoupref06_Full.j0] at h, fun _ _ _ r h => by simp [recoupref06_Full.l0] at h⟩
  | k + 1 => by
    obtain ⟨ih0, ih1⟩ := recoupref06_Full.mono_l k
    refine ⟨?_, ?_⟩
    all_goals (intros; first | unfold recoupref06_Full.j0 | unfold recoupref06_Full.l0)
    all_goals repeat' first | (with_reducible exact ih0 _ _) | (with_reducible exact ih1 _ _ _) | (with_reducible exact LeO.refl _) | (with_reducible exact LeO.none _) | (with_reducible refine LeO.ite ?_ ?_) | (with_reducible refine LeO.bind ?_ (fun _ => ?_)) | exact ih0 _ _ | exact ih1 _ _ _ | exact LeO.none _ | refine LeO.ite ?_ ?_ | refine LeO.bind ?_ (fun _ => ?_)
theorem recoupref06_Full.mono : ∀ a0 k, LeO (recoupref06_Full.f k a0) (recoupref06_Full.f (k + 1) a0) := by
  intro a0 k
  obtain ⟨ih0, ih1⟩ := recoupref06_Full.mono_l k
  unfold recoupref06_Full.f
  repeat' first
      | (with_reducible exact ih0 _ _)
      | (with_reducible exact ih1 _ _ _)
      | (with_reducible exact LeO.refl _)
      | (with_reducible exact LeO.none _)
      | (with_reducible refine LeO.ite ?_ ?_)
      | (with_reducible refine LeO.bind ?_ (fun _ => ?_))
      | exact ih0 _ _
      | exact ih1 _ _ _
      | exact LeO.none _
      | refine LeO.ite ?_ ?_
      | refine LeO.bind ?_ (fun _ => ?_)
set_option maxHeartbeats 8000000 in
set_option maxRecDepth 100000 in
theorem recoupref06_Full.calls (k : Nat) (a0 : Int) (r1 : Int) (r2 : Int) (w : World) (h : recoupref06_Full.f k a0 = some (r1, r2)) :
    Calls Tryd.prog 17 #[.int .i64 a0] w fun e w' => e = .returned (.tuple #[.int .u64 r1, .int .i64 r2]) ∧ Drawn0 w w' := by
  have H : (if a0 < 0 then (recoupref06_Full.j0 k a0 true) else (recoupref06_Full.j0 k a0 (decide (a0 > 64)))) = some (r1, r2) := h
  clear h
  have HC2 := Aside0.mk H
  clear H
  go_enter Tryd.func17, Tryd.ntmps17
  go_upto_region 1 with (fail)
  go_cut [11] (fun v11 wc => ∃ (kq : Nat) (x11_1 : Bool), v11 = .bool x11_1 ∧ Aside0 (recoupref06_Full.j0 kq a0 x11_1 = some (r1, r2)) ∧ Aside0 (kq ≤ k) ∧ Drawn0 w wc)
  case first =>
    have H := HC2.out
    clear HC2
    by_cases c3 : a0 < 0
    · rw [if_pos c3] at H
      have c3b0 : decide (a0 < 0) = true := decide_eq_true c3
      clear c3
      (first | rw [c3b0] | (simp only [i64_w, i32_w]; rw [c3b0]) | skip)
      have H' := Aside0.mk H
      clear H
      go_wp2
      go_meet
      case rel => exact ⟨_, (true), rsE, H', ⟨leE⟩, by repeat (first | exact Drawn0.refl _ | apply Drawn0.step)⟩
    · rw [if_neg c3] at H
      have c3b0 : decide (a0 < 0) = false := decide_eq_false c3
      clear c3
      (first | rw [c3b0] | (simp only [i64_w, i32_w]; rw [c3b0]) | skip)
      have H' := Aside0.mk H
      clear H
      go_wp2
      go_meet
      case rel => exact ⟨_, (decide (a0 > 64)), rsE, H', ⟨leE⟩, by repeat (first | exact Drawn0.refl _ | apply Drawn0.step)⟩
  case rest =>
    clear HC2
    (try clear c1); (try clear p2); (try clear c3); (try clear c3b0)
    obtain ⟨kq, x11_1, rfl, HA, HJ1, ⟨mc1, rfl⟩⟩ := hcut
    cases kq with
    | zero => exact absurd HA.out (by simp [recoupref06_Full.j0])
    | succ kj1 =>
      have H := HA.out
      clear HA
      simp only [recoupref06_Full.j0] at H
      by_cases c4 : x11_1 = true
      · subst c4
        rw [if_pos rfl] at H
        simp only [Option.some.injEq, Prod.mk.injEq] at H
        obtain ⟨rfl, rfl⟩ := H
        go_wp2
        go_ret2
        exact ⟨by first | rfl | (simp; done) | (simp [*]; done), by repeat (first | exact Drawn0.refl _ | apply Drawn0.step)⟩
      · replace c4 := Bool.eq_false_iff.mpr c4
        subst c4
        rw [if_neg nofT] at H
        have H' := Aside0.mk H
        clear H
        go_wp2
        go_loopg [4, 5] kj1 (fun kq v4 v5 w' => ∃ (x4_2 : Int) (x5_2 : Int), v4 = .int .u64 x4_2 ∧ v5 = .int .i64 x5_2 ∧ Aside0 (recoupref06_Full.l0 kq a0 x4_2 x5_2 = some (r1, r2)) ∧ Aside0 (kq ≤ kj1) ∧ Drawn0 w w')
        case atStart => exact ⟨(0), (0), rsE, rsE, H', ⟨Nat.le_refl _⟩, by repeat (first | exact Drawn0.refl _ | apply Drawn0.step)⟩
        case round =>
          clear H'
          (try clear c1); (try clear p2 p2); (try clear c3); (try clear c3b0); (try clear c4)
          obtain ⟨x4_2, x5_2, rfl, rfl, HA, HK2, ⟨m2, rfl⟩⟩ := hrel
          cases gk with
          | zero => exact absurd HA.out (by simp [recoupref06_Full.l0])
          | succ k2 =>
            have H := HA.out
            clear HA
            simp only [recoupref06_Full.l0] at H
            by_cases c5 : x5_2 < a0
            · rw [if_pos c5] at H
              have c5b0 : decide (x5_2 < a0) = true := decide_eq_true c5
              clear c5
              obtain ⟨ji6, hji6⟩ : ∃ j_ : Int, (IntKind.u64.wrap (x5_2)) = j_ := ⟨_, rfl⟩
              replace H : (if 0 ≤ (ji6) then (recoupref06_Full.l0 k2 a0 (Go.bits .or .u64 x4_2 (shl .u64 1 (ji6))) (wrap64 (x5_2 + 1))) else (none)) = some (r1, r2) := by first | (rw [hji6] at H; exact H) | (simp only [hji6] at H ⊢; exact H)
              by_cases c7 : 0 ≤ (ji6)
              · rw [if_pos c7] at H
                have c7b0 := eq_true c7
                have c7b1 : decide (0 ≤ (ji6)) = true := decide_eq_true c7
                clear c7
                obtain ⟨ji8, hji8⟩ : ∃ j_ : Int, (shl .u64 1 (ji6)) = j_ := ⟨_, rfl⟩
                replace H : (recoupref06_Full.l0 k2 a0 (Go.bits .or .u64 x4_2 (ji8)) (wrap64 (x5_2 + 1))) = some (r1, r2) := by first | (rw [hji8] at H; exact H) | (simp only [hji8] at H ⊢; exact H)
                have hji8_ : (IntKind.u64.wrap (1 * 2 ^ min (ji6).toNat 64)) = ji8 := hji8
                have hji8z : (ji6) ≤ 64 → (IntKind.u64.wrap (1 * 2 ^ (ji6).toNat)) = ji8 := shl_small hji8
                have hji8u : (IntKind.u64.wrap (2 ^ min (ji6).toNat 64)) = ji8 := by have h_ := hji8_; rw [Int.one_mul] at h_; exact h_
                have hji8v : (ji6) ≤ 64 → (IntKind.u64.wrap (2 ^ (ji6).toNat)) = ji8 := fun hle_ => by have h_ := hji8z hle_; rw [Int.one_mul] at h_; exact h_
                have H' := Aside0.mk H
                clear H
                go_wp2
                go_roundg k2
                case measure => have := HJ1.out; have := HK2.out; omega
                case rel => exact ⟨(Go.bits .or .u64 x4_2 (ji8)), (wrap64 (x5_2 + 1)), (by first | rfl | (simp; done) | (simp only [← hji8] <;> (first | rfl | simp)) | (simp [*]; done)), rsE, H', ⟨by have := HJ1.out; have := HK2.out; omega⟩, by repeat (first | exact Drawn0.refl _ | apply Drawn0.step)⟩
              · rw [if_neg c7] at H
                exact absurd H (by simp)
            · rw [if_neg c5] at H
              have c5b0 : decide (x5_2 < a0) = false := decide_eq_false c5
              clear c5
              simp only [Option.some.injEq, Prod.mk.injEq] at H
              obtain ⟨rfl, rfl⟩ := H
              go_wp2
              go_ret2
              exact ⟨by first | rfl | (simp; done) | (simp [*]; done), by repeat (first | exact Drawn0.refl _ | apply Drawn0.step)⟩

/-! ### recoupref07_bad: function 75 -/
def recoupref07_bad.f (k : Nat) (a0_0 : Int) (a0_1 : Int) (l0_2 : List Int) (a1 : Int) : Option (Int) := (recoupref03_Right.f a0_0 a0_1 l0_2).bind fun t218 => (if t218 = true then ((recoupref06_Full.f k a0_0).bind fun bt219 => (if (Go.bits .andNot .u64 a1 bt219.1) = 0 then (some 0) else (some 2))) else (some 3))
theorem recoupref07_bad.mono : ∀ a0 a1 a2 a3 k, LeO (recoupref07_bad.f k a0 a1 a2 a3) (recoupref07_bad.f (k + 1) a0 a1 a2 a3) := by
 intro a0 a1 a2 a3 k
 unfold recoupref07_bad.f
 repeat' first
   | (with_reducible exact recoupref06_Full.mono _ _)
   | (with_reducible exact LeO.refl _)
   | (with_reducible exact LeO.none _)
   | (with_reducible refine LeO.ite ?_ ?_)
   | (with_reducible refine LeO.bind ?_ (fun _ => ?_))
   | exact recoupref06_Full.mono _ _
   | exact LeO.none _
   | refine LeO.ite ?_ ?_
   | refine LeO.bind ?_ (fun _ => ?_)
set_option maxHeartbeats 8000000 in
set_option maxRecDepth 100000 in
theorem recoupref07_bad.calls (k : Nat) (a0_0 : Int) (a0_1 : Int) (A0_2 : Option Addr) (c0_2 : Nat) (l0_2 : List Int) (a1 : Int) (r : Int) (w : World) (hr0_2 : Kd.C (Kd.int .u8) w A0_2 l0_2.length l0_2) (hc0_2 : l0_2.length ≤ c0_2) (h : recoupref07_bad.f k a0_0 a0_1 l0_2 a1 = some r) :
  Calls Tryd.prog 75 #[.agg #[.int .i64 a0_0, .int .i64 a0_1, .slice A0_2 l0_2.length c0_2], .int .u64 a1] w fun e w' => e = .returned (.int .i64 r) ∧ Below w.heap.size w w' := by
 have hu24 := Tryd.underlying24
 have HR0_2 := Aside0.mk hr0_2
 have HC0_2 := Aside0.mk hc0_2
 clear hr0_2 hc0_2
 have HB := Aside0.mk (Below.refl w.heap.size w)
 have H : ((recoupref03_Right.f a0_0 a0_1 l0_2).bind fun t218 => (if t218 = true then ((recoupref06_Full.f k a0_0).bind fun bt219 => (if (Go.bits .andNot .u64 a1 bt219.1) = 0 then (some 0) else (some 2))) else (some 3))) = some r := h
 clear h
 obtain ⟨t218, A3, H⟩ := bindO H
 (try dsimp only at H)
 by_cases c4 : t218 = true
 ·subst c4
  rw [if_pos rfl] at H
  obtain ⟨⟨t219, t220⟩, A5, H⟩ := bindO H
  (try dsimp only at H)
  by_cases c6 : (Go.bits .andNot .u64 a1 t219) = 0
  ·rw [if_pos c6] at H
   have c6b0 : ((Go.bits .andNot .u64 a1 t219) == 0) = true := beq_iff_eq.mpr c6
   have c6b1 : ((Go.bits .andNot .u64 a1 t219) != 0) = false := bne_eq_false_iff_eq.mpr c6
   clear c6
   obtain rfl := Option.some.inj H
   go_enter Tryd.func75, Tryd.ntmps75
   go_wp2_with (first | ((with_reducible refine gD 2 rfl ?_); refine bE 2 #[.int .i64 a0_0, .int .i64 a0_1, .slice A0_2 l0_2.length c0_2] 24 ?_; intro gb217 hg w7 hbox hb; have BK217 := Aside0.mk (hbox); have GW217 := hbS HB hg; have GE217 := hbS HB hg; replace HB := hbB HB hb; clear hb hbox hg; obtain ⟨hcz8_0, hcz8_1, hcz8_2, hfz8_0, hfz8_1, hfz8_2⟩ := cell3 BK217) | ((with_reducible refine gC 45 rfl ?_); refine cG (some 8) Tryd.func45 #[.agg #[.int .i64 a0_0, .int .i64 a0_1, .slice A0_2 l0_2.length c0_2]] ?_; (with_reducible refine (recoupref03_Right.calls a0_0 a0_1 _ _ l0_2 true _ ?side1 ?side2 A3.out).mono ?_); (case side1 => exact kcB HR0_2 HB); (case side2 => exact HC0_2.out); rintro e w9 ⟨rfl, hb⟩; refine ⟨_, rfl, ?_⟩; replace BK217 := bkB BK217 hb; replace HB := hbB HB hb; (try clear hb); (try clear hb2); (try clear hk); (try clear hi); obtain ⟨hcz10_0, hcz10_1, hcz10_2, hfz10_0, hfz10_1, hfz10_2⟩ := cell3 BK217) | ((with_reducible refine gC 17 rfl ?_); refine cG (some 13) Tryd.func17 #[.int .i64 a0_0] ?_; (with_reducible refine (recoupref06_Full.calls k a0_0 t219 t220 _ A5.out).mono ?_); rintro e w' ⟨rfl, ⟨nd, rfl⟩⟩; refine ⟨_, rfl, ?_⟩))
   go_ret
   exact ⟨rfE, hbA HB.out⟩
  ·rw [if_neg c6] at H
   have c6b0 : ((Go.bits .andNot .u64 a1 t219) == 0) = false := beq_eq_false_iff_ne.mpr c6
   have c6b1 : ((Go.bits .andNot .u64 a1 t219) != 0) = true := bne_iff_ne.mpr c6
   obtain rfl := Option.some.inj H
   go_enter Tryd.func75, Tryd.ntmps75
   go_wp2_with (first | ((with_reducible refine gD 2 rfl ?_); refine bE 2 #[.int .i64 a0_0, .int .i64 a0_1, .slice A0_2 l0_2.length c0_2] 24 ?_; intro gb217 hg w11 hbox hb; have BK217 := Aside0.mk (hbox); have GW217 := hbS HB hg; have GE217 := hbS HB hg; replace HB := hbB HB hb; clear hb hbox hg; obtain ⟨hcz12_0, hcz12_1, hcz12_2, hfz12_0, hfz12_1, hfz12_2⟩ := cell3 BK217) | ((with_reducible refine gC 45 rfl ?_); refine cG (some 8) Tryd.func45 #[.agg #[.int .i64 a0_0, .int .i64 a0_1, .slice A0_2 l0_2.length c0_2]] ?_; (with_reducible refine (recoupref03_Right.calls a0_0 a0_1 _ _ l0_2 true _ ?side1 ?side2 A3.out).mono ?_); (case side1 => exact kcB HR0_2 HB); (case side2 => exact HC0_2.out); rintro e w13 ⟨rfl, hb⟩; refine ⟨_, rfl, ?_⟩; replace BK217 := bkB BK217 hb; replace HB := hbB HB hb; (try clear hb); (try clear hb2); (try clear hk); (try clear hi); obtain ⟨hcz14_0, hcz14_1, hcz14_2, hfz14_0, hfz14_1, hfz14_2⟩ := cell3 BK217) | ((with_reducible refine gC 17 rfl ?_); refine cG (some 13) Tryd.func17 #[.int .i64 a0_0] ?_; (with_reducible refine (recoupref06_Full.calls k a0_0 t219 t220 _ A5.out).mono ?_); rintro e w' ⟨rfl, ⟨nd, rfl⟩⟩; refine ⟨_, rfl, ?_⟩))
   go_ret
   exact ⟨rfE, hbA HB.out⟩
 ·replace c4 := Bool.eq_false_iff.mpr c4
  subst c4
  rw [if_neg nofT] at H
  obtain rfl := Option.some.inj H
  go_enter Tryd.func75, Tryd.ntmps75
  go_wp2_with (first | ((with_reducible refine gD 2 rfl ?_); refine bE 2 #[.int .i64 a0_0, .int .i64 a0_1, .slice A0_2 l0_2.length c0_2] 24 ?_; intro gb217 hg w15 hbox hb; have BK217 := Aside0.mk (hbox); have GW217 := hbS HB hg; have GE217 := hbS HB hg; replace HB := hbB HB hb; clear hb hbox hg; obtain ⟨hcz16_0, hcz16_1, hcz16_2, hfz16_0, hfz16_1, hfz16_2⟩ := cell3 BK217) | ((with_reducible refine gC 45 rfl ?_); refine cG (some 8) Tryd.func45 #[.agg #[.int .i64 a0_0, .int .i64 a0_1, .slice A0_2 l0_2.length c0_2]] ?_; (with_reducible refine (recoupref03_Right.calls a0_0 a0_1 _ _ l0_2 false _ ?side1 ?side2 A3.out).mono ?_); (case side1 => exact kcB HR0_2 HB); (case side2 => exact HC0_2.out); rintro e w17 ⟨rfl, hb⟩; refine ⟨_, rfl, ?_⟩; replace BK217 := bkB BK217 hb; replace HB := hbB HB hb; (try clear hb); (try clear hb2); (try clear hk); (try clear hi)))
  go_ret
  exact ⟨rfE, hbA HB.out⟩

/-! ### recoupref07_Rank: function 46 -/
def recoupref07_Rank.f (k : Nat) (a0_0 : Int) (a0_1 : Int) (l0_2 : List Int) (a1 : Int) : Option (Int × Int) := (recoupref07_bad.f k a0_0 a0_1 l0_2 a1).bind fun t222 => (if t222 = 0 then ((recoupref07_rank.f k a0_0 a0_1 l0_2 a1).bind fun t223 => (some (t223, 0))) else (some (0, t222)))
theorem recoupref07_Rank.mono : ∀ a0 a1 a2 a3 k, LeO (recoupref07_Rank.f k a0 a1 a2 a3) (recoupref07_Rank.f (k + 1) a0 a1 a2 a3) := by
 intro a0 a1 a2 a3 k
 unfold recoupref07_Rank.f
 repeat' first
   | (with_reducible exact recoupref07_bad.mono _ _ _ _ _)
   | (with_reducible exact recoupref07_rank.mono _ _ _ _ _)
   | (with_reducible exact LeO.refl _)
   | (with_reducible exact LeO.none _)
   | (with_reducible refine LeO.ite ?_ ?_)
   | (with_reducible refine LeO.bind ?_ (fun _ => ?_))
   | exact recoupref07_bad.mono _ _ _ _ _
   | exact recoupref07_rank.mono _ _ _ _ _
   | exact LeO.none _
   | refine LeO.ite ?_ ?_
   | refine LeO.bind ?_ (fun _ => ?_)
set_option maxHeartbeats 8000000 in
set_option maxRecDepth 100000 in
theorem recoupref07_Rank.calls (k : Nat) (a0_0 : Int) (a0_1 : Int) (A0_2 : Option Addr) (c0_2 : Nat) (l0_2 : List Int) (a1 : Int) (r1 : Int) (r2 : Int) (w : World) (hr0_2 : Kd.C (Kd.int .u8) w A0_2 l0_2.length l0_2) (hc0_2 : l0_2.length ≤ c0_2) (h : recoupref07_Rank.f k a0_0 a0_1 l0_2 a1 = some (r1, r2)) :
  Calls Tryd.prog 46 #[.agg #[.int .i64 a0_0, .int .i64 a0_1, .slice A0_2 l0_2.length c0_2], .int .u64 a1] w fun e w' => e = .returned (.tuple #[.int .i64 r1, .int .i64 r2]) ∧ Below w.heap.size w w' := by
 have hu24 := Tryd.underlying24
 have HR0_2 := Aside0.mk hr0_2
 have HC0_2 := Aside0.mk hc0_2
 clear hr0_2 hc0_2
 have HB := Aside0.mk (Below.refl w.heap.size w)
 have H : ((recoupref07_bad.f k a0_0 a0_1 l0_2 a1).bind fun t222 => (if t222 = 0 then ((recoupref07_rank.f k a0_0 a0_1 l0_2 a1).bind fun t223 => (some (t223, 0))) else (some (0, t222)))) = some (r1, r2) := h
 clear h
 obtain ⟨t222, A3, H⟩ := bindO H
 (try dsimp only at H)
 by_cases c4 : t222 = 0
 ·rw [if_pos c4] at H
  have c4b0 : (t222 == 0) = true := beq_iff_eq.mpr c4
  have c4b1 : (t222 != 0) = false := bne_eq_false_iff_eq.mpr c4
  clear c4
  obtain ⟨t223, A5, H⟩ := bindO H
  (try dsimp only at H)
  simp only [Option.some.injEq, Prod.mk.injEq] at H
  obtain ⟨rfl, rfl⟩ := H
  go_enter Tryd.func46, Tryd.ntmps46
  go_wp2_with (first | ((with_reducible refine gD 2 rfl ?_); refine bE 2 #[.int .i64 a0_0, .int .i64 a0_1, .slice A0_2 l0_2.length c0_2] 24 ?_; intro gb221 hg w6 hbox hb; have BK221 := Aside0.mk (hbox); have GW221 := hbS HB hg; have GE221 := hbS HB hg; replace HB := hbB HB hb; clear hb hbox hg; obtain ⟨hcz7_0, hcz7_1, hcz7_2, hfz7_0, hfz7_1, hfz7_2⟩ := cell3 BK221) | ((with_reducible refine gC 75 rfl ?_); refine cG (some 9) Tryd.func75 #[.agg #[.int .i64 a0_0, .int .i64 a0_1, .slice A0_2 l0_2.length c0_2], .int .u64 a1] ?_; (with_reducible refine (recoupref07_bad.calls k a0_0 a0_1 _ _ l0_2 a1 t222 _ ?side1 ?side2 A3.out).mono ?_); (case side1 => exact kcB HR0_2 HB); (case side2 => exact HC0_2.out); rintro e w8 ⟨rfl, hb⟩; refine ⟨_, rfl, ?_⟩; replace BK221 := bkB BK221 hb; replace HB := hbB HB hb; (try clear hb); (try clear hb2); (try clear hk); (try clear hi); obtain ⟨hcz9_0, hcz9_1, hcz9_2, hfz9_0, hfz9_1, hfz9_2⟩ := cell3 BK221) | ((with_reducible refine gC 47 rfl ?_); refine cG (some 15) Tryd.func47 #[.agg #[.int .i64 a0_0, .int .i64 a0_1, .slice A0_2 l0_2.length c0_2], .int .u64 a1] ?_; (with_reducible refine (recoupref07_rank.calls k a0_0 a0_1 _ _ l0_2 a1 t223 _ ?side1 ?side2 A5.out).mono ?_); (case side1 => exact kcB HR0_2 HB); (case side2 => exact HC0_2.out); rintro e w10 ⟨rfl, hb⟩; refine ⟨_, rfl, ?_⟩; replace BK221 := bkB BK221 hb; replace HB := hbB HB hb; (try clear hb); (try clear hb2); (try clear hk); (try clear hi)))
  go_ret2
  exact ⟨rfE, hbA HB.out⟩
 ·rw [if_neg c4] at H
  have c4b0 : (t222 == 0) = false := beq_eq_false_iff_ne.mpr c4
  have c4b1 : (t222 != 0) = true := bne_iff_ne.mpr c4
  simp only [Option.some.injEq, Prod.mk.injEq] at H
  obtain ⟨rfl, rfl⟩ := H
  go_enter Tryd.func46, Tryd.ntmps46
  go_wp2_with (first | ((with_reducible refine gD 2 rfl ?_); refine bE 2 #[.int .i64 a0_0, .int .i64 a0_1, .slice A0_2 l0_2.length c0_2] 24 ?_; intro gb221 hg w11 hbox hb; have BK221 := Aside0.mk (hbox); have GW221 := hbS HB hg; have GE221 := hbS HB hg; replace HB := hbB HB hb; clear hb hbox hg; obtain ⟨hcz12_0, hcz12_1, hcz12_2, hfz12_0, hfz12_1, hfz12_2⟩ := cell3 BK221) | ((with_reducible refine gC 75 rfl ?_); refine cG (some 9) Tryd.func75 #[.agg #[.int .i64 a0_0, .int .i64 a0_1, .slice A0_2 l0_2.length c0_2], .int .u64 a1] ?_; (with_reducible refine (recoupref07_bad.calls k a0_0 a0_1 _ _ l0_2 a1 t222 _ ?side1 ?side2 A3.out).mono ?_); (case side1 => exact kcB HR0_2 HB); (case side2 => exact HC0_2.out); rintro e w13 ⟨rfl, hb⟩; refine ⟨_, rfl, ?_⟩; replace BK221 := bkB BK221 hb; replace HB := hbB HB hb; (try clear hb); (try clear hb2); (try clear hk); (try clear hi)))
  go_ret2
  exact ⟨rfE, hbA HB.out⟩

/-! ### recoupref07_one: function 48 -/
def recoupref07_one.f (a0 : Int) : Option (Int) := if 0 ≤ (IntKind.u64.wrap (a0)) then (some (shl .u64 1 (IntKind.u64.wrap (a0)))) else (none)
set_option maxHeartbeats 8000000 in
set_option maxRecDepth 100000 in
theorem recoupref07_one.calls (a0 : Int) (r : Int) (w : World) (h : recoupref07_one.f a0 = some r) :
  Calls Tryd.prog 48 #[.int .i64 a0] w fun e w' => e = .returned (.int .u64 r) ∧ Drawn0 w w' := by
 have H : (if 0 ≤ (IntKind.u64.wrap (a0)) then (some (shl .u64 1 (IntKind.u64.wrap (a0)))) else (none)) = some r := h
 clear h
 obtain ⟨ji2, hji2⟩ : ∃ j_ : Int, (IntKind.u64.wrap (a0)) = j_ := ⟨_, rfl⟩
 replace H : (if 0 ≤ (ji2) then (some (shl .u64 1 (ji2))) else (none)) = some r := by first | (rw [hji2] at H; exact H) | (simp only [hji2] at H ⊢; exact H)
 by_cases c3 : 0 ≤ (ji2)
 ·rw [if_pos c3] at H
  have c3b0 := eq_true c3
  have c3b1 : decide (0 ≤ (ji2)) = true := decide_eq_true c3
  clear c3
  obtain ⟨ji4, hji4⟩ : ∃ j_ : Int, (shl .u64 1 (ji2)) = j_ := ⟨_, rfl⟩
  replace H : (some ji4) = some r := by first | (rw [hji4] at H; exact H) | (simp only [hji4] at H ⊢; exact H)
  have hji4_ : (IntKind.u64.wrap (1 * 2 ^ min (ji2).toNat 64)) = ji4 := hji4
  have hji4z : (ji2) ≤ 64 → (IntKind.u64.wrap (1 * 2 ^ (ji2).toNat)) = ji4 := shl_small hji4
  have hji4u : (IntKind.u64.wrap (2 ^ min (ji2).toNat 64)) = ji4 := by have h_ := hji4_; rw [Int.one_mul] at h_; exact h_
  have hji4v : (ji2) ≤ 64 → (IntKind.u64.wrap (2 ^ (ji2).toNat)) = ji4 := fun hle_ => by have h_ := hji4z hle_; rw [Int.one_mul] at h_; exact h_
  obtain rfl := Option.some.inj H
  go_enter Tryd.func48, Tryd.ntmps48
  go_wp2
  go_ret
  exact ⟨by first | rfl | (simp; done) | (simp only [← hji2, ← hji4] <;> (first | rfl | simp)) | (simp [*]; done), by repeat (first | exact Drawn0.refl _ | apply Drawn0.step)⟩
 ·rw [if_neg c3] at H
  exact absurd H (by simp)

end Go.Proofs.YtjgcocfnilhggaaDoor.Q
