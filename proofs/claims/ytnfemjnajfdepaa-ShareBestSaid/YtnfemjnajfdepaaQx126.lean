/- Written by drive.py (a program of this repo, over the kit's print): each Go function named here answers what the Lean function beside it answers, wherever that one answers, in every world that meets the stated premises. -/
import Derived.Test.YtnfemjnajfdepaaQx0
import Derived.Test.YtnfemjnajfdepaaQx127
namespace Go.Proofs.Ytnfemjnajfdepaa.Q
open Go.RowKit Go.Proofs.YtnfemjnajfdepaaW.PrintWords Go.Proofs.YtnfemjnajfdepaaW.PrintLast Go.Proofs.YtnfemjnajfdepaaW.PrintMore
attribute [local go_sem] max2_int min2_int max_two min_two max_three min_three max_four min_four   -- for this text's walks alone
set_option linter.unusedVariables false
set_option linter.unusedSimpArgs false

/-! ### recoupref01_Inv: function 26 -/
def recoupref01_Inv.l0 : Nat → Int → Int → Option (Int × Int)
  | 0, _, _ => none
  | k + 1, x0, x4 => if x4 < 256 then ((recoupref01_Mul.f k x0 ((x4) % 256)).bind fun t127 => (if t127 = 1 then (some ((x4) % 256, 0)) else (recoupref01_Inv.l0 k x0 (wrap64 (x4 + 1))))) else (some (0, 5))
def recoupref01_Inv.f (k : Nat) (a0 : Int) : Option (Int × Int) := recoupref01_Inv.l0 k a0 1
theorem recoupref01_Inv.mono_l : ∀ k, (∀ y0 y1, LeO (recoupref01_Inv.l0 k y0 y1) (recoupref01_Inv.l0 (k + 1) y0 y1))
  | 0 => fun _ _ r h => by simp [recoupref01_Inv.l0] at h
  | k + 1 => by
    have ih0 := recoupref01_Inv.mono_l k
    · intro y0 y1
      unfold recoupref01_Inv.l0
      repeat' first
      | (with_reducible exact ih0 _ _)
      | (with_reducible exact recoupref01_Mul.mono _ _ _)
      | (with_reducible exact LeO.refl _)
      | (with_reducible exact LeO.none _)
      | (with_reducible refine LeO.ite ?_ ?_)
      | (with_reducible refine LeO.bind ?_ (fun _ => ?_))
      | exact ih0 _ _
      | exact recoupref01_Mul.mono _ _ _
      | exact LeO.none _
      | refine LeO.ite ?_ ?_
      | refine LeO.bind ?_ (fun _ => ?_)
theorem recoupref01_Inv.mono : ∀ a0 k, LeO (recoupref01_Inv.f k a0) (recoupref01_Inv.f (k + 1) a0) := by
  intro a0 k
  have ih0 := recoupref01_Inv.mono_l k
  unfold recoupref01_Inv.f
  repeat' first
      | (with_reducible exact ih0 _ _)
      | (with_reducible exact recoupref01_Mul.mono _ _ _)
      | (with_reducible exact LeO.refl _)
      | (with_reducible exact LeO.none _)
      | (with_reducible refine LeO.ite ?_ ?_)
      | (with_reducible refine LeO.bind ?_ (fun _ => ?_))
      | exact ih0 _ _
      | exact recoupref01_Mul.mono _ _ _
      | exact LeO.none _
      | refine LeO.ite ?_ ?_
      | refine LeO.bind ?_ (fun _ => ?_)
set_option maxHeartbeats 8000000 in
set_option maxRecDepth 100000 in
theorem recoupref01_Inv.calls (k : Nat) (a0 : Int) (r1 : Int) (r2 : Int) (w : World) (h : recoupref01_Inv.f k a0 = some (r1, r2)) :
    Calls Try.prog 26 #[.int .u8 a0] w fun e w' => e = .returned (.tuple #[.int .u8 r1, .int .i64 r2]) ∧ Drawn0 w w' := by
  have H : (recoupref01_Inv.l0 k a0 1) = some (r1, r2) := h
  clear h
  have H' := Aside0.mk H
  clear H
  go_enter Try.func26, Try.ntmps26
  go_wp2
  go_loopg [4] k (fun kq v4 w' => ∃ (x4_1 : Int), v4 = .int .i64 x4_1 ∧ Aside0 (recoupref01_Inv.l0 kq a0 x4_1 = some (r1, r2)) ∧ Aside0 (kq ≤ k) ∧ Drawn0 w w')
  case atStart => exact ⟨(1), rsE, H', ⟨Nat.le_refl _⟩, by repeat (first | exact Drawn0.refl _ | apply Drawn0.step)⟩
  case round =>
    clear H'
    obtain ⟨x4_1, rfl, HA, HK1, ⟨m1, rfl⟩⟩ := hrel
    cases gk with
    | zero => exact absurd HA.out (by simp [recoupref01_Inv.l0])
    | succ k1 =>
      have H := HA.out
      clear HA
      simp only [recoupref01_Inv.l0] at H
      by_cases c2 : x4_1 < 256
      · rw [if_pos c2] at H
        have c2b0 : decide (x4_1 < 256) = true := decide_eq_true c2
        clear c2
        obtain ⟨t127, A3, H⟩ := bindO H
        (try dsimp only at H)
        by_cases c4 : t127 = 1
        · rw [if_pos c4] at H
          have c4b0 : (t127 == 1) = true := beq_iff_eq.mpr c4
          have c4b1 : (t127 != 1) = false := bne_eq_false_iff_eq.mpr c4
          clear c4
          simp only [Option.some.injEq, Prod.mk.injEq] at H
          obtain ⟨rfl, rfl⟩ := H
          go_wp2_with (first | ((with_reducible refine gC 27 rfl ?_); refine cG (some 12) Try.func27 #[.int .u8 a0, .int .u8 ((x4_1) % 256)] ?_; (with_reducible refine (recoupref01_Mul.calls k1 a0 ((x4_1) % 256) t127 _ A3.out).mono ?_); rintro e w' ⟨rfl, ⟨nd, rfl⟩⟩; refine ⟨_, rfl, ?_⟩))
          go_ret2
          exact ⟨by first | rfl | (simp; done) | (simp [*]; done), by repeat (first | exact Drawn0.refl _ | apply Drawn0.step)⟩
        · rw [if_neg c4] at H
          have c4b0 : (t127 == 1) = false := beq_eq_false_iff_ne.mpr c4
          have c4b1 : (t127 != 1) = true := bne_iff_ne.mpr c4
          have H' := Aside0.mk H
          clear H
          go_wp2_with (first | ((with_reducible refine gC 27 rfl ?_); refine cG (some 12) Try.func27 #[.int .u8 a0, .int .u8 ((x4_1) % 256)] ?_; (with_reducible refine (recoupref01_Mul.calls k1 a0 ((x4_1) % 256) t127 _ A3.out).mono ?_); rintro e w' ⟨rfl, ⟨nd, rfl⟩⟩; refine ⟨_, rfl, ?_⟩))
          go_roundg k1
          case measure => have := HK1.out; omega
          case rel => exact ⟨(wrap64 (x4_1 + 1)), rsE, H', ⟨by have := HK1.out; omega⟩, by repeat (first | exact Drawn0.refl _ | apply Drawn0.step)⟩
      · rw [if_neg c2] at H
        have c2b0 : decide (x4_1 < 256) = false := decide_eq_false c2
        clear c2
        simp only [Option.some.injEq, Prod.mk.injEq] at H
        obtain ⟨rfl, rfl⟩ := H
        go_wp2
        go_ret2
        exact ⟨by first | rfl | (simp; done) | (simp [*]; done), by repeat (first | exact Drawn0.refl _ | apply Drawn0.step)⟩

/-! ### recoupref22_by: function 33 -/
def recoupref22_by.l0 : Nat → List (S61) → Int → Int → Option (Int)
  | 0, _, _, _ => none
  | k + 1, x0, x1, x5 => if x5 < (x0.length : Int) then (if 0 ≤ x5 then (if ((rd_T61 x0 x5).f0) = x1 then (some ((rd_T61 x0 x5).f1)) else (recoupref22_by.l0 k x0 x1 (wrap64 (x5 + 1)))) else (none)) else (some 0)
def recoupref22_by.f (k : Nat) (l0 : List (S61)) (a1 : Int) : Option (Int) := recoupref22_by.l0 k l0 a1 0
theorem recoupref22_by.mono_l : ∀ k, (∀ y0 y1 y2, LeO (recoupref22_by.l0 k y0 y1 y2) (recoupref22_by.l0 (k + 1) y0 y1 y2))
  | 0 => fun _ _ _ r h => by simp [recoupref22_by.l0] at h
  | k + 1 => by
    have ih0 := recoupref22_by.mono_l k
    · intro y0 y1 y2
      unfold recoupref22_by.l0
      repeat' first
      | (with_reducible exact ih0 _ _ _)
      | (with_reducible exact LeO.refl _)
      | (with_reducible exact LeO.none _)
      | (with_reducible refine LeO.ite ?_ ?_)
      | (with_reducible refine LeO.bind ?_ (fun _ => ?_))
      | exact ih0 _ _ _
      | exact LeO.none _
      | refine LeO.ite ?_ ?_
      | refine LeO.bind ?_ (fun _ => ?_)
theorem recoupref22_by.mono : ∀ a0 a1 k, LeO (recoupref22_by.f k a0 a1) (recoupref22_by.f (k + 1) a0 a1) := by
  intro a0 a1 k
  have ih0 := recoupref22_by.mono_l k
  unfold recoupref22_by.f
  repeat' first
      | (with_reducible exact ih0 _ _ _)
      | (with_reducible exact LeO.refl _)
      | (with_reducible exact LeO.none _)
      | (with_reducible refine LeO.ite ?_ ?_)
      | (with_reducible refine LeO.bind ?_ (fun _ => ?_))
      | exact ih0 _ _ _
      | exact LeO.none _
      | refine LeO.ite ?_ ?_
      | refine LeO.bind ?_ (fun _ => ?_)
set_option maxHeartbeats 8000000 in
set_option maxRecDepth 100000 in
theorem recoupref22_by.calls (k : Nat) (A0 : Option Addr) (c0 : Nat) (l0 : List (S61)) (a1 : Int) (r : Int) (w : World) (hr0 : Kd.C k61 w A0 l0.length l0) (hc0 : l0.length ≤ c0) (h : recoupref22_by.f k l0 a1 = some r) :
    Calls Try.prog 33 #[.slice A0 l0.length c0, .int .i64 a1] w fun e w' => e = .returned (.int .u8 r) ∧ Drawn0 w w' := by
  have HR0 := Aside0.mk hr0
  have HC0 := Aside0.mk hc0
  clear hr0 hc0
  have H : (recoupref22_by.l0 k l0 a1 0) = some r := h
  clear h
  have H' := Aside0.mk H
  clear H
  go_enter Try.func33, Try.ntmps33
  go_wp2
  go_loopg [5] k (fun kq v5 w' => ∃ (x5_1 : Int), v5 = .int .i64 x5_1 ∧ Aside0 (recoupref22_by.l0 kq l0 a1 x5_1 = some r) ∧ Aside0 (kq ≤ k) ∧ Drawn0 w w')
  case atStart => exact ⟨(0), rsE, H', ⟨Nat.le_refl _⟩, by repeat (first | exact Drawn0.refl _ | apply Drawn0.step)⟩
  case round =>
    clear H'
    (try clear p2)
    obtain ⟨x5_1, rfl, HA, HK1, ⟨m1, rfl⟩⟩ := hrel
    cases gk with
    | zero => exact absurd HA.out (by simp [recoupref22_by.l0])
    | succ k1 =>
      have H := HA.out
      clear HA
      simp only [recoupref22_by.l0] at H
      by_cases c3 : x5_1 < (l0.length : Int)
      · rw [if_pos c3] at H
        have c3b0 : decide (x5_1 < (l0.length : Int)) = true := decide_eq_true c3
        clear c3
        by_cases c4 : 0 ≤ x5_1
        · rw [if_pos c4] at H
          have c4b0 : decide (0 ≤ x5_1) = true := decide_eq_true c4
          clear c4
          by_cases c5 : ((rd_T61 l0 x5_1).f0) = a1
          · rw [if_pos c5] at H
            have c5b0 : (((rd_T61 l0 x5_1).f0) == a1) = true := beq_iff_eq.mpr c5
            have c5b1 : (((rd_T61 l0 x5_1).f0) != a1) = false := bne_eq_false_iff_eq.mpr c5
            clear c5
            obtain rfl := Option.some.inj H
            have p128 : 0 ≤ (x5_1 : Int) := of_decide_eq_true asE
            have q128 : x5_1 < (l0.length : Int) := of_decide_eq_true asE
            obtain ⟨ad128, e128, hx128_0, hx128_1⟩ := at_T61 HR0.out x5_1 p128 q128
            cases e128
            replace p128 := eq_true p128
            replace q128 := eq_true q128
            have p129 : 0 ≤ (x5_1 : Int) := of_decide_eq_true asE
            have q129 : x5_1 < (l0.length : Int) := of_decide_eq_true asE
            obtain ⟨ad129, e129, hx129_0, hx129_1⟩ := at_T61 HR0.out x5_1 p129 q129
            obtain rfl : ad128 = ad129 := (by injection e129)
            replace p129 := eq_true p129
            replace q129 := eq_true q129
            go_wp2
            go_ret
            exact ⟨by first | rfl | (simp; done) | (simp [*]; done), by repeat (first | exact Drawn0.refl _ | apply Drawn0.step)⟩
          · rw [if_neg c5] at H
            have c5b0 : (((rd_T61 l0 x5_1).f0) == a1) = false := beq_eq_false_iff_ne.mpr c5
            have c5b1 : (((rd_T61 l0 x5_1).f0) != a1) = true := bne_iff_ne.mpr c5
            have H' := Aside0.mk H
            clear H
            have p128 : 0 ≤ (x5_1 : Int) := of_decide_eq_true asE
            have q128 : x5_1 < (l0.length : Int) := of_decide_eq_true asE
            obtain ⟨ad128, e128, hx128_0, hx128_1⟩ := at_T61 HR0.out x5_1 p128 q128
            cases e128
            replace p128 := eq_true p128
            replace q128 := eq_true q128
            go_wp2
            go_roundg k1
            case measure => have := HK1.out; omega
            case rel => exact ⟨(wrap64 (x5_1 + 1)), rsE, H', ⟨by have := HK1.out; omega⟩, by repeat (first | exact Drawn0.refl _ | apply Drawn0.step)⟩
        · rw [if_neg c4] at H
          exact absurd H (by simp)
      · rw [if_neg c3] at H
        have c3b0 : decide (x5_1 < (l0.length : Int)) = false := decide_eq_false c3
        clear c3
        obtain rfl := Option.some.inj H
        go_wp2
        go_ret
        exact ⟨by first | rfl | (simp; done) | (simp [*]; done), by repeat (first | exact Drawn0.refl _ | apply Drawn0.step)⟩

/-! ### recoupref22_in: function 28 -/
def recoupref22_in.f (k : Nat) (l0 : List (S61)) (a1 : Int) (a2 : Int) (a3 : Int) : Option (Bool) := (recoupref22_by.f k l0 a1).bind fun t130 => ((recoupref22_by.f k l0 a2).bind fun t131 => (if t130 = 0 then (some false) else (if t131 = 0 then (some false) else ((recoupref01_Mul.f k t130 a3).bind fun t132 => (some (t132 == t131))))))
theorem recoupref22_in.mono : ∀ a0 a1 a2 a3 k, LeO (recoupref22_in.f k a0 a1 a2 a3) (recoupref22_in.f (k + 1) a0 a1 a2 a3) := by
 intro a0 a1 a2 a3 k
 unfold recoupref22_in.f
 repeat' first
   | (with_reducible exact recoupref01_Mul.mono _ _ _)
   | (with_reducible exact recoupref22_by.mono _ _ _)
   | (with_reducible exact LeO.refl _)
   | (with_reducible exact LeO.none _)
   | (with_reducible refine LeO.ite ?_ ?_)
   | (with_reducible refine LeO.bind ?_ (fun _ => ?_))
   | exact recoupref01_Mul.mono _ _ _
   | exact recoupref22_by.mono _ _ _
   | exact LeO.none _
   | refine LeO.ite ?_ ?_
   | refine LeO.bind ?_ (fun _ => ?_)
set_option maxHeartbeats 8000000 in
set_option maxRecDepth 100000 in
theorem recoupref22_in.calls (k : Nat) (A0 : Option Addr) (c0 : Nat) (l0 : List (S61)) (a1 : Int) (a2 : Int) (a3 : Int) (r : Bool) (w : World) (hr0 : Kd.C k61 w A0 l0.length l0) (hc0 : l0.length ≤ c0) (h : recoupref22_in.f k l0 a1 a2 a3 = some r) :
  Calls Try.prog 28 #[.slice A0 l0.length c0, .int .i64 a1, .int .i64 a2, .int .u8 a3] w fun e w' => e = .returned (.bool r) ∧ Drawn0 w w' := by
 have HR0 := Aside0.mk hr0
 have HC0 := Aside0.mk hc0
 clear hr0 hc0
 have H : ((recoupref22_by.f k l0 a1).bind fun t130 => ((recoupref22_by.f k l0 a2).bind fun t131 => (if t130 = 0 then (some false) else (if t131 = 0 then (some false) else ((recoupref01_Mul.f k t130 a3).bind fun t132 => (some (t132 == t131))))))) = some r := h
 clear h
 obtain ⟨t130, A5, H⟩ := bindO H
 (try dsimp only at H)
 obtain ⟨t131, A6, H⟩ := bindO H
 (try dsimp only at H)
 by_cases c7 : t130 = 0
 ·rw [if_pos c7] at H
  have c7b0 : (t130 == 0) = true := beq_iff_eq.mpr c7
  have c7b1 : (t130 != 0) = false := bne_eq_false_iff_eq.mpr c7
  clear c7
  obtain rfl := Option.some.inj H
  go_enter Try.func28, Try.ntmps28
  go_wp2_with (first | ((with_reducible refine gC 33 rfl ?_); refine cG (some 13) Try.func33 #[.slice A0 l0.length c0, .int .i64 a1] ?_; (with_reducible refine (recoupref22_by.calls k _ _ l0 a1 t130 _ ?side1 ?side2 A5.out).mono ?_); (case side1 => exact kcA HR0.out); (case side2 => exact HC0.out); rintro e w' ⟨rfl, ⟨nd, rfl⟩⟩; refine ⟨_, rfl, ?_⟩) | ((with_reducible refine gC 33 rfl ?_); refine cG (some 16) Try.func33 #[.slice A0 l0.length c0, .int .i64 a2] ?_; (with_reducible refine (recoupref22_by.calls k _ _ l0 a2 t131 _ ?side1 ?side2 A6.out).mono ?_); (case side1 => exact kcA HR0.out); (case side2 => exact HC0.out); rintro e w' ⟨rfl, ⟨nd, rfl⟩⟩; refine ⟨_, rfl, ?_⟩))
  go_ret
  exact ⟨by first | rfl | (simp; done) | (simp [*]; done), by repeat (first | exact Drawn0.refl _ | apply Drawn0.step)⟩
 ·rw [if_neg c7] at H
  have c7b0 : (t130 == 0) = false := beq_eq_false_iff_ne.mpr c7
  have c7b1 : (t130 != 0) = true := bne_iff_ne.mpr c7
  by_cases c8 : t131 = 0
  ·rw [if_pos c8] at H
   have c8b0 : (t131 == 0) = true := beq_iff_eq.mpr c8
   have c8b1 : (t131 != 0) = false := bne_eq_false_iff_eq.mpr c8
   clear c8
   obtain rfl := Option.some.inj H
   go_enter Try.func28, Try.ntmps28
   go_wp2_with (first | ((with_reducible refine gC 33 rfl ?_); refine cG (some 13) Try.func33 #[.slice A0 l0.length c0, .int .i64 a1] ?_; (with_reducible refine (recoupref22_by.calls k _ _ l0 a1 t130 _ ?side1 ?side2 A5.out).mono ?_); (case side1 => exact kcA HR0.out); (case side2 => exact HC0.out); rintro e w' ⟨rfl, ⟨nd, rfl⟩⟩; refine ⟨_, rfl, ?_⟩) | ((with_reducible refine gC 33 rfl ?_); refine cG (some 16) Try.func33 #[.slice A0 l0.length c0, .int .i64 a2] ?_; (with_reducible refine (recoupref22_by.calls k _ _ l0 a2 t131 _ ?side1 ?side2 A6.out).mono ?_); (case side1 => exact kcA HR0.out); (case side2 => exact HC0.out); rintro e w' ⟨rfl, ⟨nd, rfl⟩⟩; refine ⟨_, rfl, ?_⟩))
   go_ret
   exact ⟨by first | rfl | (simp; done) | (simp [*]; done), by repeat (first | exact Drawn0.refl _ | apply Drawn0.step)⟩
  ·rw [if_neg c8] at H
   have c8b0 : (t131 == 0) = false := beq_eq_false_iff_ne.mpr c8
   have c8b1 : (t131 != 0) = true := bne_iff_ne.mpr c8
   obtain ⟨t132, A9, H⟩ := bindO H
   (try dsimp only at H)
   obtain rfl := Option.some.inj H
   go_enter Try.func28, Try.ntmps28
   go_wp2_with (first | ((with_reducible refine gC 33 rfl ?_); refine cG (some 13) Try.func33 #[.slice A0 l0.length c0, .int .i64 a1] ?_; (with_reducible refine (recoupref22_by.calls k _ _ l0 a1 t130 _ ?side1 ?side2 A5.out).mono ?_); (case side1 => exact kcA HR0.out); (case side2 => exact HC0.out); rintro e w' ⟨rfl, ⟨nd, rfl⟩⟩; refine ⟨_, rfl, ?_⟩) | ((with_reducible refine gC 33 rfl ?_); refine cG (some 16) Try.func33 #[.slice A0 l0.length c0, .int .i64 a2] ?_; (with_reducible refine (recoupref22_by.calls k _ _ l0 a2 t131 _ ?side1 ?side2 A6.out).mono ?_); (case side1 => exact kcA HR0.out); (case side2 => exact HC0.out); rintro e w' ⟨rfl, ⟨nd, rfl⟩⟩; refine ⟨_, rfl, ?_⟩) | (go_at_call 27; (with_reducible refine (recoupref01_Mul.calls k t130 a3 t132 _ A9.out).mono ?_); rintro e w' ⟨rfl, ⟨nd, rfl⟩⟩))
   go_ret
   exact ⟨by first | rfl | (simp; done) | (simp [*]; done), by repeat (first | exact Drawn0.refl _ | apply Drawn0.step)⟩

/-! ### recoupref22_less: function 29 -/
def recoupref22_less.f (a0_0 : Int) (a0_1 : Int) (a0_2 : Int) (a0_3 : Int) (a1_0 : Int) (a1_1 : Int) (a1_2 : Int) (a1_3 : Int) : Option (Bool) := if a0_0 = a1_0 then (if a0_1 = a1_1 then (some (decide (a0_2 < a1_2))) else (some (decide (a0_1 < a1_1)))) else (some (decide (a0_0 < a1_0)))
set_option maxHeartbeats 8000000 in
set_option maxRecDepth 100000 in
theorem recoupref22_less.calls (a0_0 : Int) (a0_1 : Int) (a0_2 : Int) (a0_3 : Int) (a1_0 : Int) (a1_1 : Int) (a1_2 : Int) (a1_3 : Int) (r : Bool) (w : World) (h : recoupref22_less.f a0_0 a0_1 a0_2 a0_3 a1_0 a1_1 a1_2 a1_3 = some r) :
  Calls Try.prog 29 #[.agg #[.int .i64 a0_0, .int .i64 a0_1, .int .u8 a0_2, .int .i64 a0_3], .agg #[.int .i64 a1_0, .int .i64 a1_1, .int .u8 a1_2, .int .i64 a1_3]] w fun e w' => e = .returned (.bool r) ∧ Below w.heap.size w w' := by
 have hu31 := Try.underlying31
 have HB := Aside0.mk (Below.refl w.heap.size w)
 have H : (if a0_0 = a1_0 then (if a0_1 = a1_1 then (some (decide (a0_2 < a1_2))) else (some (decide (a0_1 < a1_1)))) else (some (decide (a0_0 < a1_0)))) = some r := h
 clear h
 by_cases c3 : a0_0 = a1_0
 ·rw [if_pos c3] at H
  have c3b0 : (a0_0 == a1_0) = true := beq_iff_eq.mpr c3
  have c3b1 : (a0_0 != a1_0) = false := bne_eq_false_iff_eq.mpr c3
  clear c3
  by_cases c4 : a0_1 = a1_1
  ·rw [if_pos c4] at H
   have c4b0 : (a0_1 == a1_1) = true := beq_iff_eq.mpr c4
   have c4b1 : (a0_1 != a1_1) = false := bne_eq_false_iff_eq.mpr c4
   clear c4
   obtain rfl := Option.some.inj H
   go_enter Try.func29, Try.ntmps29
   go_wp2_with (first | ((with_reducible refine gD 2 rfl ?_); refine bE 2 #[.int .i64 a0_0, .int .i64 a0_1, .int .u8 a0_2, .int .i64 a0_3] 31 ?_; intro gb133 hg w5 hbox hb; have BK133 := Aside0.mk (hbox); have GW133 := hbS HB hg; have GE133 := hbS HB hg; replace HB := hbB HB hb; clear hb hbox hg) | ((with_reducible refine gD 3 rfl ?_); refine bE 3 #[.int .i64 a1_0, .int .i64 a1_1, .int .u8 a1_2, .int .i64 a1_3] 31 ?_; intro gb134 hg w6 hbox hb; have BK134 := Aside0.mk (hbox); have GW134 := hbS HB hg; have GE134 := hbS HB hg; replace HB := hbB HB hb; have NB133_134 := neL BK133 hg; have NB134_133 := neG BK133 hg; replace BK133 := bkB BK133 hb; clear hb hbox hg; have hnb7 := NB133_134.out; have hnc7 := NB134_133.out; obtain ⟨hcz8_0, hcz8_1, hcz8_2, hcz8_3, hfz8_0, hfz8_1, hfz8_2, hfz8_3⟩ := cell4 BK133; obtain ⟨hcz9_0, hcz9_1, hcz9_2, hcz9_3, hfz9_0, hfz9_1, hfz9_2, hfz9_3⟩ := cell4 BK134))
   go_ret
   exact ⟨rfE, hbA HB.out⟩
  ·rw [if_neg c4] at H
   have c4b0 : (a0_1 == a1_1) = false := beq_eq_false_iff_ne.mpr c4
   have c4b1 : (a0_1 != a1_1) = true := bne_iff_ne.mpr c4
   obtain rfl := Option.some.inj H
   go_enter Try.func29, Try.ntmps29
   go_wp2_with (first | ((with_reducible refine gD 2 rfl ?_); refine bE 2 #[.int .i64 a0_0, .int .i64 a0_1, .int .u8 a0_2, .int .i64 a0_3] 31 ?_; intro gb133 hg w10 hbox hb; have BK133 := Aside0.mk (hbox); have GW133 := hbS HB hg; have GE133 := hbS HB hg; replace HB := hbB HB hb; clear hb hbox hg) | ((with_reducible refine gD 3 rfl ?_); refine bE 3 #[.int .i64 a1_0, .int .i64 a1_1, .int .u8 a1_2, .int .i64 a1_3] 31 ?_; intro gb134 hg w11 hbox hb; have BK134 := Aside0.mk (hbox); have GW134 := hbS HB hg; have GE134 := hbS HB hg; replace HB := hbB HB hb; have NB133_134 := neL BK133 hg; have NB134_133 := neG BK133 hg; replace BK133 := bkB BK133 hb; clear hb hbox hg; have hnb12 := NB133_134.out; have hnc12 := NB134_133.out; obtain ⟨hcz13_0, hcz13_1, hcz13_2, hcz13_3, hfz13_0, hfz13_1, hfz13_2, hfz13_3⟩ := cell4 BK133; obtain ⟨hcz14_0, hcz14_1, hcz14_2, hcz14_3, hfz14_0, hfz14_1, hfz14_2, hfz14_3⟩ := cell4 BK134))
   go_ret
   exact ⟨rfE, hbA HB.out⟩
 ·rw [if_neg c3] at H
  have c3b0 : (a0_0 == a1_0) = false := beq_eq_false_iff_ne.mpr c3
  have c3b1 : (a0_0 != a1_0) = true := bne_iff_ne.mpr c3
  obtain rfl := Option.some.inj H
  go_enter Try.func29, Try.ntmps29
  go_wp2_with (first | ((with_reducible refine gD 2 rfl ?_); refine bE 2 #[.int .i64 a0_0, .int .i64 a0_1, .int .u8 a0_2, .int .i64 a0_3] 31 ?_; intro gb133 hg w15 hbox hb; have BK133 := Aside0.mk (hbox); have GW133 := hbS HB hg; have GE133 := hbS HB hg; replace HB := hbB HB hb; clear hb hbox hg) | ((with_reducible refine gD 3 rfl ?_); refine bE 3 #[.int .i64 a1_0, .int .i64 a1_1, .int .u8 a1_2, .int .i64 a1_3] 31 ?_; intro gb134 hg w16 hbox hb; have BK134 := Aside0.mk (hbox); have GW134 := hbS HB hg; have GE134 := hbS HB hg; replace HB := hbB HB hb; have NB133_134 := neL BK133 hg; have NB134_133 := neG BK133 hg; replace BK133 := bkB BK133 hb; clear hb hbox hg; have hnb17 := NB133_134.out; have hnc17 := NB134_133.out; obtain ⟨hcz18_0, hcz18_1, hcz18_2, hcz18_3, hfz18_0, hfz18_1, hfz18_2, hfz18_3⟩ := cell4 BK133; obtain ⟨hcz19_0, hcz19_1, hcz19_2, hcz19_3, hfz19_0, hfz19_1, hfz19_2, hfz19_3⟩ := cell4 BK134))
  go_ret
  exact ⟨rfE, hbA HB.out⟩

end Go.Proofs.Ytnfemjnajfdepaa.Q
