/- Written by drive.py (a program of this repo, over the kit's print): each Go function named here answers what the Lean function beside it answers, wherever that one answers, in every world that meets the stated premises. -/
import Derived.Test.YtjgcocfnilhggaaDoorQx0
import Derived.Test.YtjgcocfnilhggaaDoorQx178
namespace Go.Proofs.YtjgcocfnilhggaaDoor.Q
open Go.RowKit Go.Proofs.YtjgcocfnilhggaaDoorW.PrintWords Go.Proofs.YtjgcocfnilhggaaDoorW.PrintLast Go.Proofs.YtjgcocfnilhggaaDoorW.PrintMore
attribute [local go_sem] max2_int min2_int max_two min_two max_three min_three max_four min_four   -- for this text's walks alone
set_option linter.unusedVariables false
set_option linter.unusedSimpArgs false

/-! ### recoupref01_Inv: function 113 -/
def recoupref01_Inv.l0 : Nat → Int → Int → Option (Int × Int)
  | 0, _, _ => none
  | k + 1, x0, x4 => if x4 < 256 then ((recoupref01_Mul.f k x0 ((x4) % 256)).bind fun t243 => (if t243 = 1 then (some ((x4) % 256, 0)) else (recoupref01_Inv.l0 k x0 (wrap64 (x4 + 1))))) else (some (0, 5))
def recoupref01_Inv.f (k : Nat) (a0 : Int) : Option (Int × Int) := recoupref01_Inv.l0 k a0 1
theorem recoupref01_Inv.mono_l : ∀ k, (∀ y0 y1, LeO (recoupref01_Inv.l0 k y0 y1) (recoupref01_Inv.l0 (k + 1) y0 y1))
  | 0 => fun _ _ r h => by simp [recoupref01_Inv.l0] at h
  | k + 1 => by
    have ih0 := recoupref01_Inv.mono_l k
    · intro y0 y1
      unfold recoupref01_Inv.l0
      repeat' first
      | (with_reducible exact ih0 _ _)
      | (with_reducible exact recoupref01_Mul.mono _ _ _)
      | (with_reducible exact LeO.refl _)
      | (with_reducible exact LeO.none _)
      | (with_reducible refine LeO.ite ?_ ?_)
      | (with_reducible refine LeO.bind ?_ (fun _ => ?_))
      | exact ih0 _ _
      | exact recoupref01_Mul.mono _ _ _
      | exact LeO.none _
      | refine LeO.ite ?_ ?_
      | refine LeO.bind ?_ (fun _ => ?_)
theorem recoupref01_Inv.mono : ∀ a0 k, LeO (recoupref01_Inv.f k a0) (recoupref01_Inv.f (k + 1) a0) := by
  intro a0 k
  have ih0 := recoupref01_Inv.mono_l k
  unfold recoupref01_Inv.f
  repeat' first
      | (with_reducible exact ih0 _ _)
      | (with_reducible exact recoupref01_Mul.mono _ _ _)
      | (with_reducible exact LeO.refl _)
      | (with_reducible exact LeO.none _)
      | (with_reducible refine LeO.ite ?_ ?_)
      | (with_reducible refine LeO.bind ?_ (fun _ => ?_))
      | exact ih0 _ _
      | exact recoupref01_Mul.mono _ _ _
      | exact LeO.none _
      | refine LeO.ite ?_ ?_
      | refine LeO.bind ?_ (fun _ => ?_)
set_option maxHeartbeats 8000000 in
set_option maxRecDepth 100000 in
theorem recoupref01_Inv.calls (k : Nat) (a0 : Int) (r1 : Int) (r2 : Int) (w : World) (h : recoupref01_Inv.f k a0 = some (r1, r2)) :
    Calls Tryd.prog 113 #[.int .u8 a0] w fun e w' => e = .returned (.tuple #[.int .u8 r1, .int .i64 r2]) ∧ Drawn0 w w' := by
  have H : (recoupref01_Inv.l0 k a0 1) = some (r1, r2) := h
  clear h
  have H' := Aside0.mk H
  clear H
  go_enter Tryd.func113, Tryd.ntmps113
  go_wp2
  go_loopg [4] k (fun kq v4 w' => ∃ (x4_1 : Int), v4 = .int .i64 x4_1 ∧ Aside0 (recoupref01_Inv.l0 kq a0 x4_1 = some (r1, r2)) ∧ Aside0 (kq ≤ k) ∧ Drawn0 w w')
  case atStart => exact ⟨(1), rsE, H', ⟨Nat.le_refl _⟩, by repeat (first | exact Drawn0.refl _ | apply Drawn0.step)⟩
  case round =>
    clear H'
    (try clear c1)
    obtain ⟨x4_1, rfl, HA, HK1, ⟨m1, rfl⟩⟩ := hrel
    cases gk with
    | zero => exact absurd HA.out (by simp [recoupref01_Inv.l0])
    | succ k1 =>
      have H := HA.out
      clear HA
      simp only [recoupref01_Inv.l0] at H
      by_cases c2 : x4_1 < 256
      · rw [if_pos c2] at H
        have c2b0 : decide (x4_1 < 256) = true := decide_eq_true c2
        clear c2
        obtain ⟨t243, A3, H⟩ := bindO H
        (try dsimp only at H)
        by_cases c4 : t243 = 1
        · rw [if_pos c4] at H
          have c4b0 : (t243 == 1) = true := beq_iff_eq.mpr c4
          have c4b1 : (t243 != 1) = false := bne_eq_false_iff_eq.mpr c4
          clear c4
          simp only [Option.some.injEq, Prod.mk.injEq] at H
          obtain ⟨rfl, rfl⟩ := H
          go_wp2_with (first | ((with_reducible refine gC 78 rfl ?_); refine cG (some 12) Tryd.func78 #[.int .u8 a0, .int .u8 ((x4_1) % 256)] ?_; (with_reducible refine (recoupref01_Mul.calls k1 a0 ((x4_1) % 256) t243 _ A3.out).mono ?_); rintro e w' ⟨rfl, ⟨nd, rfl⟩⟩; refine ⟨_, rfl, ?_⟩))
          go_ret2
          exact ⟨by first | rfl | (simp; done) | (simp [*]; done), by repeat (first | exact Drawn0.refl _ | apply Drawn0.step)⟩
        · rw [if_neg c4] at H
          have c4b0 : (t243 == 1) = false := beq_eq_false_iff_ne.mpr c4
          have c4b1 : (t243 != 1) = true := bne_iff_ne.mpr c4
          have H' := Aside0.mk H
          clear H
          go_wp2_with (first | ((with_reducible refine gC 78 rfl ?_); refine cG (some 12) Tryd.func78 #[.int .u8 a0, .int .u8 ((x4_1) % 256)] ?_; (with_reducible refine (recoupref01_Mul.calls k1 a0 ((x4_1) % 256) t243 _ A3.out).mono ?_); rintro e w' ⟨rfl, ⟨nd, rfl⟩⟩; refine ⟨_, rfl, ?_⟩))
          go_roundg k1
          case measure => have := HK1.out; omega
          case rel => exact ⟨(wrap64 (x4_1 + 1)), rsE, H', ⟨by have := HK1.out; omega⟩, by repeat (first | exact Drawn0.refl _ | apply Drawn0.step)⟩
      · rw [if_neg c2] at H
        have c2b0 : decide (x4_1 < 256) = false := decide_eq_false c2
        clear c2
        simp only [Option.some.injEq, Prod.mk.injEq] at H
        obtain ⟨rfl, rfl⟩ := H
        go_wp2
        go_ret2
        exact ⟨by first | rfl | (simp; done) | (simp [*]; done), by repeat (first | exact Drawn0.refl _ | apply Drawn0.step)⟩

/-! ### recoupref01_Scale: function 114 -/
def recoupref01_Scale.l0 : Nat → Int → List Int → List Int → Int → Option (List Int)
  | 0, _, _, _, _ => none
  | k + 1, x0, x1, x5, x6 => if x6 < (x1.length : Int) then (if 0 ≤ x6 then ((recoupref01_Mul.f k x0 (rd x1 x6)).bind fun t245 => (if x5.length < 140737488355328 then (recoupref01_Scale.l0 k x0 x1 (x5 ++ [t245]) (wrap64 (x6 + 1))) else (none))) else (none)) else (some x5)
def recoupref01_Scale.f (k : Nat) (a0 : Int) (l1 : List Int) : Option (List Int) := recoupref01_Scale.l0 k a0 l1 ([] : List Int) 0
theorem recoupref01_Scale.mono_l : ∀ k, (∀ y0 y1 y2 y3, LeO (recoupref01_Scale.l0 k y0 y1 y2 y3) (recoupref01_Scale.l0 (k + 1) y0 y1 y2 y3))
  | 0 => fun _ _ _ _ r h => by simp [recoupref01_Scale.l0] at h
  | k + 1 => by
    have ih0 := recoupref01_Scale.mono_l k
    · intro y0 y1 y2 y3
      unfold recoupref01_Scale.l0
      repeat' first
      | (with_reducible exact ih0 _ _ _ _)
      | (with_reducible exact recoupref01_Mul.mono _ _ _)
      | (with_reducible exact LeO.refl _)
      | (with_reducible exact LeO.none _)
      | (with_reducible refine LeO.ite ?_ ?_)
      | (with_reducible refine LeO.bind ?_ (fun _ => ?_))
      | exact ih0 _ _ _ _
      | exact recoupref01_Mul.mono _ _ _
      | exact LeO.none _
      | refine LeO.ite ?_ ?_
      | refine LeO.bind ?_ (fun _ => ?_)
theorem recoupref01_Scale.mono : ∀ a0 a1 k, LeO (recoupref01_Scale.f k a0 a1) (recoupref01_Scale.f (k + 1) a0 a1) := by
  intro a0 a1 k
  have ih0 := recoupref01_Scale.mono_l k
  unfold recoupref01_Scale.f
  repeat' first
      | (with_reducible exact ih0 _ _ _ _)
      | (with_reducible exact recoupref01_Mul.mono _ _ _)
      | (with_reducible exact LeO.refl _)
      | (with_reducible exact LeO.none _)
      | (with_reducible refine LeO.ite ?_ ?_)
      | (with_reducible refine LeO.bind ?_ (fun _ => ?_))
      | exact ih0 _ _ _ _
      | exact recoupref01_Mul.mono _ _ _
      | exact LeO.none _
      | refine LeO.ite ?_ ?_
      | refine LeO.bind ?_ (fun _ => ?_)
set_option maxHeartbeats 8000000 in
set_option maxRecDepth 100000 in
theorem recoupref01_Scale.calls (k : Nat) (a0 : Int) (A1 : Option Addr) (c1 : Nat) (l1 : List Int) (r : List Int) (w : World) (hr1 : Kd.C (Kd.int .u8) w A1 l1.length l1) (hc1 : l1.length ≤ c1) (h : recoupref01_Scale.f k a0 l1 = some r) :
    Calls Tryd.prog 114 #[.int .u8 a0, .slice A1 l1.length c1] w fun e w' => ∃ v0_ : Value, e = .returned (v0_) ∧ Kd.R (Kd.int .u8) 5 w' w.heap.size (fun _ => True) v0_ r ∧ Below w.heap.size w w' := by
  have HR1 := Aside0.mk hr1
  have HC1 := Aside0.mk hc1
  clear hr1 hc1
  have HB := Aside0.mk (Below.refl w.heap.size w)
  have H : (recoupref01_Scale.l0 k a0 l1 ([] : List Int) 0) = some r := h
  clear h
  have H' := Aside0.mk H
  clear H
  go_enter Tryd.func114, Tryd.ntmps114
  go_wp2
  go_loopg [5, 6] k (fun kq v5 v6 w' => ∃ (x5_1 : List Int) (x6_1 : Int), v6 = .int .i64 x6_1 ∧ Aside0 (recoupref01_Scale.l0 kq a0 l1 x5_1 x6_1 = some r) ∧ Aside0 (kq ≤ k) ∧ Aside0 (Kd.R (Kd.int .u8) 5 w' w.heap.size (fun _ => True) v5 x5_1) ∧ Aside0 (Below w.heap.size w w'))
  case atStart => exact ⟨(([] : List Int)), (0), rsE, H', ⟨Nat.le_refl _⟩, ⟨nilE⟩, ⟨hbA HB.out⟩⟩
  case round =>
    clear H'
    (try clear c1); (try clear p2)
    obtain ⟨x5_1, x6_1, rfl, HA, HK1, HO_5, HB⟩ := hrel
    cases gk with
    | zero => exact absurd HA.out (by simp [recoupref01_Scale.l0])
    | succ k1 =>
      have H := HA.out
      clear HA
      simp only [recoupref01_Scale.l0] at H
      by_cases c3 : x6_1 < (l1.length : Int)
      · rw [if_pos c3] at H
        have c3b0 : decide (x6_1 < (l1.length : Int)) = true := decide_eq_true c3
        clear c3
        by_cases c4 : 0 ≤ x6_1
        · rw [if_pos c4] at H
          have c4b0 : decide (0 ≤ x6_1) = true := decide_eq_true c4
          clear c4
          obtain ⟨t245, A5, H⟩ := bindO H
          (try dsimp only at H)
          by_cases c6 : x5_1.length < 140737488355328
          · rw [if_pos c6] at H
            have LMc6 := Aside0.mk c6
            clear c6
            obtain ⟨y246, hy246⟩ : ∃ y_ : List Int, y_ = (x5_1 ++ [t245]) := ⟨_, rfl⟩
            replace H : (recoupref01_Scale.l0 k1 a0 l1 y246 (wrap64 (x6_1 + 1))) = some r := by first | (rw [hy246]; with_reducible exact H) | (have H2_ := (Option.bind_some _ _).symm.trans H; rw [hy246]; with_reducible exact H2_) | (have H2_ := (Option.bind_some _ _).symm.trans H; with_reducible exact H2_) | with_reducible exact H | (rw [hy246]; exact H) | exact H
            have Ny246 := Aside0.mk hy246
            clear hy246
            have H' := Aside0.mk H
            clear H
            have p244 : 0 ≤ (x6_1 : Int) := of_decide_eq_true asE
            have q244 : x6_1 < (l1.length : Int) := of_decide_eq_true asE
            obtain ⟨ad244, e244, hx244_0⟩ := Kd.at_int HR1.out x6_1 p244 q244
            cases e244
            replace hx244_0 := (HB.out.cell (World.block_lt_of_cell? w _ hx244_0)).trans hx244_0
            replace p244 := eq_true p244
            replace q244 := eq_true q244
            go_wp2_with (first | ((with_reducible refine gC 78 rfl ?_); refine cG (some 19) Tryd.func78 #[.int .u8 a0, .int .u8 (rd l1 x6_1)] ?_; (with_reducible refine (recoupref01_Mul.calls k1 a0 (rd l1 x6_1) t245 _ A5.out).mono ?_); rintro e w' ⟨rfl, ⟨nd, rfl⟩⟩; refine ⟨_, rfl, ?_⟩) | ((with_reducible refine gate_builtin (b := .append) (xs := #[.tmp 13, .tmp 20]) rfl ?_); at_builtin; refine Kd.R_append (Kd.int .u8) (w0 := w) w.heap.size rfl (.tmp 13) (.tmp 20) 22 5 (.int .u8 0) 1 rfl Tryd.underlying22 info5 rfl (by decide) (by omega) u5 x5_1 t245 [.int .u8 t245] (fun _ => True) (fun _ => False) rfl rfl ?aP (fun _ hk => hk.elim) ?aF ?aO ?aB ?aS ?aL ?_; (case aP => exact rfl); (case aB => exact (hbA HB.out)); (case aF => exact (fun _ _ => trivial)); (case aO => exact (kdA HO_5.out)); (case aS => exact (below_size (hbA HB.out))); (case aL => have := LMc6.out; omega); intro v247 w7 ho hb hg hat; rw [← Ny246.out] at ho; have n0_ := Aside0.mk (hb); have n1_ := Aside0.mk (ho); clear HB; clear HO_5; have HB := n0_; have HO248 := n1_; clear n0_ n1_; clear ho hb hg hat))
            go_roundg k1
            case measure => have := HK1.out; omega
            case rel => exact ⟨(y246), (wrap64 (x6_1 + 1)), rsE, H', ⟨by have := HK1.out; omega⟩, ⟨kdA HO248.out⟩, ⟨hbA HB.out⟩⟩
          · rw [if_neg c6] at H
            exact absurd H (by simp)
        · rw [if_neg c4] at H
          exact absurd H (by simp)
      · rw [if_neg c3] at H
        have c3b0 : decide (x6_1 < (l1.length : Int)) = false := decide_eq_false c3
        clear c3
        obtain rfl := Option.some.inj H
        go_wp2
        go_ret
        exact ⟨_, rfE, by (with_reducible repeat (first | apply Kd.R_alloc | apply Kd.R_drewN | apply Kd.R_drew)); exact HO_5.out, hbA HB.out⟩

end Go.Proofs.YtjgcocfnilhggaaDoor.Q
