/- Written by drive.py (a program of this repo, over the kit's print): each Go function named here answers what the Lean function beside it answers, wherever that one answers, in every world that meets the stated premises. -/
import Derived.Test.YtjgcocfnilhggaaDoorQx0
import Derived.Test.YtjgcocfnilhggaaDoorQx117
import Derived.Test.YtjgcocfnilhggaaDoorQx118
import Derived.Test.YtjgcocfnilhggaaDoorQx147
namespace Go.Proofs.YtjgcocfnilhggaaDoor.Q
open Go.RowKit Go.Proofs.YtjgcocfnilhggaaDoorW.PrintWords Go.Proofs.YtjgcocfnilhggaaDoorW.PrintLast Go.Proofs.YtjgcocfnilhggaaDoorW.PrintMore
attribute [local go_sem] max2_int min2_int max_two min_two max_three min_three max_four min_four   -- for this text's walks alone
set_option linter.unusedVariables false
set_option linter.unusedSimpArgs false

/-! ### recoupref07_Needed: function 57 -/
mutual
def recoupref07_Needed.l0 : Nat → Int → Int → Int → Int → Int → Int → Int → List Int → Option (Int × Int)
  | 0, _, _, _, _, _, _, _, _ => none
  | k + 1, x1, x6, x7, x8, x9, x225000, x225001, x225002 => if x9 < x225000 then (recoupref07_Needed.j1 k x1 x6 x7 x8 x9 (x7 == 0) x225000 x225001 x225002) else (recoupref07_Needed.j1 k x1 x6 x7 x8 x9 false x225000 x225001 x225002)
def recoupref07_Needed.j1 : Nat → Int → Int → Int → Int → Int → Bool → Int → Int → List Int → Option (Int × Int)
  | 0, _, _, _, _, _, _, _, _, _ => none
  | k + 1, x1, x6, x7, x8, x9, x23, x225000, x225001, x225002 => if x23 = true then ((recoupref06_Has.f x1 x9).bind fun t227 => (if t227 = true then ((recoupref07_one.f x9).bind fun t228 => ((recoupref07_rank.f k x225000 x225001 x225002 (Go.bits .andNot .u64 x1 t228)).bind fun t229 => (if t229 < x6 then ((recoupref07_one.f x9).bind fun t230 => (recoupref07_Needed.l0 k x1 x6 x7 (Go.bits .or .u64 x8 t230) (wrap64 (x9 + 1)) x225000 x225001 x225002)) else (recoupref07_Needed.l0 k x1 x6 x7 x8 (wrap64 (x9 + 1)) x225000 x225001 x225002)))) else (recoupref07_Needed.l0 k x1 x6 x7 x8 (wrap64 (x9 + 1)) x225000 x225001 x225002))) else (some (x8, x7))
end
def recoupref07_Needed.f (k : Nat) (a0_0 : Int) (a0_1 : Int) (l0_2 : List Int) (a1 : Int) : Option (Int × Int) := (recoupref07_Rank.f k a0_0 a0_1 l0_2 a1).bind fun bt225 => (recoupref07_Needed.l0 k a1 bt225.1 bt225.2 0 0 a0_0 a0_1 l0_2)
theorem recoupref07_Needed.mono_l : ∀ k, (∀ y0 y1 y2 y3 y4 y5 y6 y7, LeO (recoupref07_Needed.l0 k y0 y1 y2 y3 y4 y5 y6 y7) (recoupref07_Needed.l0 (k + 1) y0 y1 y2 y3 y4 y5 y6 y7)) ∧ (∀ y0 y1 y2 y3 y4 y5 y6 y7 y8, LeO (recoupref07_Needed.j1 k y0 y1 y2 y3 y4 y5 y6 y7 y8) (recoupref07_Needed.j1 (k + 1) y0 y1 y2 y3 y4 y5 y6 y7 y8))
  | 0 => ⟨fun _ _ _ _ _ _ _ _ r h => by simp [recoupref07_Needed.l0] at h, fun _ _ _ _ _ _ _ _ _ r h => by simp [recoupref07_Needed.j1] at h⟩
  | k + 1 => by
    obtain ⟨ih0, ih1⟩ := recoupref07_Needed.mono_l k
    refine ⟨?_, ?_⟩
    all_goals (intros; first | unfold recoupref07_Needed.l0 | unfold recoupref07_Needed.j1)
    all_goals repeat' first | (with_reducible exact ih0 _ _ _ _ _ _ _ _) | (with_reducible exact ih1 _ _ _ _ _ _ _ _ _) | (with_reducible exact recoupref07_Rank.mono _ _ _ _ _) | (with_reducible exact recoupref07_rank.mono _ _ _ _ _) | (with_reducible exact LeO.refl _) | (with_reducible exact LeO.none _) | (with_reducible refine LeO.ite ?_ ?_) | (with_reducible refine LeO.bind ?_ (fun _ => ?_)) | exact ih0 _ _ _ _ _ _ _ _ | exact ih1 _ _ _ _ _ _ _ _ _ | exact recoupref07_Rank.mono _ _ _ _ _ | exact recoupref07_rank.mono _ _ _ _ _ | exact LeO.none _ | refine LeO.ite ?_ ?_ | refine LeO.bind ?_ (fun _ => ?_)
theorem recoupref07_Needed.mono : ∀ a0 a1 a2 a3 k, LeO (recoupref07_Needed.f k a0 a1 a2 a3) (recoupref07_Needed.f (k + 1) a0 a1 a2 a3) := by
  intro a0 a1 a2 a3 k
  obtain ⟨ih0, ih1⟩ := recoupref07_Needed.mono_l k
  unfold recoupref07_Needed.f
  repeat' first
      | (with_reducible exact ih0 _ _ _ _ _ _ _ _)
      | (with_reducible exact ih1 _ _ _ _ _ _ _ _ _)
      | (with_reducible exact recoupref07_Rank.mono _ _ _ _ _)
      | (with_reducible exact recoupref07_rank.mono _ _ _ _ _)
      | (with_reducible exact LeO.refl _)
      | (with_reducible exact LeO.none _)
      | (with_reducible refine LeO.ite ?_ ?_)
      | (with_reducible refine LeO.bind ?_ (fun _ => ?_))
      | exact ih0 _ _ _ _ _ _ _ _
      | exact ih1 _ _ _ _ _ _ _ _ _
      | exact recoupref07_Rank.mono _ _ _ _ _
      | exact recoupref07_rank.mono _ _ _ _ _
      | exact LeO.none _
      | refine LeO.ite ?_ ?_
      | refine LeO.bind ?_ (fun _ => ?_)
def recoupref07_Needed.T6 : Bool × List (List Nat × List Nat) := (true, [([], []), ([], []), ([0, 1], [0, 1]), ([2, 2], [2]), ([3], [3]), ([3], [3]), ([3], [3]), ([6, 3, 3], [3, 6]), ([5, 7, 3], [3, 5, 7]), ([4, 8, 7, 3], [3, 4, 8]), ([3], [3]), ([9, 10, 3], [3, 9, 10]), ([3, 11], [3, 11])])
def recoupref07_Needed.B6 : List Nat := [0, 0, 3, 7, 15, 15, 15, 79, 239, 511, 15, 2047, 4095]
theorem recoupref07_Needed.tab6 : rtab .any (opsOf Tryd.f57 6) = recoupref07_Needed.T6 := by kernel_rfl
theorem recoupref07_Needed.bits6 : waitsOk recoupref07_Needed.T6.2 recoupref07_Needed.B6 = true := by kernel_rfl
set_option maxHeartbeats 8000000 in
set_option maxRecDepth 100000 in
theorem recoupref07_Needed.calls (k : Nat) (a0_0 : Int) (a0_1 : Int) (A0_2 : Option Addr) (c0_2 : Nat) (l0_2 : List Int) (a1 : Int) (r1 : Int) (r2 : Int) (w : World) (hr0_2 : Kd.C (Kd.int .u8) w A0_2 l0_2.length l0_2) (hc0_2 : l0_2.length ≤ c0_2) (h : recoupref07_Needed.f k a0_0 a0_1 l0_2 a1 = some (r1, r2)) :
    Calls Tryd.prog 57 #[.agg #[.int .i64 a0_0, .int .i64 a0_1, .slice A0_2 l0_2.length c0_2], .int .u64 a1] w fun e w' => e = .returned (.tuple #[.int .u64 r1, .int .i64 r2]) ∧ Below w.heap.size w w' := by
  have hu24 := Tryd.underlying24
  have HR0_2 := Aside0.mk hr0_2
  have HC0_2 := Aside0.mk hc0_2
  clear hr0_2 hc0_2
  have HB := Aside0.mk (Below.refl w.heap.size w)
  have H : ((recoupref07_Rank.f k a0_0 a0_1 l0_2 a1).bind fun bt225 => (recoupref07_Needed.l0 k a1 bt225.1 bt225.2 0 0 a0_0 a0_1 l0_2)) = some (r1, r2) := h
  clear h
  obtain ⟨⟨t225, t226⟩, A3, H⟩ := bindO H
  (try dsimp only at H)
  have H' := Aside0.mk H
  clear H
  go_enter Tryd.func57, Tryd.ntmps57
  go_wp2_with (first | ((with_reducible refine gD 2 rfl ?_); refine bE 2 #[.int .i64 a0_0, .int .i64 a0_1, .slice A0_2 l0_2.length c0_2] 24 ?_; intro gb224 hg w4 hbox hb; have BK224 := Aside0.mk (hbox); have GW224 := hbS HB hg; have GE224 := hbS HB hg; replace HB := hbB HB hb; clear hb hbox hg; obtain ⟨hcz5_0, hcz5_1, hcz5_2, hfz5_0, hfz5_1, hfz5_2⟩ := cell3 BK224) | ((with_reducible refine gC 46 rfl ?_); refine cG (some 13) Tryd.func46 #[.agg #[.int .i64 a0_0, .int .i64 a0_1, .slice A0_2 l0_2.length c0_2], .int .u64 a1] ?_; (with_reducible refine (recoupref07_Rank.calls k a0_0 a0_1 _ _ l0_2 a1 t225 t226 _ ?side1 ?side2 A3.out).mono ?_); (case side1 => exact kcB HR0_2 HB); (case side2 => exact HC0_2.out); rintro e w6 ⟨rfl, hb⟩; refine ⟨_, rfl, ?_⟩; replace BK224 := bkB BK224 hb; replace HB := hbB HB hb; (try clear hb); (try clear hb2); (try clear hk); (try clear hi)))
  go_loopg [8, 9] k (fun kq v8 v9 w' => ∃ (x8_1 : Int) (x9_1 : Int), v8 = .int .u64 x8_1 ∧ v9 = .int .i64 x9_1 ∧ Aside0 (recoupref07_Needed.l0 kq a1 t225 t226 x8_1 x9_1 a0_0 a0_1 l0_2 = some (r1, r2)) ∧ Aside0 (kq ≤ k) ∧ Aside0 (w'.heap[gb224]? = some (.cells #[.int .i64 a0_0, .int .i64 a0_1, (.slice A0_2 l0_2.length c0_2)] 24 (0, 0))) ∧ Aside0 (Below w.heap.size w w'))
  case atStart => exact ⟨(0), (0), rsE, rsE, H', ⟨Nat.le_refl _⟩, ⟨bkA BK224.out⟩, ⟨hbA HB.out⟩⟩
  case round =>
    clear H'
    (try clear p2); (try clear c4); (try clear c5); (try clear hcz5_0 hcz5_1 hcz5_2 hfz5_0 hfz5_1 hfz5_2)
    obtain ⟨x8_1, x9_1, rfl, rfl, HA, HK1, BK224, HB⟩ := hrel
    cases gk with
    | zero => exact absurd HA.out (by simp [recoupref07_Needed.l0])
    | succ k1 =>
      have H := HA.out
      clear HA
      simp only [recoupref07_Needed.l0] at H
      have HC7 := Aside0.mk H
      clear H
      go_upto_region 4 with (fail)
      go_cut [23] (fun v23 wc => ∃ (kq : Nat) (x23_6 : Bool), v23 = .bool x23_6 ∧ Aside0 (recoupref07_Needed.j1 kq a1 t225 t226 x8_1 x9_1 x23_6 a0_0 a0_1 l0_2 = some (r1, r2)) ∧ Aside0 (kq ≤ k1) ∧ Aside0 (wc.heap[gb224]? = some (.cells #[.int .i64 a0_0, .int .i64 a0_1, (.slice A0_2 l0_2.length c0_2)] 24 (0, 0))) ∧ Aside0 (Below w.heap.size w wc))
      case first =>
        have H := HC7.out
        clear HC7
        by_cases c8 : x9_1 < a0_0
        · rw [if_pos c8] at H
          have c8b0 : decide (x9_1 < a0_0) = true := decide_eq_true c8
          clear c8
          (first | rw [c8b0] | (simp only [i64_w, i32_w]; rw [c8b0]) | skip)
          have H' := Aside0.mk H
          clear H
          obtain ⟨hcz9_0, hcz9_1, hcz9_2, hfz9_0, hfz9_1, hfz9_2⟩ := cell3 BK224
          go_wp2
          go_meet
          case rel => exact ⟨_, ((t226 == 0)), rsE, H', ⟨by have := HK1.out; first | omega | exact Nat.le_refl _⟩, ⟨bkA BK224.out⟩, ⟨hbA HB.out⟩⟩
        · rw [if_neg c8] at H
          have c8b0 : decide (x9_1 < a0_0) = false := decide_eq_false c8
          clear c8
          (first | rw [c8b0] | (simp only [i64_w, i32_w]; rw [c8b0]) | skip)
          have H' := Aside0.mk H
          clear H
          obtain ⟨hcz10_0, hcz10_1, hcz10_2, hfz10_0, hfz10_1, hfz10_2⟩ := cell3 BK224
          go_wp2
          go_meet
          case rel => exact ⟨_, (false), rsE, H', ⟨by have := HK1.out; first | omega | exact Nat.le_refl _⟩, ⟨bkA BK224.out⟩, ⟨hbA HB.out⟩⟩
      case rest =>
        clear HC7
        (try clear p2 p2); (try clear c4); (try clear c5); (try clear c8); (try clear c8b0); (try clear hcz10_0 hcz10_1 hcz10_2 hfz10_0 hfz10_1 hfz10_2); (try clear hcz5_0 hcz5_1 hcz5_2 hfz5_0 hfz5_1 hfz5_2); (try clear hcz9_0 hcz9_1 hcz9_2 hfz9_0 hfz9_1 hfz9_2)
        obtain ⟨kq, x23_6, rfl, HA, HJ6, BK224, HB⟩ := hcut
        cases kq with
        | zero => exact absurd HA.out (by simp [recoupref07_Needed.j1])
        | succ kj6 =>
          have H := HA.out
          clear HA
          simp only [recoupref07_Needed.j1] at H
          by_cases c11 : x23_6 = true
          · subst c11
            rw [if_pos rfl] at H
            obtain ⟨t227, A12, H⟩ := bindO H
            (try dsimp only at H)
            by_cases c13 : t227 = true
            · subst c13
              rw [if_pos rfl] at H
              obtain ⟨t228, A14, H⟩ := bindO H
              (try dsimp only at H)
              obtain ⟨t229, A15, H⟩ := bindO H
              (try dsimp only at H)
              by_cases c16 : t229 < t225
              · rw [if_pos c16] at H
                have c16b0 : decide (t229 < t225) = true := decide_eq_true c16
                clear c16
                obtain ⟨t230, A17, H⟩ := bindO H
                (try dsimp only at H)
                have H' := Aside0.mk H
                clear H
                try go_wp2
                replace BK224 := Aside0.mk (blk_drew BK224.out)
                replace HB := Aside0.mk (below_drew1 HB.out)
                refine start_ (n := 13) (S := fun w' => w'.cell? ⟨gb224, 0, none⟩ = some (.int .i64 a0_0) ∧ w'.cell? ⟨gb224, 1, none⟩ = some (.int .i64 a0_1) ∧ w'.cell? ⟨gb224, 2, none⟩ = some (.slice A0_2 l0_2.length c0_2)) (ds := []) (.replicate 13 false) (by kernel_rfl) rfl rfl ⟨(blk_cell BK224.out 0).trans rfl, (blk_cell BK224.out 1).trans rfl, (blk_cell BK224.out 2).trans rfl⟩ (fun hHeld => ?_); refine with_tabW recoupref07_Needed.tab6 recoupref07_Needed.bits6 (fun HT_ HW_ => ?_)
                generalize wc.drew = w18 at BK224 HB hHeld ⊢
                refine pu 0 (some 26) (mB 13 1) HT_ ?_
                refine pu 1 (some 27) (mB 13 3) HT_ ?_
                refine one_ (i := 2) (N := some 28) (mB 13 7) rfl rfl (one_of HT_.out (by kernel_rfl)) (by decide) (fun K hK => ?_)
                refine goes_ Tryd.func18 (by kernel_rfl) rfl #[.int .u64 a1, .int .i64 x9_1] (by rfl) rfl rfl (by (try simp only [List.map_toArray, List.map_cons, List.map_nil]); first | done | rfl | (simp only [List.length_drop, List.length_take]; rfl)) ?_
                with_reducible refine (recoupref06_Has.calls a1 x9_1 true _ A12.out).mono ?_
                rintro e w' ⟨rfl, ⟨nd, rfl⟩⟩
                refine ⟨_, rfl, ?_⟩
                refine hK.out _ _ ⟨(blk_cell BK224.out 0).trans rfl, (blk_cell BK224.out 1).trans rfl, (blk_cell BK224.out 2).trans rfl⟩ (fun hHeld => ?_)
                clear hK K
                refine norm_ (a' := ?_) ?_ ?_
                rotate_left
                · show Act.put _ (some 28) _ = _
                  simp only [Act.put, List.setIfInBounds_toArray, List.set_cons_zero, List.set_cons_succ, i64_w, i32_w]
                  rfl
                refine pu 3 (some 29) (mB 13 15) HT_ ?_
                refine pu 5 (some 31) (mB 13 47) HT_ ?_
                refine pu 6 (some 32) (mB 13 111) HT_ ?_
                refine pu 10 (some 36) (mB 13 1135) HT_ ?_
                refine tk3 4 (some 30) (mB 13 1151) HT_ HW_ hHeld ?_
                refine one_ (i := 7) (N := some 33) (mB 13 1279) rfl rfl (one_of HT_.out (by kernel_rfl)) (by decide) (fun K hK => ?_)
                refine goes_ Tryd.func48 (by kernel_rfl) rfl #[.int .i64 x9_1] (by rfl) rfl rfl (by (try simp only [List.map_toArray, List.map_cons, List.map_nil]); first | done | rfl | (simp only [List.length_drop, List.length_take]; rfl)) ?_
                with_reducible refine (recoupref07_one.calls x9_1 t228 _ A14.out).mono ?_
                rintro e w' ⟨rfl, ⟨nd, rfl⟩⟩
                refine ⟨_, rfl, ?_⟩
                refine hK.out _ _ ⟨(blk_cell BK224.out 0).trans rfl, (blk_cell BK224.out 1).trans rfl, (blk_cell BK224.out 2).trans rfl⟩ (fun hHeld => ?_)
                clear hK K
                refine norm_ (a' := ?_) ?_ ?_
                rotate_left
                · show Act.put _ (some 33) _ = _
                  simp only [Act.put, List.setIfInBounds_toArray, List.set_cons_zero, List.set_cons_succ, i64_w, i32_w]
                  rfl
                refine pu 8 (some 34) (mB 13 1535) HT_ ?_
                refine one_ (i := 9) (N := some 35) (mB 13 2047) rfl rfl (one_of HT_.out (by kernel_rfl)) (by decide) (fun K hK => ?_)
                refine goes_ Tryd.func47 (by kernel_rfl) rfl #[.agg #[.int .i64 a0_0, .int .i64 a0_1, .slice A0_2 l0_2.length c0_2], .int .u64 (Go.bits .andNot .u64 a1 t228)] (by rfl) rfl rfl (by (try simp only [List.map_toArray, List.map_cons, List.map_nil]); first | done | rfl | (simp only [List.length_drop, List.length_take]; rfl)) ?_
                with_reducible refine (recoupref07_rank.calls kj6 a0_0 a0_1 _ _ l0_2 (Go.bits .andNot .u64 a1 t228) t229 _ ?side1 ?side2 A15.out).mono ?_
                (case side1 => repeat (first | exact (Kd.C_below HR0_2.out (hbA HB.out)) | (with_reducible refine Kd.C_alloc ?_ _) | (with_reducible refine Kd.C_drewN ?_ _) | (with_reducible refine Kd.C_drew ?_)))
                (case side2 => exact HC0_2.out)
                rintro e w19 ⟨rfl, hb⟩
                refine ⟨_, rfl, ?_⟩
                replace BK224 := bkB BK224 hb
                replace HB := hbB HB hb
                (try clear hb)
                (try clear hb2)
                (try clear hk)
                (try clear hi)
                refine hK.out _ _ ⟨(blk_cell BK224.out 0).trans rfl, (blk_cell BK224.out 1).trans rfl, (blk_cell BK224.out 2).trans rfl⟩ (fun hHeld => ?_)
                clear hK K
                refine norm_ (a' := ?_) ?_ ?_
                rotate_left
                · show Act.put _ (some 35) _ = _
                  simp only [Act.put, List.setIfInBounds_toArray, List.set_cons_zero, List.set_cons_succ, i64_w, i32_w]
                  rfl
                refine pu 11 (some 37) (mB 13 4095) HT_ ?_
                refine pu 12 (some 38) (mB 13 8191) HT_ ?_
                refine done_ (done_of HT_.out (by kernel_rfl)) ?_
                try go_wp2_with (first | ((with_reducible refine gC 48 rfl ?_); refine cG (some 41) Tryd.func48 #[.int .i64 x9_1] ?_; (with_reducible refine (recoupref07_one.calls x9_1 t230 _ A17.out).mono ?_); rintro e w' ⟨rfl, ⟨nd, rfl⟩⟩; refine ⟨_, rfl, ?_⟩))
                go_roundg kj6
                case measure => have := HK1.out; have := HJ6.out; omega
                case rel => exact ⟨(Go.bits .or .u64 x8_1 t230), (wrap64 (x9_1 + 1)), rsE, rsE, H', ⟨by have := HK1.out; have := HJ6.out; omega⟩, ⟨bkA BK224.out⟩, ⟨hbA HB.out⟩⟩
              · rw [if_neg c16] at H
                have c16b0 : decide (t229 < t225) = false := decide_eq_false c16
                clear c16
                have H' := Aside0.mk H
                clear H
                try go_wp2
                replace BK224 := Aside0.mk (blk_drew BK224.out)
                replace HB := Aside0.mk (below_drew1 HB.out)
                refine start_ (n := 13) (S := fun w' => w'.cell? ⟨gb224, 0, none⟩ = some (.int .i64 a0_0) ∧ w'.cell? ⟨gb224, 1, none⟩ = some (.int .i64 a0_1) ∧ w'.cell? ⟨gb224, 2, none⟩ = some (.slice A0_2 l0_2.length c0_2)) (ds := []) (.replicate 13 false) (by kernel_rfl) rfl rfl ⟨(blk_cell BK224.out 0).trans rfl, (blk_cell BK224.out 1).trans rfl, (blk_cell BK224.out 2).trans rfl⟩ (fun hHeld => ?_); refine with_tabW recoupref07_Needed.tab6 recoupref07_Needed.bits6 (fun HT_ HW_ => ?_)
                generalize wc.drew = w20 at BK224 HB hHeld ⊢
                refine pu 0 (some 26) (mB 13 1) HT_ ?_
                refine pu 1 (some 27) (mB 13 3) HT_ ?_
                refine one_ (i := 2) (N := some 28) (mB 13 7) rfl rfl (one_of HT_.out (by kernel_rfl)) (by decide) (fun K hK => ?_)
                refine goes_ Tryd.func18 (by kernel_rfl) rfl #[.int .u64 a1, .int .i64 x9_1] (by rfl) rfl rfl (by (try simp only [List.map_toArray, List.map_cons, List.map_nil]); first | done | rfl | (simp only [List.length_drop, List.length_take]; rfl)) ?_
                with_reducible refine (recoupref06_Has.calls a1 x9_1 true _ A12.out).mono ?_
                rintro e w' ⟨rfl, ⟨nd, rfl⟩⟩
                refine ⟨_, rfl, ?_⟩
                refine hK.out _ _ ⟨(blk_cell BK224.out 0).trans rfl, (blk_cell BK224.out 1).trans rfl, (blk_cell BK224.out 2).trans rfl⟩ (fun hHeld => ?_)
                clear hK K
                refine norm_ (a' := ?_) ?_ ?_
                rotate_left
                · show Act.put _ (some 28) _ = _
                  simp only [Act.put, List.setIfInBounds_toArray, List.set_cons_zero, List.set_cons_succ, i64_w, i32_w]
                  rfl
                refine pu 3 (some 29) (mB 13 15) HT_ ?_
                refine pu 5 (some 31) (mB 13 47) HT_ ?_
                refine pu 6 (some 32) (mB 13 111) HT_ ?_
                refine pu 10 (some 36) (mB 13 1135) HT_ ?_
                refine tk3 4 (some 30) (mB 13 1151) HT_ HW_ hHeld ?_
                refine one_ (i := 7) (N := some 33) (mB 13 1279) rfl rfl (one_of HT_.out (by kernel_rfl)) (by decide) (fun K hK => ?_)
                refine goes_ Tryd.func48 (by kernel_rfl) rfl #[.int .i64 x9_1] (by rfl) rfl rfl (by (try simp only [List.map_toArray, List.map_cons, List.map_nil]); first | done | rfl | (simp only [List.length_drop, List.length_take]; rfl)) ?_
                with_reducible refine (recoupref07_one.calls x9_1 t228 _ A14.out).mono ?_
                rintro e w' ⟨rfl, ⟨nd, rfl⟩⟩
                refine ⟨_, rfl, ?_⟩
                refine hK.out _ _ ⟨(blk_cell BK224.out 0).trans rfl, (blk_cell BK224.out 1).trans rfl, (blk_cell BK224.out 2).trans rfl⟩ (fun hHeld => ?_)
                clear hK K
                refine norm_ (a' := ?_) ?_ ?_
                rotate_left
                · show Act.put _ (some 33) _ = _
                  simp only [Act.put, List.setIfInBounds_toArray, List.set_cons_zero, List.set_cons_succ, i64_w, i32_w]
                  rfl
                refine pu 8 (some 34) (mB 13 1535) HT_ ?_
                refine one_ (i := 9) (N := some 35) (mB 13 2047) rfl rfl (one_of HT_.out (by kernel_rfl)) (by decide) (fun K hK => ?_)
                refine goes_ Tryd.func47 (by kernel_rfl) rfl #[.agg #[.int .i64 a0_0, .int .i64 a0_1, .slice A0_2 l0_2.length c0_2], .int .u64 (Go.bits .andNot .u64 a1 t228)] (by rfl) rfl rfl (by (try simp only [List.map_toArray, List.map_cons, List.map_nil]); first | done | rfl | (simp only [List.length_drop, List.length_take]; rfl)) ?_
                with_reducible refine (recoupref07_rank.calls kj6 a0_0 a0_1 _ _ l0_2 (Go.bits .andNot .u64 a1 t228) t229 _ ?side1 ?side2 A15.out).mono ?_
                (case side1 => repeat (first | exact (Kd.C_below HR0_2.out (hbA HB.out)) | (with_reducible refine Kd.C_alloc ?_ _) | (with_reducible refine Kd.C_drewN ?_ _) | (with_reducible refine Kd.C_drew ?_)))
                (case side2 => exact HC0_2.out)
                rintro e w21 ⟨rfl, hb⟩
                refine ⟨_, rfl, ?_⟩
                replace BK224 := bkB BK224 hb
                replace HB := hbB HB hb
                (try clear hb)
                (try clear hb2)
                (try clear hk)
                (try clear hi)
                refine hK.out _ _ ⟨(blk_cell BK224.out 0).trans rfl, (blk_cell BK224.out 1).trans rfl, (blk_cell BK224.out 2).trans rfl⟩ (fun hHeld => ?_)
                clear hK K
                refine norm_ (a' := ?_) ?_ ?_
                rotate_left
                · show Act.put _ (some 35) _ = _
                  simp only [Act.put, List.setIfInBounds_toArray, List.set_cons_zero, List.set_cons_succ, i64_w, i32_w]
                  rfl
                refine pu 11 (some 37) (mB 13 4095) HT_ ?_
                refine pu 12 (some 38) (mB 13 8191) HT_ ?_
                refine done_ (done_of HT_.out (by kernel_rfl)) ?_
                try go_wp2
                go_roundg kj6
                case measure => have := HK1.out; have := HJ6.out; omega
                case rel => exact ⟨(x8_1), (wrap64 (x9_1 + 1)), rsE, rsE, H', ⟨by have := HK1.out; have := HJ6.out; omega⟩, ⟨bkA BK224.out⟩, ⟨hbA HB.out⟩⟩
            · replace c13 := Bool.eq_false_iff.mpr c13
              subst c13
              rw [if_neg nofT] at H
              have H' := Aside0.mk H
              clear H
              try go_wp2
              replace BK224 := Aside0.mk (blk_drew BK224.out)
              replace HB := Aside0.mk (below_drew1 HB.out)
              refine start_ (n := 13) (S := fun w' => True) (ds := []) (.replicate 13 false) (by kernel_rfl) rfl rfl trivial (fun hHeld => ?_); refine with_tabW recoupref07_Needed.tab6 recoupref07_Needed.bits6 (fun HT_ HW_ => ?_)
              generalize wc.drew = w22 at BK224 HB hHeld ⊢
              refine pu 0 (some 26) (mB 13 1) HT_ ?_
              refine pu 1 (some 27) (mB 13 3) HT_ ?_
              refine one_ (i := 2) (N := some 28) (mB 13 7) rfl rfl (one_of HT_.out (by kernel_rfl)) (by decide) (fun K hK => ?_)
              refine goes_ Tryd.func18 (by kernel_rfl) rfl #[.int .u64 a1, .int .i64 x9_1] (by rfl) rfl rfl (by (try simp only [List.map_toArray, List.map_cons, List.map_nil]); first | done | rfl | (simp only [List.length_drop, List.length_take]; rfl)) ?_
              with_reducible refine (recoupref06_Has.calls a1 x9_1 false _ A12.out).mono ?_
              rintro e w' ⟨rfl, ⟨nd, rfl⟩⟩
              refine ⟨_, rfl, ?_⟩
              refine hK.out _ _ trivial (fun hHeld => ?_)
              clear hK K
              refine norm_ (a' := ?_) ?_ ?_
              rotate_left
              · show Act.put _ (some 28) _ = _
                simp only [Act.put, List.setIfInBounds_toArray, List.set_cons_zero, List.set_cons_succ, i64_w, i32_w]
                rfl
              refine pu 3 (some 29) (mB 13 15) HT_ ?_
              refine pure_ (i := 4) (N := some 30) (v := undef) (a' := ?_) (mB 13 31) rfl rfl (any_of HT_.out (by kernel_rfl)) (fun _ _ _ h => h) (Or.inr ⟨by rfl, rfl⟩) ?_ ?_
              rotate_left
              · simp only [Act.put, List.setIfInBounds_toArray, List.set_cons_zero, List.set_cons_succ, i64_w, i32_w]
                rfl
              refine pure_ (i := 5) (N := some 31) (v := undef) (a' := ?_) (mB 13 63) rfl rfl (any_of HT_.out (by kernel_rfl)) (fun _ _ _ h => h) (Or.inr ⟨by rfl, rfl⟩) ?_ ?_
              rotate_left
              · simp only [Act.put, List.setIfInBounds_toArray, List.set_cons_zero, List.set_cons_succ, i64_w, i32_w]
                rfl
              refine pure_ (i := 6) (N := some 32) (v := undef) (a' := ?_) (mB 13 127) rfl rfl (any_of HT_.out (by kernel_rfl)) (fun _ _ _ h => h) (Or.inr ⟨by rfl, rfl⟩) ?_ ?_
              rotate_left
              · simp only [Act.put, List.setIfInBounds_toArray, List.set_cons_zero, List.set_cons_succ, i64_w, i32_w]
                rfl
              refine pure_ (i := 7) (N := some 33) (v := undef) (a' := ?_) (mB 13 255) rfl rfl (any_of HT_.out (by kernel_rfl)) (fun _ _ _ h => h) (Or.inr ⟨by rfl, rfl⟩) ?_ ?_
              rotate_left
              · simp only [Act.put, List.setIfInBounds_toArray, List.set_cons_zero, List.set_cons_succ, i64_w, i32_w]
                rfl
              refine pure_ (i := 8) (N := some 34) (v := undef) (a' := ?_) (mB 13 511) rfl rfl (any_of HT_.out (by kernel_rfl)) (fun _ _ _ h => h) (Or.inr ⟨by rfl, rfl⟩) ?_ ?_
              rotate_left
              · simp only [Act.put, List.setIfInBounds_toArray, List.set_cons_zero, List.set_cons_succ, i64_w, i32_w]
                rfl
              refine pure_ (i := 9) (N := some 35) (v := undef) (a' := ?_) (mB 13 1023) rfl rfl (any_of HT_.out (by kernel_rfl)) (fun _ _ _ h => h) (Or.inr ⟨by rfl, rfl⟩) ?_ ?_
              rotate_left
              · simp only [Act.put, List.setIfInBounds_toArray, List.set_cons_zero, List.set_cons_succ, i64_w, i32_w]
                rfl
              refine pure_ (i := 10) (N := some 36) (v := undef) (a' := ?_) (mB 13 2047) rfl rfl (any_of HT_.out (by kernel_rfl)) (fun _ _ _ h => h) (Or.inr ⟨by rfl, rfl⟩) ?_ ?_
              rotate_left
              · simp only [Act.put, List.setIfInBounds_toArray, List.set_cons_zero, List.set_cons_succ, i64_w, i32_w]
                rfl
              refine pure_ (i := 11) (N := some 37) (v := undef) (a' := ?_) (mB 13 4095) rfl rfl (any_of HT_.out (by kernel_rfl)) (fun _ _ _ h => h) (Or.inr ⟨by rfl, rfl⟩) ?_ ?_
              rotate_left
              · simp only [Act.put, List.setIfInBounds_toArray, List.set_cons_zero, List.set_cons_succ, i64_w, i32_w]
                rfl
              refine pu 12 (some 38) (mB 13 8191) HT_ ?_
              refine done_ (done_of HT_.out (by kernel_rfl)) ?_
              try go_wp2
              go_roundg kj6
              case measure => have := HK1.out; have := HJ6.out; omega
              case rel => exact ⟨(x8_1), (wrap64 (x9_1 + 1)), rsE, rsE, H', ⟨by have := HK1.out; have := HJ6.out; omega⟩, ⟨bkA BK224.out⟩, ⟨hbA HB.out⟩⟩
          · replace c11 := Bool.eq_false_iff.mpr c11
            subst c11
            rw [if_neg nofT] at H
            simp only [Option.some.injEq, Prod.mk.injEq] at H
            obtain ⟨rfl, rfl⟩ := H
            go_wp2
            go_ret2
            exact ⟨rfE, hbA HB.out⟩

end Go.Proofs.YtjgcocfnilhggaaDoor.Q
