/- Written by drive.py (a program of this repo, over the kit's print): each Go function named here answers what the Lean function beside it answers, wherever that one answers, in every world that meets the stated premises. -/
import Derived.Test.YtjgcocfnilhggaaDoorQx0
import Derived.Test.YtjgcocfnilhggaaDoorQx118
import Derived.Test.YtjgcocfnilhggaaDoorQx129
namespace Go.Proofs.YtjgcocfnilhggaaDoor.Q
open Go.RowKit Go.Proofs.YtjgcocfnilhggaaDoorW.PrintWords Go.Proofs.YtjgcocfnilhggaaDoorW.PrintLast Go.Proofs.YtjgcocfnilhggaaDoorW.PrintMore
attribute [local go_sem] max2_int min2_int max_two min_two max_three min_three max_four min_four   -- for this text's walks alone
set_option linter.unusedVariables false
set_option linter.unusedSimpArgs false

/-! ### recoupref19_Group: function 10 -/
mutual
def recoupref19_Group.j0 : Nat → Int → Bool → Int → Int → List Int → List Int → Option (Int × Bool × Int)
  | 0, _, _, _, _, _, _ => none
  | k + 1, x1, x19, x237000, x237001, x237002, x237003 => if x19 = true then (some (0, false, 2)) else (recoupref19_Group.l0 k x1 0 x237000 x237001 x237002 x237003)
def recoupref19_Group.l0 : Nat → Int → Int → Int → Int → List Int → List Int → Option (Int × Bool × Int)
  | 0, _, _, _, _, _, _ => none
  | k + 1, x1, x7, x237000, x237001, x237002, x237003 => if x7 < (x237003.length : Int) then (if 0 ≤ x7 then ((recoupref06_Has.f (rd x237003 x7) x1).bind fun t239 => (if t239 = true then (if 0 ≤ (IntKind.u64.wrap (x1)) then (some (Go.bits .andNot .u64 (rd x237003 x7) (shl .u64 1 (IntKind.u64.wrap (x1))), true, 0)) else (none)) else (recoupref19_Group.l0 k x1 (wrap64 (x7 + 1)) x237000 x237001 x237002 x237003))) else (none)) else (some (0, false, 0))
end
def recoupref19_Group.f (k : Nat) (a0_0 : Int) (a0_1 : Int) (l0_2 : List Int) (l0_3 : List Int) (a1 : Int) : Option (Int × Bool × Int) := (recoupref16_May.f k a0_0 a0_1 l0_2 l0_3).bind fun t237 => (if t237 = true then (if a1 < 0 then (recoupref19_Group.j0 k a1 true a0_0 a0_1 l0_2 l0_3) else (recoupref19_Group.j0 k a1 (decide (a1 ≥ a0_0)) a0_0 a0_1 l0_2 l0_3)) else (some (0, false, 3)))
theorem recoupref19_Group.mono_l : ∀ k, (∀ y0 y1 y2 y3 y4 y5, LeO (recoupref19_Group.j0 k y0 y1 y2 y3 y4 y5) (recoupref19_Group.j0 (k + 1) y0 y1 y2 y3 y4 y5)) ∧ (∀ y0 y1 y2 y3 y4 y5, LeO (recoupref19_Group.l0 k y0 y1 y2 y3 y4 y5) (recoupref19_Group.l0 (k + 1) y0 y1 y2 y3 y4 y5))
  | 0 => ⟨fun _ _ _ _ _ _ r h => by simp [recoupref19_Group.j0] at h, fun _ _ _ _ _ _ r h => by simp [recoupref19_Group.l0] at h⟩
  | k + 1 => by
    obtain ⟨ih0, ih1⟩ := recoupref19_Group.mono_l k
    refine ⟨?_, ?_⟩
    all_goals (intros; first | unfold recoupref19_Group.j0 | unfold recoupref19_Group.l0)
    all_goals repeat' first | (with_reducible exact ih0 _ _ _ _ _ _) | (with_reducible exact ih1 _ _ _ _ _ _) | (with_reducible exact recoupref16_May.mono _ _ _ _ _) | (with_reducible exact LeO.refl _) | (with_reducible exact LeO.none _) | (with_reducible refine LeO.ite ?_ ?_) | (with_reducible refine LeO.bind ?_ (fun _ => ?_)) | exact ih0 _ _ _ _ _ _ | exact ih1 _ _ _ _ _ _ | exact recoupref16_May.mono _ _ _ _ _ | exact LeO.none _ | refine LeO.ite ?_ ?_ | refine LeO.bind ?_ (fun _ => ?_)
theorem recoupref19_Group.mono : ∀ a0 a1 a2 a3 a4 k, LeO (recoupref19_Group.f k a0 a1 a2 a3 a4) (recoupref19_Group.f (k + 1) a0 a1 a2 a3 a4) := by
  intro a0 a1 a2 a3 a4 k
  obtain ⟨ih0, ih1⟩ := recoupref19_Group.mono_l k
  unfold recoupref19_Group.f
  repeat' first
      | (with_reducible exact ih0 _ _ _ _ _ _)
      | (with_reducible exact ih1 _ _ _ _ _ _)
      | (with_reducible exact recoupref16_May.mono _ _ _ _ _)
      | (with_reducible exact LeO.refl _)
      | (with_reducible exact LeO.none _)
      | (with_reducible refine LeO.ite ?_ ?_)
      | (with_reducible refine LeO.bind ?_ (fun _ => ?_))
      | exact ih0 _ _ _ _ _ _
      | exact ih1 _ _ _ _ _ _
      | exact recoupref16_May.mono _ _ _ _ _
      | exact LeO.none _
      | refine LeO.ite ?_ ?_
      | refine LeO.bind ?_ (fun _ => ?_)
set_option maxHeartbeats 8000000 in
set_option maxRecDepth 100000 in
theorem recoupref19_Group.calls (k : Nat) (a0_0 : Int) (a0_1 : Int) (A0_2 : Option Addr) (c0_2 : Nat) (l0_2 : List Int) (A0_3 : Option Addr) (c0_3 : Nat) (l0_3 : List Int) (a1 : Int) (r1 : Int) (r2 : Bool) (r3 : Int) (w : World) (hr0_2 : Kd.C (Kd.int .u8) w A0_2 l0_2.length l0_2) (hc0_2 : l0_2.length ≤ c0_2) (hr0_3 : Kd.C (Kd.int .u64) w A0_3 l0_3.length l0_3) (hc0_3 : l0_3.length ≤ c0_3) (h : recoupref19_Group.f k a0_0 a0_1 l0_2 l0_3 a1 = some (r1, r2, r3)) :
    Calls Tryd.prog 10 #[.agg #[.int .i64 a0_0, .int .i64 a0_1, .slice A0_2 l0_2.length c0_2, .slice A0_3 l0_3.length c0_3], .int .i64 a1] w fun e w' => e = .returned (.tuple #[.int .u64 r1, .bool r2, .int .i64 r3]) ∧ Below w.heap.size w w' := by
  have hu27 := Tryd.underlying27
  have HR0_2 := Aside0.mk hr0_2
  have HC0_2 := Aside0.mk hc0_2
  clear hr0_2 hc0_2
  have HR0_3 := Aside0.mk hr0_3
  have HC0_3 := Aside0.mk hc0_3
  clear hr0_3 hc0_3
  have HB := Aside0.mk (Below.refl w.heap.size w)
  have H : ((recoupref16_May.f k a0_0 a0_1 l0_2 l0_3).bind fun t237 => (if t237 = true then (if a1 < 0 then (recoupref19_Group.j0 k a1 true a0_0 a0_1 l0_2 l0_3) else (recoupref19_Group.j0 k a1 (decide (a1 ≥ a0_0)) a0_0 a0_1 l0_2 l0_3)) else (some (0, false, 3)))) = some (r1, r2, r3) := h
  clear h
  obtain ⟨t237, A3, H⟩ := bindO H
  (try dsimp only at H)
  by_cases c4 : t237 = true
  · subst c4
    rw [if_pos rfl] at H
    have HC5 := Aside0.mk H
    clear H
    go_enter Tryd.func10, Tryd.ntmps10
    go_upto_region 3 with (first | ((with_reducible refine gD 2 rfl ?_); refine bE 2 #[.int .i64 a0_0, .int .i64 a0_1, .slice A0_2 l0_2.length c0_2, .slice A0_3 l0_3.length c0_3] 27 ?_; intro gb236 hg w6 hbox hb; have BK236 := Aside0.mk (hbox); have GW236 := hbS HB hg; have GE236 := hbS HB hg; replace HB := hbB HB hb; clear hb hbox hg; obtain ⟨hcz7_0, hcz7_1, hcz7_2, hcz7_3, hfz7_0, hfz7_1, hfz7_2, hfz7_3⟩ := cell4 BK236) | ((with_reducible refine gC 29 rfl ?_); refine cG (some 9) Tryd.func29 #[.agg #[.int .i64 a0_0, .int .i64 a0_1, .slice A0_2 l0_2.length c0_2, .slice A0_3 l0_3.length c0_3]] ?_; (with_reducible refine (recoupref16_May.calls k a0_0 a0_1 _ _ l0_2 _ _ l0_3 true _ ?side1 ?side2 ?side3 ?side4 A3.out).mono ?_); (case side1 => exact kcB HR0_2 HB); (case side2 => exact HC0_2.out); (case side3 => exact kcB HR0_3 HB); (case side4 => exact HC0_3.out); rintro e w8 ⟨rfl, hb⟩; refine ⟨_, rfl, ?_⟩; replace BK236 := bkB BK236 hb; replace HB := hbB HB hb; (try clear hb); (try clear hb2); (try clear hk); (try clear hi)))
    (try simp only [Act.put, List.setIfInBounds_toArray, List.set_cons_zero, List.set_cons_succ])
    go_cut [19] (fun v19 wc => ∃ (kq : Nat) (x19_4 : Bool), v19 = .bool x19_4 ∧ Aside0 (recoupref19_Group.j0 kq a1 x19_4 a0_0 a0_1 l0_2 l0_3 = some (r1, r2, r3)) ∧ Aside0 (kq ≤ k) ∧ Aside0 (wc.heap[gb236]? = some (.cells #[.int .i64 a0_0, .int .i64 a0_1, (.slice A0_2 l0_2.length c0_2), (.slice A0_3 l0_3.length c0_3)] 27 (0, 0))) ∧ Aside0 (Below w.heap.size w wc))
    case first =>
      have H := HC5.out
      clear HC5
      by_cases c9 : a1 < 0
      · rw [if_pos c9] at H
        have c9b0 : decide (a1 < 0) = true := decide_eq_true c9
        clear c9
        (first | rw [c9b0] | (simp only [i64_w, i32_w]; rw [c9b0]) | skip)
        have H' := Aside0.mk H
        clear H
        go_wp2
        go_meet
        case rel => exact ⟨_, (true), rsE, H', ⟨leE⟩, ⟨bkA BK236.out⟩, ⟨hbA HB.out⟩⟩
      · rw [if_neg c9] at H
        have c9b0 : decide (a1 < 0) = false := decide_eq_false c9
        clear c9
        (first | rw [c9b0] | (simp only [i64_w, i32_w]; rw [c9b0]) | skip)
        have H' := Aside0.mk H
        clear H
        obtain ⟨hcz10_0, hcz10_1, hcz10_2, hcz10_3, hfz10_0, hfz10_1, hfz10_2, hfz10_3⟩ := cell4 BK236
        go_wp2
        go_meet
        case rel => exact ⟨_, (decide (a1 ≥ a0_0)), rsE, H', ⟨leE⟩, ⟨bkA BK236.out⟩, ⟨hbA HB.out⟩⟩
    case rest =>
      clear HC5
      (try clear c1); (try clear c2); (try clear p2); (try clear c4); (try clear c9); (try clear c9b0); (try clear c10); (try clear hcz10_0 hcz10_1 hcz10_2 hcz10_3 hfz10_0 hfz10_1 hfz10_2 hfz10_3); (try clear hcz7_0 hcz7_1 hcz7_2 hcz7_3 hfz7_0 hfz7_1 hfz7_2 hfz7_3)
      obtain ⟨kq, x19_4, rfl, HA, HJ4, BK236, HB⟩ := hcut
      cases kq with
      | zero => exact absurd HA.out (by simp [recoupref19_Group.j0])
      | succ kj4 =>
        have H := HA.out
        clear HA
        simp only [recoupref19_Group.j0] at H
        by_cases c11 : x19_4 = true
        · subst c11
          rw [if_pos rfl] at H
          simp only [Option.some.injEq, Prod.mk.injEq] at H
          obtain ⟨rfl, rfl, rfl⟩ := H
          go_wp2
          go_ret3
          exact ⟨rfE, hbA HB.out⟩
        · replace c11 := Bool.eq_false_iff.mpr c11
          subst c11
          rw [if_neg nofT] at H
          have H' := Aside0.mk H
          clear H
          go_wp2
          go_loopg [7] kj4 (fun kq v7 w' => ∃ (x7_2 : Int), v7 = .int .i64 x7_2 ∧ Aside0 (recoupref19_Group.l0 kq a1 x7_2 a0_0 a0_1 l0_2 l0_3 = some (r1, r2, r3)) ∧ Aside0 (kq ≤ kj4) ∧ Aside0 (w'.heap[gb236]? = some (.cells #[.int .i64 a0_0, .int .i64 a0_1, (.slice A0_2 l0_2.length c0_2), (.slice A0_3 l0_3.length c0_3)] 27 (0, 0))) ∧ Aside0 (Below w.heap.size w w'))
          case atStart => exact ⟨(0), rsE, H', ⟨Nat.le_refl _⟩, ⟨bkA BK236.out⟩, ⟨hbA HB.out⟩⟩
          case round =>
            clear H'
            (try clear c1); (try clear c2); (try clear p2 p2); (try clear c4); (try clear c9); (try clear c9b0); (try clear c10); (try clear c11); (try clear hcz10_0 hcz10_1 hcz10_2 hcz10_3 hfz10_0 hfz10_1 hfz10_2 hfz10_3); (try clear hcz7_0 hcz7_1 hcz7_2 hcz7_3 hfz7_0 hfz7_1 hfz7_2 hfz7_3)
            obtain ⟨x7_2, rfl, HA, HK2, BK236, HB⟩ := hrel
            cases gk with
            | zero => exact absurd HA.out (by simp [recoupref19_Group.l0])
            | succ k2 =>
              have H := HA.out
              clear HA
              simp only [recoupref19_Group.l0] at H
              by_cases c12 : x7_2 < (l0_3.length : Int)
              · rw [if_pos c12] at H
                have c12b0 : decide (x7_2 < (l0_3.length : Int)) = true := decide_eq_true c12
                clear c12
                by_cases c13 : 0 ≤ x7_2
                · rw [if_pos c13] at H
                  have c13b0 : decide (0 ≤ x7_2) = true := decide_eq_true c13
                  clear c13
                  obtain ⟨t239, A14, H⟩ := bindO H
                  (try dsimp only at H)
                  by_cases c15 : t239 = true
                  · subst c15
                    rw [if_pos rfl] at H
                    obtain ⟨ji16, hji16⟩ : ∃ j_ : Int, (IntKind.u64.wrap (a1)) = j_ := ⟨_, rfl⟩
                    replace H : (if 0 ≤ (ji16) then (some (Go.bits .andNot .u64 (rd l0_3 x7_2) (shl .u64 1 (ji16)), true, 0)) else (none)) = some (r1, r2, r3) := by first | (rw [hji16] at H; exact H) | (simp only [hji16] at H ⊢; exact H)
                    (try rw [hji16] at A14)
                    by_cases c17 : 0 ≤ (ji16)
                    · rw [if_pos c17] at H
                      have c17b0 := eq_true c17
                      have c17b1 : decide (0 ≤ (ji16)) = true := decide_eq_true c17
                      clear c17
                      obtain ⟨ji18, hji18⟩ : ∃ j_ : Int, (shl .u64 1 (ji16)) = j_ := ⟨_, rfl⟩
                      replace H : (some (Go.bits .andNot .u64 (rd l0_3 x7_2) (ji18), true, 0)) = some (r1, r2, r3) := by first | (rw [hji18] at H; exact H) | (simp only [hji18] at H ⊢; exact H)
                      (try rw [hji18] at A14)
                      have hji18_ : (IntKind.u64.wrap (1 * 2 ^ min (ji16).toNat 64)) = ji18 := hji18
                      have hji18z : (ji16) ≤ 64 → (IntKind.u64.wrap (1 * 2 ^ (ji16).toNat)) = ji18 := shl_small hji18
                      have hji18u : (IntKind.u64.wrap (2 ^ min (ji16).toNat 64)) = ji18 := by have h_ := hji18_; rw [Int.one_mul] at h_; exact h_
                      have hji18v : (ji16) ≤ 64 → (IntKind.u64.wrap (2 ^ (ji16).toNat)) = ji18 := fun hle_ => by have h_ := hji18z hle_; rw [Int.one_mul] at h_; exact h_
                      simp only [Option.some.injEq, Prod.mk.injEq] at H
                      obtain ⟨rfl, rfl, rfl⟩ := H
                      obtain ⟨hcz19_0, hcz19_1, hcz19_2, hcz19_3, hfz19_0, hfz19_1, hfz19_2, hfz19_3⟩ := cell4 BK236
                      have p238 : 0 ≤ (x7_2 : Int) := of_decide_eq_true asE
                      have q238 : x7_2 < (l0_3.length : Int) := of_decide_eq_true asE
                      obtain ⟨ad238, e238, hx238_0⟩ := Kd.at_int HR0_3.out x7_2 p238 q238
                      cases e238
                      replace hx238_0 := (HB.out.cell (World.block_lt_of_cell? w _ hx238_0)).trans hx238_0
                      replace p238 := eq_true p238
                      replace q238 := eq_true q238
                      go_wp2_with (first | ((with_reducible refine gC 18 rfl ?_); refine cG (some 33) Tryd.func18 #[.int .u64 (rd l0_3 x7_2), .int .i64 a1] ?_; (with_reducible refine (recoupref06_Has.calls (rd l0_3 x7_2) a1 true _ A14.out).mono ?_); rintro e w' ⟨rfl, ⟨nd, rfl⟩⟩; refine ⟨_, rfl, ?_⟩; have p240 : 0 ≤ (x7_2 : Int) := of_decide_eq_true asE; have q240 : x7_2 < (l0_3.length : Int) := of_decide_eq_true asE; obtain ⟨ad240, e240, hx240_0⟩ := Kd.at_int HR0_3.out x7_2 p240 q240; obtain rfl : ad238 = ad240 := (by injection e240); replace hx240_0 := (HB.out.cell (World.block_lt_of_cell? w _ hx240_0)).trans hx240_0; replace p240 := eq_true p240; replace q240 := eq_true q240))
                      go_ret3
                      exact ⟨by first | rfl | (simp [errW_none, errW_some] <;> rfl) | (simp only [← hji16, ← hji18]; first | rfl | (simp [errW_none, errW_some] <;> rfl)) | (simp [*, errW_none, errW_some] <;> rfl), hbA HB.out⟩
                    · rw [if_neg c17] at H
                      exact absurd H (by simp)
                  · replace c15 := Bool.eq_false_iff.mpr c15
                    subst c15
                    rw [if_neg nofT] at H
                    have H' := Aside0.mk H
                    clear H
                    obtain ⟨hcz20_0, hcz20_1, hcz20_2, hcz20_3, hfz20_0, hfz20_1, hfz20_2, hfz20_3⟩ := cell4 BK236
                    have p238 : 0 ≤ (x7_2 : Int) := of_decide_eq_true asE
                    have q238 : x7_2 < (l0_3.length : Int) := of_decide_eq_true asE
                    obtain ⟨ad238, e238, hx238_0⟩ := Kd.at_int HR0_3.out x7_2 p238 q238
                    cases e238
                    replace hx238_0 := (HB.out.cell (World.block_lt_of_cell? w _ hx238_0)).trans hx238_0
                    replace p238 := eq_true p238
                    replace q238 := eq_true q238
                    go_wp2_with (first | ((with_reducible refine gC 18 rfl ?_); refine cG (some 33) Tryd.func18 #[.int .u64 (rd l0_3 x7_2), .int .i64 a1] ?_; (with_reducible refine (recoupref06_Has.calls (rd l0_3 x7_2) a1 false _ A14.out).mono ?_); rintro e w' ⟨rfl, ⟨nd, rfl⟩⟩; refine ⟨_, rfl, ?_⟩))
                    go_roundg k2
                    case measure => have := HJ4.out; have := HK2.out; omega
                    case rel => exact ⟨(wrap64 (x7_2 + 1)), rsE, H', ⟨by have := HJ4.out; have := HK2.out; omega⟩, ⟨bkA BK236.out⟩, ⟨hbA HB.out⟩⟩
                · rw [if_neg c13] at H
                  exact absurd H (by simp)
              · rw [if_neg c12] at H
                have c12b0 : decide (x7_2 < (l0_3.length : Int)) = false := decide_eq_false c12
                clear c12
                simp only [Option.some.injEq, Prod.mk.injEq] at H
                obtain ⟨rfl, rfl, rfl⟩ := H
                obtain ⟨hcz21_0, hcz21_1, hcz21_2, hcz21_3, hfz21_0, hfz21_1, hfz21_2, hfz21_3⟩ := cell4 BK236
                go_wp2
                go_ret3
                exact ⟨rfE, hbA HB.out⟩
  · replace c4 := Bool.eq_false_iff.mpr c4
    subst c4
    rw [if_neg nofT] at H
    simp only [Option.some.injEq, Prod.mk.injEq] at H
    obtain ⟨rfl, rfl, rfl⟩ := H
    go_enter Tryd.func10, Tryd.ntmps10
    go_wp2_with (first | ((with_reducible refine gD 2 rfl ?_); refine bE 2 #[.int .i64 a0_0, .int .i64 a0_1, .slice A0_2 l0_2.length c0_2, .slice A0_3 l0_3.length c0_3] 27 ?_; intro gb236 hg w22 hbox hb; have BK236 := Aside0.mk (hbox); have GW236 := hbS HB hg; have GE236 := hbS HB hg; replace HB := hbB HB hb; clear hb hbox hg; obtain ⟨hcz23_0, hcz23_1, hcz23_2, hcz23_3, hfz23_0, hfz23_1, hfz23_2, hfz23_3⟩ := cell4 BK236) | ((with_reducible refine gC 29 rfl ?_); refine cG (some 9) Tryd.func29 #[.agg #[.int .i64 a0_0, .int .i64 a0_1, .slice A0_2 l0_2.length c0_2, .slice A0_3 l0_3.length c0_3]] ?_; (with_reducible refine (recoupref16_May.calls k a0_0 a0_1 _ _ l0_2 _ _ l0_3 false _ ?side1 ?side2 ?side3 ?side4 A3.out).mono ?_); (case side1 => exact kcB HR0_2 HB); (case side2 => exact HC0_2.out); (case side3 => exact kcB HR0_3 HB); (case side4 => exact HC0_3.out); rintro e w24 ⟨rfl, hb⟩; refine ⟨_, rfl, ?_⟩; replace BK236 := bkB BK236 hb; replace HB := hbB HB hb; (try clear hb); (try clear hb2); (try clear hk); (try clear hi)))
    go_ret3
    exact ⟨rfE, hbA HB.out⟩

end Go.Proofs.YtjgcocfnilhggaaDoor.Q
