/- Written by drive.py (a program of this repo, over the kit's print): each Go function named here answers what the Lean function beside it answers, wherever that one answers, in every world that meets the stated premises. -/
import Derived.Test.YthjncmdlhmppiaaDoorQx0
import Derived.Test.YthjncmdlhmppiaaDoorQx135
import Derived.Test.YthjncmdlhmppiaaDoorQx136
import Derived.Test.YthjncmdlhmppiaaDoorQx139
namespace Go.Proofs.YthjncmdlhmppiaaDoor.Q
open Go.RowKit Go.Proofs.YthjncmdlhmppiaaDoorW.PrintWords Go.Proofs.YthjncmdlhmppiaaDoorW.PrintLast Go.Proofs.YthjncmdlhmppiaaDoorW.PrintMore
attribute [local go_sem] max2_int min2_int max_two min_two max_three min_three max_four min_four   -- for this text's walks alone
set_option linter.unusedVariables false
set_option linter.unusedSimpArgs false

/-! ### recoupref07_Circuit: function 25 -/
mutual
def recoupref07_Circuit.j0 : Nat → Int → Int → Bool → Int → Int → List Int → Option (Int × Bool × Int)
  | 0, _, _, _, _, _, _ => none
  | k + 1, x1, x2, x40, x390000, x390001, x390002 => if x40 = true then (some (0, false, 2)) else ((recoupref07_one.f x1).bind fun t396 => ((recoupref07_rank.f k x390000 x390001 x390002 (Go.bits .or .u64 x2 t396)).bind fun t397 => ((recoupref07_rank.f k x390000 x390001 x390002 x2).bind fun t398 => (if t397 > t398 then (some (0, false, 0)) else ((recoupref07_one.f x1).bind fun t399 => (recoupref07_Circuit.l0 k x1 x2 t399 0 x390000 x390001 x390002))))))
def recoupref07_Circuit.l0 : Nat → Int → Int → Int → Int → Int → Int → List Int → Option (Int × Bool × Int)
  | 0, _, _, _, _, _, _, _ => none
  | k + 1, x1, x2, x10, x11, x390000, x390001, x390002 => if x11 < x390000 then ((recoupref07_one.f x11).bind fun t400 => ((recoupref06_Has.f x2 x11).bind fun t401 => (if t401 = true then ((recoupref07_one.f x1).bind fun t402 => ((recoupref07_rank.f k x390000 x390001 x390002 (Go.bits .or .u64 (Go.bits .andNot .u64 x2 t400) t402)).bind fun t403 => ((recoupref07_rank.f k x390000 x390001 x390002 (Go.bits .andNot .u64 x2 t400)).bind fun t404 => (if t403 > t404 then ((recoupref07_one.f x11).bind fun t405 => (recoupref07_Circuit.l0 k x1 x2 (Go.bits .or .u64 x10 t405) (wrap64 (x11 + 1)) x390000 x390001 x390002)) else (recoupref07_Circuit.l0 k x1 x2 x10 (wrap64 (x11 + 1)) x390000 x390001 x390002))))) else (recoupref07_Circuit.l0 k x1 x2 x10 (wrap64 (x11 + 1)) x390000 x390001 x390002)))) else (some (x10, true, 0))
end
def recoupref07_Circuit.f (k : Nat) (a0_0 : Int) (a0_1 : Int) (l0_2 : List Int) (a1 : Int) (a2 : Int) : Option (Int × Bool × Int) := (recoupref07_bad.f k a0_0 a0_1 l0_2 a2).bind fun t390 => (if t390 = 0 then (if a1 < 0 then (recoupref07_Circuit.j0 k a1 a2 true a0_0 a0_1 l0_2) else (if a1 ≥ a0_0 then (recoupref07_Circuit.j0 k a1 a2 true a0_0 a0_1 l0_2) else ((recoupref06_Has.f a2 a1).bind fun t391 => (if t391 = true then (recoupref07_Circuit.j0 k a1 a2 true a0_0 a0_1 l0_2) else ((recoupref07_rank.f k a0_0 a0_1 l0_2 a2).bind fun t392 => ((recoupref06_List.f k a2).bind fun t393 => (recoupref07_Circuit.j0 k a1 a2 (decide (t392 < (t393.length : Int))) a0_0 a0_1 l0_2))))))) else (some (0, false, t390)))
theorem recoupref07_Circuit.mono_l : ∀ k, (∀ y0 y1 y2 y3 y4 y5, LeO (recoupref07_Circuit.j0 k y0 y1 y2 y3 y4 y5) (recoupref07_Circuit.j0 (k + 1) y0 y1 y2 y3 y4 y5)) ∧ (∀ y0 y1 y2 y3 y4 y5 y6, LeO (recoupref07_Circuit.l0 k y0 y1 y2 y3 y4 y5 y6) (recoupref07_Circuit.l0 (k + 1) y0 y1 y2 y3 y4 y5 y6))
  | 0 => ⟨fun _ _ _ _ _ _ r h => by simp [recoupref07_Circuit.j0] at h, fun _ _ _ _ _ _ _ r h => by simp [recoupref07_Circuit.l0] at h⟩
  | k + 1 => by
    obtain ⟨ih0, ih1⟩ := recoupref07_Circuit.mono_l k
    refine ⟨?_, ?_⟩
    all_goals (intros; first | unfold recoupref07_Circuit.j0 | unfold recoupref07_Circuit.l0)
    all_goals repeat' first | (with_reducible exact ih0 _ _ _ _ _ _) | (with_reducible exact ih1 _ _ _ _ _ _ _) | (with_reducible exact recoupref06_List.mono _ _) | (with_reducible exact recoupref07_bad.mono _ _ _ _ _) | (with_reducible exact recoupref07_rank.mono _ _ _ _ _) | (with_reducible exact LeO.refl _) | (with_reducible exact LeO.none _) | (with_reducible refine LeO.ite ?_ ?_) | (with_reducible refine LeO.bind ?_ (fun _ => ?_)) | exact ih0 _ _ _ _ _ _ | exact ih1 _ _ _ _ _ _ _ | exact recoupref06_List.mono _ _ | exact recoupref07_bad.mono _ _ _ _ _ | exact recoupref07_rank.mono _ _ _ _ _ | exact LeO.none _ | refine LeO.ite ?_ ?_ | refine LeO.bind ?_ (fun _ => ?_)
theorem recoupref07_Circuit.mono : ∀ a0 a1 a2 a3 a4 k, LeO (recoupref07_Circuit.f k a0 a1 a2 a3 a4) (recoupref07_Circuit.f (k + 1) a0 a1 a2 a3 a4) := by
  intro a0 a1 a2 a3 a4 k
  obtain ⟨ih0, ih1⟩ := recoupref07_Circuit.mono_l k
  unfold recoupref07_Circuit.f
  repeat' first
      | (with_reducible exact ih0 _ _ _ _ _ _)
      | (with_reducible exact ih1 _ _ _ _ _ _ _)
      | (with_reducible exact recoupref06_List.mono _ _)
      | (with_reducible exact recoupref07_bad.mono _ _ _ _ _)
      | (with_reducible exact recoupref07_rank.mono _ _ _ _ _)
      | (with_reducible exact LeO.refl _)
      | (with_reducible exact LeO.none _)
      | (with_reducible refine LeO.ite ?_ ?_)
      | (with_reducible refine LeO.bind ?_ (fun _ => ?_))
      | exact ih0 _ _ _ _ _ _
      | exact ih1 _ _ _ _ _ _ _
      | exact recoupref06_List.mono _ _
      | exact recoupref07_bad.mono _ _ _ _ _
      | exact recoupref07_rank.mono _ _ _ _ _
      | exact LeO.none _
      | refine LeO.ite ?_ ?_
      | refine LeO.bind ?_ (fun _ => ?_)
def recoupref07_Circuit.T6 : Bool × List (List Nat × List Nat) := (true, [([], []), ([], []), ([], []), ([2], [2]), ([1, 3], [1, 3]), ([0, 4, 3], [0, 4]), ([], []), ([], []), ([6, 7, 5], [6, 7]), ([5, 8], [5, 8])])
def recoupref07_Circuit.B6 : List Nat := [0, 0, 0, 4, 14, 31, 0, 0, 255, 511]
theorem recoupref07_Circuit.tab6 : rtab .any (opsOf Tryd.f25 6) = recoupref07_Circuit.T6 := by kernel_rfl
theorem recoupref07_Circuit.bits6 : waitsOk recoupref07_Circuit.T6.2 recoupref07_Circuit.B6 = true := by kernel_rfl
def recoupref07_Circuit.T13 : Bool × List (List Nat × List Nat) := (true, [([], []), ([], []), ([0, 1], [0, 1]), ([2, 2], [2]), ([3], [3]), ([3], [3]), ([3], [3]), ([6, 3, 3], [3, 6]), ([5, 7, 3], [3, 5, 7]), ([4, 8, 7, 3], [3, 4, 8]), ([3], [3]), ([3], [3]), ([10, 11, 9, 3], [3, 10, 11]), ([9, 12, 3], [3, 9, 12]), ([3, 13], [3, 13])])
def recoupref07_Circuit.B13 : List Nat := [0, 0, 3, 7, 15, 15, 15, 79, 239, 511, 15, 15, 4095, 8191, 16383]
theorem recoupref07_Circuit.tab13 : rtab .any (opsOf Tryd.f25 13) = recoupref07_Circuit.T13 := by kernel_rfl
theorem recoupref07_Circuit.bits13 : waitsOk recoupref07_Circuit.T13.2 recoupref07_Circuit.B13 = true := by kernel_rfl
set_option maxHeartbeats 8000000 in
set_option maxRecDepth 100000 in
theorem recoupref07_Circuit.calls (k : Nat) (a0_0 : Int) (a0_1 : Int) (A0_2 : Option Addr) (c0_2 : Nat) (l0_2 : List Int) (a1 : Int) (a2 : Int) (r1 : Int) (r2 : Bool) (r3 : Int) (w : World) (hr0_2 : Kd.C (Kd.int .u8) w A0_2 l0_2.length l0_2) (hc0_2 : l0_2.length ≤ c0_2) (h : recoupref07_Circuit.f k a0_0 a0_1 l0_2 a1 a2 = some (r1, r2, r3)) :
    Calls Tryd.prog 25 #[.agg #[.int .i64 a0_0, .int .i64 a0_1, .slice A0_2 l0_2.length c0_2], .int .i64 a1, .int .u64 a2] w fun e w' => e = .returned (.tuple #[.int .u64 r1, .bool r2, .int .i64 r3]) ∧ Below w.heap.size w w' := by
  have hu24 := Tryd.underlying24
  have HR0_2 := Aside0.mk hr0_2
  have HC0_2 := Aside0.mk hc0_2
  clear hr0_2 hc0_2
  have HB := Aside0.mk (Below.refl w.heap.size w)
  have H : ((recoupref07_bad.f k a0_0 a0_1 l0_2 a2).bind fun t390 => (if t390 = 0 then (if a1 < 0 then (recoupref07_Circuit.j0 k a1 a2 true a0_0 a0_1 l0_2) else (if a1 ≥ a0_0 then (recoupref07_Circuit.j0 k a1 a2 true a0_0 a0_1 l0_2) else ((recoupref06_Has.f a2 a1).bind fun t391 => (if t391 = true then (recoupref07_Circuit.j0 k a1 a2 true a0_0 a0_1 l0_2) else ((recoupref07_rank.f k a0_0 a0_1 l0_2 a2).bind fun t392 => ((recoupref06_List.f k a2).bind fun t393 => (recoupref07_Circuit.j0 k a1 a2 (decide (t392 < (t393.length : Int))) a0_0 a0_1 l0_2))))))) else (some (0, false, t390)))) = some (r1, r2, r3) := h
  clear h
  obtain ⟨t390, A4, H⟩ := bindO H
  (try dsimp only at H)
  by_cases c5 : t390 = 0
  · rw [if_pos c5] at H
    have c5b0 : (t390 == 0) = true := beq_iff_eq.mpr c5
    have c5b1 : (t390 != 0) = false := bne_eq_false_iff_eq.mpr c5
    clear c5
    have HC6 := Aside0.mk H
    clear H
    go_enter Tryd.func25, Tryd.ntmps25
    go_upto_region 4 with (first | ((with_reducible refine gD 3 rfl ?_); (try (refine gate_guard (by rfl) ?_; dsimp only)); refine bE 3 #[.int .i64 a0_0, .int .i64 a0_1, .slice A0_2 l0_2.length c0_2] 24 ?_; intro gb389 hg w7 hbox hb; have BK389 := Aside0.mk (hbox); have GW389 := hbS HB hg; have GE389 := hbS HB hg; replace HB := hbB HB hb; clear hb hbox hg; obtain ⟨hcz8_0, hcz8_1, hcz8_2, hfz8_0, hfz8_1, hfz8_2⟩ := cell3 BK389) | ((with_reducible refine gC 35 rfl ?_); refine cG (some 15) Tryd.func35 #[.agg #[.int .i64 a0_0, .int .i64 a0_1, .slice A0_2 l0_2.length c0_2], .int .u64 a2] ?_; (with_reducible refine (recoupref07_bad.calls k a0_0 a0_1 _ _ l0_2 a2 t390 _ ?side1 ?side2 A4.out).mono ?_); (case side1 => exact kcB HR0_2 HB); (case side2 => exact HC0_2.out); rintro e w9 ⟨rfl, hb⟩; refine ⟨_, rfl, ?_⟩; replace BK389 := bkB BK389 hb; replace HB := hbB HB hb; (try clear hb); (try clear hb2); (try clear hk); (try clear hi)))
    (try simp only [Act.put, List.setIfInBounds_toArray, List.set_cons_zero, List.set_cons_succ])
    go_cut [40] (fun v40 wc => ∃ (kq : Nat) (x40_5 : Bool), v40 = .bool x40_5 ∧ Aside0 (recoupref07_Circuit.j0 kq a1 a2 x40_5 a0_0 a0_1 l0_2 = some (r1, r2, r3)) ∧ Aside0 (kq ≤ k) ∧ Aside0 (wc.heap[gb389]? = some (.cells #[.int .i64 a0_0, .int .i64 a0_1, (.slice A0_2 l0_2.length c0_2)] 24 (0, 0))) ∧ Aside0 (Below w.heap.size w wc))
    case first =>
      have H := HC6.out
      clear HC6
      by_cases c10 : a1 < 0
      · rw [if_pos c10] at H
        have c10b0 : decide (a1 < 0) = true := decide_eq_true c10
        clear c10
        (first | rw [c10b0] | (simp only [i64_w, i32_w]; rw [c10b0]) | skip)
        have H' := Aside0.mk H
        clear H
        go_wp2
        go_meet
        case rel => exact ⟨_, (true), rsE, H', ⟨leE⟩, ⟨bkA BK389.out⟩, ⟨hbA HB.out⟩⟩
      · rw [if_neg c10] at H
        have c10b0 : decide (a1 < 0) = false := decide_eq_false c10
        clear c10
        (first | rw [c10b0] | (simp only [i64_w, i32_w]; rw [c10b0]) | skip)
        by_cases c11 : a1 ≥ a0_0
        · rw [if_pos c11] at H
          have c11b0 : decide (a0_0 ≤ a1) = true := decide_eq_true c11
          clear c11
          have H' := Aside0.mk H
          clear H
          obtain ⟨hcz12_0, hcz12_1, hcz12_2, hfz12_0, hfz12_1, hfz12_2⟩ := cell3 BK389
          go_wp2
          go_meet
          case rel => exact ⟨_, (true), rsE, H', ⟨leE⟩, ⟨bkA BK389.out⟩, ⟨hbA HB.out⟩⟩
        · rw [if_neg c11] at H
          have c11b0 : decide (a0_0 ≤ a1) = false := decide_eq_false c11
          clear c11
          obtain ⟨t391, A13, H⟩ := bindO H
          (try dsimp only at H)
          by_cases c14 : t391 = true
          · subst c14
            rw [if_pos rfl] at H
            have H' := Aside0.mk H
            clear H
            obtain ⟨hcz15_0, hcz15_1, hcz15_2, hfz15_0, hfz15_1, hfz15_2⟩ := cell3 BK389
            go_wp2_with (first | (go_at_call 29; (with_reducible refine (recoupref06_Has.calls a2 a1 true _ A13.out).mono ?_); rintro e w' ⟨rfl, ⟨nd, rfl⟩⟩))
            go_meet
            case rel => exact ⟨_, (true), rsE, H', ⟨leE⟩, ⟨bkA BK389.out⟩, ⟨hbA HB.out⟩⟩
          · replace c14 := Bool.eq_false_iff.mpr c14
            subst c14
            rw [if_neg nofT] at H
            obtain ⟨t392, A16, H⟩ := bindO H
            (try dsimp only at H)
            obtain ⟨t393, A17, H⟩ := bindO H
            (try dsimp only at H)
            have H' := Aside0.mk H
            clear H
            obtain ⟨hcz18_0, hcz18_1, hcz18_2, hfz18_0, hfz18_1, hfz18_2⟩ := cell3 BK389
            go_wp2_with (first | (go_at_call 29; (with_reducible refine (recoupref06_Has.calls a2 a1 false _ A13.out).mono ?_); rintro e w' ⟨rfl, ⟨nd, rfl⟩⟩) | (go_at_call 36; (with_reducible refine (recoupref07_rank.calls k a0_0 a0_1 _ _ l0_2 a2 t392 _ ?side1 ?side2 A16.out).mono ?_); (case side1 => repeat (first | exact (Kd.C_below HR0_2.out (hbA HB.out)) | (with_reducible refine Kd.C_alloc ?_ _) | (with_reducible refine Kd.C_drewN ?_ _) | (with_reducible refine Kd.C_drew ?_))); (case side2 => exact HC0_2.out); rintro e w19 ⟨rfl, hb⟩; replace BK389 := bkB BK389 hb; replace HB := hbB HB hb; (try clear hb); (try clear hb2); (try clear hk); (try clear hi)) | (go_at_call 28; (with_reducible refine (recoupref06_List.calls k a2 t393 _ A17.out).mono ?_); rintro e w20 ⟨v394, rfl, ho0, hb⟩; have HO395 := Aside0.mk (Kd.R_lower ho0 (below_size (hbA HB.out))); replace BK389 := bkB BK389 hb; replace HB := hbB HB hb; (try clear hb); (try clear hb2); (try clear hk); (try clear hi); (try clear ho0); obtain ⟨Ao21, co21, eo21⟩ := Kd.R_slice HO395.out; subst eo21))
            go_meet
            case rel => exact ⟨_, (decide (t392 < (t393.length : Int))), rsE, H', ⟨leE⟩, ⟨bkA BK389.out⟩, ⟨hbA HB.out⟩⟩
    case rest =>
      clear HC6
      (try clear c1); (try clear c2); (try clear p2); (try clear c3); (try clear c5); (try clear c5b0); (try clear c5b1); (try clear c10); (try clear c10b0); (try clear c11); (try clear c11b0); (try clear c14); (try clear hcz12_0 hcz12_1 hcz12_2 hfz12_0 hfz12_1 hfz12_2); (try clear hcz15_0 hcz15_1 hcz15_2 hfz15_0 hfz15_1 hfz15_2); (try clear hcz18_0 hcz18_1 hcz18_2 hfz18_0 hfz18_1 hfz18_2); (try clear hcz8_0 hcz8_1 hcz8_2 hfz8_0 hfz8_1 hfz8_2)
      obtain ⟨kq, x40_5, rfl, HA, HJ5, BK389, HB⟩ := hcut
      cases kq with
      | zero => exact absurd HA.out (by simp [recoupref07_Circuit.j0])
      | succ kj5 =>
        have H := HA.out
        clear HA
        simp only [recoupref07_Circuit.j0] at H
        by_cases c22 : x40_5 = true
        · subst c22
          rw [if_pos rfl] at H
          simp only [Option.some.injEq, Prod.mk.injEq] at H
          obtain ⟨rfl, rfl, rfl⟩ := H
          go_wp2
          go_ret3
          exact ⟨rfE, hbA HB.out⟩
        · replace c22 := Bool.eq_false_iff.mpr c22
          subst c22
          rw [if_neg nofT] at H
          obtain ⟨t396, A23, H⟩ := bindO H
          (try dsimp only at H)
          obtain ⟨t397, A24, H⟩ := bindO H
          (try dsimp only at H)
          obtain ⟨t398, A25, H⟩ := bindO H
          (try dsimp only at H)
          by_cases c26 : t397 > t398
          · rw [if_pos c26] at H
            have c26b0 : decide (t398 < t397) = true := decide_eq_true c26
            clear c26
            simp only [Option.some.injEq, Prod.mk.injEq] at H
            obtain ⟨rfl, rfl, rfl⟩ := H
            try go_wp2
            replace BK389 := Aside0.mk (blk_drew BK389.out)
            replace HB := Aside0.mk (below_drew1 HB.out)
            refine start_ (n := 10) (S := fun w' => w'.cell? ⟨gb389, 0, none⟩ = some (.int .i64 a0_0) ∧ w'.cell? ⟨gb389, 1, none⟩ = some (.int .i64 a0_1) ∧ w'.cell? ⟨gb389, 2, none⟩ = some (.slice A0_2 l0_2.length c0_2)) (ds := []) (.replicate 10 false) (by kernel_rfl) rfl rfl ⟨(blk_cell BK389.out 0).trans rfl, (blk_cell BK389.out 1).trans rfl, (blk_cell BK389.out 2).trans rfl⟩ (fun hHeld => ?_); refine with_tabW recoupref07_Circuit.tab6 recoupref07_Circuit.bits6 (fun HT_ HW_ => ?_)
            generalize wc.drew = w27 at BK389 HB hHeld ⊢
            refine pu 1 (some 42) (mB 10 2) HT_ ?_
            refine pu 2 (some 43) (mB 10 6) HT_ ?_
            refine pu 7 (some 48) (mB 10 134) HT_ ?_
            refine tk3 0 (some 41) (mB 10 135) HT_ HW_ hHeld ?_
            refine tk3 6 (some 47) (mB 10 199) HT_ HW_ hHeld ?_
            refine one_ (i := 3) (N := some 44) (mB 10 207) rfl rfl (one_of HT_.out (by kernel_rfl)) (by decide) (fun K hK => ?_)
            refine goes_ Tryd.func39 (by kernel_rfl) rfl #[.int .i64 a1] (by rfl) rfl rfl (by (try simp only [List.map_toArray, List.map_cons, List.map_nil]); first | done | rfl | (simp only [List.length_drop, List.length_take]; rfl)) ?_
            with_reducible refine (recoupref07_one.calls a1 t396 _ A23.out).mono ?_
            rintro e w' ⟨rfl, ⟨nd, rfl⟩⟩
            refine ⟨_, rfl, ?_⟩
            refine hK.out _ _ ⟨(blk_cell BK389.out 0).trans rfl, (blk_cell BK389.out 1).trans rfl, (blk_cell BK389.out 2).trans rfl⟩ (fun hHeld => ?_)
            clear hK K
            refine norm_ (a' := ?_) ?_ ?_
            rotate_left
            · show Act.put _ (some 44) _ = _
              simp only [Act.put, List.setIfInBounds_toArray, List.set_cons_zero, List.set_cons_succ, i64_w, i32_w]
              rfl
            refine pu 4 (some 45) (mB 10 223) HT_ ?_
            refine one_ (i := 5) (N := some 46) (mB 10 255) rfl rfl (one_of HT_.out (by kernel_rfl)) (by decide) (fun K hK => ?_)
            refine goes_ Tryd.func36 (by kernel_rfl) rfl #[.agg #[.int .i64 a0_0, .int .i64 a0_1, .slice A0_2 l0_2.length c0_2], .int .u64 (Go.bits .or .u64 a2 t396)] (by rfl) rfl rfl (by (try simp only [List.map_toArray, List.map_cons, List.map_nil]); first | done | rfl | (simp only [List.length_drop, List.length_take]; rfl)) ?_
            with_reducible refine (recoupref07_rank.calls kj5 a0_0 a0_1 _ _ l0_2 (Go.bits .or .u64 a2 t396) t397 _ ?side1 ?side2 A24.out).mono ?_
            (case side1 => repeat (first | exact (Kd.C_below HR0_2.out (hbA HB.out)) | (with_reducible refine Kd.C_alloc ?_ _) | (with_reducible refine Kd.C_drewN ?_ _) | (with_reducible refine Kd.C_drew ?_)))
            (case side2 => exact HC0_2.out)
            rintro e w28 ⟨rfl, hb⟩
            refine ⟨_, rfl, ?_⟩
            replace BK389 := bkB BK389 hb
            replace HB := hbB HB hb
            (try clear hb)
            (try clear hb2)
            (try clear hk)
            (try clear hi)
            refine hK.out _ _ ⟨(blk_cell BK389.out 0).trans rfl, (blk_cell BK389.out 1).trans rfl, (blk_cell BK389.out 2).trans rfl⟩ (fun hHeld => ?_)
            clear hK K
            refine norm_ (a' := ?_) ?_ ?_
            rotate_left
            · show Act.put _ (some 46) _ = _
              simp only [Act.put, List.setIfInBounds_toArray, List.set_cons_zero, List.set_cons_succ, i64_w, i32_w]
              rfl
            refine one_ (i := 8) (N := some 49) (mB 10 511) rfl rfl (one_of HT_.out (by kernel_rfl)) (by decide) (fun K hK => ?_)
            refine goes_ Tryd.func36 (by kernel_rfl) rfl #[.agg #[.int .i64 a0_0, .int .i64 a0_1, .slice A0_2 l0_2.length c0_2], .int .u64 a2] (by rfl) rfl rfl (by (try simp only [List.map_toArray, List.map_cons, List.map_nil]); first | done | rfl | (simp only [List.length_drop, List.length_take]; rfl)) ?_
            with_reducible refine (recoupref07_rank.calls kj5 a0_0 a0_1 _ _ l0_2 a2 t398 _ ?side1 ?side2 A25.out).mono ?_
            (case side1 => exact kcB HR0_2 HB)
            (case side2 => exact HC0_2.out)
            rintro e w29 ⟨rfl, hb⟩
            refine ⟨_, rfl, ?_⟩
            replace BK389 := bkB BK389 hb
            replace HB := hbB HB hb
            (try clear hb)
            (try clear hb2)
            (try clear hk)
            (try clear hi)
            refine hK.out _ _ ⟨(blk_cell BK389.out 0).trans rfl, (blk_cell BK389.out 1).trans rfl, (blk_cell BK389.out 2).trans rfl⟩ (fun hHeld => ?_)
            clear hK K
            refine norm_ (a' := ?_) ?_ ?_
            rotate_left
            · show Act.put _ (some 49) _ = _
              simp only [Act.put, List.setIfInBounds_toArray, List.set_cons_zero, List.set_cons_succ, i64_w, i32_w]
              rfl
            refine pu 9 (some 50) (mB 10 1023) HT_ ?_
            refine done_ (done_of HT_.out (by kernel_rfl)) ?_
            try go_wp2
            go_ret3
            exact ⟨rfE, hbA HB.out⟩
          · rw [if_neg c26] at H
            have c26b0 : decide (t398 < t397) = false := decide_eq_false c26
            clear c26
            obtain ⟨t399, A30, H⟩ := bindO H
            (try dsimp only at H)
            have H' := Aside0.mk H
            clear H
            try go_wp2
            replace BK389 := Aside0.mk (blk_drew BK389.out)
            replace HB := Aside0.mk (below_drew1 HB.out)
            refine start_ (n := 10) (S := fun w' => w'.cell? ⟨gb389, 0, none⟩ = some (.int .i64 a0_0) ∧ w'.cell? ⟨gb389, 1, none⟩ = some (.int .i64 a0_1) ∧ w'.cell? ⟨gb389, 2, none⟩ = some (.slice A0_2 l0_2.length c0_2)) (ds := []) (.replicate 10 false) (by kernel_rfl) rfl rfl ⟨(blk_cell BK389.out 0).trans rfl, (blk_cell BK389.out 1).trans rfl, (blk_cell BK389.out 2).trans rfl⟩ (fun hHeld => ?_); refine with_tabW recoupref07_Circuit.tab6 recoupref07_Circuit.bits6 (fun HT_ HW_ => ?_)
            generalize wc.drew = w31 at BK389 HB hHeld ⊢
            refine pu 1 (some 42) (mB 10 2) HT_ ?_
            refine pu 2 (some 43) (mB 10 6) HT_ ?_
            refine pu 7 (some 48) (mB 10 134) HT_ ?_
            refine tk3 0 (some 41) (mB 10 135) HT_ HW_ hHeld ?_
            refine tk3 6 (some 47) (mB 10 199) HT_ HW_ hHeld ?_
            refine one_ (i := 3) (N := some 44) (mB 10 207) rfl rfl (one_of HT_.out (by kernel_rfl)) (by decide) (fun K hK => ?_)
            refine goes_ Tryd.func39 (by kernel_rfl) rfl #[.int .i64 a1] (by rfl) rfl rfl (by (try simp only [List.map_toArray, List.map_cons, List.map_nil]); first | done | rfl | (simp only [List.length_drop, List.length_take]; rfl)) ?_
            with_reducible refine (recoupref07_one.calls a1 t396 _ A23.out).mono ?_
            rintro e w' ⟨rfl, ⟨nd, rfl⟩⟩
            refine ⟨_, rfl, ?_⟩
            refine hK.out _ _ ⟨(blk_cell BK389.out 0).trans rfl, (blk_cell BK389.out 1).trans rfl, (blk_cell BK389.out 2).trans rfl⟩ (fun hHeld => ?_)
            clear hK K
            refine norm_ (a' := ?_) ?_ ?_
            rotate_left
            · show Act.put _ (some 44) _ = _
              simp only [Act.put, List.setIfInBounds_toArray, List.set_cons_zero, List.set_cons_succ, i64_w, i32_w]
              rfl
            refine pu 4 (some 45) (mB 10 223) HT_ ?_
            refine one_ (i := 5) (N := some 46) (mB 10 255) rfl rfl (one_of HT_.out (by kernel_rfl)) (by decide) (fun K hK => ?_)
            refine goes_ Tryd.func36 (by kernel_rfl) rfl #[.agg #[.int .i64 a0_0, .int .i64 a0_1, .slice A0_2 l0_2.length c0_2], .int .u64 (Go.bits .or .u64 a2 t396)] (by rfl) rfl rfl (by (try simp only [List.map_toArray, List.map_cons, List.map_nil]); first | done | rfl | (simp only [List.length_drop, List.length_take]; rfl)) ?_
            with_reducible refine (recoupref07_rank.calls kj5 a0_0 a0_1 _ _ l0_2 (Go.bits .or .u64 a2 t396) t397 _ ?side1 ?side2 A24.out).mono ?_
            (case side1 => repeat (first | exact (Kd.C_below HR0_2.out (hbA HB.out)) | (with_reducible refine Kd.C_alloc ?_ _) | (with_reducible refine Kd.C_drewN ?_ _) | (with_reducible refine Kd.C_drew ?_)))
            (case side2 => exact HC0_2.out)
            rintro e w32 ⟨rfl, hb⟩
            refine ⟨_, rfl, ?_⟩
            replace BK389 := bkB BK389 hb
            replace HB := hbB HB hb
            (try clear hb)
            (try clear hb2)
            (try clear hk)
            (try clear hi)
            refine hK.out _ _ ⟨(blk_cell BK389.out 0).trans rfl, (blk_cell BK389.out 1).trans rfl, (blk_cell BK389.out 2).trans rfl⟩ (fun hHeld => ?_)
            clear hK K
            refine norm_ (a' := ?_) ?_ ?_
            rotate_left
            · show Act.put _ (some 46) _ = _
              simp only [Act.put, List.setIfInBounds_toArray, List.set_cons_zero, List.set_cons_succ, i64_w, i32_w]
              rfl
            refine one_ (i := 8) (N := some 49) (mB 10 511) rfl rfl (one_of HT_.out (by kernel_rfl)) (by decide) (fun K hK => ?_)
            refine goes_ Tryd.func36 (by kernel_rfl) rfl #[.agg #[.int .i64 a0_0, .int .i64 a0_1, .slice A0_2 l0_2.length c0_2], .int .u64 a2] (by rfl) rfl rfl (by (try simp only [List.map_toArray, List.map_cons, List.map_nil]); first | done | rfl | (simp only [List.length_drop, List.length_take]; rfl)) ?_
            with_reducible refine (recoupref07_rank.calls kj5 a0_0 a0_1 _ _ l0_2 a2 t398 _ ?side1 ?side2 A25.out).mono ?_
            (case side1 => exact kcB HR0_2 HB)
            (case side2 => exact HC0_2.out)
            rintro e w33 ⟨rfl, hb⟩
            refine ⟨_, rfl, ?_⟩
            replace BK389 := bkB BK389 hb
            replace HB := hbB HB hb
            (try clear hb)
            (try clear hb2)
            (try clear hk)
            (try clear hi)
            refine hK.out _ _ ⟨(blk_cell BK389.out 0).trans rfl, (blk_cell BK389.out 1).trans rfl, (blk_cell BK389.out 2).trans rfl⟩ (fun hHeld => ?_)
            clear hK K
            refine norm_ (a' := ?_) ?_ ?_
            rotate_left
            · show Act.put _ (some 49) _ = _
              simp only [Act.put, List.setIfInBounds_toArray, List.set_cons_zero, List.set_cons_succ, i64_w, i32_w]
              rfl
            refine pu 9 (some 50) (mB 10 1023) HT_ ?_
            refine done_ (done_of HT_.out (by kernel_rfl)) ?_
            try go_wp2_with (first | ((with_reducible refine gC 39 rfl ?_); refine cG (some 52) Tryd.func39 #[.int .i64 a1] ?_; (with_reducible refine (recoupref07_one.calls a1 t399 _ A30.out).mono ?_); rintro e w' ⟨rfl, ⟨nd, rfl⟩⟩; refine ⟨_, rfl, ?_⟩))
            go_loopg [10, 11] kj5 (fun kq v10 v11 w' => ∃ (x10_2 : Int) (x11_2 : Int), v10 = .int .u64 x10_2 ∧ v11 = .int .i64 x11_2 ∧ Aside0 (recoupref07_Circuit.l0 kq a1 a2 x10_2 x11_2 a0_0 a0_1 l0_2 = some (r1, r2, r3)) ∧ Aside0 (kq ≤ kj5) ∧ Aside0 (w'.heap[gb389]? = some (.cells #[.int .i64 a0_0, .int .i64 a0_1, (.slice A0_2 l0_2.length c0_2)] 24 (0, 0))) ∧ Aside0 (Below w.heap.size w w'))
            case atStart => exact ⟨(t399), (0), rsE, rsE, H', ⟨Nat.le_refl _⟩, ⟨bkA BK389.out⟩, ⟨hbA HB.out⟩⟩
            case round =>
              clear H'
              (try clear c1); (try clear c2); (try clear p2 p2); (try clear c3); (try clear c5); (try clear c5b0); (try clear c5b1); (try clear c10); (try clear c10b0); (try clear c11); (try clear c11b0); (try clear c14); (try clear c22); (try clear c25); (try clear c26); (try clear c26b0); (try clear hcz12_0 hcz12_1 hcz12_2 hfz12_0 hfz12_1 hfz12_2); (try clear hcz15_0 hcz15_1 hcz15_2 hfz15_0 hfz15_1 hfz15_2); (try clear hcz18_0 hcz18_1 hcz18_2 hfz18_0 hfz18_1 hfz18_2); (try clear hcz8_0 hcz8_1 hcz8_2 hfz8_0 hfz8_1 hfz8_2)
              obtain ⟨x10_2, x11_2, rfl, rfl, HA, HK2, BK389, HB⟩ := hrel
              cases gk with
              | zero => exact absurd HA.out (by simp [recoupref07_Circuit.l0])
              | succ k2 =>
                have H := HA.out
                clear HA
                simp only [recoupref07_Circuit.l0] at H
                by_cases c34 : x11_2 < a0_0
                · rw [if_pos c34] at H
                  have c34b0 : decide (x11_2 < a0_0) = true := decide_eq_true c34
                  clear c34
                  obtain ⟨t400, A35, H⟩ := bindO H
                  (try dsimp only at H)
                  obtain ⟨t401, A36, H⟩ := bindO H
                  (try dsimp only at H)
                  by_cases c37 : t401 = true
                  · subst c37
                    rw [if_pos rfl] at H
                    obtain ⟨t402, A38, H⟩ := bindO H
                    (try dsimp only at H)
                    obtain ⟨t403, A39, H⟩ := bindO H
                    (try dsimp only at H)
                    obtain ⟨t404, A40, H⟩ := bindO H
                    (try dsimp only at H)
                    by_cases c41 : t403 > t404
                    · rw [if_pos c41] at H
                      have c41b0 : decide (t404 < t403) = true := decide_eq_true c41
                      clear c41
                      obtain ⟨t405, A42, H⟩ := bindO H
                      (try dsimp only at H)
                      have H' := Aside0.mk H
                      clear H
                      obtain ⟨hcz43_0, hcz43_1, hcz43_2, hfz43_0, hfz43_1, hfz43_2⟩ := cell3 BK389
                      try go_wp2_with (first | ((with_reducible refine gC 39 rfl ?_); refine cG (some 61) Tryd.func39 #[.int .i64 x11_2] ?_; (with_reducible refine (recoupref07_one.calls x11_2 t400 _ A35.out).mono ?_); rintro e w' ⟨rfl, ⟨nd, rfl⟩⟩; refine ⟨_, rfl, ?_⟩))
                      (try (rw [drewN_self wr]; generalize hq_ : World.drewN wr _ = wr; have n0_ : Aside0 (wr.heap[gb389]? = some (.cells #[.int .i64 a0_0, .int .i64 a0_1, .slice A0_2 l0_2.length c0_2] 24 (0, 0))) := ⟨by rw [← hq_]; exact (bkA BK389.out)⟩; have n1_ : Aside0 (Below w.heap.size w wr) := ⟨by rw [← hq_]; exact (hbA HB.out)⟩; clear BK389 HB hq_; have BK389 := n0_; have HB := n1_; clear n0_ n1_))
                      replace BK389 := Aside0.mk (blk_drew BK389.out)
                      replace HB := Aside0.mk (below_drew1 HB.out)
                      refine start_ (n := 15) (S := fun w' => w'.cell? ⟨gb389, 0, none⟩ = some (.int .i64 a0_0) ∧ w'.cell? ⟨gb389, 1, none⟩ = some (.int .i64 a0_1) ∧ w'.cell? ⟨gb389, 2, none⟩ = some (.slice A0_2 l0_2.length c0_2)) (ds := []) (.replicate 15 false) (by kernel_rfl) rfl rfl ⟨(blk_cell BK389.out 0).trans rfl, (blk_cell BK389.out 1).trans rfl, (blk_cell BK389.out 2).trans rfl⟩ (fun hHeld => ?_); refine with_tabW recoupref07_Circuit.tab13 recoupref07_Circuit.bits13 (fun HT_ HW_ => ?_)
                      generalize wr.drew = w44 at BK389 HB hHeld ⊢
                      refine pu 0 (some 63) (mB 15 1) HT_ ?_
                      refine pu 1 (some 64) (mB 15 3) HT_ ?_
                      refine one_ (i := 2) (N := some 65) (mB 15 7) rfl rfl (one_of HT_.out (by kernel_rfl)) (by decide) (fun K hK => ?_)
                      refine goes_ Tryd.func29 (by kernel_rfl) rfl #[.int .u64 a2, .int .i64 x11_2] (by rfl) rfl rfl (by (try simp only [List.map_toArray, List.map_cons, List.map_nil]); first | done | rfl | (simp only [List.length_drop, List.length_take]; rfl)) ?_
                      with_reducible refine (recoupref06_Has.calls a2 x11_2 true _ A36.out).mono ?_
                      rintro e w' ⟨rfl, ⟨nd, rfl⟩⟩
                      refine ⟨_, rfl, ?_⟩
                      refine hK.out _ _ ⟨(blk_cell BK389.out 0).trans rfl, (blk_cell BK389.out 1).trans rfl, (blk_cell BK389.out 2).trans rfl⟩ (fun hHeld => ?_)
                      clear hK K
                      refine norm_ (a' := ?_) ?_ ?_
                      rotate_left
                      · show Act.put _ (some 65) _ = _
                        simp only [Act.put, List.setIfInBounds_toArray, List.set_cons_zero, List.set_cons_succ, i64_w, i32_w]
                        rfl
                      refine pu 3 (some 66) (mB 15 15) HT_ ?_
                      refine pu 5 (some 68) (mB 15 47) HT_ ?_
                      refine pu 6 (some 69) (mB 15 111) HT_ ?_
                      refine pu 11 (some 74) (mB 15 2159) HT_ ?_
                      refine tk3 4 (some 67) (mB 15 2175) HT_ HW_ hHeld ?_
                      refine tk3 10 (some 73) (mB 15 3199) HT_ HW_ hHeld ?_
                      refine one_ (i := 7) (N := some 70) (mB 15 3327) rfl rfl (one_of HT_.out (by kernel_rfl)) (by decide) (fun K hK => ?_)
                      refine goes_ Tryd.func39 (by kernel_rfl) rfl #[.int .i64 a1] (by rfl) rfl rfl (by (try simp only [List.map_toArray, List.map_cons, List.map_nil]); first | done | rfl | (simp only [List.length_drop, List.length_take]; rfl)) ?_
                      with_reducible refine (recoupref07_one.calls a1 t402 _ A38.out).mono ?_
                      rintro e w' ⟨rfl, ⟨nd, rfl⟩⟩
                      refine ⟨_, rfl, ?_⟩
                      refine hK.out _ _ ⟨(blk_cell BK389.out 0).trans rfl, (blk_cell BK389.out 1).trans rfl, (blk_cell BK389.out 2).trans rfl⟩ (fun hHeld => ?_)
                      clear hK K
                      refine norm_ (a' := ?_) ?_ ?_
                      rotate_left
                      · show Act.put _ (some 70) _ = _
                        simp only [Act.put, List.setIfInBounds_toArray, List.set_cons_zero, List.set_cons_succ, i64_w, i32_w]
                        rfl
                      refine pu 8 (some 71) (mB 15 3583) HT_ ?_
                      refine one_ (i := 9) (N := some 72) (mB 15 4095) rfl rfl (one_of HT_.out (by kernel_rfl)) (by decide) (fun K hK => ?_)
                      refine goes_ Tryd.func36 (by kernel_rfl) rfl #[.agg #[.int .i64 a0_0, .int .i64 a0_1, .slice A0_2 l0_2.length c0_2], .int .u64 (Go.bits .or .u64 (Go.bits .andNot .u64 a2 t400) t402)] (by rfl) rfl rfl (by (try simp only [List.map_toArray, List.map_cons, List.map_nil]); first | done | rfl | (simp only [List.length_drop, List.length_take]; rfl)) ?_
                      with_reducible refine (recoupref07_rank.calls k2 a0_0 a0_1 _ _ l0_2 (Go.bits .or .u64 (Go.bits .andNot .u64 a2 t400) t402) t403 _ ?side1 ?side2 A39.out).mono ?_
                      (case side1 => repeat (first | exact (Kd.C_below HR0_2.out (hbA HB.out)) | (with_reducible refine Kd.C_alloc ?_ _) | (with_reducible refine Kd.C_drewN ?_ _) | (with_reducible refine Kd.C_drew ?_)))
                      (case side2 => exact HC0_2.out)
                      rintro e w45 ⟨rfl, hb⟩
                      refine ⟨_, rfl, ?_⟩
                      replace BK389 := bkB BK389 hb
                      replace HB := hbB HB hb
                      (try clear hb)
                      (try clear hb2)
                      (try clear hk)
                      (try clear hi)
                      refine hK.out _ _ ⟨(blk_cell BK389.out 0).trans rfl, (blk_cell BK389.out 1).trans rfl, (blk_cell BK389.out 2).trans rfl⟩ (fun hHeld => ?_)
                      clear hK K
                      refine norm_ (a' := ?_) ?_ ?_
                      rotate_left
                      · show Act.put _ (some 72) _ = _
                        simp only [Act.put, List.setIfInBounds_toArray, List.set_cons_zero, List.set_cons_succ, i64_w, i32_w]
                        rfl
                      refine one_ (i := 12) (N := some 75) (mB 15 8191) rfl rfl (one_of HT_.out (by kernel_rfl)) (by decide) (fun K hK => ?_)
                      refine goes_ Tryd.func36 (by kernel_rfl) rfl #[.agg #[.int .i64 a0_0, .int .i64 a0_1, .slice A0_2 l0_2.length c0_2], .int .u64 (Go.bits .andNot .u64 a2 t400)] (by rfl) rfl rfl (by (try simp only [List.map_toArray, List.map_cons, List.map_nil]); first | done | rfl | (simp only [List.length_drop, List.length_take]; rfl)) ?_
                      with_reducible refine (recoupref07_rank.calls k2 a0_0 a0_1 _ _ l0_2 (Go.bits .andNot .u64 a2 t400) t404 _ ?side1 ?side2 A40.out).mono ?_
                      (case side1 => exact kcB HR0_2 HB)
                      (case side2 => exact HC0_2.out)
                      rintro e w46 ⟨rfl, hb⟩
                      refine ⟨_, rfl, ?_⟩
                      replace BK389 := bkB BK389 hb
                      replace HB := hbB HB hb
                      (try clear hb)
                      (try clear hb2)
                      (try clear hk)
                      (try clear hi)
                      refine hK.out _ _ ⟨(blk_cell BK389.out 0).trans rfl, (blk_cell BK389.out 1).trans rfl, (blk_cell BK389.out 2).trans rfl⟩ (fun hHeld => ?_)
                      clear hK K
                      refine norm_ (a' := ?_) ?_ ?_
                      rotate_left
                      · show Act.put _ (some 75) _ = _
                        simp only [Act.put, List.setIfInBounds_toArray, List.set_cons_zero, List.set_cons_succ, i64_w, i32_w]
                        rfl
                      refine pu 13 (some 76) (mB 15 16383) HT_ ?_
                      refine pu 14 (some 77) (mB 15 32767) HT_ ?_
                      refine done_ (done_of HT_.out (by kernel_rfl)) ?_
                      try go_wp2_with (first | ((with_reducible refine gC 39 rfl ?_); refine cG (some 80) Tryd.func39 #[.int .i64 x11_2] ?_; (with_reducible refine (recoupref07_one.calls x11_2 t405 _ A42.out).mono ?_); rintro e w' ⟨rfl, ⟨nd, rfl⟩⟩; refine ⟨_, rfl, ?_⟩))
                      go_roundg k2
                      case measure => have := HJ5.out; have := HK2.out; omega
                      case rel => exact ⟨(Go.bits .or .u64 x10_2 t405), (wrap64 (x11_2 + 1)), rsE, rsE, H', ⟨by have := HJ5.out; have := HK2.out; omega⟩, ⟨bkA BK389.out⟩, ⟨hbA HB.out⟩⟩
                    · rw [if_neg c41] at H
                      have c41b0 : decide (t404 < t403) = false := decide_eq_false c41
                      clear c41
                      have H' := Aside0.mk H
                      clear H
                      obtain ⟨hcz47_0, hcz47_1, hcz47_2, hfz47_0, hfz47_1, hfz47_2⟩ := cell3 BK389
                      try go_wp2_with (first | ((with_reducible refine gC 39 rfl ?_); refine cG (some 61) Tryd.func39 #[.int .i64 x11_2] ?_; (with_reducible refine (recoupref07_one.calls x11_2 t400 _ A35.out).mono ?_); rintro e w' ⟨rfl, ⟨nd, rfl⟩⟩; refine ⟨_, rfl, ?_⟩))
                      (try (rw [drewN_self wr]; generalize hq_ : World.drewN wr _ = wr; have n0_ : Aside0 (wr.heap[gb389]? = some (.cells #[.int .i64 a0_0, .int .i64 a0_1, .slice A0_2 l0_2.length c0_2] 24 (0, 0))) := ⟨by rw [← hq_]; exact (bkA BK389.out)⟩; have n1_ : Aside0 (Below w.heap.size w wr) := ⟨by rw [← hq_]; exact (hbA HB.out)⟩; clear BK389 HB hq_; have BK389 := n0_; have HB := n1_; clear n0_ n1_))
                      replace BK389 := Aside0.mk (blk_drew BK389.out)
                      replace HB := Aside0.mk (below_drew1 HB.out)
                      refine start_ (n := 15) (S := fun w' => w'.cell? ⟨gb389, 0, none⟩ = some (.int .i64 a0_0) ∧ w'.cell? ⟨gb389, 1, none⟩ = some (.int .i64 a0_1) ∧ w'.cell? ⟨gb389, 2, none⟩ = some (.slice A0_2 l0_2.length c0_2)) (ds := []) (.replicate 15 false) (by kernel_rfl) rfl rfl ⟨(blk_cell BK389.out 0).trans rfl, (blk_cell BK389.out 1).trans rfl, (blk_cell BK389.out 2).trans rfl⟩ (fun hHeld => ?_); refine with_tabW recoupref07_Circuit.tab13 recoupref07_Circuit.bits13 (fun HT_ HW_ => ?_)
                      generalize wr.drew = w48 at BK389 HB hHeld ⊢
                      refine pu 0 (some 63) (mB 15 1) HT_ ?_
                      refine pu 1 (some 64) (mB 15 3) HT_ ?_
                      refine one_ (i := 2) (N := some 65) (mB 15 7) rfl rfl (one_of HT_.out (by kernel_rfl)) (by decide) (fun K hK => ?_)
                      refine goes_ Tryd.func29 (by kernel_rfl) rfl #[.int .u64 a2, .int .i64 x11_2] (by rfl) rfl rfl (by (try simp only [List.map_toArray, List.map_cons, List.map_nil]); first | done | rfl | (simp only [List.length_drop, List.length_take]; rfl)) ?_
                      with_reducible refine (recoupref06_Has.calls a2 x11_2 true _ A36.out).mono ?_
                      rintro e w' ⟨rfl, ⟨nd, rfl⟩⟩
                      refine ⟨_, rfl, ?_⟩
                      refine hK.out _ _ ⟨(blk_cell BK389.out 0).trans rfl, (blk_cell BK389.out 1).trans rfl, (blk_cell BK389.out 2).trans rfl⟩ (fun hHeld => ?_)
                      clear hK K
                      refine norm_ (a' := ?_) ?_ ?_
                      rotate_left
                      · show Act.put _ (some 65) _ = _
                        simp only [Act.put, List.setIfInBounds_toArray, List.set_cons_zero, List.set_cons_succ, i64_w, i32_w]
                        rfl
                      refine pu 3 (some 66) (mB 15 15) HT_ ?_
                      refine pu 5 (some 68) (mB 15 47) HT_ ?_
                      refine pu 6 (some 69) (mB 15 111) HT_ ?_
                      refine pu 11 (some 74) (mB 15 2159) HT_ ?_
                      refine tk3 4 (some 67) (mB 15 2175) HT_ HW_ hHeld ?_
                      refine tk3 10 (some 73) (mB 15 3199) HT_ HW_ hHeld ?_
                      refine one_ (i := 7) (N := some 70) (mB 15 3327) rfl rfl (one_of HT_.out (by kernel_rfl)) (by decide) (fun K hK => ?_)
                      refine goes_ Tryd.func39 (by kernel_rfl) rfl #[.int .i64 a1] (by rfl) rfl rfl (by (try simp only [List.map_toArray, List.map_cons, List.map_nil]); first | done | rfl | (simp only [List.length_drop, List.length_take]; rfl)) ?_
                      with_reducible refine (recoupref07_one.calls a1 t402 _ A38.out).mono ?_
                      rintro e w' ⟨rfl, ⟨nd, rfl⟩⟩
                      refine ⟨_, rfl, ?_⟩
                      refine hK.out _ _ ⟨(blk_cell BK389.out 0).trans rfl, (blk_cell BK389.out 1).trans rfl, (blk_cell BK389.out 2).trans rfl⟩ (fun hHeld => ?_)
                      clear hK K
                      refine norm_ (a' := ?_) ?_ ?_
                      rotate_left
                      · show Act.put _ (some 70) _ = _
                        simp only [Act.put, List.setIfInBounds_toArray, List.set_cons_zero, List.set_cons_succ, i64_w, i32_w]
                        rfl
                      refine pu 8 (some 71) (mB 15 3583) HT_ ?_
                      refine one_ (i := 9) (N := some 72) (mB 15 4095) rfl rfl (one_of HT_.out (by kernel_rfl)) (by decide) (fun K hK => ?_)
                      refine goes_ Tryd.func36 (by kernel_rfl) rfl #[.agg #[.int .i64 a0_0, .int .i64 a0_1, .slice A0_2 l0_2.length c0_2], .int .u64 (Go.bits .or .u64 (Go.bits .andNot .u64 a2 t400) t402)] (by rfl) rfl rfl (by (try simp only [List.map_toArray, List.map_cons, List.map_nil]); first | done | rfl | (simp only [List.length_drop, List.length_take]; rfl)) ?_
                      with_reducible refine (recoupref07_rank.calls k2 a0_0 a0_1 _ _ l0_2 (Go.bits .or .u64 (Go.bits .andNot .u64 a2 t400) t402) t403 _ ?side1 ?side2 A39.out).mono ?_
                      (case side1 => repeat (first | exact (Kd.C_below HR0_2.out (hbA HB.out)) | (with_reducible refine Kd.C_alloc ?_ _) | (with_reducible refine Kd.C_drewN ?_ _) | (with_reducible refine Kd.C_drew ?_)))
                      (case side2 => exact HC0_2.out)
                      rintro e w49 ⟨rfl, hb⟩
                      refine ⟨_, rfl, ?_⟩
                      replace BK389 := bkB BK389 hb
                      replace HB := hbB HB hb
                      (try clear hb)
                      (try clear hb2)
                      (try clear hk)
                      (try clear hi)
                      refine hK.out _ _ ⟨(blk_cell BK389.out 0).trans rfl, (blk_cell BK389.out 1).trans rfl, (blk_cell BK389.out 2).trans rfl⟩ (fun hHeld => ?_)
                      clear hK K
                      refine norm_ (a' := ?_) ?_ ?_
                      rotate_left
                      · show Act.put _ (some 72) _ = _
                        simp only [Act.put, List.setIfInBounds_toArray, List.set_cons_zero, List.set_cons_succ, i64_w, i32_w]
                        rfl
                      refine one_ (i := 12) (N := some 75) (mB 15 8191) rfl rfl (one_of HT_.out (by kernel_rfl)) (by decide) (fun K hK => ?_)
                      refine goes_ Tryd.func36 (by kernel_rfl) rfl #[.agg #[.int .i64 a0_0, .int .i64 a0_1, .slice A0_2 l0_2.length c0_2], .int .u64 (Go.bits .andNot .u64 a2 t400)] (by rfl) rfl rfl (by (try simp only [List.map_toArray, List.map_cons, List.map_nil]); first | done | rfl | (simp only [List.length_drop, List.length_take]; rfl)) ?_
                      with_reducible refine (recoupref07_rank.calls k2 a0_0 a0_1 _ _ l0_2 (Go.bits .andNot .u64 a2 t400) t404 _ ?side1 ?side2 A40.out).mono ?_
                      (case side1 => exact kcB HR0_2 HB)
                      (case side2 => exact HC0_2.out)
                      rintro e w50 ⟨rfl, hb⟩
                      refine ⟨_, rfl, ?_⟩
                      replace BK389 := bkB BK389 hb
                      replace HB := hbB HB hb
                      (try clear hb)
                      (try clear hb2)
                      (try clear hk)
                      (try clear hi)
                      refine hK.out _ _ ⟨(blk_cell BK389.out 0).trans rfl, (blk_cell BK389.out 1).trans rfl, (blk_cell BK389.out 2).trans rfl⟩ (fun hHeld => ?_)
                      clear hK K
                      refine norm_ (a' := ?_) ?_ ?_
                      rotate_left
                      · show Act.put _ (some 75) _ = _
                        simp only [Act.put, List.setIfInBounds_toArray, List.set_cons_zero, List.set_cons_succ, i64_w, i32_w]
                        rfl
                      refine pu 13 (some 76) (mB 15 16383) HT_ ?_
                      refine pu 14 (some 77) (mB 15 32767) HT_ ?_
                      refine done_ (done_of HT_.out (by kernel_rfl)) ?_
                      try go_wp2
                      go_roundg k2
                      case measure => have := HJ5.out; have := HK2.out; omega
                      case rel => exact ⟨(x10_2), (wrap64 (x11_2 + 1)), rsE, rsE, H', ⟨by have := HJ5.out; have := HK2.out; omega⟩, ⟨bkA BK389.out⟩, ⟨hbA HB.out⟩⟩
                  · replace c37 := Bool.eq_false_iff.mpr c37
                    subst c37
                    rw [if_neg nofT] at H
                    have H' := Aside0.mk H
                    clear H
                    obtain ⟨hcz51_0, hcz51_1, hcz51_2, hfz51_0, hfz51_1, hfz51_2⟩ := cell3 BK389
                    try go_wp2_with (first | ((with_reducible refine gC 39 rfl ?_); refine cG (some 61) Tryd.func39 #[.int .i64 x11_2] ?_; (with_reducible refine (recoupref07_one.calls x11_2 t400 _ A35.out).mono ?_); rintro e w' ⟨rfl, ⟨nd, rfl⟩⟩; refine ⟨_, rfl, ?_⟩))
                    (try (rw [drewN_self wr]; generalize hq_ : World.drewN wr _ = wr; have n0_ : Aside0 (wr.heap[gb389]? = some (.cells #[.int .i64 a0_0, .int .i64 a0_1, .slice A0_2 l0_2.length c0_2] 24 (0, 0))) := ⟨by rw [← hq_]; exact (bkA BK389.out)⟩; have n1_ : Aside0 (Below w.heap.size w wr) := ⟨by rw [← hq_]; exact (hbA HB.out)⟩; clear BK389 HB hq_; have BK389 := n0_; have HB := n1_; clear n0_ n1_))
                    replace BK389 := Aside0.mk (blk_drew BK389.out)
                    replace HB := Aside0.mk (below_drew1 HB.out)
                    refine start_ (n := 15) (S := fun w' => True) (ds := []) (.replicate 15 false) (by kernel_rfl) rfl rfl trivial (fun hHeld => ?_); refine with_tabW recoupref07_Circuit.tab13 recoupref07_Circuit.bits13 (fun HT_ HW_ => ?_)
                    generalize wr.drew = w52 at BK389 HB hHeld ⊢
                    refine pu 0 (some 63) (mB 15 1) HT_ ?_
                    refine pu 1 (some 64) (mB 15 3) HT_ ?_
                    refine one_ (i := 2) (N := some 65) (mB 15 7) rfl rfl (one_of HT_.out (by kernel_rfl)) (by decide) (fun K hK => ?_)
                    refine goes_ Tryd.func29 (by kernel_rfl) rfl #[.int .u64 a2, .int .i64 x11_2] (by rfl) rfl rfl (by (try simp only [List.map_toArray, List.map_cons, List.map_nil]); first | done | rfl | (simp only [List.length_drop, List.length_take]; rfl)) ?_
                    with_reducible refine (recoupref06_Has.calls a2 x11_2 false _ A36.out).mono ?_
                    rintro e w' ⟨rfl, ⟨nd, rfl⟩⟩
                    refine ⟨_, rfl, ?_⟩
                    refine hK.out _ _ trivial (fun hHeld => ?_)
                    clear hK K
                    refine norm_ (a' := ?_) ?_ ?_
                    rotate_left
                    · show Act.put _ (some 65) _ = _
                      simp only [Act.put, List.setIfInBounds_toArray, List.set_cons_zero, List.set_cons_succ, i64_w, i32_w]
                      rfl
                    refine pu 3 (some 66) (mB 15 15) HT_ ?_
                    refine pure_ (i := 4) (N := some 67) (v := undef) (a' := ?_) (mB 15 31) rfl rfl (any_of HT_.out (by kernel_rfl)) (fun _ _ _ h => h) (Or.inr ⟨by rfl, rfl⟩) ?_ ?_
                    rotate_left
                    · simp only [Act.put, List.setIfInBounds_toArray, List.set_cons_zero, List.set_cons_succ, i64_w, i32_w]
                      rfl
                    refine pure_ (i := 5) (N := some 68) (v := undef) (a' := ?_) (mB 15 63) rfl rfl (any_of HT_.out (by kernel_rfl)) (fun _ _ _ h => h) (Or.inr ⟨by rfl, rfl⟩) ?_ ?_
                    rotate_left
                    · simp only [Act.put, List.setIfInBounds_toArray, List.set_cons_zero, List.set_cons_succ, i64_w, i32_w]
                      rfl
                    refine pure_ (i := 6) (N := some 69) (v := undef) (a' := ?_) (mB 15 127) rfl rfl (any_of HT_.out (by kernel_rfl)) (fun _ _ _ h => h) (Or.inr ⟨by rfl, rfl⟩) ?_ ?_
                    rotate_left
                    · simp only [Act.put, List.setIfInBounds_toArray, List.set_cons_zero, List.set_cons_succ, i64_w, i32_w]
                      rfl
                    refine pure_ (i := 7) (N := some 70) (v := undef) (a' := ?_) (mB 15 255) rfl rfl (any_of HT_.out (by kernel_rfl)) (fun _ _ _ h => h) (Or.inr ⟨by rfl, rfl⟩) ?_ ?_
                    rotate_left
                    · simp only [Act.put, List.setIfInBounds_toArray, List.set_cons_zero, List.set_cons_succ, i64_w, i32_w]
                      rfl
                    refine pure_ (i := 8) (N := some 71) (v := undef) (a' := ?_) (mB 15 511) rfl rfl (any_of HT_.out (by kernel_rfl)) (fun _ _ _ h => h) (Or.inr ⟨by rfl, rfl⟩) ?_ ?_
                    rotate_left
                    · simp only [Act.put, List.setIfInBounds_toArray, List.set_cons_zero, List.set_cons_succ, i64_w, i32_w]
                      rfl
                    refine pure_ (i := 9) (N := some 72) (v := undef) (a' := ?_) (mB 15 1023) rfl rfl (any_of HT_.out (by kernel_rfl)) (fun _ _ _ h => h) (Or.inr ⟨by rfl, rfl⟩) ?_ ?_
                    rotate_left
                    · simp only [Act.put, List.setIfInBounds_toArray, List.set_cons_zero, List.set_cons_succ, i64_w, i32_w]
                      rfl
                    refine pure_ (i := 10) (N := some 73) (v := undef) (a' := ?_) (mB 15 2047) rfl rfl (any_of HT_.out (by kernel_rfl)) (fun _ _ _ h => h) (Or.inr ⟨by rfl, rfl⟩) ?_ ?_
                    rotate_left
                    · simp only [Act.put, List.setIfInBounds_toArray, List.set_cons_zero, List.set_cons_succ, i64_w, i32_w]
                      rfl
                    refine pure_ (i := 11) (N := some 74) (v := undef) (a' := ?_) (mB 15 4095) rfl rfl (any_of HT_.out (by kernel_rfl)) (fun _ _ _ h => h) (Or.inr ⟨by rfl, rfl⟩) ?_ ?_
                    rotate_left
                    · simp only [Act.put, List.setIfInBounds_toArray, List.set_cons_zero, List.set_cons_succ, i64_w, i32_w]
                      rfl
                    refine pure_ (i := 12) (N := some 75) (v := undef) (a' := ?_) (mB 15 8191) rfl rfl (any_of HT_.out (by kernel_rfl)) (fun _ _ _ h => h) (Or.inr ⟨by rfl, rfl⟩) ?_ ?_
                    rotate_left
                    · simp only [Act.put, List.setIfInBounds_toArray, List.set_cons_zero, List.set_cons_succ, i64_w, i32_w]
                      rfl
                    refine pure_ (i := 13) (N := some 76) (v := undef) (a' := ?_) (mB 15 16383) rfl rfl (any_of HT_.out (by kernel_rfl)) (fun _ _ _ h => h) (Or.inr ⟨by rfl, rfl⟩) ?_ ?_
                    rotate_left
                    · simp only [Act.put, List.setIfInBounds_toArray, List.set_cons_zero, List.set_cons_succ, i64_w, i32_w]
                      rfl
                    refine pu 14 (some 77) (mB 15 32767) HT_ ?_
                    refine done_ (done_of HT_.out (by kernel_rfl)) ?_
                    try go_wp2
                    go_roundg k2
                    case measure => have := HJ5.out; have := HK2.out; omega
                    case rel => exact ⟨(x10_2), (wrap64 (x11_2 + 1)), rsE, rsE, H', ⟨by have := HJ5.out; have := HK2.out; omega⟩, ⟨bkA BK389.out⟩, ⟨hbA HB.out⟩⟩
                · rw [if_neg c34] at H
                  have c34b0 : decide (x11_2 < a0_0) = false := decide_eq_false c34
                  clear c34
                  simp only [Option.some.injEq, Prod.mk.injEq] at H
                  obtain ⟨rfl, rfl, rfl⟩ := H
                  obtain ⟨hcz53_0, hcz53_1, hcz53_2, hfz53_0, hfz53_1, hfz53_2⟩ := cell3 BK389
                  go_wp2
                  go_ret3
                  exact ⟨rfE, hbA HB.out⟩
  · rw [if_neg c5] at H
    have c5b0 : (t390 == 0) = false := beq_eq_false_iff_ne.mpr c5
    have c5b1 : (t390 != 0) = true := bne_iff_ne.mpr c5
    simp only [Option.some.injEq, Prod.mk.injEq] at H
    obtain ⟨rfl, rfl, rfl⟩ := H
    go_enter Tryd.func25, Tryd.ntmps25
    go_wp2_with (first | ((with_reducible refine gD 3 rfl ?_); (try (refine gate_guard (by rfl) ?_; dsimp only)); refine bE 3 #[.int .i64 a0_0, .int .i64 a0_1, .slice A0_2 l0_2.length c0_2] 24 ?_; intro gb389 hg w54 hbox hb; have BK389 := Aside0.mk (hbox); have GW389 := hbS HB hg; have GE389 := hbS HB hg; replace HB := hbB HB hb; clear hb hbox hg; obtain ⟨hcz55_0, hcz55_1, hcz55_2, hfz55_0, hfz55_1, hfz55_2⟩ := cell3 BK389) | ((with_reducible refine gC 35 rfl ?_); refine cG (some 15) Tryd.func35 #[.agg #[.int .i64 a0_0, .int .i64 a0_1, .slice A0_2 l0_2.length c0_2], .int .u64 a2] ?_; (with_reducible refine (recoupref07_bad.calls k a0_0 a0_1 _ _ l0_2 a2 t390 _ ?side1 ?side2 A4.out).mono ?_); (case side1 => exact kcB HR0_2 HB); (case side2 => exact HC0_2.out); rintro e w56 ⟨rfl, hb⟩; refine ⟨_, rfl, ?_⟩; replace BK389 := bkB BK389 hb; replace HB := hbB HB hb; (try clear hb); (try clear hb2); (try clear hk); (try clear hi)))
    go_ret3
    exact ⟨rfE, hbA HB.out⟩

end Go.Proofs.YthjncmdlhmppiaaDoor.Q
