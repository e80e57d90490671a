/- Written by drive.py (a program of this repo, over the kit's print): each Go function named here answers what the Lean function beside it answers, wherever that one answers, in every world that meets the stated premises. -/
import Derived.Test.YthjncmdlhmppiaaDoorQx0
import Derived.Test.YthjncmdlhmppiaaDoorQx133
import Derived.Test.YthjncmdlhmppiaaDoorQx137
import Derived.Test.YthjncmdlhmppiaaDoorQx138
import Derived.Test.YthjncmdlhmppiaaDoorQx142
import Derived.Test.YthjncmdlhmppiaaDoorQx143
import Derived.Test.YthjncmdlhmppiaaDoorQx154
namespace Go.Proofs.YthjncmdlhmppiaaDoor.Q
open Go.RowKit Go.Proofs.YthjncmdlhmppiaaDoorW.PrintWords Go.Proofs.YthjncmdlhmppiaaDoorW.PrintLast Go.Proofs.YthjncmdlhmppiaaDoorW.PrintMore
attribute [local go_sem] max2_int min2_int max_two min_two max_three min_three max_four min_four   -- for this text's walks alone
set_option linter.unusedVariables false
set_option linter.unusedSimpArgs false

/-! ### matroid_Circuit: function 24 -/
mutual
def matroid_Circuit.j0 : Nat → Int → Int → Int → List Int → Bool → Option (Int × Bool × Int)
  | 0, _, _, _, _, _ => none
  | k + 1, x1, x2, x8, x12, x73 => if x73 = true then (some (0, false, x8)) else (if 0 ≤ x1 then ((subset_List.f k x2).bind fun t384 => (matroid_Circuit.l0 k (shl .u64 1 x1) x12 t384 (t384.length : Int) 0)) else (none))
def matroid_Circuit.l0 : Nat → Int → List Int → List Int → Int → Int → Option (Int × Bool × Int)
  | 0, _, _, _, _, _ => none
  | k + 1, x6, x12, x78, x79, x80 => if x80 < x79 then (if 0 ≤ x80 then (if x80 < (x78.length : Int) then (if x80 < (x12.length : Int) then (if (rd x12 x80) = 0 then (matroid_Circuit.l0 k x6 x12 x78 x79 (wrap64 (x80 + 1))) else (if 0 ≤ (rd x78 x80) then (matroid_Circuit.l0 k (Go.bits .or .u64 x6 (shl .u64 1 (rd x78 x80))) x12 x78 x79 (wrap64 (x80 + 1))) else (none))) else (none)) else (none)) else (none)) else (some (x6, true, 0))
end
def matroid_Circuit.f (k : Nat) (a0_0 : Int) (a0_1 : Int) (l0_2 : List Int) (a1 : Int) (a2 : Int) : Option (Int × Bool × Int) := (matroid_Free.f k a0_0 a0_1 l0_2 a2).bind fun bt365 => (if bt365.2 = 0 then (if a1 < 0 then (some (0, false, 2)) else (if a1 ≥ a0_0 then (some (0, false, 2)) else ((subset_Has.f a2 a1).bind fun t367 => (if t367 = true then (some (0, false, 2)) else (if bt365.1 = true then ((matroid_pick.f k a0_0 a0_1 l0_2 a2).bind fun bt368 => (if bt368.2.2.2 = 0 then ((matrix_Row.f a0_0 a0_1 l0_2 a1).bind fun bt375 => (if bt375.2 = 0 then ((gauss_Combine.f k bt368.1 bt368.2.1 bt368.2.2.1 bt375.1).bind fun bt379 => (if bt379.2.2 = 0 then (matroid_Circuit.j0 k a1 a2 bt379.2.2 bt379.1 (!bt379.2.1)) else (matroid_Circuit.j0 k a1 a2 bt379.2.2 bt379.1 true))) else (some (0, false, bt375.2)))) else (some (0, false, bt368.2.2.2)))) else (some (0, false, 2))))))) else (some (0, false, bt365.2)))
theorem matroid_Circuit.mono_l : ∀ k, (∀ y0 y1 y2 y3 y4, LeO (matroid_Circuit.j0 k y0 y1 y2 y3 y4) (matroid_Circuit.j0 (k + 1) y0 y1 y2 y3 y4)) ∧ (∀ y0 y1 y2 y3 y4, LeO (matroid_Circuit.l0 k y0 y1 y2 y3 y4) (matroid_Circuit.l0 (k + 1) y0 y1 y2 y3 y4))
  | 0 => ⟨fun _ _ _ _ _ r h => by simp [matroid_Circuit.j0] at h, fun _ _ _ _ _ r h => by simp [matroid_Circuit.l0] at h⟩
  | k + 1 => by
    obtain ⟨ih0, ih1⟩ := matroid_Circuit.mono_l k
    refine ⟨?_, ?_⟩
    all_goals (intros; first | unfold matroid_Circuit.j0 | unfold matroid_Circuit.l0)
    all_goals repeat' first | (with_reducible exact ih0 _ _ _ _ _) | (with_reducible exact ih1 _ _ _ _ _) | (with_reducible exact gauss_Combine.mono _ _ _ _ _) | (with_reducible exact matroid_Free.mono _ _ _ _ _) | (with_reducible exact matroid_pick.mono _ _ _ _ _) | (with_reducible exact subset_List.mono _ _) | (with_reducible exact LeO.refl _) | (with_reducible exact LeO.none _) | (with_reducible refine LeO.ite ?_ ?_) | (with_reducible refine LeO.bind ?_ (fun _ => ?_)) | exact ih0 _ _ _ _ _ | exact ih1 _ _ _ _ _ | exact gauss_Combine.mono _ _ _ _ _ | exact matroid_Free.mono _ _ _ _ _ | exact matroid_pick.mono _ _ _ _ _ | exact subset_List.mono _ _ | exact LeO.none _ | refine LeO.ite ?_ ?_ | refine LeO.bind ?_ (fun _ => ?_)
theorem matroid_Circuit.mono : ∀ a0 a1 a2 a3 a4 k, LeO (matroid_Circuit.f k a0 a1 a2 a3 a4) (matroid_Circuit.f (k + 1) a0 a1 a2 a3 a4) := by
  intro a0 a1 a2 a3 a4 k
  obtain ⟨ih0, ih1⟩ := matroid_Circuit.mono_l k
  unfold matroid_Circuit.f
  repeat' first
      | (with_reducible exact ih0 _ _ _ _ _)
      | (with_reducible exact ih1 _ _ _ _ _)
      | (with_reducible exact gauss_Combine.mono _ _ _ _ _)
      | (with_reducible exact matroid_Free.mono _ _ _ _ _)
      | (with_reducible exact matroid_pick.mono _ _ _ _ _)
      | (with_reducible exact subset_List.mono _ _)
      | (with_reducible exact LeO.refl _)
      | (with_reducible exact LeO.none _)
      | (with_reducible refine LeO.ite ?_ ?_)
      | (with_reducible refine LeO.bind ?_ (fun _ => ?_))
      | exact ih0 _ _ _ _ _
      | exact ih1 _ _ _ _ _
      | exact gauss_Combine.mono _ _ _ _ _
      | exact matroid_Free.mono _ _ _ _ _
      | exact matroid_pick.mono _ _ _ _ _
      | exact subset_List.mono _ _
      | exact LeO.none _
      | refine LeO.ite ?_ ?_
      | refine LeO.bind ?_ (fun _ => ?_)
set_option maxHeartbeats 8000000 in
set_option maxRecDepth 100000 in
theorem matroid_Circuit.calls (k : Nat) (a0_0 : Int) (a0_1 : Int) (A0_2 : Option Addr) (c0_2 : Nat) (l0_2 : List Int) (a1 : Int) (a2 : Int) (r1 : Int) (r2 : Bool) (r3 : Int) (w : World) (hr0_2 : Kd.C (Kd.int .u8) w A0_2 l0_2.length l0_2) (hc0_2 : l0_2.length ≤ c0_2) (h : matroid_Circuit.f k a0_0 a0_1 l0_2 a1 a2 = some (r1, r2, r3)) (hT : TabAt 0 Lib.deBruijn64tab w) :
    Calls Tryd.prog 24 #[.agg #[.int .i64 a0_0, .int .i64 a0_1, .slice A0_2 l0_2.length c0_2], .int .i64 a1, .int .u64 a2] w fun e w' => e = .returned (.tuple #[.int .u64 r1, .bool r2, .int .i64 r3]) ∧ Below w.heap.size w w' := by
  have HT := Aside0.mk hT
  clear hT
  have hu24 := Tryd.underlying24
  have HR0_2 := Aside0.mk hr0_2
  have HC0_2 := Aside0.mk hc0_2
  clear hr0_2 hc0_2
  have HB := Aside0.mk (Below.refl w.heap.size w)
  have H : ((matroid_Free.f k a0_0 a0_1 l0_2 a2).bind fun bt365 => (if bt365.2 = 0 then (if a1 < 0 then (some (0, false, 2)) else (if a1 ≥ a0_0 then (some (0, false, 2)) else ((subset_Has.f a2 a1).bind fun t367 => (if t367 = true then (some (0, false, 2)) else (if bt365.1 = true then ((matroid_pick.f k a0_0 a0_1 l0_2 a2).bind fun bt368 => (if bt368.2.2.2 = 0 then ((matrix_Row.f a0_0 a0_1 l0_2 a1).bind fun bt375 => (if bt375.2 = 0 then ((gauss_Combine.f k bt368.1 bt368.2.1 bt368.2.2.1 bt375.1).bind fun bt379 => (if bt379.2.2 = 0 then (matroid_Circuit.j0 k a1 a2 bt379.2.2 bt379.1 (!bt379.2.1)) else (matroid_Circuit.j0 k a1 a2 bt379.2.2 bt379.1 true))) else (some (0, false, bt375.2)))) else (some (0, false, bt368.2.2.2)))) else (some (0, false, 2))))))) else (some (0, false, bt365.2)))) = some (r1, r2, r3) := h
  clear h
  obtain ⟨⟨t365, t366⟩, A4, H⟩ := bindO H
  (try dsimp only at H)
  by_cases c5 : t366 = 0
  · rw [if_pos c5] at H
    have c5b0 : (t366 == 0) = true := beq_iff_eq.mpr c5
    have c5b1 : (t366 != 0) = false := bne_eq_false_iff_eq.mpr c5
    clear c5
    by_cases c6 : a1 < 0
    · rw [if_pos c6] at H
      have c6b0 : decide (a1 < 0) = true := decide_eq_true c6
      clear c6
      simp only [Option.some.injEq, Prod.mk.injEq] at H
      obtain ⟨rfl, rfl, rfl⟩ := H
      go_enter Tryd.func24, Tryd.ntmps24
      go_wp2_with (first | ((with_reducible refine gD 3 rfl ?_); refine bE 3 #[.int .i64 a0_0, .int .i64 a0_1, .slice A0_2 l0_2.length c0_2] 24 ?_; intro gb364 hg w7 hbox hb; have BK364 := Aside0.mk (hbox); have GW364 := hbS HB hg; have GE364 := hbS HB hg; replace HB := hbB HB hb; clear hb hbox hg; obtain ⟨hcz8_0, hcz8_1, hcz8_2, hfz8_0, hfz8_1, hfz8_2⟩ := cell3 BK364) | ((with_reducible refine gC 14 rfl ?_); refine cG (some 18) Tryd.func14 #[.agg #[.int .i64 a0_0, .int .i64 a0_1, .slice A0_2 l0_2.length c0_2], .int .u64 a2] ?_; (with_reducible refine (matroid_Free.calls k a0_0 a0_1 _ _ l0_2 a2 t365 t366 _ ?side1 ?side2 A4.out (tab_below HT.out (by repeat (first | (with_reducible first | exact HB.out | apply below_alloc | apply pw_below_drewN | apply below_drew1) | exact HB.out | exact Below.refl _ _)))).mono ?_); (case side1 => exact kcB HR0_2 HB); (case side2 => exact HC0_2.out); rintro e w9 ⟨rfl, hb⟩; refine ⟨_, rfl, ?_⟩; replace BK364 := bkB BK364 hb; replace HB := hbB HB hb; (try clear hb); (try clear hb2); (try clear hk); (try clear hi)))
      go_ret3
      exact ⟨rfE, hbA HB.out⟩
    · rw [if_neg c6] at H
      have c6b0 : decide (a1 < 0) = false := decide_eq_false c6
      clear c6
      by_cases c10 : a1 ≥ a0_0
      · rw [if_pos c10] at H
        have c10b0 : decide (a0_0 ≤ a1) = true := decide_eq_true c10
        clear c10
        simp only [Option.some.injEq, Prod.mk.injEq] at H
        obtain ⟨rfl, rfl, rfl⟩ := H
        go_enter Tryd.func24, Tryd.ntmps24
        go_wp2_with (first | ((with_reducible refine gD 3 rfl ?_); refine bE 3 #[.int .i64 a0_0, .int .i64 a0_1, .slice A0_2 l0_2.length c0_2] 24 ?_; intro gb364 hg w11 hbox hb; have BK364 := Aside0.mk (hbox); have GW364 := hbS HB hg; have GE364 := hbS HB hg; replace HB := hbB HB hb; clear hb hbox hg; obtain ⟨hcz12_0, hcz12_1, hcz12_2, hfz12_0, hfz12_1, hfz12_2⟩ := cell3 BK364) | ((with_reducible refine gC 14 rfl ?_); refine cG (some 18) Tryd.func14 #[.agg #[.int .i64 a0_0, .int .i64 a0_1, .slice A0_2 l0_2.length c0_2], .int .u64 a2] ?_; (with_reducible refine (matroid_Free.calls k a0_0 a0_1 _ _ l0_2 a2 t365 t366 _ ?side1 ?side2 A4.out (tab_below HT.out (by repeat (first | (with_reducible first | exact HB.out | apply below_alloc | apply pw_below_drewN | apply below_drew1) | exact HB.out | exact Below.refl _ _)))).mono ?_); (case side1 => exact kcB HR0_2 HB); (case side2 => exact HC0_2.out); rintro e w13 ⟨rfl, hb⟩; refine ⟨_, rfl, ?_⟩; replace BK364 := bkB BK364 hb; replace HB := hbB HB hb; (try clear hb); (try clear hb2); (try clear hk); (try clear hi); obtain ⟨hcz14_0, hcz14_1, hcz14_2, hfz14_0, hfz14_1, hfz14_2⟩ := cell3 BK364))
        go_ret3
        exact ⟨rfE, hbA HB.out⟩
      · rw [if_neg c10] at H
        have c10b0 : decide (a0_0 ≤ a1) = false := decide_eq_false c10
        clear c10
        obtain ⟨t367, A15, H⟩ := bindO H
        (try dsimp only at H)
        by_cases c16 : t367 = true
        · subst c16
          rw [if_pos rfl] at H
          simp only [Option.some.injEq, Prod.mk.injEq] at H
          obtain ⟨rfl, rfl, rfl⟩ := H
          go_enter Tryd.func24, Tryd.ntmps24
          go_wp2_with (first | ((with_reducible refine gD 3 rfl ?_); refine bE 3 #[.int .i64 a0_0, .int .i64 a0_1, .slice A0_2 l0_2.length c0_2] 24 ?_; intro gb364 hg w17 hbox hb; have BK364 := Aside0.mk (hbox); have GW364 := hbS HB hg; have GE364 := hbS HB hg; replace HB := hbB HB hb; clear hb hbox hg; obtain ⟨hcz18_0, hcz18_1, hcz18_2, hfz18_0, hfz18_1, hfz18_2⟩ := cell3 BK364) | ((with_reducible refine gC 14 rfl ?_); refine cG (some 18) Tryd.func14 #[.agg #[.int .i64 a0_0, .int .i64 a0_1, .slice A0_2 l0_2.length c0_2], .int .u64 a2] ?_; (with_reducible refine (matroid_Free.calls k a0_0 a0_1 _ _ l0_2 a2 t365 t366 _ ?side1 ?side2 A4.out (tab_below HT.out (by repeat (first | (with_reducible first | exact HB.out | apply below_alloc | apply pw_below_drewN | apply below_drew1) | exact HB.out | exact Below.refl _ _)))).mono ?_); (case side1 => exact kcB HR0_2 HB); (case side2 => exact HC0_2.out); rintro e w19 ⟨rfl, hb⟩; refine ⟨_, rfl, ?_⟩; replace BK364 := bkB BK364 hb; replace HB := hbB HB hb; (try clear hb); (try clear hb2); (try clear hk); (try clear hi); obtain ⟨hcz20_0, hcz20_1, hcz20_2, hfz20_0, hfz20_1, hfz20_2⟩ := cell3 BK364) | (go_at_call 38; (with_reducible refine (subset_Has.calls a2 a1 true _ A15.out).mono ?_); rintro e w' ⟨rfl, ⟨nd, rfl⟩⟩))
          go_ret3
          exact ⟨rfE, hbA HB.out⟩
        · replace c16 := Bool.eq_false_iff.mpr c16
          subst c16
          rw [if_neg nofT] at H
          by_cases c21 : t365 = true
          · subst c21
            rw [if_pos rfl] at H
            obtain ⟨⟨t368, t369, t370, t373⟩, A22, H⟩ := bindO H
            (try dsimp only at H)
            by_cases c23 : t373 = 0
            · rw [if_pos c23] at H
              have c23b0 : (t373 == 0) = true := beq_iff_eq.mpr c23
              have c23b1 : (t373 != 0) = false := bne_eq_false_iff_eq.mpr c23
              clear c23
              obtain ⟨⟨t375, t378⟩, A24, H⟩ := bindO H
              (try dsimp only at H)
              by_cases c25 : t378 = 0
              · rw [if_pos c25] at H
                have c25b0 : (t378 == 0) = true := beq_iff_eq.mpr c25
                have c25b1 : (t378 != 0) = false := bne_eq_false_iff_eq.mpr c25
                clear c25
                obtain ⟨⟨t379, t382, t383⟩, A26, H⟩ := bindO H
                (try dsimp only at H)
                have HC27 := Aside0.mk H
                clear H
                go_enter Tryd.func24, Tryd.ntmps24
                go_upto_region 13 with (first | ((with_reducible refine gD 3 rfl ?_); refine bE 3 #[.int .i64 a0_0, .int .i64 a0_1, .slice A0_2 l0_2.length c0_2] 24 ?_; intro gb364 hg w28 hbox hb; have BK364 := Aside0.mk (hbox); have GW364 := hbS HB hg; have GE364 := hbS HB hg; replace HB := hbB HB hb; clear hb hbox hg; obtain ⟨hcz29_0, hcz29_1, hcz29_2, hfz29_0, hfz29_1, hfz29_2⟩ := cell3 BK364) | ((with_reducible refine gC 14 rfl ?_); refine cG (some 18) Tryd.func14 #[.agg #[.int .i64 a0_0, .int .i64 a0_1, .slice A0_2 l0_2.length c0_2], .int .u64 a2] ?_; (with_reducible refine (matroid_Free.calls k a0_0 a0_1 _ _ l0_2 a2 true t366 _ ?side1 ?side2 A4.out (tab_below HT.out (by repeat (first | (with_reducible first | exact HB.out | apply below_alloc | apply pw_below_drewN | apply below_drew1) | exact HB.out | exact Below.refl _ _)))).mono ?_); (case side1 => exact kcB HR0_2 HB); (case side2 => exact HC0_2.out); rintro e w30 ⟨rfl, hb⟩; refine ⟨_, rfl, ?_⟩; replace BK364 := bkB BK364 hb; replace HB := hbB HB hb; (try clear hb); (try clear hb2); (try clear hk); (try clear hi); obtain ⟨hcz31_0, hcz31_1, hcz31_2, hfz31_0, hfz31_1, hfz31_2⟩ := cell3 BK364) | (go_at_call 38; (with_reducible refine (subset_Has.calls a2 a1 false _ A15.out).mono ?_); rintro e w' ⟨rfl, ⟨nd, rfl⟩⟩; (try (rw [drewN_self w30]; generalize hq_ : World.drewN w30 _ = w30; have n0_ : Aside0 (w30.heap[gb364]? = some (.cells #[.int .i64 a0_0, .int .i64 a0_1, .slice A0_2 l0_2.length c0_2] 24 (0, 0))) := ⟨by rw [← hq_]; exact (bkA BK364.out)⟩; have n1_ : Aside0 (Below w.heap.size w w30) := ⟨by rw [← hq_]; exact (hbA HB.out)⟩; clear BK364 HB hq_; have BK364 := n0_; have HB := n1_; clear n0_ n1_)); obtain ⟨hcy_0, hcy_1, hcy_2, hfy_0, hfy_1, hfy_2⟩ := cell3 BK364) | ((with_reducible refine gC 33 rfl ?_); refine cG (some 46) Tryd.func33 #[.agg #[.int .i64 a0_0, .int .i64 a0_1, .slice A0_2 l0_2.length c0_2], .int .u64 a2] ?_; (with_reducible refine (matroid_pick.calls k a0_0 a0_1 _ _ l0_2 a2 t368 t369 t370 t373 _ ?side1 ?side2 A22.out (tab_below HT.out (by repeat (first | (with_reducible first | exact HB.out | apply below_alloc | apply pw_below_drewN | apply below_drew1) | exact HB.out | exact Below.refl _ _)))).mono ?_); (case side1 => exact kcB HR0_2 HB); (case side2 => exact HC0_2.out); rintro e w32 ⟨v371, rfl, ho0, hb⟩; refine ⟨_, rfl, ?_⟩; have HO372 := Aside0.mk (Kd.R_lower ho0 (below_size (hbA HB.out))); replace BK364 := bkB BK364 hb; replace HB := hbB HB hb; (try clear hb); (try clear hb2); (try clear hk); (try clear hi); (try clear ho0)) | ((with_reducible refine gD 10 rfl ?_); refine bE 10 #[.int .i64 0, .int .i64 0, .slice none 0 0] 24 ?_; intro gb374 hg w33 hbox hb; replace HO372 := kdB HO372 hb; have BK374 := Aside0.mk (hbox); have GW374 := hbS HB hg; have GE374 := hbS HB hg; replace HB := hbB HB hb; have NB364_374 := neL BK364 hg; have NB374_364 := neG BK364 hg; replace BK364 := bkB BK364 hb; clear hb hbox hg; have hnb34 := NB374_364.out; have hnc34 := NB364_374.out; obtain ⟨hcz35_0, hcz35_1, hcz35_2, hfz35_0, hfz35_1, hfz35_2⟩ := cell3 BK374; obtain ⟨Ao36, co36, eo36⟩ := Kd.R_slice HO372.out; subst eo36; obtain ⟨hcz37_0, hcz37_1, hcz37_2, hfz37_0, hfz37_1, hfz37_2⟩ := cell3 BK364) | ((with_reducible refine gC 42 rfl ?_); refine cG (some 55) Tryd.func42 #[.agg #[.int .i64 a0_0, .int .i64 a0_1, .slice A0_2 l0_2.length c0_2], .int .i64 a1] ?_; (with_reducible refine (matrix_Row.calls a0_0 a0_1 _ _ l0_2 a1 t375 t378 _ ?side1 ?side2 A24.out).mono ?_); (case side1 => exact Kd.C_below HR0_2.out (hbA HB.out)); (case side2 => exact HC0_2.out); rintro e w38 ⟨v376, rfl, ho0, hb⟩; refine ⟨_, rfl, ?_⟩; have HO377 := Aside0.mk (Kd.R_lower (Kd.R_new' ho0 (Kd.R_lt (by (with_reducible repeat (first | apply Kd.R_alloc | apply Kd.R_drewN | apply Kd.R_drew)); exact (Kd.R_mono (Kd.R_far (p := ⟨gb374, 2, none⟩) (Kd.R_far (p := ⟨gb374, 1, none⟩) (Kd.R_far (p := ⟨gb374, 0, none⟩) (Kd.R_types HO372.out BK374.out (by decide)) (fun _ hk => hk.2) (.int .i64 t368)) (fun _ hk => hk.2) (.int .i64 t369)) (fun _ hk => hk.2) (.slice Ao36 t370.length co36)) (fun _ h_ => h_.1))))) (below_size (hbA HB.out))); replace HO372 := Aside0.mk (Kd.R_elder' (by (with_reducible repeat (first | apply Kd.R_alloc | apply Kd.R_drewN | apply Kd.R_drew)); exact (Kd.R_mono (Kd.R_far (p := ⟨gb374, 2, none⟩) (Kd.R_far (p := ⟨gb374, 1, none⟩) (Kd.R_far (p := ⟨gb374, 0, none⟩) (Kd.R_types HO372.out BK374.out (by decide)) (fun _ hk => hk.2) (.int .i64 t368)) (fun _ hk => hk.2) (.int .i64 t369)) (fun _ hk => hk.2) (.slice Ao36 t370.length co36)) (fun _ h_ => h_.1))) (Kd.R_base ho0) hb); replace BK364 := Aside0.mk (blk_below (g := gb364) (o := .cells #[.int .i64 a0_0, .int .i64 a0_1, .slice A0_2 l0_2.length c0_2] 24 (0, 0)) (by refine bkR ?_; refine blk_far ?_ NB364_374.out _; refine bkR ?_; refine blk_far ?_ NB364_374.out _; refine bkR ?_; refine blk_far ?_ NB364_374.out _; refine bkR ?_; exact BK364.out) hb); replace BK374 := Aside0.mk (blk_below (g := gb374) (o := .cells #[.int .i64 t368, .int .i64 t369, .slice Ao36 t370.length co36] 24 (0, 0)) (by refine bkR ?_; refine blk_put (cs := #[.int .i64 t368, .int .i64 t369, .slice none 0 0]) ?_ 2 _ rfl; refine bkR ?_; refine blk_put (cs := #[.int .i64 t368, .int .i64 0, .slice none 0 0]) ?_ 1 _ rfl; refine bkR ?_; refine blk_put (cs := #[.int .i64 0, .int .i64 0, .slice none 0 0]) ?_ 0 _ rfl; refine bkR ?_; exact BK374.out) hb); replace HB := hbB HB hb; (try clear hb); (try clear hb2); (try clear hk); (try clear hi); (try clear ho0); obtain ⟨hcz39_0, hcz39_1, hcz39_2, hfz39_0, hfz39_1, hfz39_2⟩ := cell3 BK374; obtain ⟨Ao40, co40, eo40⟩ := Kd.R_slice HO377.out; subst eo40) | ((with_reducible refine gC 43 rfl ?_); refine cG (some 64) Tryd.func43 #[.agg #[.int .i64 t368, .int .i64 t369, .slice Ao36 t370.length co36], .slice Ao40 t375.length co40] ?_; (with_reducible refine (gauss_Combine.calls k t368 t369 _ _ t370 _ _ t375 t379 t382 t383 _ ?side1 ?side2 ?side3 ?side4 A26.out).mono ?_); (case side1 => exact kcA (Kd.R_reads' HO372.out).2.2); (case side2 => exact (Kd.R_reads' HO372.out).2.1); (case side3 => exact kcA (Kd.R_reads' HO377.out).2.2); (case side4 => exact (Kd.R_reads' HO377.out).2.1); rintro e w41 ⟨v380, rfl, ho0, hb⟩; refine ⟨_, rfl, ?_⟩; have HO381 := Aside0.mk (Kd.R_lower (Kd.R_new' (Kd.R_new' ho0 (Kd.R_lt (kdA HO372.out))) (Kd.R_lt (kdA HO377.out))) (below_size (hbA HB.out))); replace HO372 := Aside0.mk (Kd.R_elder' (kdA HO372.out) (Kd.R_base ho0) hb); replace HO377 := Aside0.mk (Kd.R_elder' (kdA HO377.out) (Kd.R_base ho0) hb); replace BK364 := bkB BK364 hb; replace BK374 := bkB BK374 hb; replace HB := hbB HB hb; (try clear hb); (try clear hb2); (try clear hk); (try clear hi); (try clear ho0)))
                (try simp only [Act.put, List.setIfInBounds_toArray, List.set_cons_zero, List.set_cons_succ])
                go_cut [73] (fun v73 wc => ∃ (kq : Nat) (x73_26 : Bool), v73 = .bool x73_26 ∧ Aside0 (matroid_Circuit.j0 kq a1 a2 t383 t379 x73_26 = some (r1, r2, r3)) ∧ Aside0 (kq ≤ k) ∧ Aside0 (Kd.R (Kd.int .u8) 5 wc w.heap.size (fun k_ => some k_ ≠ ((.slice Ao36 t370.length co36) : Value).ownBlock) v380 t379) ∧ Aside0 (Kd.R (Kd.int .u8) 5 wc w.heap.size (fun k_ => some k_ ≠ (v380 : Value).ownBlock) (.slice Ao36 t370.length co36) t370) ∧ Aside0 (wc.heap[gb364]? = some (.cells #[.int .i64 a0_0, .int .i64 a0_1, (.slice A0_2 l0_2.length c0_2)] 24 (0, 0))) ∧ Aside0 (wc.heap[gb374]? = some (.cells #[.int .i64 t368, .int .i64 t369, (.slice Ao36 t370.length co36)] 24 (0, 0))) ∧ Aside0 (Below w.heap.size w wc))
                case first =>
                  have H := HC27.out
                  clear HC27
                  by_cases c42 : t383 = 0
                  · rw [if_pos c42] at H
                    have c42b0 : (t383 == 0) = true := beq_iff_eq.mpr c42
                    have c42b1 : (t383 != 0) = false := bne_eq_false_iff_eq.mpr c42
                    clear c42
                    (first | rw [c42b0] | (simp only [i64_w, i32_w]; rw [c42b0]) | skip)
                    have H' := Aside0.mk H
                    clear H
                    go_wp2
                    go_meet
                    case rel => exact ⟨_, (!t382), rsE, H', ⟨leE⟩, ⟨by (with_reducible repeat (first | apply Kd.R_alloc | apply Kd.R_drewN | apply Kd.R_drew)); exact Kd.R_mono HO381.out (fun _ hk => hk.1.2)⟩, ⟨by (with_reducible repeat (first | apply Kd.R_alloc | apply Kd.R_drewN | apply Kd.R_drew)); exact Kd.R_mono HO372.out (fun _ hk => hk.2)⟩, ⟨bkA BK364.out⟩, ⟨bkA BK374.out⟩, ⟨hbA HB.out⟩⟩
                  · rw [if_neg c42] at H
                    have c42b0 : (t383 == 0) = false := beq_eq_false_iff_ne.mpr c42
                    have c42b1 : (t383 != 0) = true := bne_iff_ne.mpr c42
                    (first | rw [c42b0] | (simp only [i64_w, i32_w]; rw [c42b0]) | skip)
                    have H' := Aside0.mk H
                    clear H
                    go_wp2
                    go_meet
                    case rel => exact ⟨_, (true), rsE, H', ⟨leE⟩, ⟨by (with_reducible repeat (first | apply Kd.R_alloc | apply Kd.R_drewN | apply Kd.R_drew)); exact Kd.R_mono HO381.out (fun _ hk => hk.1.2)⟩, ⟨by (with_reducible repeat (first | apply Kd.R_alloc | apply Kd.R_drewN | apply Kd.R_drew)); exact Kd.R_mono HO372.out (fun _ hk => hk.2)⟩, ⟨bkA BK364.out⟩, ⟨bkA BK374.out⟩, ⟨hbA HB.out⟩⟩
                case rest =>
                  clear HC27
                  (try clear c1); (try clear c2); (try clear p2); (try clear c3); (try clear c4); (try clear c5); (try clear c5b0); (try clear c5b1); (try clear c6); (try clear c6b0); (try clear c10); (try clear c10b0); (try clear c14); (try clear c16); (try clear c21); (try clear c23); (try clear c23b0); (try clear c23b1); (try clear c24); (try clear c25); (try clear c25b0); (try clear c25b1); (try clear c33); (try clear c34); (try clear c42); (try clear c42b0); (try clear c42b1); (try clear hcz12_0 hcz12_1 hcz12_2 hfz12_0 hfz12_1 hfz12_2); (try clear hcz14_0 hcz14_1 hcz14_2 hfz14_0 hfz14_1 hfz14_2); (try clear hcz18_0 hcz18_1 hcz18_2 hfz18_0 hfz18_1 hfz18_2); (try clear hcz20_0 hcz20_1 hcz20_2 hfz20_0 hfz20_1 hfz20_2); (try clear hcz29_0 hcz29_1 hcz29_2 hfz29_0 hfz29_1 hfz29_2); (try clear hcz31_0 hcz31_1 hcz31_2 hfz31_0 hfz31_1 hfz31_2); (try clear hcz35_0 hcz35_1 hcz35_2 hfz35_0 hfz35_1 hfz35_2); (try clear hcz37_0 hcz37_1 hcz37_2 hfz37_0 hfz37_1 hfz37_2); (try clear hcz39_0 hcz39_1 hcz39_2 hfz39_0 hfz39_1 hfz39_2); (try clear hcz8_0 hcz8_1 hcz8_2 hfz8_0 hfz8_1 hfz8_2)
                  obtain ⟨kq, x73_26, rfl, HA, HJ26, HO_12, HO_375002, BK364, BK374, HB⟩ := hcut
                  cases kq with
                  | zero => exact absurd HA.out (by simp [matroid_Circuit.j0])
                  | succ kj26 =>
                    have H := HA.out
                    clear HA
                    simp only [matroid_Circuit.j0] at H
                    by_cases c43 : x73_26 = true
                    · subst c43
                      rw [if_pos rfl] at H
                      simp only [Option.some.injEq, Prod.mk.injEq] at H
                      obtain ⟨rfl, rfl, rfl⟩ := H
                      go_wp2
                      go_ret3
                      exact ⟨rfE, hbA HB.out⟩
                    · replace c43 := Bool.eq_false_iff.mpr c43
                      subst c43
                      rw [if_neg nofT] at H
                      by_cases c44 : 0 ≤ a1
                      · rw [if_pos c44] at H
                        have c44b0 := eq_true c44
                        have c44b1 : decide (0 ≤ a1) = true := decide_eq_true c44
                        clear c44
                        obtain ⟨ji45, hji45⟩ : ∃ j_ : Int, (shl .u64 1 a1) = j_ := ⟨_, rfl⟩
                        replace H : ((subset_List.f kj26 a2).bind fun t384 => (matroid_Circuit.l0 kj26 ji45 t379 t384 (t384.length : Int) 0)) = some (r1, r2, r3) := by first | (rw [hji45] at H; exact H) | (simp only [hji45] at H ⊢; exact H)
                        have hji45_ : (IntKind.u64.wrap (1 * 2 ^ min a1.toNat 64)) = ji45 := hji45
                        have hji45z : a1 ≤ 64 → (IntKind.u64.wrap (1 * 2 ^ a1.toNat)) = ji45 := shl_small hji45
                        have hji45u : (IntKind.u64.wrap (2 ^ min a1.toNat 64)) = ji45 := by have h_ := hji45_; rw [Int.one_mul] at h_; exact h_
                        have hji45v : a1 ≤ 64 → (IntKind.u64.wrap (2 ^ a1.toNat)) = ji45 := fun hle_ => by have h_ := hji45z hle_; rw [Int.one_mul] at h_; exact h_
                        obtain ⟨t384, A46, H⟩ := bindO H
                        (try dsimp only at H)
                        have H' := Aside0.mk H
                        clear H
                        go_wp2_with (first | ((with_reducible refine gC 41 rfl ?_); refine cG (some 78) Tryd.func41 #[.int .u64 a2] ?_; (with_reducible refine (subset_List.calls kj26 a2 t384 _ A46.out (tab_below HT.out (by repeat (first | (with_reducible first | exact HB.out | apply below_alloc | apply pw_below_drewN | apply below_drew1) | exact HB.out | exact Below.refl _ _)))).mono ?_); rintro e w47 ⟨v385, rfl, ho0, hb⟩; refine ⟨_, rfl, ?_⟩; replace HO_12 := kdB HO_12 hb; replace HO_375002 := kdB HO_375002 hb; have HO386 := Aside0.mk (Kd.R_lower ho0 (below_size (hbA HB.out))); replace BK364 := bkB BK364 hb; replace BK374 := bkB BK374 hb; replace HB := hbB HB hb; (try clear hb); (try clear hb2); (try clear hk); (try clear hi); (try clear ho0); obtain ⟨Ao48, co48, eo48⟩ := Kd.R_slice HO386.out; subst eo48))
                        go_loopg [6, 80] kj26 (fun kq v6 v80 w' => ∃ (x6_2 : Int) (x80_2 : Int), v6 = .int .u64 x6_2 ∧ v80 = .int .i64 x80_2 ∧ Aside0 (matroid_Circuit.l0 kq x6_2 t379 t384 (t384.length : Int) x80_2 = some (r1, r2, r3)) ∧ Aside0 (kq ≤ kj26) ∧ Aside0 (Kd.R (Kd.int .u8) 5 w' w.heap.size (fun k_ => some k_ ≠ ((.slice Ao36 t370.length co36) : Value).ownBlock) v380 t379) ∧ Aside0 (Kd.R (Kd.int .i64) 3 w' w.heap.size (fun _ => True) (.slice Ao48 t384.length co48) t384) ∧ Aside0 (Kd.R (Kd.int .u8) 5 w' w.heap.size (fun k_ => some k_ ≠ (v380 : Value).ownBlock) (.slice Ao36 t370.length co36) t370) ∧ Aside0 (w'.heap[gb364]? = some (.cells #[.int .i64 a0_0, .int .i64 a0_1, (.slice A0_2 l0_2.length c0_2)] 24 (0, 0))) ∧ Aside0 (w'.heap[gb374]? = some (.cells #[.int .i64 t368, .int .i64 t369, (.slice Ao36 t370.length co36)] 24 (0, 0))) ∧ Aside0 (Below w.heap.size w w'))
                        case atStart => exact ⟨(ji45), (0), (by first | rfl | (simp; done) | (simp only [← hji45] <;> (first | rfl | simp)) | (simp [*]; done)), rsE, H', ⟨Nat.le_refl _⟩, ⟨kdA HO_12.out⟩, ⟨kdA HO386.out⟩, ⟨kdA HO_375002.out⟩, ⟨bkA BK364.out⟩, ⟨bkA BK374.out⟩, ⟨hbA HB.out⟩⟩
                        case round =>
                          clear H'
                          (try clear c1); (try clear c2); (try clear p2 p2); (try clear c3); (try clear c4); (try clear c5); (try clear c5b0); (try clear c5b1); (try clear c6); (try clear c6b0); (try clear c10); (try clear c10b0); (try clear c14); (try clear c16); (try clear c21); (try clear c23); (try clear c23b0); (try clear c23b1); (try clear c24); (try clear c25); (try clear c25b0); (try clear c25b1); (try clear c33); (try clear c34); (try clear c41); (try clear c42); (try clear c42b0); (try clear c42b1); (try clear c43); (try clear c44); (try clear c44b0); (try clear c44b1); (try clear hcz12_0 hcz12_1 hcz12_2 hfz12_0 hfz12_1 hfz12_2); (try clear hcz14_0 hcz14_1 hcz14_2 hfz14_0 hfz14_1 hfz14_2); (try clear hcz18_0 hcz18_1 hcz18_2 hfz18_0 hfz18_1 hfz18_2); (try clear hcz20_0 hcz20_1 hcz20_2 hfz20_0 hfz20_1 hfz20_2); (try clear hcz29_0 hcz29_1 hcz29_2 hfz29_0 hfz29_1 hfz29_2); (try clear hcz31_0 hcz31_1 hcz31_2 hfz31_0 hfz31_1 hfz31_2); (try clear hcz35_0 hcz35_1 hcz35_2 hfz35_0 hfz35_1 hfz35_2); (try clear hcz37_0 hcz37_1 hcz37_2 hfz37_0 hfz37_1 hfz37_2); (try clear hcz39_0 hcz39_1 hcz39_2 hfz39_0 hfz39_1 hfz39_2); (try clear hcz8_0 hcz8_1 hcz8_2 hfz8_0 hfz8_1 hfz8_2)
                          obtain ⟨x6_2, x80_2, rfl, rfl, HA, HK2, HO_12, HO_78, HO_375002, BK364, BK374, HB⟩ := hrel
                          cases gk with
                          | zero => exact absurd HA.out (by simp [matroid_Circuit.l0])
                          | succ k2 =>
                            have H := HA.out
                            clear HA
                            simp only [matroid_Circuit.l0] at H
                            by_cases c49 : x80_2 < (t384.length : Int)
                            · rw [if_pos c49] at H
                              have c49b0 : decide (x80_2 < (t384.length : Int)) = true := decide_eq_true c49
                              clear c49
                              by_cases c50 : 0 ≤ x80_2
                              · rw [if_pos c50] at H
                                have c50b0 : decide (0 ≤ x80_2) = true := decide_eq_true c50
                                clear c50
                                by_cases c51 : x80_2 < (t384.length : Int)
                                · rw [if_pos c51] at H
                                  have c51b0 : decide (x80_2 < (t384.length : Int)) = true := decide_eq_true c51
                                  clear c51
                                  by_cases c52 : x80_2 < (t379.length : Int)
                                  · rw [if_pos c52] at H
                                    have c52b0 : decide (x80_2 < (t379.length : Int)) = true := decide_eq_true c52
                                    clear c52
                                    by_cases c53 : (rd t379 x80_2) = 0
                                    · rw [if_pos c53] at H
                                      have c53b0 : ((rd t379 x80_2) == 0) = true := beq_iff_eq.mpr c53
                                      have c53b1 : ((rd t379 x80_2) != 0) = false := bne_eq_false_iff_eq.mpr c53
                                      clear c53
                                      have H' := Aside0.mk H
                                      clear H
                                      have p387 : 0 ≤ (x80_2 : Int) := of_decide_eq_true asE
                                      have q387 : x80_2 < (t384.length : Int) := of_decide_eq_true asE
                                      obtain ⟨ad387, e387, hx387_0⟩ := Kd.at_int (Kd.R_reads' HO_78.out).2.2 x80_2 p387 q387
                                      cases e387
                                      replace p387 := eq_true p387
                                      replace q387 := eq_true q387
                                      obtain ⟨Ao54, co54, eo54⟩ := Kd.R_slice HO_12.out
                                      subst eo54
                                      have p388 : 0 ≤ (x80_2 : Int) := of_decide_eq_true asE
                                      have q388 : x80_2 < (t379.length : Int) := of_decide_eq_true asE
                                      obtain ⟨ad388, e388, hx388_0⟩ := Kd.at_int (Kd.R_reads' HO_12.out).2.2 x80_2 p388 q388
                                      cases e388
                                      replace p388 := eq_true p388
                                      replace q388 := eq_true q388
                                      go_wp2
                                      go_roundg k2
                                      case measure => have := HJ26.out; have := HK2.out; omega
                                      case rel => exact ⟨(x6_2), (wrap64 (x80_2 + 1)), rsE, rsE, H', ⟨by have := HJ26.out; have := HK2.out; omega⟩, ⟨kdA HO_12.out⟩, ⟨kdA HO_78.out⟩, ⟨kdA HO_375002.out⟩, ⟨bkA BK364.out⟩, ⟨bkA BK374.out⟩, ⟨hbA HB.out⟩⟩
                                    · rw [if_neg c53] at H
                                      have c53b0 : ((rd t379 x80_2) == 0) = false := beq_eq_false_iff_ne.mpr c53
                                      have c53b1 : ((rd t379 x80_2) != 0) = true := bne_iff_ne.mpr c53
                                      by_cases c55 : 0 ≤ (rd t384 x80_2)
                                      · rw [if_pos c55] at H
                                        have c55b0 := eq_true c55
                                        have c55b1 : decide (0 ≤ (rd t384 x80_2)) = true := decide_eq_true c55
                                        clear c55
                                        obtain ⟨ji56, hji56⟩ : ∃ j_ : Int, (shl .u64 1 (rd t384 x80_2)) = j_ := ⟨_, rfl⟩
                                        replace H : (matroid_Circuit.l0 k2 (Go.bits .or .u64 x6_2 (ji56)) t379 t384 (t384.length : Int) (wrap64 (x80_2 + 1))) = some (r1, r2, r3) := by first | (rw [hji56] at H; exact H) | (simp only [hji56] at H ⊢; exact H)
                                        have hji56_ : (IntKind.u64.wrap (1 * 2 ^ min (rd t384 x80_2).toNat 64)) = ji56 := hji56
                                        have hji56z : (rd t384 x80_2) ≤ 64 → (IntKind.u64.wrap (1 * 2 ^ (rd t384 x80_2).toNat)) = ji56 := shl_small hji56
                                        have hji56u : (IntKind.u64.wrap (2 ^ min (rd t384 x80_2).toNat 64)) = ji56 := by have h_ := hji56_; rw [Int.one_mul] at h_; exact h_
                                        have hji56v : (rd t384 x80_2) ≤ 64 → (IntKind.u64.wrap (2 ^ (rd t384 x80_2).toNat)) = ji56 := fun hle_ => by have h_ := hji56z hle_; rw [Int.one_mul] at h_; exact h_
                                        have H' := Aside0.mk H
                                        clear H
                                        have p387 : 0 ≤ (x80_2 : Int) := of_decide_eq_true asE
                                        have q387 : x80_2 < (t384.length : Int) := of_decide_eq_true asE
                                        obtain ⟨ad387, e387, hx387_0⟩ := Kd.at_int (Kd.R_reads' HO_78.out).2.2 x80_2 p387 q387
                                        cases e387
                                        replace p387 := eq_true p387
                                        replace q387 := eq_true q387
                                        obtain ⟨Ao57, co57, eo57⟩ := Kd.R_slice HO_12.out
                                        subst eo57
                                        have p388 : 0 ≤ (x80_2 : Int) := of_decide_eq_true asE
                                        have q388 : x80_2 < (t379.length : Int) := of_decide_eq_true asE
                                        obtain ⟨ad388, e388, hx388_0⟩ := Kd.at_int (Kd.R_reads' HO_12.out).2.2 x80_2 p388 q388
                                        cases e388
                                        replace p388 := eq_true p388
                                        replace q388 := eq_true q388
                                        go_wp2
                                        go_roundg k2
                                        case measure => have := HJ26.out; have := HK2.out; omega
                                        case rel => exact ⟨(Go.bits .or .u64 x6_2 (ji56)), (wrap64 (x80_2 + 1)), (by first | rfl | (simp; done) | (simp only [← hji56] <;> (first | rfl | simp)) | (simp [*]; done)), rsE, H', ⟨by have := HJ26.out; have := HK2.out; omega⟩, ⟨kdA HO_12.out⟩, ⟨kdA HO_78.out⟩, ⟨kdA HO_375002.out⟩, ⟨bkA BK364.out⟩, ⟨bkA BK374.out⟩, ⟨hbA HB.out⟩⟩
                                      · rw [if_neg c55] at H
                                        exact absurd H (by simp)
                                  · rw [if_neg c52] at H
                                    exact absurd H (by simp)
                                · rw [if_neg c51] at H
                                  exact absurd H (by simp)
                              · rw [if_neg c50] at H
                                exact absurd H (by simp)
                            · rw [if_neg c49] at H
                              have c49b0 : decide (x80_2 < (t384.length : Int)) = false := decide_eq_false c49
                              clear c49
                              simp only [Option.some.injEq, Prod.mk.injEq] at H
                              obtain ⟨rfl, rfl, rfl⟩ := H
                              go_wp2
                              go_ret3
                              exact ⟨by first | rfl | (simp [errW_none, errW_some] <;> rfl) | (simp only [← hji45]; first | rfl | (simp [errW_none, errW_some] <;> rfl)) | (simp [*, errW_none, errW_some] <;> rfl), hbA HB.out⟩
                      · rw [if_neg c44] at H
                        exact absurd H (by simp)
              · rw [if_neg c25] at H
                have c25b0 : (t378 == 0) = false := beq_eq_false_iff_ne.mpr c25
                have c25b1 : (t378 != 0) = true := bne_iff_ne.mpr c25
                simp only [Option.some.injEq, Prod.mk.injEq] at H
                obtain ⟨rfl, rfl, rfl⟩ := H
                go_enter Tryd.func24, Tryd.ntmps24
                go_wp2_with (first | ((with_reducible refine gD 3 rfl ?_); refine bE 3 #[.int .i64 a0_0, .int .i64 a0_1, .slice A0_2 l0_2.length c0_2] 24 ?_; intro gb364 hg w58 hbox hb; have BK364 := Aside0.mk (hbox); have GW364 := hbS HB hg; have GE364 := hbS HB hg; replace HB := hbB HB hb; clear hb hbox hg; obtain ⟨hcz59_0, hcz59_1, hcz59_2, hfz59_0, hfz59_1, hfz59_2⟩ := cell3 BK364) | ((with_reducible refine gC 14 rfl ?_); refine cG (some 18) Tryd.func14 #[.agg #[.int .i64 a0_0, .int .i64 a0_1, .slice A0_2 l0_2.length c0_2], .int .u64 a2] ?_; (with_reducible refine (matroid_Free.calls k a0_0 a0_1 _ _ l0_2 a2 true t366 _ ?side1 ?side2 A4.out (tab_below HT.out (by repeat (first | (with_reducible first | exact HB.out | apply below_alloc | apply pw_below_drewN | apply below_drew1) | exact HB.out | exact Below.refl _ _)))).mono ?_); (case side1 => exact kcB HR0_2 HB); (case side2 => exact HC0_2.out); rintro e w60 ⟨rfl, hb⟩; refine ⟨_, rfl, ?_⟩; replace BK364 := bkB BK364 hb; replace HB := hbB HB hb; (try clear hb); (try clear hb2); (try clear hk); (try clear hi); obtain ⟨hcz61_0, hcz61_1, hcz61_2, hfz61_0, hfz61_1, hfz61_2⟩ := cell3 BK364) | (go_at_call 38; (with_reducible refine (subset_Has.calls a2 a1 false _ A15.out).mono ?_); rintro e w' ⟨rfl, ⟨nd, rfl⟩⟩; (try (rw [drewN_self w60]; generalize hq_ : World.drewN w60 _ = w60; have n0_ : Aside0 (w60.heap[gb364]? = some (.cells #[.int .i64 a0_0, .int .i64 a0_1, .slice A0_2 l0_2.length c0_2] 24 (0, 0))) := ⟨by rw [← hq_]; exact (bkA BK364.out)⟩; have n1_ : Aside0 (Below w.heap.size w w60) := ⟨by rw [← hq_]; exact (hbA HB.out)⟩; clear BK364 HB hq_; have BK364 := n0_; have HB := n1_; clear n0_ n1_)); obtain ⟨hcy_0, hcy_1, hcy_2, hfy_0, hfy_1, hfy_2⟩ := cell3 BK364) | ((with_reducible refine gC 33 rfl ?_); refine cG (some 46) Tryd.func33 #[.agg #[.int .i64 a0_0, .int .i64 a0_1, .slice A0_2 l0_2.length c0_2], .int .u64 a2] ?_; (with_reducible refine (matroid_pick.calls k a0_0 a0_1 _ _ l0_2 a2 t368 t369 t370 t373 _ ?side1 ?side2 A22.out (tab_below HT.out (by repeat (first | (with_reducible first | exact HB.out | apply below_alloc | apply pw_below_drewN | apply below_drew1) | exact HB.out | exact Below.refl _ _)))).mono ?_); (case side1 => exact kcB HR0_2 HB); (case side2 => exact HC0_2.out); rintro e w62 ⟨v371, rfl, ho0, hb⟩; refine ⟨_, rfl, ?_⟩; have HO372 := Aside0.mk (Kd.R_lower ho0 (below_size (hbA HB.out))); replace BK364 := bkB BK364 hb; replace HB := hbB HB hb; (try clear hb); (try clear hb2); (try clear hk); (try clear hi); (try clear ho0)) | ((with_reducible refine gD 10 rfl ?_); refine bE 10 #[.int .i64 0, .int .i64 0, .slice none 0 0] 24 ?_; intro gb374 hg w63 hbox hb; replace HO372 := kdB HO372 hb; have BK374 := Aside0.mk (hbox); have GW374 := hbS HB hg; have GE374 := hbS HB hg; replace HB := hbB HB hb; have NB364_374 := neL BK364 hg; have NB374_364 := neG BK364 hg; replace BK364 := bkB BK364 hb; clear hb hbox hg; have hnb64 := NB374_364.out; have hnc64 := NB364_374.out; obtain ⟨hcz65_0, hcz65_1, hcz65_2, hfz65_0, hfz65_1, hfz65_2⟩ := cell3 BK374; obtain ⟨Ao66, co66, eo66⟩ := Kd.R_slice HO372.out; subst eo66; obtain ⟨hcz67_0, hcz67_1, hcz67_2, hfz67_0, hfz67_1, hfz67_2⟩ := cell3 BK364) | ((with_reducible refine gC 42 rfl ?_); refine cG (some 55) Tryd.func42 #[.agg #[.int .i64 a0_0, .int .i64 a0_1, .slice A0_2 l0_2.length c0_2], .int .i64 a1] ?_; (with_reducible refine (matrix_Row.calls a0_0 a0_1 _ _ l0_2 a1 t375 t378 _ ?side1 ?side2 A24.out).mono ?_); (case side1 => exact Kd.C_below HR0_2.out (hbA HB.out)); (case side2 => exact HC0_2.out); rintro e w68 ⟨v376, rfl, ho0, hb⟩; refine ⟨_, rfl, ?_⟩; have HO377 := Aside0.mk (Kd.R_lower (Kd.R_new' ho0 (Kd.R_lt (by (with_reducible repeat (first | apply Kd.R_alloc | apply Kd.R_drewN | apply Kd.R_drew)); exact (Kd.R_mono (Kd.R_far (p := ⟨gb374, 2, none⟩) (Kd.R_far (p := ⟨gb374, 1, none⟩) (Kd.R_far (p := ⟨gb374, 0, none⟩) (Kd.R_types HO372.out BK374.out (by decide)) (fun _ hk => hk.2) (.int .i64 t368)) (fun _ hk => hk.2) (.int .i64 t369)) (fun _ hk => hk.2) (.slice Ao66 t370.length co66)) (fun _ h_ => h_.1))))) (below_size (hbA HB.out))); replace HO372 := Aside0.mk (Kd.R_elder' (by (with_reducible repeat (first | apply Kd.R_alloc | apply Kd.R_drewN | apply Kd.R_drew)); exact (Kd.R_mono (Kd.R_far (p := ⟨gb374, 2, none⟩) (Kd.R_far (p := ⟨gb374, 1, none⟩) (Kd.R_far (p := ⟨gb374, 0, none⟩) (Kd.R_types HO372.out BK374.out (by decide)) (fun _ hk => hk.2) (.int .i64 t368)) (fun _ hk => hk.2) (.int .i64 t369)) (fun _ hk => hk.2) (.slice Ao66 t370.length co66)) (fun _ h_ => h_.1))) (Kd.R_base ho0) hb); replace BK364 := Aside0.mk (blk_below (g := gb364) (o := .cells #[.int .i64 a0_0, .int .i64 a0_1, .slice A0_2 l0_2.length c0_2] 24 (0, 0)) (by refine bkR ?_; refine blk_far ?_ NB364_374.out _; refine bkR ?_; refine blk_far ?_ NB364_374.out _; refine bkR ?_; refine blk_far ?_ NB364_374.out _; refine bkR ?_; exact BK364.out) hb); replace BK374 := Aside0.mk (blk_below (g := gb374) (o := .cells #[.int .i64 t368, .int .i64 t369, .slice Ao66 t370.length co66] 24 (0, 0)) (by refine bkR ?_; refine blk_put (cs := #[.int .i64 t368, .int .i64 t369, .slice none 0 0]) ?_ 2 _ rfl; refine bkR ?_; refine blk_put (cs := #[.int .i64 t368, .int .i64 0, .slice none 0 0]) ?_ 1 _ rfl; refine bkR ?_; refine blk_put (cs := #[.int .i64 0, .int .i64 0, .slice none 0 0]) ?_ 0 _ rfl; refine bkR ?_; exact BK374.out) hb); replace HB := hbB HB hb; (try clear hb); (try clear hb2); (try clear hk); (try clear hi); (try clear ho0)))
                go_ret3
                exact ⟨rfE, hbA HB.out⟩
            · rw [if_neg c23] at H
              have c23b0 : (t373 == 0) = false := beq_eq_false_iff_ne.mpr c23
              have c23b1 : (t373 != 0) = true := bne_iff_ne.mpr c23
              simp only [Option.some.injEq, Prod.mk.injEq] at H
              obtain ⟨rfl, rfl, rfl⟩ := H
              go_enter Tryd.func24, Tryd.ntmps24
              go_wp2_with (first | ((with_reducible refine gD 3 rfl ?_); refine bE 3 #[.int .i64 a0_0, .int .i64 a0_1, .slice A0_2 l0_2.length c0_2] 24 ?_; intro gb364 hg w69 hbox hb; have BK364 := Aside0.mk (hbox); have GW364 := hbS HB hg; have GE364 := hbS HB hg; replace HB := hbB HB hb; clear hb hbox hg; obtain ⟨hcz70_0, hcz70_1, hcz70_2, hfz70_0, hfz70_1, hfz70_2⟩ := cell3 BK364) | ((with_reducible refine gC 14 rfl ?_); refine cG (some 18) Tryd.func14 #[.agg #[.int .i64 a0_0, .int .i64 a0_1, .slice A0_2 l0_2.length c0_2], .int .u64 a2] ?_; (with_reducible refine (matroid_Free.calls k a0_0 a0_1 _ _ l0_2 a2 true t366 _ ?side1 ?side2 A4.out (tab_below HT.out (by repeat (first | (with_reducible first | exact HB.out | apply below_alloc | apply pw_below_drewN | apply below_drew1) | exact HB.out | exact Below.refl _ _)))).mono ?_); (case side1 => exact kcB HR0_2 HB); (case side2 => exact HC0_2.out); rintro e w71 ⟨rfl, hb⟩; refine ⟨_, rfl, ?_⟩; replace BK364 := bkB BK364 hb; replace HB := hbB HB hb; (try clear hb); (try clear hb2); (try clear hk); (try clear hi); obtain ⟨hcz72_0, hcz72_1, hcz72_2, hfz72_0, hfz72_1, hfz72_2⟩ := cell3 BK364) | (go_at_call 38; (with_reducible refine (subset_Has.calls a2 a1 false _ A15.out).mono ?_); rintro e w' ⟨rfl, ⟨nd, rfl⟩⟩; (try (rw [drewN_self w71]; generalize hq_ : World.drewN w71 _ = w71; have n0_ : Aside0 (w71.heap[gb364]? = some (.cells #[.int .i64 a0_0, .int .i64 a0_1, .slice A0_2 l0_2.length c0_2] 24 (0, 0))) := ⟨by rw [← hq_]; exact (bkA BK364.out)⟩; have n1_ : Aside0 (Below w.heap.size w w71) := ⟨by rw [← hq_]; exact (hbA HB.out)⟩; clear BK364 HB hq_; have BK364 := n0_; have HB := n1_; clear n0_ n1_)); obtain ⟨hcy_0, hcy_1, hcy_2, hfy_0, hfy_1, hfy_2⟩ := cell3 BK364) | ((with_reducible refine gC 33 rfl ?_); refine cG (some 46) Tryd.func33 #[.agg #[.int .i64 a0_0, .int .i64 a0_1, .slice A0_2 l0_2.length c0_2], .int .u64 a2] ?_; (with_reducible refine (matroid_pick.calls k a0_0 a0_1 _ _ l0_2 a2 t368 t369 t370 t373 _ ?side1 ?side2 A22.out (tab_below HT.out (by repeat (first | (with_reducible first | exact HB.out | apply below_alloc | apply pw_below_drewN | apply below_drew1) | exact HB.out | exact Below.refl _ _)))).mono ?_); (case side1 => exact kcB HR0_2 HB); (case side2 => exact HC0_2.out); rintro e w73 ⟨v371, rfl, ho0, hb⟩; refine ⟨_, rfl, ?_⟩; have HO372 := Aside0.mk (Kd.R_lower ho0 (below_size (hbA HB.out))); replace BK364 := bkB BK364 hb; replace HB := hbB HB hb; (try clear hb); (try clear hb2); (try clear hk); (try clear hi); (try clear ho0)) | ((with_reducible refine gD 10 rfl ?_); refine bE 10 #[.int .i64 0, .int .i64 0, .slice none 0 0] 24 ?_; intro gb374 hg w74 hbox hb; replace HO372 := kdB HO372 hb; have BK374 := Aside0.mk (hbox); have GW374 := hbS HB hg; have GE374 := hbS HB hg; replace HB := hbB HB hb; have NB364_374 := neL BK364 hg; have NB374_364 := neG BK364 hg; replace BK364 := bkB BK364 hb; clear hb hbox hg; have hnb75 := NB374_364.out; have hnc75 := NB364_374.out; obtain ⟨hcz76_0, hcz76_1, hcz76_2, hfz76_0, hfz76_1, hfz76_2⟩ := cell3 BK374; obtain ⟨Ao77, co77, eo77⟩ := Kd.R_slice HO372.out; subst eo77))
              go_ret3
              exact ⟨rfE, hbA HB.out⟩
          · replace c21 := Bool.eq_false_iff.mpr c21
            subst c21
            rw [if_neg nofT] at H
            simp only [Option.some.injEq, Prod.mk.injEq] at H
            obtain ⟨rfl, rfl, rfl⟩ := H
            go_enter Tryd.func24, Tryd.ntmps24
            go_wp2_with (first | ((with_reducible refine gD 3 rfl ?_); refine bE 3 #[.int .i64 a0_0, .int .i64 a0_1, .slice A0_2 l0_2.length c0_2] 24 ?_; intro gb364 hg w78 hbox hb; have BK364 := Aside0.mk (hbox); have GW364 := hbS HB hg; have GE364 := hbS HB hg; replace HB := hbB HB hb; clear hb hbox hg; obtain ⟨hcz79_0, hcz79_1, hcz79_2, hfz79_0, hfz79_1, hfz79_2⟩ := cell3 BK364) | ((with_reducible refine gC 14 rfl ?_); refine cG (some 18) Tryd.func14 #[.agg #[.int .i64 a0_0, .int .i64 a0_1, .slice A0_2 l0_2.length c0_2], .int .u64 a2] ?_; (with_reducible refine (matroid_Free.calls k a0_0 a0_1 _ _ l0_2 a2 false t366 _ ?side1 ?side2 A4.out (tab_below HT.out (by repeat (first | (with_reducible first | exact HB.out | apply below_alloc | apply pw_below_drewN | apply below_drew1) | exact HB.out | exact Below.refl _ _)))).mono ?_); (case side1 => exact kcB HR0_2 HB); (case side2 => exact HC0_2.out); rintro e w80 ⟨rfl, hb⟩; refine ⟨_, rfl, ?_⟩; replace BK364 := bkB BK364 hb; replace HB := hbB HB hb; (try clear hb); (try clear hb2); (try clear hk); (try clear hi); obtain ⟨hcz81_0, hcz81_1, hcz81_2, hfz81_0, hfz81_1, hfz81_2⟩ := cell3 BK364) | (go_at_call 38; (with_reducible refine (subset_Has.calls a2 a1 false _ A15.out).mono ?_); rintro e w' ⟨rfl, ⟨nd, rfl⟩⟩))
            go_ret3
            exact ⟨rfE, hbA HB.out⟩
  · rw [if_neg c5] at H
    have c5b0 : (t366 == 0) = false := beq_eq_false_iff_ne.mpr c5
    have c5b1 : (t366 != 0) = true := bne_iff_ne.mpr c5
    simp only [Option.some.injEq, Prod.mk.injEq] at H
    obtain ⟨rfl, rfl, rfl⟩ := H
    go_enter Tryd.func24, Tryd.ntmps24
    go_wp2_with (first | ((with_reducible refine gD 3 rfl ?_); refine bE 3 #[.int .i64 a0_0, .int .i64 a0_1, .slice A0_2 l0_2.length c0_2] 24 ?_; intro gb364 hg w82 hbox hb; have BK364 := Aside0.mk (hbox); have GW364 := hbS HB hg; have GE364 := hbS HB hg; replace HB := hbB HB hb; clear hb hbox hg; obtain ⟨hcz83_0, hcz83_1, hcz83_2, hfz83_0, hfz83_1, hfz83_2⟩ := cell3 BK364) | ((with_reducible refine gC 14 rfl ?_); refine cG (some 18) Tryd.func14 #[.agg #[.int .i64 a0_0, .int .i64 a0_1, .slice A0_2 l0_2.length c0_2], .int .u64 a2] ?_; (with_reducible refine (matroid_Free.calls k a0_0 a0_1 _ _ l0_2 a2 t365 t366 _ ?side1 ?side2 A4.out (tab_below HT.out (by repeat (first | (with_reducible first | exact HB.out | apply below_alloc | apply pw_below_drewN | apply below_drew1) | exact HB.out | exact Below.refl _ _)))).mono ?_); (case side1 => exact kcB HR0_2 HB); (case side2 => exact HC0_2.out); rintro e w84 ⟨rfl, hb⟩; refine ⟨_, rfl, ?_⟩; replace BK364 := bkB BK364 hb; replace HB := hbB HB hb; (try clear hb); (try clear hb2); (try clear hk); (try clear hi)))
    go_ret3
    exact ⟨rfE, hbA HB.out⟩

end Go.Proofs.YthjncmdlhmppiaaDoor.Q
