/- Written by drive.py (a program of this repo, over the kit's print): each Go function named here answers what the Lean function beside it answers, wherever that one answers, in every world that meets the stated premises. -/
import Derived.Test.YthjncmdlhmppiaaDoorQx0
import Derived.Test.YthjncmdlhmppiaaDoorQx126
import Derived.Test.YthjncmdlhmppiaaDoorQx127
import Derived.Test.YthjncmdlhmppiaaDoorQx134
import Derived.Test.YthjncmdlhmppiaaDoorQx135
namespace Go.Proofs.YthjncmdlhmppiaaDoor.Q
open Go.RowKit Go.Proofs.YthjncmdlhmppiaaDoorW.PrintWords Go.Proofs.YthjncmdlhmppiaaDoorW.PrintLast Go.Proofs.YthjncmdlhmppiaaDoorW.PrintMore
attribute [local go_sem] max2_int min2_int max_two min_two max_three min_three max_four min_four   -- for this text's walks alone
set_option linter.unusedVariables false
set_option linter.unusedSimpArgs false

/-! ### recouplaw07_MatroidSums: function 6 -/
def recouplaw07_MatroidSums.j0 : Nat → Int → Int → Int → Int → Int → Int → Bool → Int → Int → List Int → Option (Bool)
  | 0, _, _, _, _, _, _, _, _, _, _ => none
  | k + 1, x1, x2, x7, x8, x9, x10, x36, x426000, x426001, x426002 => if x36 = true then ((recouplaw07_anchored.f k).bind fun t432 => (if t432 = true then (if x8 = 0 then (some (x10 != 0)) else (some true)) else (some false))) else ((matroid_Rank.f k x426000 x426001 x426002 (Go.bits .or .u64 x1 x2)).bind fun bt433 => ((matroid_Rank.f k x426000 x426001 x426002 (Go.bits .and .u64 x1 x2)).bind fun bt435 => ((recouplaw07_anchored.f k).bind fun t437 => (if t437 = true then (if x8 = 0 then (if x10 = 0 then (if bt433.2 = 0 then (if bt435.2 = 0 then (if (wrap64 (bt433.1 + bt435.1)) ≤ (wrap64 (x7 + x9)) then (if bt433.1 ≥ x7 then (if bt433.1 ≥ x9 then (if bt435.1 ≤ x7 then (if bt435.1 ≤ x9 then ((recoupref06_List.f k x1).bind fun t438 => (if x7 ≤ (t438.length : Int) then ((recoupref06_List.f k (Go.bits .andNot .u64 x2 x1)).bind fun t441 => (some (decide (bt433.1 ≤ (wrap64 (x7 + (t441.length : Int))))))) else (some false))) else (some false)) else (some false)) else (some false)) else (some false)) else (some false)) else (some false)) else (some false)) else (some false)) else (some false)) else (some false)))))
def recouplaw07_MatroidSums.f (k : Nat) (a0_0 : Int) (a0_1 : Int) (l0_2 : List Int) (a1 : Int) (a2 : Int) : Option (Bool) := (matroid_Rank.f k a0_0 a0_1 l0_2 a1).bind fun bt426 => ((matroid_Rank.f k a0_0 a0_1 l0_2 a2).bind fun bt428 => ((recouplaw07_right.f k a0_0 a0_1 l0_2 a1).bind fun t430 => (if t430 = true then ((recouplaw07_right.f k a0_0 a0_1 l0_2 a2).bind fun t431 => (recouplaw07_MatroidSums.j0 k a1 a2 bt426.1 bt426.2 bt428.1 bt428.2 (!t431) a0_0 a0_1 l0_2)) else (recouplaw07_MatroidSums.j0 k a1 a2 bt426.1 bt426.2 bt428.1 bt428.2 true a0_0 a0_1 l0_2))))
theorem recouplaw07_MatroidSums.mono_l : ∀ k, (∀ y0 y1 y2 y3 y4 y5 y6 y7 y8 y9, LeO (recouplaw07_MatroidSums.j0 k y0 y1 y2 y3 y4 y5 y6 y7 y8 y9) (recouplaw07_MatroidSums.j0 (k + 1) y0 y1 y2 y3 y4 y5 y6 y7 y8 y9))
  | 0 => fun _ _ _ _ _ _ _ _ _ _ r h => by simp [recouplaw07_MatroidSums.j0] at h
  | k + 1 => by
    have ih0 := recouplaw07_MatroidSums.mono_l k
    · intro y0 y1 y2 y3 y4 y5 y6 y7 y8 y9
      unfold recouplaw07_MatroidSums.j0
      repeat' first
      | (with_reducible exact ih0 _ _ _ _ _ _ _ _ _ _)
      | (with_reducible exact matroid_Rank.mono _ _ _ _ _)
      | (with_reducible exact recouplaw07_anchored.mono _)
      | (with_reducible exact recouplaw07_right.mono _ _ _ _ _)
      | (with_reducible exact recoupref06_List.mono _ _)
      | (with_reducible exact LeO.refl _)
      | (with_reducible exact LeO.none _)
      | (with_reducible refine LeO.ite ?_ ?_)
      | (with_reducible refine LeO.bind ?_ (fun _ => ?_))
      | exact ih0 _ _ _ _ _ _ _ _ _ _
      | exact matroid_Rank.mono _ _ _ _ _
      | exact recouplaw07_anchored.mono _
      | exact recouplaw07_right.mono _ _ _ _ _
      | exact recoupref06_List.mono _ _
      | exact LeO.none _
      | refine LeO.ite ?_ ?_
      | refine LeO.bind ?_ (fun _ => ?_)
theorem recouplaw07_MatroidSums.mono : ∀ a0 a1 a2 a3 a4 k, LeO (recouplaw07_MatroidSums.f k a0 a1 a2 a3 a4) (recouplaw07_MatroidSums.f (k + 1) a0 a1 a2 a3 a4) := by
  intro a0 a1 a2 a3 a4 k
  have ih0 := recouplaw07_MatroidSums.mono_l k
  unfold recouplaw07_MatroidSums.f
  repeat' first
      | (with_reducible exact ih0 _ _ _ _ _ _ _ _ _ _)
      | (with_reducible exact matroid_Rank.mono _ _ _ _ _)
      | (with_reducible exact recouplaw07_anchored.mono _)
      | (with_reducible exact recouplaw07_right.mono _ _ _ _ _)
      | (with_reducible exact recoupref06_List.mono _ _)
      | (with_reducible exact LeO.refl _)
      | (with_reducible exact LeO.none _)
      | (with_reducible refine LeO.ite ?_ ?_)
      | (with_reducible refine LeO.bind ?_ (fun _ => ?_))
      | exact ih0 _ _ _ _ _ _ _ _ _ _
      | exact matroid_Rank.mono _ _ _ _ _
      | exact recouplaw07_anchored.mono _
      | exact recouplaw07_right.mono _ _ _ _ _
      | exact recoupref06_List.mono _ _
      | exact LeO.none _
      | refine LeO.ite ?_ ?_
      | refine LeO.bind ?_ (fun _ => ?_)
set_option maxHeartbeats 400000000 in
set_option maxRecDepth 100000 in
theorem recouplaw07_MatroidSums.calls (k : Nat) (a0_0 : Int) (a0_1 : Int) (A0_2 : Option Addr) (c0_2 : Nat) (l0_2 : List Int) (a1 : Int) (a2 : Int) (r : Bool) (w : World) (hr0_2 : Kd.C (Kd.int .u8) w A0_2 l0_2.length l0_2) (hc0_2 : l0_2.length ≤ c0_2) (h : recouplaw07_MatroidSums.f k a0_0 a0_1 l0_2 a1 a2 = some r) (hT : TabAt 0 Lib.deBruijn64tab w) :
    Calls Tryd.prog 6 #[.agg #[.int .i64 a0_0, .int .i64 a0_1, .slice A0_2 l0_2.length c0_2], .int .u64 a1, .int .u64 a2] w fun e w' => e = .returned (.bool r) ∧ Below w.heap.size w w' := by
  have HT := Aside0.mk hT
  clear hT
  have hu24 := Tryd.underlying24
  have HR0_2 := Aside0.mk hr0_2
  have HC0_2 := Aside0.mk hc0_2
  clear hr0_2 hc0_2
  have HB := Aside0.mk (Below.refl w.heap.size w)
  have H : ((matroid_Rank.f k a0_0 a0_1 l0_2 a1).bind fun bt426 => ((matroid_Rank.f k a0_0 a0_1 l0_2 a2).bind fun bt428 => ((recouplaw07_right.f k a0_0 a0_1 l0_2 a1).bind fun t430 => (if t430 = true then ((recouplaw07_right.f k a0_0 a0_1 l0_2 a2).bind fun t431 => (recouplaw07_MatroidSums.j0 k a1 a2 bt426.1 bt426.2 bt428.1 bt428.2 (!t431) a0_0 a0_1 l0_2)) else (recouplaw07_MatroidSums.j0 k a1 a2 bt426.1 bt426.2 bt428.1 bt428.2 true a0_0 a0_1 l0_2))))) = some r := h
  clear h
  obtain ⟨⟨t426, t427⟩, A4, H⟩ := bindO H
  (try dsimp only at H)
  obtain ⟨⟨t428, t429⟩, A5, H⟩ := bindO H
  (try dsimp only at H)
  have HC6 := Aside0.mk H
  clear H
  go_enter Tryd.func6, Tryd.ntmps6
  go_upto_region 3 with (first | ((with_reducible refine gD 3 rfl ?_); (try (refine gate_guard (by rfl) ?_; dsimp only)); refine bE 3 #[.int .i64 a0_0, .int .i64 a0_1, .slice A0_2 l0_2.length c0_2] 24 ?_; intro gb425 hg w7 hbox hb; have BK425 := Aside0.mk (hbox); have GW425 := hbS HB hg; have GE425 := hbS HB hg; replace HB := hbB HB hb; clear hb hbox hg; obtain ⟨hcz8_0, hcz8_1, hcz8_2, hfz8_0, hfz8_1, hfz8_2⟩ := cell3 BK425) | ((with_reducible refine gC 12 rfl ?_); refine cG (some 18) Tryd.func12 #[.agg #[.int .i64 a0_0, .int .i64 a0_1, .slice A0_2 l0_2.length c0_2], .int .u64 a1] ?_; (with_reducible refine (matroid_Rank.calls k a0_0 a0_1 _ _ l0_2 a1 t426 t427 _ ?side1 ?side2 A4.out (tab_below HT.out (by repeat (first | (with_reducible first | exact HB.out | apply below_alloc | apply pw_below_drewN | apply below_drew1) | exact HB.out | exact Below.refl _ _)))).mono ?_); (case side1 => exact kcB HR0_2 HB); (case side2 => exact HC0_2.out); rintro e w9 ⟨rfl, hb⟩; refine ⟨_, rfl, ?_⟩; replace BK425 := bkB BK425 hb; replace HB := hbB HB hb; (try clear hb); (try clear hb2); (try clear hk); (try clear hi); obtain ⟨hcz10_0, hcz10_1, hcz10_2, hfz10_0, hfz10_1, hfz10_2⟩ := cell3 BK425) | ((with_reducible refine gC 12 rfl ?_); refine cG (some 24) Tryd.func12 #[.agg #[.int .i64 a0_0, .int .i64 a0_1, .slice A0_2 l0_2.length c0_2], .int .u64 a2] ?_; (with_reducible refine (matroid_Rank.calls k a0_0 a0_1 _ _ l0_2 a2 t428 t429 _ ?side1 ?side2 A5.out (tab_below HT.out (by repeat (first | (with_reducible first | exact HB.out | apply below_alloc | apply pw_below_drewN | apply below_drew1) | exact HB.out | exact Below.refl _ _)))).mono ?_); (case side1 => exact kcB HR0_2 HB); (case side2 => exact HC0_2.out); rintro e w11 ⟨rfl, hb⟩; refine ⟨_, rfl, ?_⟩; replace BK425 := bkB BK425 hb; replace HB := hbB HB hb; (try clear hb); (try clear hb2); (try clear hk); (try clear hi)))
  (try simp only [Act.put, List.setIfInBounds_toArray, List.set_cons_zero, List.set_cons_succ])
  go_cut [36] (fun v36 wc => ∃ (kq : Nat) (x36_5 : Bool), v36 = .bool x36_5 ∧ Aside0 (recouplaw07_MatroidSums.j0 kq a1 a2 t426 t427 t428 t429 x36_5 a0_0 a0_1 l0_2 = some r) ∧ Aside0 (kq ≤ k) ∧ Aside0 (wc.heap[gb425]? = some (.cells #[.int .i64 a0_0, .int .i64 a0_1, (.slice A0_2 l0_2.length c0_2)] 24 (0, 0))) ∧ Aside0 (Below w.heap.size w wc))
  case first =>
    have H := HC6.out
    clear HC6
    obtain ⟨t430, A12, H⟩ := bindO H
    (try dsimp only at H)
    by_cases c13 : t430 = true
    · subst c13
      rw [if_pos rfl] at H
      obtain ⟨t431, A14, H⟩ := bindO H
      (try dsimp only at H)
      have H' := Aside0.mk H
      clear H
      obtain ⟨hcz15_0, hcz15_1, hcz15_2, hfz15_0, hfz15_1, hfz15_2⟩ := cell3 BK425
      go_wp2_with (first | ((with_reducible refine gC 26 rfl ?_); refine cG (some 29) Tryd.func26 #[.agg #[.int .i64 a0_0, .int .i64 a0_1, .slice A0_2 l0_2.length c0_2], .int .u64 a1] ?_; (with_reducible refine (recouplaw07_right.calls k a0_0 a0_1 _ _ l0_2 a1 true _ ?side1 ?side2 A12.out).mono ?_); (case side1 => exact kcB HR0_2 HB); (case side2 => exact HC0_2.out); rintro e w16 ⟨rfl, hb⟩; refine ⟨_, rfl, ?_⟩; replace BK425 := bkB BK425 hb; replace HB := hbB HB hb; (try clear hb); (try clear hb2); (try clear hk); (try clear hi); obtain ⟨hcz17_0, hcz17_1, hcz17_2, hfz17_0, hfz17_1, hfz17_2⟩ := cell3 BK425) | (go_at_call 26; (with_reducible refine (recouplaw07_right.calls k a0_0 a0_1 _ _ l0_2 a2 t431 _ ?side1 ?side2 A14.out).mono ?_); (case side1 => exact kcB HR0_2 HB); (case side2 => exact HC0_2.out); rintro e w18 ⟨rfl, hb⟩; replace BK425 := bkB BK425 hb; replace HB := hbB HB hb; (try clear hb); (try clear hb2); (try clear hk); (try clear hi)))
      go_meet
      case rel => exact ⟨_, (!t431), rsE, H', ⟨leE⟩, ⟨bkA BK425.out⟩, ⟨hbA HB.out⟩⟩
    · replace c13 := Bool.eq_false_iff.mpr c13
      subst c13
      rw [if_neg nofT] at H
      have H' := Aside0.mk H
      clear H
      obtain ⟨hcz19_0, hcz19_1, hcz19_2, hfz19_0, hfz19_1, hfz19_2⟩ := cell3 BK425
      go_wp2_with (first | ((with_reducible refine gC 26 rfl ?_); refine cG (some 29) Tryd.func26 #[.agg #[.int .i64 a0_0, .int .i64 a0_1, .slice A0_2 l0_2.length c0_2], .int .u64 a1] ?_; (with_reducible refine (recouplaw07_right.calls k a0_0 a0_1 _ _ l0_2 a1 false _ ?side1 ?side2 A12.out).mono ?_); (case side1 => exact kcB HR0_2 HB); (case side2 => exact HC0_2.out); rintro e w20 ⟨rfl, hb⟩; refine ⟨_, rfl, ?_⟩; replace BK425 := bkB BK425 hb; replace HB := hbB HB hb; (try clear hb); (try clear hb2); (try clear hk); (try clear hi)))
      go_meet
      case rel => exact ⟨_, (true), rsE, H', ⟨leE⟩, ⟨bkA BK425.out⟩, ⟨hbA HB.out⟩⟩
  case rest =>
    clear HC6
    (try clear c1); (try clear c2); (try clear p2); (try clear c6); (try clear c12); (try clear c13); (try clear hcz10_0 hcz10_1 hcz10_2 hfz10_0 hfz10_1 hfz10_2); (try clear hcz15_0 hcz15_1 hcz15_2 hfz15_0 hfz15_1 hfz15_2); (try clear hcz17_0 hcz17_1 hcz17_2 hfz17_0 hfz17_1 hfz17_2); (try clear hcz19_0 hcz19_1 hcz19_2 hfz19_0 hfz19_1 hfz19_2); (try clear hcz8_0 hcz8_1 hcz8_2 hfz8_0 hfz8_1 hfz8_2)
    obtain ⟨kq, x36_5, rfl, HA, HJ5, BK425, HB⟩ := hcut
    cases kq with
    | zero => exact absurd HA.out (by simp [recouplaw07_MatroidSums.j0])
    | succ kj5 =>
      have H := HA.out
      clear HA
      simp only [recouplaw07_MatroidSums.j0] at H
      by_cases c21 : x36_5 = true
      · subst c21
        rw [if_pos rfl] at H
        obtain ⟨t432, A22, H⟩ := bindO H
        (try dsimp only at H)
        by_cases c23 : t432 = true
        · subst c23
          rw [if_pos rfl] at H
          by_cases c24 : t427 = 0
          · rw [if_pos c24] at H
            have c24b0 : (t427 == 0) = true := beq_iff_eq.mpr c24
            have c24b1 : (t427 != 0) = false := bne_eq_false_iff_eq.mpr c24
            clear c24
            obtain rfl := Option.some.inj H
            go_wp2_with (first | (go_at_call 27; (with_reducible refine (recouplaw07_anchored.calls kj5  true _ A22.out (tab_below HT.out (by repeat (first | (with_reducible first | exact HB.out | apply below_alloc | apply pw_below_drewN | apply below_drew1) | exact HB.out | exact Below.refl _ _)))).mono ?_); rintro e w25 ⟨rfl, hb⟩; replace BK425 := bkB BK425 hb; replace HB := hbB HB hb; (try clear hb); (try clear hb2); (try clear hk); (try clear hi)))
            go_ret
            exact ⟨rfE, hbA HB.out⟩
          · rw [if_neg c24] at H
            have c24b0 : (t427 == 0) = false := beq_eq_false_iff_ne.mpr c24
            have c24b1 : (t427 != 0) = true := bne_iff_ne.mpr c24
            obtain rfl := Option.some.inj H
            go_wp2_with (first | (go_at_call 27; (with_reducible refine (recouplaw07_anchored.calls kj5  true _ A22.out (tab_below HT.out (by repeat (first | (with_reducible first | exact HB.out | apply below_alloc | apply pw_below_drewN | apply below_drew1) | exact HB.out | exact Below.refl _ _)))).mono ?_); rintro e w26 ⟨rfl, hb⟩; replace BK425 := bkB BK425 hb; replace HB := hbB HB hb; (try clear hb); (try clear hb2); (try clear hk); (try clear hi)))
            go_ret
            exact ⟨rfE, hbA HB.out⟩
        · replace c23 := Bool.eq_false_iff.mpr c23
          subst c23
          rw [if_neg nofT] at H
          obtain rfl := Option.some.inj H
          go_wp2_with (first | (go_at_call 27; (with_reducible refine (recouplaw07_anchored.calls kj5  false _ A22.out (tab_below HT.out (by repeat (first | (with_reducible first | exact HB.out | apply below_alloc | apply pw_below_drewN | apply below_drew1) | exact HB.out | exact Below.refl _ _)))).mono ?_); rintro e w27 ⟨rfl, hb⟩; replace BK425 := bkB BK425 hb; replace HB := hbB HB hb; (try clear hb); (try clear hb2); (try clear hk); (try clear hi)))
          go_ret
          exact ⟨rfE, hbA HB.out⟩
      · replace c21 := Bool.eq_false_iff.mpr c21
        subst c21
        rw [if_neg nofT] at H
        obtain ⟨⟨t433, t434⟩, A28, H⟩ := bindO H
        (try dsimp only at H)
        obtain ⟨⟨t435, t436⟩, A29, H⟩ := bindO H
        (try dsimp only at H)
        obtain ⟨t437, A30, H⟩ := bindO H
        (try dsimp only at H)
        by_cases c31 : t437 = true
        · subst c31
          rw [if_pos rfl] at H
          by_cases c32 : t427 = 0
          · rw [if_pos c32] at H
            have c32b0 : (t427 == 0) = true := beq_iff_eq.mpr c32
            have c32b1 : (t427 != 0) = false := bne_eq_false_iff_eq.mpr c32
            clear c32
            by_cases c33 : t429 = 0
            · rw [if_pos c33] at H
              have c33b0 : (t429 == 0) = true := beq_iff_eq.mpr c33
              have c33b1 : (t429 != 0) = false := bne_eq_false_iff_eq.mpr c33
              clear c33
              by_cases c34 : t434 = 0
              · rw [if_pos c34] at H
                have c34b0 : (t434 == 0) = true := beq_iff_eq.mpr c34
                have c34b1 : (t434 != 0) = false := bne_eq_false_iff_eq.mpr c34
                clear c34
                by_cases c35 : t436 = 0
                · rw [if_pos c35] at H
                  have c35b0 : (t436 == 0) = true := beq_iff_eq.mpr c35
                  have c35b1 : (t436 != 0) = false := bne_eq_false_iff_eq.mpr c35
                  clear c35
                  by_cases c36 : (wrap64 (t433 + t435)) ≤ (wrap64 (t426 + t428))
                  · rw [if_pos c36] at H
                    have c36b0 : decide ((wrap64 (t433 + t435)) ≤ (wrap64 (t426 + t428))) = true := decide_eq_true c36
                    clear c36
                    by_cases c37 : t433 ≥ t426
                    · rw [if_pos c37] at H
                      have c37b0 : decide (t426 ≤ t433) = true := decide_eq_true c37
                      clear c37
                      by_cases c38 : t433 ≥ t428
                      · rw [if_pos c38] at H
                        have c38b0 : decide (t428 ≤ t433) = true := decide_eq_true c38
                        clear c38
                        by_cases c39 : t435 ≤ t426
                        · rw [if_pos c39] at H
                          have c39b0 : decide (t435 ≤ t426) = true := decide_eq_true c39
                          clear c39
                          by_cases c40 : t435 ≤ t428
                          · rw [if_pos c40] at H
                            have c40b0 : decide (t435 ≤ t428) = true := decide_eq_true c40
                            clear c40
                            obtain ⟨t438, A41, H⟩ := bindO H
                            (try dsimp only at H)
                            by_cases c42 : t426 ≤ (t438.length : Int)
                            · rw [if_pos c42] at H
                              have c42b0 : decide (t426 ≤ (t438.length : Int)) = true := decide_eq_true c42
                              clear c42
                              obtain ⟨t441, A43, H⟩ := bindO H
                              (try dsimp only at H)
                              obtain rfl := Option.some.inj H
                              obtain ⟨hcz44_0, hcz44_1, hcz44_2, hfz44_0, hfz44_1, hfz44_2⟩ := cell3 BK425
                              go_wp2_with (first | ((with_reducible refine gC 12 rfl ?_); refine cG (some 51) Tryd.func12 #[.agg #[.int .i64 a0_0, .int .i64 a0_1, .slice A0_2 l0_2.length c0_2], .int .u64 (Go.bits .or .u64 a1 a2)] ?_; (with_reducible refine (matroid_Rank.calls kj5 a0_0 a0_1 _ _ l0_2 (Go.bits .or .u64 a1 a2) t433 t434 _ ?side1 ?side2 A28.out (tab_below HT.out (by repeat (first | (with_reducible first | exact HB.out | apply below_alloc | apply pw_below_drewN | apply below_drew1) | exact HB.out | exact Below.refl _ _)))).mono ?_); (case side1 => exact kcB HR0_2 HB); (case side2 => exact HC0_2.out); rintro e w45 ⟨rfl, hb⟩; refine ⟨_, rfl, ?_⟩; replace BK425 := bkB BK425 hb; replace HB := hbB HB hb; (try clear hb); (try clear hb2); (try clear hk); (try clear hi); obtain ⟨hcz46_0, hcz46_1, hcz46_2, hfz46_0, hfz46_1, hfz46_2⟩ := cell3 BK425) | ((with_reducible refine gC 12 rfl ?_); refine cG (some 59) Tryd.func12 #[.agg #[.int .i64 a0_0, .int .i64 a0_1, .slice A0_2 l0_2.length c0_2], .int .u64 (Go.bits .and .u64 a1 a2)] ?_; (with_reducible refine (matroid_Rank.calls kj5 a0_0 a0_1 _ _ l0_2 (Go.bits .and .u64 a1 a2) t435 t436 _ ?side1 ?side2 A29.out (tab_below HT.out (by repeat (first | (with_reducible first | exact HB.out | apply below_alloc | apply pw_below_drewN | apply below_drew1) | exact HB.out | exact Below.refl _ _)))).mono ?_); (case side1 => exact kcB HR0_2 HB); (case side2 => exact HC0_2.out); rintro e w47 ⟨rfl, hb⟩; refine ⟨_, rfl, ?_⟩; replace BK425 := bkB BK425 hb; replace HB := hbB HB hb; (try clear hb); (try clear hb2); (try clear hk); (try clear hi)) | (go_at_call 27; (with_reducible refine (recouplaw07_anchored.calls kj5  true _ A30.out (tab_below HT.out (by repeat (first | (with_reducible first | exact HB.out | apply below_alloc | apply pw_below_drewN | apply below_drew1) | exact HB.out | exact Below.refl _ _)))).mono ?_); rintro e w48 ⟨rfl, hb⟩; replace BK425 := bkB BK425 hb; replace HB := hbB HB hb; (try clear hb); (try clear hb2); (try clear hk); (try clear hi)) | (go_at_call 28; (with_reducible refine (recoupref06_List.calls kj5 a1 t438 _ A41.out).mono ?_); rintro e w49 ⟨v439, rfl, ho0, hb⟩; have HO440 := Aside0.mk (Kd.R_lower ho0 (below_size (hbA HB.out))); replace BK425 := bkB BK425 hb; replace HB := hbB HB hb; (try clear hb); (try clear hb2); (try clear hk); (try clear hi); (try clear ho0); obtain ⟨Ao50, co50, eo50⟩ := Kd.R_slice HO440.out; subst eo50) | (go_at_call 28; (with_reducible refine (recoupref06_List.calls kj5 (Go.bits .andNot .u64 a2 a1) t441 _ A43.out).mono ?_); rintro e w51 ⟨v442, rfl, ho0, hb⟩; have HO443 := Aside0.mk (Kd.R_lower (Kd.R_new' ho0 (Kd.R_lt (kdA HO440.out))) (below_size (hbA HB.out))); replace HO440 := Aside0.mk (Kd.R_elder' (kdA HO440.out) (Kd.R_base ho0) hb); replace BK425 := bkB BK425 hb; replace HB := hbB HB hb; (try clear hb); (try clear hb2); (try clear hk); (try clear hi); (try clear ho0); obtain ⟨Ao52, co52, eo52⟩ := Kd.R_slice HO443.out; subst eo52))
                              go_ret
                              exact ⟨rfE, hbA HB.out⟩
                            · rw [if_neg c42] at H
                              have c42b0 : decide (t426 ≤ (t438.length : Int)) = false := decide_eq_false c42
                              clear c42
                              obtain rfl := Option.some.inj H
                              obtain ⟨hcz53_0, hcz53_1, hcz53_2, hfz53_0, hfz53_1, hfz53_2⟩ := cell3 BK425
                              go_wp2_with (first | ((with_reducible refine gC 12 rfl ?_); refine cG (some 51) Tryd.func12 #[.agg #[.int .i64 a0_0, .int .i64 a0_1, .slice A0_2 l0_2.length c0_2], .int .u64 (Go.bits .or .u64 a1 a2)] ?_; (with_reducible refine (matroid_Rank.calls kj5 a0_0 a0_1 _ _ l0_2 (Go.bits .or .u64 a1 a2) t433 t434 _ ?side1 ?side2 A28.out (tab_below HT.out (by repeat (first | (with_reducible first | exact HB.out | apply below_alloc | apply pw_below_drewN | apply below_drew1) | exact HB.out | exact Below.refl _ _)))).mono ?_); (case side1 => exact kcB HR0_2 HB); (case side2 => exact HC0_2.out); rintro e w54 ⟨rfl, hb⟩; refine ⟨_, rfl, ?_⟩; replace BK425 := bkB BK425 hb; replace HB := hbB HB hb; (try clear hb); (try clear hb2); (try clear hk); (try clear hi); obtain ⟨hcz55_0, hcz55_1, hcz55_2, hfz55_0, hfz55_1, hfz55_2⟩ := cell3 BK425) | ((with_reducible refine gC 12 rfl ?_); refine cG (some 59) Tryd.func12 #[.agg #[.int .i64 a0_0, .int .i64 a0_1, .slice A0_2 l0_2.length c0_2], .int .u64 (Go.bits .and .u64 a1 a2)] ?_; (with_reducible refine (matroid_Rank.calls kj5 a0_0 a0_1 _ _ l0_2 (Go.bits .and .u64 a1 a2) t435 t436 _ ?side1 ?side2 A29.out (tab_below HT.out (by repeat (first | (with_reducible first | exact HB.out | apply below_alloc | apply pw_below_drewN | apply below_drew1) | exact HB.out | exact Below.refl _ _)))).mono ?_); (case side1 => exact kcB HR0_2 HB); (case side2 => exact HC0_2.out); rintro e w56 ⟨rfl, hb⟩; refine ⟨_, rfl, ?_⟩; replace BK425 := bkB BK425 hb; replace HB := hbB HB hb; (try clear hb); (try clear hb2); (try clear hk); (try clear hi)) | (go_at_call 27; (with_reducible refine (recouplaw07_anchored.calls kj5  true _ A30.out (tab_below HT.out (by repeat (first | (with_reducible first | exact HB.out | apply below_alloc | apply pw_below_drewN | apply below_drew1) | exact HB.out | exact Below.refl _ _)))).mono ?_); rintro e w57 ⟨rfl, hb⟩; replace BK425 := bkB BK425 hb; replace HB := hbB HB hb; (try clear hb); (try clear hb2); (try clear hk); (try clear hi)) | (go_at_call 28; (with_reducible refine (recoupref06_List.calls kj5 a1 t438 _ A41.out).mono ?_); rintro e w58 ⟨v439, rfl, ho0, hb⟩; have HO440 := Aside0.mk (Kd.R_lower ho0 (below_size (hbA HB.out))); replace BK425 := bkB BK425 hb; replace HB := hbB HB hb; (try clear hb); (try clear hb2); (try clear hk); (try clear hi); (try clear ho0); obtain ⟨Ao59, co59, eo59⟩ := Kd.R_slice HO440.out; subst eo59))
                              go_ret
                              exact ⟨rfE, hbA HB.out⟩
                          · rw [if_neg c40] at H
                            have c40b0 : decide (t435 ≤ t428) = false := decide_eq_false c40
                            clear c40
                            obtain rfl := Option.some.inj H
                            obtain ⟨hcz60_0, hcz60_1, hcz60_2, hfz60_0, hfz60_1, hfz60_2⟩ := cell3 BK425
                            go_wp2_with (first | ((with_reducible refine gC 12 rfl ?_); refine cG (some 51) Tryd.func12 #[.agg #[.int .i64 a0_0, .int .i64 a0_1, .slice A0_2 l0_2.length c0_2], .int .u64 (Go.bits .or .u64 a1 a2)] ?_; (with_reducible refine (matroid_Rank.calls kj5 a0_0 a0_1 _ _ l0_2 (Go.bits .or .u64 a1 a2) t433 t434 _ ?side1 ?side2 A28.out (tab_below HT.out (by repeat (first | (with_reducible first | exact HB.out | apply below_alloc | apply pw_below_drewN | apply below_drew1) | exact HB.out | exact Below.refl _ _)))).mono ?_); (case side1 => exact kcB HR0_2 HB); (case side2 => exact HC0_2.out); rintro e w61 ⟨rfl, hb⟩; refine ⟨_, rfl, ?_⟩; replace BK425 := bkB BK425 hb; replace HB := hbB HB hb; (try clear hb); (try clear hb2); (try clear hk); (try clear hi); obtain ⟨hcz62_0, hcz62_1, hcz62_2, hfz62_0, hfz62_1, hfz62_2⟩ := cell3 BK425) | ((with_reducible refine gC 12 rfl ?_); refine cG (some 59) Tryd.func12 #[.agg #[.int .i64 a0_0, .int .i64 a0_1, .slice A0_2 l0_2.length c0_2], .int .u64 (Go.bits .and .u64 a1 a2)] ?_; (with_reducible refine (matroid_Rank.calls kj5 a0_0 a0_1 _ _ l0_2 (Go.bits .and .u64 a1 a2) t435 t436 _ ?side1 ?side2 A29.out (tab_below HT.out (by repeat (first | (with_reducible first | exact HB.out | apply below_alloc | apply pw_below_drewN | apply below_drew1) | exact HB.out | exact Below.refl _ _)))).mono ?_); (case side1 => exact kcB HR0_2 HB); (case side2 => exact HC0_2.out); rintro e w63 ⟨rfl, hb⟩; refine ⟨_, rfl, ?_⟩; replace BK425 := bkB BK425 hb; replace HB := hbB HB hb; (try clear hb); (try clear hb2); (try clear hk); (try clear hi)) | (go_at_call 27; (with_reducible refine (recouplaw07_anchored.calls kj5  true _ A30.out (tab_below HT.out (by repeat (first | (with_reducible first | exact HB.out | apply below_alloc | apply pw_below_drewN | apply below_drew1) | exact HB.out | exact Below.refl _ _)))).mono ?_); rintro e w64 ⟨rfl, hb⟩; replace BK425 := bkB BK425 hb; replace HB := hbB HB hb; (try clear hb); (try clear hb2); (try clear hk); (try clear hi)))
                            go_ret
                            exact ⟨rfE, hbA HB.out⟩
                        · rw [if_neg c39] at H
                          have c39b0 : decide (t435 ≤ t426) = false := decide_eq_false c39
                          clear c39
                          obtain rfl := Option.some.inj H
                          obtain ⟨hcz65_0, hcz65_1, hcz65_2, hfz65_0, hfz65_1, hfz65_2⟩ := cell3 BK425
                          go_wp2_with (first | ((with_reducible refine gC 12 rfl ?_); refine cG (some 51) Tryd.func12 #[.agg #[.int .i64 a0_0, .int .i64 a0_1, .slice A0_2 l0_2.length c0_2], .int .u64 (Go.bits .or .u64 a1 a2)] ?_; (with_reducible refine (matroid_Rank.calls kj5 a0_0 a0_1 _ _ l0_2 (Go.bits .or .u64 a1 a2) t433 t434 _ ?side1 ?side2 A28.out (tab_below HT.out (by repeat (first | (with_reducible first | exact HB.out | apply below_alloc | apply pw_below_drewN | apply below_drew1) | exact HB.out | exact Below.refl _ _)))).mono ?_); (case side1 => exact kcB HR0_2 HB); (case side2 => exact HC0_2.out); rintro e w66 ⟨rfl, hb⟩; refine ⟨_, rfl, ?_⟩; replace BK425 := bkB BK425 hb; replace HB := hbB HB hb; (try clear hb); (try clear hb2); (try clear hk); (try clear hi); obtain ⟨hcz67_0, hcz67_1, hcz67_2, hfz67_0, hfz67_1, hfz67_2⟩ := cell3 BK425) | ((with_reducible refine gC 12 rfl ?_); refine cG (some 59) Tryd.func12 #[.agg #[.int .i64 a0_0, .int .i64 a0_1, .slice A0_2 l0_2.length c0_2], .int .u64 (Go.bits .and .u64 a1 a2)] ?_; (with_reducible refine (matroid_Rank.calls kj5 a0_0 a0_1 _ _ l0_2 (Go.bits .and .u64 a1 a2) t435 t436 _ ?side1 ?side2 A29.out (tab_below HT.out (by repeat (first | (with_reducible first | exact HB.out | apply below_alloc | apply pw_below_drewN | apply below_drew1) | exact HB.out | exact Below.refl _ _)))).mono ?_); (case side1 => exact kcB HR0_2 HB); (case side2 => exact HC0_2.out); rintro e w68 ⟨rfl, hb⟩; refine ⟨_, rfl, ?_⟩; replace BK425 := bkB BK425 hb; replace HB := hbB HB hb; (try clear hb); (try clear hb2); (try clear hk); (try clear hi)) | (go_at_call 27; (with_reducible refine (recouplaw07_anchored.calls kj5  true _ A30.out (tab_below HT.out (by repeat (first | (with_reducible first | exact HB.out | apply below_alloc | apply pw_below_drewN | apply below_drew1) | exact HB.out | exact Below.refl _ _)))).mono ?_); rintro e w69 ⟨rfl, hb⟩; replace BK425 := bkB BK425 hb; replace HB := hbB HB hb; (try clear hb); (try clear hb2); (try clear hk); (try clear hi)))
                          go_ret
                          exact ⟨rfE, hbA HB.out⟩
                      · rw [if_neg c38] at H
                        have c38b0 : decide (t428 ≤ t433) = false := decide_eq_false c38
                        clear c38
                        obtain rfl := Option.some.inj H
                        obtain ⟨hcz70_0, hcz70_1, hcz70_2, hfz70_0, hfz70_1, hfz70_2⟩ := cell3 BK425
                        go_wp2_with (first | ((with_reducible refine gC 12 rfl ?_); refine cG (some 51) Tryd.func12 #[.agg #[.int .i64 a0_0, .int .i64 a0_1, .slice A0_2 l0_2.length c0_2], .int .u64 (Go.bits .or .u64 a1 a2)] ?_; (with_reducible refine (matroid_Rank.calls kj5 a0_0 a0_1 _ _ l0_2 (Go.bits .or .u64 a1 a2) t433 t434 _ ?side1 ?side2 A28.out (tab_below HT.out (by repeat (first | (with_reducible first | exact HB.out | apply below_alloc | apply pw_below_drewN | apply below_drew1) | exact HB.out | exact Below.refl _ _)))).mono ?_); (case side1 => exact kcB HR0_2 HB); (case side2 => exact HC0_2.out); rintro e w71 ⟨rfl, hb⟩; refine ⟨_, rfl, ?_⟩; replace BK425 := bkB BK425 hb; replace HB := hbB HB hb; (try clear hb); (try clear hb2); (try clear hk); (try clear hi); obtain ⟨hcz72_0, hcz72_1, hcz72_2, hfz72_0, hfz72_1, hfz72_2⟩ := cell3 BK425) | ((with_reducible refine gC 12 rfl ?_); refine cG (some 59) Tryd.func12 #[.agg #[.int .i64 a0_0, .int .i64 a0_1, .slice A0_2 l0_2.length c0_2], .int .u64 (Go.bits .and .u64 a1 a2)] ?_; (with_reducible refine (matroid_Rank.calls kj5 a0_0 a0_1 _ _ l0_2 (Go.bits .and .u64 a1 a2) t435 t436 _ ?side1 ?side2 A29.out (tab_below HT.out (by repeat (first | (with_reducible first | exact HB.out | apply below_alloc | apply pw_below_drewN | apply below_drew1) | exact HB.out | exact Below.refl _ _)))).mono ?_); (case side1 => exact kcB HR0_2 HB); (case side2 => exact HC0_2.out); rintro e w73 ⟨rfl, hb⟩; refine ⟨_, rfl, ?_⟩; replace BK425 := bkB BK425 hb; replace HB := hbB HB hb; (try clear hb); (try clear hb2); (try clear hk); (try clear hi)) | (go_at_call 27; (with_reducible refine (recouplaw07_anchored.calls kj5  true _ A30.out (tab_below HT.out (by repeat (first | (with_reducible first | exact HB.out | apply below_alloc | apply pw_below_drewN | apply below_drew1) | exact HB.out | exact Below.refl _ _)))).mono ?_); rintro e w74 ⟨rfl, hb⟩; replace BK425 := bkB BK425 hb; replace HB := hbB HB hb; (try clear hb); (try clear hb2); (try clear hk); (try clear hi)))
                        go_ret
                        exact ⟨rfE, hbA HB.out⟩
                    · rw [if_neg c37] at H
                      have c37b0 : decide (t426 ≤ t433) = false := decide_eq_false c37
                      clear c37
                      obtain rfl := Option.some.inj H
                      obtain ⟨hcz75_0, hcz75_1, hcz75_2, hfz75_0, hfz75_1, hfz75_2⟩ := cell3 BK425
                      go_wp2_with (first | ((with_reducible refine gC 12 rfl ?_); refine cG (some 51) Tryd.func12 #[.agg #[.int .i64 a0_0, .int .i64 a0_1, .slice A0_2 l0_2.length c0_2], .int .u64 (Go.bits .or .u64 a1 a2)] ?_; (with_reducible refine (matroid_Rank.calls kj5 a0_0 a0_1 _ _ l0_2 (Go.bits .or .u64 a1 a2) t433 t434 _ ?side1 ?side2 A28.out (tab_below HT.out (by repeat (first | (with_reducible first | exact HB.out | apply below_alloc | apply pw_below_drewN | apply below_drew1) | exact HB.out | exact Below.refl _ _)))).mono ?_); (case side1 => exact kcB HR0_2 HB); (case side2 => exact HC0_2.out); rintro e w76 ⟨rfl, hb⟩; refine ⟨_, rfl, ?_⟩; replace BK425 := bkB BK425 hb; replace HB := hbB HB hb; (try clear hb); (try clear hb2); (try clear hk); (try clear hi); obtain ⟨hcz77_0, hcz77_1, hcz77_2, hfz77_0, hfz77_1, hfz77_2⟩ := cell3 BK425) | ((with_reducible refine gC 12 rfl ?_); refine cG (some 59) Tryd.func12 #[.agg #[.int .i64 a0_0, .int .i64 a0_1, .slice A0_2 l0_2.length c0_2], .int .u64 (Go.bits .and .u64 a1 a2)] ?_; (with_reducible refine (matroid_Rank.calls kj5 a0_0 a0_1 _ _ l0_2 (Go.bits .and .u64 a1 a2) t435 t436 _ ?side1 ?side2 A29.out (tab_below HT.out (by repeat (first | (with_reducible first | exact HB.out | apply below_alloc | apply pw_below_drewN | apply below_drew1) | exact HB.out | exact Below.refl _ _)))).mono ?_); (case side1 => exact kcB HR0_2 HB); (case side2 => exact HC0_2.out); rintro e w78 ⟨rfl, hb⟩; refine ⟨_, rfl, ?_⟩; replace BK425 := bkB BK425 hb; replace HB := hbB HB hb; (try clear hb); (try clear hb2); (try clear hk); (try clear hi)) | (go_at_call 27; (with_reducible refine (recouplaw07_anchored.calls kj5  true _ A30.out (tab_below HT.out (by repeat (first | (with_reducible first | exact HB.out | apply below_alloc | apply pw_below_drewN | apply below_drew1) | exact HB.out | exact Below.refl _ _)))).mono ?_); rintro e w79 ⟨rfl, hb⟩; replace BK425 := bkB BK425 hb; replace HB := hbB HB hb; (try clear hb); (try clear hb2); (try clear hk); (try clear hi)))
                      go_ret
                      exact ⟨rfE, hbA HB.out⟩
                  · rw [if_neg c36] at H
                    have c36b0 : decide ((wrap64 (t433 + t435)) ≤ (wrap64 (t426 + t428))) = false := decide_eq_false c36
                    clear c36
                    obtain rfl := Option.some.inj H
                    obtain ⟨hcz80_0, hcz80_1, hcz80_2, hfz80_0, hfz80_1, hfz80_2⟩ := cell3 BK425
                    go_wp2_with (first | ((with_reducible refine gC 12 rfl ?_); refine cG (some 51) Tryd.func12 #[.agg #[.int .i64 a0_0, .int .i64 a0_1, .slice A0_2 l0_2.length c0_2], .int .u64 (Go.bits .or .u64 a1 a2)] ?_; (with_reducible refine (matroid_Rank.calls kj5 a0_0 a0_1 _ _ l0_2 (Go.bits .or .u64 a1 a2) t433 t434 _ ?side1 ?side2 A28.out (tab_below HT.out (by repeat (first | (with_reducible first | exact HB.out | apply below_alloc | apply pw_below_drewN | apply below_drew1) | exact HB.out | exact Below.refl _ _)))).mono ?_); (case side1 => exact kcB HR0_2 HB); (case side2 => exact HC0_2.out); rintro e w81 ⟨rfl, hb⟩; refine ⟨_, rfl, ?_⟩; replace BK425 := bkB BK425 hb; replace HB := hbB HB hb; (try clear hb); (try clear hb2); (try clear hk); (try clear hi); obtain ⟨hcz82_0, hcz82_1, hcz82_2, hfz82_0, hfz82_1, hfz82_2⟩ := cell3 BK425) | ((with_reducible refine gC 12 rfl ?_); refine cG (some 59) Tryd.func12 #[.agg #[.int .i64 a0_0, .int .i64 a0_1, .slice A0_2 l0_2.length c0_2], .int .u64 (Go.bits .and .u64 a1 a2)] ?_; (with_reducible refine (matroid_Rank.calls kj5 a0_0 a0_1 _ _ l0_2 (Go.bits .and .u64 a1 a2) t435 t436 _ ?side1 ?side2 A29.out (tab_below HT.out (by repeat (first | (with_reducible first | exact HB.out | apply below_alloc | apply pw_below_drewN | apply below_drew1) | exact HB.out | exact Below.refl _ _)))).mono ?_); (case side1 => exact kcB HR0_2 HB); (case side2 => exact HC0_2.out); rintro e w83 ⟨rfl, hb⟩; refine ⟨_, rfl, ?_⟩; replace BK425 := bkB BK425 hb; replace HB := hbB HB hb; (try clear hb); (try clear hb2); (try clear hk); (try clear hi)) | (go_at_call 27; (with_reducible refine (recouplaw07_anchored.calls kj5  true _ A30.out (tab_below HT.out (by repeat (first | (with_reducible first | exact HB.out | apply below_alloc | apply pw_below_drewN | apply below_drew1) | exact HB.out | exact Below.refl _ _)))).mono ?_); rintro e w84 ⟨rfl, hb⟩; replace BK425 := bkB BK425 hb; replace HB := hbB HB hb; (try clear hb); (try clear hb2); (try clear hk); (try clear hi)))
                    go_ret
                    exact ⟨rfE, hbA HB.out⟩
                · rw [if_neg c35] at H
                  have c35b0 : (t436 == 0) = false := beq_eq_false_iff_ne.mpr c35
                  have c35b1 : (t436 != 0) = true := bne_iff_ne.mpr c35
                  obtain rfl := Option.some.inj H
                  obtain ⟨hcz85_0, hcz85_1, hcz85_2, hfz85_0, hfz85_1, hfz85_2⟩ := cell3 BK425
                  go_wp2_with (first | ((with_reducible refine gC 12 rfl ?_); refine cG (some 51) Tryd.func12 #[.agg #[.int .i64 a0_0, .int .i64 a0_1, .slice A0_2 l0_2.length c0_2], .int .u64 (Go.bits .or .u64 a1 a2)] ?_; (with_reducible refine (matroid_Rank.calls kj5 a0_0 a0_1 _ _ l0_2 (Go.bits .or .u64 a1 a2) t433 t434 _ ?side1 ?side2 A28.out (tab_below HT.out (by repeat (first | (with_reducible first | exact HB.out | apply below_alloc | apply pw_below_drewN | apply below_drew1) | exact HB.out | exact Below.refl _ _)))).mono ?_); (case side1 => exact kcB HR0_2 HB); (case side2 => exact HC0_2.out); rintro e w86 ⟨rfl, hb⟩; refine ⟨_, rfl, ?_⟩; replace BK425 := bkB BK425 hb; replace HB := hbB HB hb; (try clear hb); (try clear hb2); (try clear hk); (try clear hi); obtain ⟨hcz87_0, hcz87_1, hcz87_2, hfz87_0, hfz87_1, hfz87_2⟩ := cell3 BK425) | ((with_reducible refine gC 12 rfl ?_); refine cG (some 59) Tryd.func12 #[.agg #[.int .i64 a0_0, .int .i64 a0_1, .slice A0_2 l0_2.length c0_2], .int .u64 (Go.bits .and .u64 a1 a2)] ?_; (with_reducible refine (matroid_Rank.calls kj5 a0_0 a0_1 _ _ l0_2 (Go.bits .and .u64 a1 a2) t435 t436 _ ?side1 ?side2 A29.out (tab_below HT.out (by repeat (first | (with_reducible first | exact HB.out | apply below_alloc | apply pw_below_drewN | apply below_drew1) | exact HB.out | exact Below.refl _ _)))).mono ?_); (case side1 => exact kcB HR0_2 HB); (case side2 => exact HC0_2.out); rintro e w88 ⟨rfl, hb⟩; refine ⟨_, rfl, ?_⟩; replace BK425 := bkB BK425 hb; replace HB := hbB HB hb; (try clear hb); (try clear hb2); (try clear hk); (try clear hi)) | (go_at_call 27; (with_reducible refine (recouplaw07_anchored.calls kj5  true _ A30.out (tab_below HT.out (by repeat (first | (with_reducible first | exact HB.out | apply below_alloc | apply pw_below_drewN | apply below_drew1) | exact HB.out | exact Below.refl _ _)))).mono ?_); rintro e w89 ⟨rfl, hb⟩; replace BK425 := bkB BK425 hb; replace HB := hbB HB hb; (try clear hb); (try clear hb2); (try clear hk); (try clear hi)))
                  go_ret
                  exact ⟨rfE, hbA HB.out⟩
              · rw [if_neg c34] at H
                have c34b0 : (t434 == 0) = false := beq_eq_false_iff_ne.mpr c34
                have c34b1 : (t434 != 0) = true := bne_iff_ne.mpr c34
                obtain rfl := Option.some.inj H
                obtain ⟨hcz90_0, hcz90_1, hcz90_2, hfz90_0, hfz90_1, hfz90_2⟩ := cell3 BK425
                go_wp2_with (first | ((with_reducible refine gC 12 rfl ?_); refine cG (some 51) Tryd.func12 #[.agg #[.int .i64 a0_0, .int .i64 a0_1, .slice A0_2 l0_2.length c0_2], .int .u64 (Go.bits .or .u64 a1 a2)] ?_; (with_reducible refine (matroid_Rank.calls kj5 a0_0 a0_1 _ _ l0_2 (Go.bits .or .u64 a1 a2) t433 t434 _ ?side1 ?side2 A28.out (tab_below HT.out (by repeat (first | (with_reducible first | exact HB.out | apply below_alloc | apply pw_below_drewN | apply below_drew1) | exact HB.out | exact Below.refl _ _)))).mono ?_); (case side1 => exact kcB HR0_2 HB); (case side2 => exact HC0_2.out); rintro e w91 ⟨rfl, hb⟩; refine ⟨_, rfl, ?_⟩; replace BK425 := bkB BK425 hb; replace HB := hbB HB hb; (try clear hb); (try clear hb2); (try clear hk); (try clear hi); obtain ⟨hcz92_0, hcz92_1, hcz92_2, hfz92_0, hfz92_1, hfz92_2⟩ := cell3 BK425) | ((with_reducible refine gC 12 rfl ?_); refine cG (some 59) Tryd.func12 #[.agg #[.int .i64 a0_0, .int .i64 a0_1, .slice A0_2 l0_2.length c0_2], .int .u64 (Go.bits .and .u64 a1 a2)] ?_; (with_reducible refine (matroid_Rank.calls kj5 a0_0 a0_1 _ _ l0_2 (Go.bits .and .u64 a1 a2) t435 t436 _ ?side1 ?side2 A29.out (tab_below HT.out (by repeat (first | (with_reducible first | exact HB.out | apply below_alloc | apply pw_below_drewN | apply below_drew1) | exact HB.out | exact Below.refl _ _)))).mono ?_); (case side1 => exact kcB HR0_2 HB); (case side2 => exact HC0_2.out); rintro e w93 ⟨rfl, hb⟩; refine ⟨_, rfl, ?_⟩; replace BK425 := bkB BK425 hb; replace HB := hbB HB hb; (try clear hb); (try clear hb2); (try clear hk); (try clear hi)) | (go_at_call 27; (with_reducible refine (recouplaw07_anchored.calls kj5  true _ A30.out (tab_below HT.out (by repeat (first | (with_reducible first | exact HB.out | apply below_alloc | apply pw_below_drewN | apply below_drew1) | exact HB.out | exact Below.refl _ _)))).mono ?_); rintro e w94 ⟨rfl, hb⟩; replace BK425 := bkB BK425 hb; replace HB := hbB HB hb; (try clear hb); (try clear hb2); (try clear hk); (try clear hi)))
                go_ret
                exact ⟨rfE, hbA HB.out⟩
            · rw [if_neg c33] at H
              have c33b0 : (t429 == 0) = false := beq_eq_false_iff_ne.mpr c33
              have c33b1 : (t429 != 0) = true := bne_iff_ne.mpr c33
              obtain rfl := Option.some.inj H
              obtain ⟨hcz95_0, hcz95_1, hcz95_2, hfz95_0, hfz95_1, hfz95_2⟩ := cell3 BK425
              go_wp2_with (first | ((with_reducible refine gC 12 rfl ?_); refine cG (some 51) Tryd.func12 #[.agg #[.int .i64 a0_0, .int .i64 a0_1, .slice A0_2 l0_2.length c0_2], .int .u64 (Go.bits .or .u64 a1 a2)] ?_; (with_reducible refine (matroid_Rank.calls kj5 a0_0 a0_1 _ _ l0_2 (Go.bits .or .u64 a1 a2) t433 t434 _ ?side1 ?side2 A28.out (tab_below HT.out (by repeat (first | (with_reducible first | exact HB.out | apply below_alloc | apply pw_below_drewN | apply below_drew1) | exact HB.out | exact Below.refl _ _)))).mono ?_); (case side1 => exact kcB HR0_2 HB); (case side2 => exact HC0_2.out); rintro e w96 ⟨rfl, hb⟩; refine ⟨_, rfl, ?_⟩; replace BK425 := bkB BK425 hb; replace HB := hbB HB hb; (try clear hb); (try clear hb2); (try clear hk); (try clear hi); obtain ⟨hcz97_0, hcz97_1, hcz97_2, hfz97_0, hfz97_1, hfz97_2⟩ := cell3 BK425) | ((with_reducible refine gC 12 rfl ?_); refine cG (some 59) Tryd.func12 #[.agg #[.int .i64 a0_0, .int .i64 a0_1, .slice A0_2 l0_2.length c0_2], .int .u64 (Go.bits .and .u64 a1 a2)] ?_; (with_reducible refine (matroid_Rank.calls kj5 a0_0 a0_1 _ _ l0_2 (Go.bits .and .u64 a1 a2) t435 t436 _ ?side1 ?side2 A29.out (tab_below HT.out (by repeat (first | (with_reducible first | exact HB.out | apply below_alloc | apply pw_below_drewN | apply below_drew1) | exact HB.out | exact Below.refl _ _)))).mono ?_); (case side1 => exact kcB HR0_2 HB); (case side2 => exact HC0_2.out); rintro e w98 ⟨rfl, hb⟩; refine ⟨_, rfl, ?_⟩; replace BK425 := bkB BK425 hb; replace HB := hbB HB hb; (try clear hb); (try clear hb2); (try clear hk); (try clear hi)) | (go_at_call 27; (with_reducible refine (recouplaw07_anchored.calls kj5  true _ A30.out (tab_below HT.out (by repeat (first | (with_reducible first | exact HB.out | apply below_alloc | apply pw_below_drewN | apply below_drew1) | exact HB.out | exact Below.refl _ _)))).mono ?_); rintro e w99 ⟨rfl, hb⟩; replace BK425 := bkB BK425 hb; replace HB := hbB HB hb; (try clear hb); (try clear hb2); (try clear hk); (try clear hi)))
              go_ret
              exact ⟨rfE, hbA HB.out⟩
          · rw [if_neg c32] at H
            have c32b0 : (t427 == 0) = false := beq_eq_false_iff_ne.mpr c32
            have c32b1 : (t427 != 0) = true := bne_iff_ne.mpr c32
            obtain rfl := Option.some.inj H
            obtain ⟨hcz100_0, hcz100_1, hcz100_2, hfz100_0, hfz100_1, hfz100_2⟩ := cell3 BK425
            go_wp2_with (first | ((with_reducible refine gC 12 rfl ?_); refine cG (some 51) Tryd.func12 #[.agg #[.int .i64 a0_0, .int .i64 a0_1, .slice A0_2 l0_2.length c0_2], .int .u64 (Go.bits .or .u64 a1 a2)] ?_; (with_reducible refine (matroid_Rank.calls kj5 a0_0 a0_1 _ _ l0_2 (Go.bits .or .u64 a1 a2) t433 t434 _ ?side1 ?side2 A28.out (tab_below HT.out (by repeat (first | (with_reducible first | exact HB.out | apply below_alloc | apply pw_below_drewN | apply below_drew1) | exact HB.out | exact Below.refl _ _)))).mono ?_); (case side1 => exact kcB HR0_2 HB); (case side2 => exact HC0_2.out); rintro e w101 ⟨rfl, hb⟩; refine ⟨_, rfl, ?_⟩; replace BK425 := bkB BK425 hb; replace HB := hbB HB hb; (try clear hb); (try clear hb2); (try clear hk); (try clear hi); obtain ⟨hcz102_0, hcz102_1, hcz102_2, hfz102_0, hfz102_1, hfz102_2⟩ := cell3 BK425) | ((with_reducible refine gC 12 rfl ?_); refine cG (some 59) Tryd.func12 #[.agg #[.int .i64 a0_0, .int .i64 a0_1, .slice A0_2 l0_2.length c0_2], .int .u64 (Go.bits .and .u64 a1 a2)] ?_; (with_reducible refine (matroid_Rank.calls kj5 a0_0 a0_1 _ _ l0_2 (Go.bits .and .u64 a1 a2) t435 t436 _ ?side1 ?side2 A29.out (tab_below HT.out (by repeat (first | (with_reducible first | exact HB.out | apply below_alloc | apply pw_below_drewN | apply below_drew1) | exact HB.out | exact Below.refl _ _)))).mono ?_); (case side1 => exact kcB HR0_2 HB); (case side2 => exact HC0_2.out); rintro e w103 ⟨rfl, hb⟩; refine ⟨_, rfl, ?_⟩; replace BK425 := bkB BK425 hb; replace HB := hbB HB hb; (try clear hb); (try clear hb2); (try clear hk); (try clear hi)) | (go_at_call 27; (with_reducible refine (recouplaw07_anchored.calls kj5  true _ A30.out (tab_below HT.out (by repeat (first | (with_reducible first | exact HB.out | apply below_alloc | apply pw_below_drewN | apply below_drew1) | exact HB.out | exact Below.refl _ _)))).mono ?_); rintro e w104 ⟨rfl, hb⟩; replace BK425 := bkB BK425 hb; replace HB := hbB HB hb; (try clear hb); (try clear hb2); (try clear hk); (try clear hi)))
            go_ret
            exact ⟨rfE, hbA HB.out⟩
        · replace c31 := Bool.eq_false_iff.mpr c31
          subst c31
          rw [if_neg nofT] at H
          obtain rfl := Option.some.inj H
          obtain ⟨hcz105_0, hcz105_1, hcz105_2, hfz105_0, hfz105_1, hfz105_2⟩ := cell3 BK425
          go_wp2_with (first | ((with_reducible refine gC 12 rfl ?_); refine cG (some 51) Tryd.func12 #[.agg #[.int .i64 a0_0, .int .i64 a0_1, .slice A0_2 l0_2.length c0_2], .int .u64 (Go.bits .or .u64 a1 a2)] ?_; (with_reducible refine (matroid_Rank.calls kj5 a0_0 a0_1 _ _ l0_2 (Go.bits .or .u64 a1 a2) t433 t434 _ ?side1 ?side2 A28.out (tab_below HT.out (by repeat (first | (with_reducible first | exact HB.out | apply below_alloc | apply pw_below_drewN | apply below_drew1) | exact HB.out | exact Below.refl _ _)))).mono ?_); (case side1 => exact kcB HR0_2 HB); (case side2 => exact HC0_2.out); rintro e w106 ⟨rfl, hb⟩; refine ⟨_, rfl, ?_⟩; replace BK425 := bkB BK425 hb; replace HB := hbB HB hb; (try clear hb); (try clear hb2); (try clear hk); (try clear hi); obtain ⟨hcz107_0, hcz107_1, hcz107_2, hfz107_0, hfz107_1, hfz107_2⟩ := cell3 BK425) | ((with_reducible refine gC 12 rfl ?_); refine cG (some 59) Tryd.func12 #[.agg #[.int .i64 a0_0, .int .i64 a0_1, .slice A0_2 l0_2.length c0_2], .int .u64 (Go.bits .and .u64 a1 a2)] ?_; (with_reducible refine (matroid_Rank.calls kj5 a0_0 a0_1 _ _ l0_2 (Go.bits .and .u64 a1 a2) t435 t436 _ ?side1 ?side2 A29.out (tab_below HT.out (by repeat (first | (with_reducible first | exact HB.out | apply below_alloc | apply pw_below_drewN | apply below_drew1) | exact HB.out | exact Below.refl _ _)))).mono ?_); (case side1 => exact kcB HR0_2 HB); (case side2 => exact HC0_2.out); rintro e w108 ⟨rfl, hb⟩; refine ⟨_, rfl, ?_⟩; replace BK425 := bkB BK425 hb; replace HB := hbB HB hb; (try clear hb); (try clear hb2); (try clear hk); (try clear hi)) | (go_at_call 27; (with_reducible refine (recouplaw07_anchored.calls kj5  false _ A30.out (tab_below HT.out (by repeat (first | (with_reducible first | exact HB.out | apply below_alloc | apply pw_below_drewN | apply below_drew1) | exact HB.out | exact Below.refl _ _)))).mono ?_); rintro e w109 ⟨rfl, hb⟩; replace BK425 := bkB BK425 hb; replace HB := hbB HB hb; (try clear hb); (try clear hb2); (try clear hk); (try clear hi)))
          go_ret
          exact ⟨rfE, hbA HB.out⟩

end Go.Proofs.YthjncmdlhmppiaaDoor.Q
