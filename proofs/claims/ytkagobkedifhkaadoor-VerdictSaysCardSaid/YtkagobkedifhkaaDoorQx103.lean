/- Written by drive.py (a program of this repo, over the kit's print): each Go function named here answers what the Lean function beside it answers, wherever that one answers, in every world that meets the stated premises. -/
import Derived.Test.YtkagobkedifhkaaDoorQx0
import Derived.Test.YtkagobkedifhkaaDoorQx109
import Derived.Test.YtkagobkedifhkaaDoorQx111
import Derived.Test.YtkagobkedifhkaaDoorQx112
import Derived.Test.YtkagobkedifhkaaDoorQx133
namespace Go.Proofs.YtkagobkedifhkaaDoor.Q
open Go.RowKit Go.Proofs.YtkagobkedifhkaaDoorW.PrintWords Go.Proofs.YtkagobkedifhkaaDoorW.PrintLast Go.Proofs.YtkagobkedifhkaaDoorW.PrintMore
attribute [local go_sem] max2_int min2_int max_two min_two max_three min_three max_four min_four   -- for this text's walks alone
set_option linter.unusedVariables false
set_option linter.unusedSimpArgs false

/-! ### recouplaw18_VerdictSays: function 3 -/
def recouplaw18_VerdictSays.f (k : Nat) (a0_0 : Int) (a0_1 : Int) (l0_2 : List Int) (a1 : Int) : Option (Bool) := (verdict_Recovers.f k a0_0 a0_1 l0_2 a1).bind fun bt243 => ((recoupref18_Recovers.f k a0_0 a0_1 l0_2 a1).bind fun bt245 => ((verdict_Sources.f k a0_0 a0_1 l0_2 a1).bind fun bt247 => ((recoupref18_Sources.f k a0_0 a0_1 l0_2 a1).bind fun bt250 => (if (bt243.1 == bt245.1) = true then (if bt243.2 = bt245.2 then (if bt247.1 = bt250.1 then (if (bt247.2.1 == bt250.2.1) = true then (some (bt247.2.2 == bt250.2.2)) else (some false)) else (some false)) else (some false)) else (some false)))))
theorem recouplaw18_VerdictSays.mono : ∀ a0 a1 a2 a3 k, LeO (recouplaw18_VerdictSays.f k a0 a1 a2 a3) (recouplaw18_VerdictSays.f (k + 1) a0 a1 a2 a3) := by
 intro a0 a1 a2 a3 k
 unfold recouplaw18_VerdictSays.f
 repeat' first
   | (with_reducible exact recoupref18_Recovers.mono _ _ _ _ _)
   | (with_reducible exact recoupref18_Sources.mono _ _ _ _ _)
   | (with_reducible exact verdict_Recovers.mono _ _ _ _ _)
   | (with_reducible exact verdict_Sources.mono _ _ _ _ _)
   | (with_reducible exact LeO.refl _)
   | (with_reducible exact LeO.none _)
   | (with_reducible refine LeO.ite ?_ ?_)
   | (with_reducible refine LeO.bind ?_ (fun _ => ?_))
   | exact recoupref18_Recovers.mono _ _ _ _ _
   | exact recoupref18_Sources.mono _ _ _ _ _
   | exact verdict_Recovers.mono _ _ _ _ _
   | exact verdict_Sources.mono _ _ _ _ _
   | exact LeO.none _
   | refine LeO.ite ?_ ?_
   | refine LeO.bind ?_ (fun _ => ?_)
set_option maxHeartbeats 8000000 in
set_option maxRecDepth 100000 in
theorem recouplaw18_VerdictSays.calls (k : Nat) (a0_0 : Int) (a0_1 : Int) (A0_2 : Option Addr) (c0_2 : Nat) (l0_2 : List Int) (a1 : Int) (r : Bool) (w : World) (hr0_2 : Kd.C (Kd.int .u8) w A0_2 l0_2.length l0_2) (hc0_2 : l0_2.length ≤ c0_2) (h : recouplaw18_VerdictSays.f k a0_0 a0_1 l0_2 a1 = some r) (hT : TabAt 0 Lib.deBruijn64tab w) :
  Calls Tryd.prog 3 #[.agg #[.int .i64 a0_0, .int .i64 a0_1, .slice A0_2 l0_2.length c0_2], .int .u64 a1] w fun e w' => e = .returned (.bool r) ∧ Below w.heap.size w w' := by
 have HT := Aside0.mk hT
 clear hT
 have hu24 := Tryd.underlying24
 have HR0_2 := Aside0.mk hr0_2
 have HC0_2 := Aside0.mk hc0_2
 clear hr0_2 hc0_2
 have HB := Aside0.mk (Below.refl w.heap.size w)
 have H : ((verdict_Recovers.f k a0_0 a0_1 l0_2 a1).bind fun bt243 => ((recoupref18_Recovers.f k a0_0 a0_1 l0_2 a1).bind fun bt245 => ((verdict_Sources.f k a0_0 a0_1 l0_2 a1).bind fun bt247 => ((recoupref18_Sources.f k a0_0 a0_1 l0_2 a1).bind fun bt250 => (if (bt243.1 == bt245.1) = true then (if bt243.2 = bt245.2 then (if bt247.1 = bt250.1 then (if (bt247.2.1 == bt250.2.1) = true then (some (bt247.2.2 == bt250.2.2)) else (some false)) else (some false)) else (some false)) else (some false)))))) = some r := h
 clear h
 obtain ⟨⟨t243, t244⟩, A3, H⟩ := bindO H
 (try dsimp only at H)
 obtain ⟨⟨t245, t246⟩, A4, H⟩ := bindO H
 (try dsimp only at H)
 obtain ⟨⟨t247, t248, t249⟩, A5, H⟩ := bindO H
 (try dsimp only at H)
 obtain ⟨⟨t250, t251, t252⟩, A6, H⟩ := bindO H
 (try dsimp only at H)
 by_cases c7 : (t243 == t245) = true
 ·rw [if_pos c7] at H
  have c7b0 : (t243 == t245) = true := c7
  (try (have c7b1 : decide (t243 = t245) = true := by simpa using c7))
  (try (have c7b2 : (t243 == t245) = true := by simpa using c7))
  clear c7
  by_cases c8 : t244 = t246
  ·rw [if_pos c8] at H
   have c8b0 : (t244 == t246) = true := beq_iff_eq.mpr c8
   have c8b1 : (t244 != t246) = false := bne_eq_false_iff_eq.mpr c8
   clear c8
   by_cases c9 : t247 = t250
   ·rw [if_pos c9] at H
    have c9b0 : (t247 == t250) = true := beq_iff_eq.mpr c9
    have c9b1 : (t247 != t250) = false := bne_eq_false_iff_eq.mpr c9
    clear c9
    by_cases c10 : (t248 == t251) = true
    ·rw [if_pos c10] at H
     have c10b0 : (t248 == t251) = true := c10
     (try (have c10b1 : decide (t248 = t251) = true := by simpa using c10))
     (try (have c10b2 : (t248 == t251) = true := by simpa using c10))
     clear c10
     obtain rfl := Option.some.inj H
     go_enter Tryd.func3, Tryd.ntmps3
     go_wp2_with (first | ((with_reducible refine gD 2 rfl ?_); refine bE 2 #[.int .i64 a0_0, .int .i64 a0_1, .slice A0_2 l0_2.length c0_2] 24 ?_; intro gb242 hg w11 hbox hb; have BK242 := Aside0.mk (hbox); have GW242 := hbS HB hg; have GE242 := hbS HB hg; replace HB := hbB HB hb; clear hb hbox hg; obtain ⟨hcz12_0, hcz12_1, hcz12_2, hfz12_0, hfz12_1, hfz12_2⟩ := cell3 BK242) | ((with_reducible refine gC 9 rfl ?_); refine cG (some 18) Tryd.func9 #[.agg #[.int .i64 a0_0, .int .i64 a0_1, .slice A0_2 l0_2.length c0_2], .int .u64 a1] ?_; (with_reducible refine (verdict_Recovers.calls k a0_0 a0_1 _ _ l0_2 a1 t243 t244 _ ?side1 ?side2 A3.out (tab_below HT.out (by repeat (first | (with_reducible first | exact HB.out | apply below_alloc | apply pw_below_drewN | apply below_drew1) | exact HB.out | exact Below.refl _ _)))).mono ?_); (case side1 => exact kcB HR0_2 HB); (case side2 => exact HC0_2.out); rintro e w13 ⟨rfl, hb⟩; refine ⟨_, rfl, ?_⟩; replace BK242 := bkB BK242 hb; replace HB := hbB HB hb; (try clear hb); (try clear hb2); (try clear hk); (try clear hi); obtain ⟨hcz14_0, hcz14_1, hcz14_2, hfz14_0, hfz14_1, hfz14_2⟩ := cell3 BK242) | ((with_reducible refine gC 10 rfl ?_); refine cG (some 24) Tryd.func10 #[.agg #[.int .i64 a0_0, .int .i64 a0_1, .slice A0_2 l0_2.length c0_2], .int .u64 a1] ?_; (with_reducible refine (recoupref18_Recovers.calls k a0_0 a0_1 _ _ l0_2 a1 t245 t246 _ ?side1 ?side2 A4.out).mono ?_); (case side1 => exact kcB HR0_2 HB); (case side2 => exact HC0_2.out); rintro e w15 ⟨rfl, hb⟩; refine ⟨_, rfl, ?_⟩; replace BK242 := bkB BK242 hb; replace HB := hbB HB hb; (try clear hb); (try clear hb2); (try clear hk); (try clear hi); obtain ⟨hcz16_0, hcz16_1, hcz16_2, hfz16_0, hfz16_1, hfz16_2⟩ := cell3 BK242) | ((with_reducible refine gC 11 rfl ?_); refine cG (some 30) Tryd.func11 #[.agg #[.int .i64 a0_0, .int .i64 a0_1, .slice A0_2 l0_2.length c0_2], .int .u64 a1] ?_; (with_reducible refine (verdict_Sources.calls k a0_0 a0_1 _ _ l0_2 a1 t247 t248 t249 _ ?side1 ?side2 A5.out (tab_below HT.out (by repeat (first | (with_reducible first | exact HB.out | apply below_alloc | apply pw_below_drewN | apply below_drew1) | exact HB.out | exact Below.refl _ _)))).mono ?_); (case side1 => exact kcB HR0_2 HB); (case side2 => exact HC0_2.out); rintro e w17 ⟨rfl, hb⟩; refine ⟨_, rfl, ?_⟩; replace BK242 := bkB BK242 hb; replace HB := hbB HB hb; (try clear hb); (try clear hb2); (try clear hk); (try clear hi); obtain ⟨hcz18_0, hcz18_1, hcz18_2, hfz18_0, hfz18_1, hfz18_2⟩ := cell3 BK242) | ((with_reducible refine gC 12 rfl ?_); refine cG (some 37) Tryd.func12 #[.agg #[.int .i64 a0_0, .int .i64 a0_1, .slice A0_2 l0_2.length c0_2], .int .u64 a1] ?_; (with_reducible refine (recoupref18_Sources.calls k a0_0 a0_1 _ _ l0_2 a1 t250 t251 t252 _ ?side1 ?side2 A6.out).mono ?_); (case side1 => exact kcB HR0_2 HB); (case side2 => exact HC0_2.out); rintro e w19 ⟨rfl, hb⟩; refine ⟨_, rfl, ?_⟩; replace BK242 := bkB BK242 hb; replace HB := hbB HB hb; (try clear hb); (try clear hb2); (try clear hk); (try clear hi)))
     go_ret
     exact ⟨rfE, hbA HB.out⟩
    ·rw [if_neg c10] at H
     have c10b0 : (t248 == t251) = false := by simpa using c10
     (try (have c10b1 : decide (t248 = t251) = false := by simpa using c10))
     (try (have c10b2 : (t248 == t251) = false := by simpa using c10))
     (try (have c10b3 : ¬ (t248 = t251) := by simpa using c10))
     clear c10
     obtain rfl := Option.some.inj H
     go_enter Tryd.func3, Tryd.ntmps3
     go_wp2_with (first | ((with_reducible refine gD 2 rfl ?_); refine bE 2 #[.int .i64 a0_0, .int .i64 a0_1, .slice A0_2 l0_2.length c0_2] 24 ?_; intro gb242 hg w20 hbox hb; have BK242 := Aside0.mk (hbox); have GW242 := hbS HB hg; have GE242 := hbS HB hg; replace HB := hbB HB hb; clear hb hbox hg; obtain ⟨hcz21_0, hcz21_1, hcz21_2, hfz21_0, hfz21_1, hfz21_2⟩ := cell3 BK242) | ((with_reducible refine gC 9 rfl ?_); refine cG (some 18) Tryd.func9 #[.agg #[.int .i64 a0_0, .int .i64 a0_1, .slice A0_2 l0_2.length c0_2], .int .u64 a1] ?_; (with_reducible refine (verdict_Recovers.calls k a0_0 a0_1 _ _ l0_2 a1 t243 t244 _ ?side1 ?side2 A3.out (tab_below HT.out (by repeat (first | (with_reducible first | exact HB.out | apply below_alloc | apply pw_below_drewN | apply below_drew1) | exact HB.out | exact Below.refl _ _)))).mono ?_); (case side1 => exact kcB HR0_2 HB); (case side2 => exact HC0_2.out); rintro e w22 ⟨rfl, hb⟩; refine ⟨_, rfl, ?_⟩; replace BK242 := bkB BK242 hb; replace HB := hbB HB hb; (try clear hb); (try clear hb2); (try clear hk); (try clear hi); obtain ⟨hcz23_0, hcz23_1, hcz23_2, hfz23_0, hfz23_1, hfz23_2⟩ := cell3 BK242) | ((with_reducible refine gC 10 rfl ?_); refine cG (some 24) Tryd.func10 #[.agg #[.int .i64 a0_0, .int .i64 a0_1, .slice A0_2 l0_2.length c0_2], .int .u64 a1] ?_; (with_reducible refine (recoupref18_Recovers.calls k a0_0 a0_1 _ _ l0_2 a1 t245 t246 _ ?side1 ?side2 A4.out).mono ?_); (case side1 => exact kcB HR0_2 HB); (case side2 => exact HC0_2.out); rintro e w24 ⟨rfl, hb⟩; refine ⟨_, rfl, ?_⟩; replace BK242 := bkB BK242 hb; replace HB := hbB HB hb; (try clear hb); (try clear hb2); (try clear hk); (try clear hi); obtain ⟨hcz25_0, hcz25_1, hcz25_2, hfz25_0, hfz25_1, hfz25_2⟩ := cell3 BK242) | ((with_reducible refine gC 11 rfl ?_); refine cG (some 30) Tryd.func11 #[.agg #[.int .i64 a0_0, .int .i64 a0_1, .slice A0_2 l0_2.length c0_2], .int .u64 a1] ?_; (with_reducible refine (verdict_Sources.calls k a0_0 a0_1 _ _ l0_2 a1 t247 t248 t249 _ ?side1 ?side2 A5.out (tab_below HT.out (by repeat (first | (with_reducible first | exact HB.out | apply below_alloc | apply pw_below_drewN | apply below_drew1) | exact HB.out | exact Below.refl _ _)))).mono ?_); (case side1 => exact kcB HR0_2 HB); (case side2 => exact HC0_2.out); rintro e w26 ⟨rfl, hb⟩; refine ⟨_, rfl, ?_⟩; replace BK242 := bkB BK242 hb; replace HB := hbB HB hb; (try clear hb); (try clear hb2); (try clear hk); (try clear hi); obtain ⟨hcz27_0, hcz27_1, hcz27_2, hfz27_0, hfz27_1, hfz27_2⟩ := cell3 BK242) | ((with_reducible refine gC 12 rfl ?_); refine cG (some 37) Tryd.func12 #[.agg #[.int .i64 a0_0, .int .i64 a0_1, .slice A0_2 l0_2.length c0_2], .int .u64 a1] ?_; (with_reducible refine (recoupref18_Sources.calls k a0_0 a0_1 _ _ l0_2 a1 t250 t251 t252 _ ?side1 ?side2 A6.out).mono ?_); (case side1 => exact kcB HR0_2 HB); (case side2 => exact HC0_2.out); rintro e w28 ⟨rfl, hb⟩; refine ⟨_, rfl, ?_⟩; replace BK242 := bkB BK242 hb; replace HB := hbB HB hb; (try clear hb); (try clear hb2); (try clear hk); (try clear hi)))
     go_ret
     exact ⟨rfE, hbA HB.out⟩
   ·rw [if_neg c9] at H
    have c9b0 : (t247 == t250) = false := beq_eq_false_iff_ne.mpr c9
    have c9b1 : (t247 != t250) = true := bne_iff_ne.mpr c9
    obtain rfl := Option.some.inj H
    go_enter Tryd.func3, Tryd.ntmps3
    go_wp2_with (first | ((with_reducible refine gD 2 rfl ?_); refine bE 2 #[.int .i64 a0_0, .int .i64 a0_1, .slice A0_2 l0_2.length c0_2] 24 ?_; intro gb242 hg w29 hbox hb; have BK242 := Aside0.mk (hbox); have GW242 := hbS HB hg; have GE242 := hbS HB hg; replace HB := hbB HB hb; clear hb hbox hg; obtain ⟨hcz30_0, hcz30_1, hcz30_2, hfz30_0, hfz30_1, hfz30_2⟩ := cell3 BK242) | ((with_reducible refine gC 9 rfl ?_); refine cG (some 18) Tryd.func9 #[.agg #[.int .i64 a0_0, .int .i64 a0_1, .slice A0_2 l0_2.length c0_2], .int .u64 a1] ?_; (with_reducible refine (verdict_Recovers.calls k a0_0 a0_1 _ _ l0_2 a1 t243 t244 _ ?side1 ?side2 A3.out (tab_below HT.out (by repeat (first | (with_reducible first | exact HB.out | apply below_alloc | apply pw_below_drewN | apply below_drew1) | exact HB.out | exact Below.refl _ _)))).mono ?_); (case side1 => exact kcB HR0_2 HB); (case side2 => exact HC0_2.out); rintro e w31 ⟨rfl, hb⟩; refine ⟨_, rfl, ?_⟩; replace BK242 := bkB BK242 hb; replace HB := hbB HB hb; (try clear hb); (try clear hb2); (try clear hk); (try clear hi); obtain ⟨hcz32_0, hcz32_1, hcz32_2, hfz32_0, hfz32_1, hfz32_2⟩ := cell3 BK242) | ((with_reducible refine gC 10 rfl ?_); refine cG (some 24) Tryd.func10 #[.agg #[.int .i64 a0_0, .int .i64 a0_1, .slice A0_2 l0_2.length c0_2], .int .u64 a1] ?_; (with_reducible refine (recoupref18_Recovers.calls k a0_0 a0_1 _ _ l0_2 a1 t245 t246 _ ?side1 ?side2 A4.out).mono ?_); (case side1 => exact kcB HR0_2 HB); (case side2 => exact HC0_2.out); rintro e w33 ⟨rfl, hb⟩; refine ⟨_, rfl, ?_⟩; replace BK242 := bkB BK242 hb; replace HB := hbB HB hb; (try clear hb); (try clear hb2); (try clear hk); (try clear hi); obtain ⟨hcz34_0, hcz34_1, hcz34_2, hfz34_0, hfz34_1, hfz34_2⟩ := cell3 BK242) | ((with_reducible refine gC 11 rfl ?_); refine cG (some 30) Tryd.func11 #[.agg #[.int .i64 a0_0, .int .i64 a0_1, .slice A0_2 l0_2.length c0_2], .int .u64 a1] ?_; (with_reducible refine (verdict_Sources.calls k a0_0 a0_1 _ _ l0_2 a1 t247 t248 t249 _ ?side1 ?side2 A5.out (tab_below HT.out (by repeat (first | (with_reducible first | exact HB.out | apply below_alloc | apply pw_below_drewN | apply below_drew1) | exact HB.out | exact Below.refl _ _)))).mono ?_); (case side1 => exact kcB HR0_2 HB); (case side2 => exact HC0_2.out); rintro e w35 ⟨rfl, hb⟩; refine ⟨_, rfl, ?_⟩; replace BK242 := bkB BK242 hb; replace HB := hbB HB hb; (try clear hb); (try clear hb2); (try clear hk); (try clear hi); obtain ⟨hcz36_0, hcz36_1, hcz36_2, hfz36_0, hfz36_1, hfz36_2⟩ := cell3 BK242) | ((with_reducible refine gC 12 rfl ?_); refine cG (some 37) Tryd.func12 #[.agg #[.int .i64 a0_0, .int .i64 a0_1, .slice A0_2 l0_2.length c0_2], .int .u64 a1] ?_; (with_reducible refine (recoupref18_Sources.calls k a0_0 a0_1 _ _ l0_2 a1 t250 t251 t252 _ ?side1 ?side2 A6.out).mono ?_); (case side1 => exact kcB HR0_2 HB); (case side2 => exact HC0_2.out); rintro e w37 ⟨rfl, hb⟩; refine ⟨_, rfl, ?_⟩; replace BK242 := bkB BK242 hb; replace HB := hbB HB hb; (try clear hb); (try clear hb2); (try clear hk); (try clear hi)))
    go_ret
    exact ⟨rfE, hbA HB.out⟩
  ·rw [if_neg c8] at H
   have c8b0 : (t244 == t246) = false := beq_eq_false_iff_ne.mpr c8
   have c8b1 : (t244 != t246) = true := bne_iff_ne.mpr c8
   obtain rfl := Option.some.inj H
   go_enter Tryd.func3, Tryd.ntmps3
   go_wp2_with (first | ((with_reducible refine gD 2 rfl ?_); refine bE 2 #[.int .i64 a0_0, .int .i64 a0_1, .slice A0_2 l0_2.length c0_2] 24 ?_; intro gb242 hg w38 hbox hb; have BK242 := Aside0.mk (hbox); have GW242 := hbS HB hg; have GE242 := hbS HB hg; replace HB := hbB HB hb; clear hb hbox hg; obtain ⟨hcz39_0, hcz39_1, hcz39_2, hfz39_0, hfz39_1, hfz39_2⟩ := cell3 BK242) | ((with_reducible refine gC 9 rfl ?_); refine cG (some 18) Tryd.func9 #[.agg #[.int .i64 a0_0, .int .i64 a0_1, .slice A0_2 l0_2.length c0_2], .int .u64 a1] ?_; (with_reducible refine (verdict_Recovers.calls k a0_0 a0_1 _ _ l0_2 a1 t243 t244 _ ?side1 ?side2 A3.out (tab_below HT.out (by repeat (first | (with_reducible first | exact HB.out | apply below_alloc | apply pw_below_drewN | apply below_drew1) | exact HB.out | exact Below.refl _ _)))).mono ?_); (case side1 => exact kcB HR0_2 HB); (case side2 => exact HC0_2.out); rintro e w40 ⟨rfl, hb⟩; refine ⟨_, rfl, ?_⟩; replace BK242 := bkB BK242 hb; replace HB := hbB HB hb; (try clear hb); (try clear hb2); (try clear hk); (try clear hi); obtain ⟨hcz41_0, hcz41_1, hcz41_2, hfz41_0, hfz41_1, hfz41_2⟩ := cell3 BK242) | ((with_reducible refine gC 10 rfl ?_); refine cG (some 24) Tryd.func10 #[.agg #[.int .i64 a0_0, .int .i64 a0_1, .slice A0_2 l0_2.length c0_2], .int .u64 a1] ?_; (with_reducible refine (recoupref18_Recovers.calls k a0_0 a0_1 _ _ l0_2 a1 t245 t246 _ ?side1 ?side2 A4.out).mono ?_); (case side1 => exact kcB HR0_2 HB); (case side2 => exact HC0_2.out); rintro e w42 ⟨rfl, hb⟩; refine ⟨_, rfl, ?_⟩; replace BK242 := bkB BK242 hb; replace HB := hbB HB hb; (try clear hb); (try clear hb2); (try clear hk); (try clear hi); obtain ⟨hcz43_0, hcz43_1, hcz43_2, hfz43_0, hfz43_1, hfz43_2⟩ := cell3 BK242) | ((with_reducible refine gC 11 rfl ?_); refine cG (some 30) Tryd.func11 #[.agg #[.int .i64 a0_0, .int .i64 a0_1, .slice A0_2 l0_2.length c0_2], .int .u64 a1] ?_; (with_reducible refine (verdict_Sources.calls k a0_0 a0_1 _ _ l0_2 a1 t247 t248 t249 _ ?side1 ?side2 A5.out (tab_below HT.out (by repeat (first | (with_reducible first | exact HB.out | apply below_alloc | apply pw_below_drewN | apply below_drew1) | exact HB.out | exact Below.refl _ _)))).mono ?_); (case side1 => exact kcB HR0_2 HB); (case side2 => exact HC0_2.out); rintro e w44 ⟨rfl, hb⟩; refine ⟨_, rfl, ?_⟩; replace BK242 := bkB BK242 hb; replace HB := hbB HB hb; (try clear hb); (try clear hb2); (try clear hk); (try clear hi); obtain ⟨hcz45_0, hcz45_1, hcz45_2, hfz45_0, hfz45_1, hfz45_2⟩ := cell3 BK242) | ((with_reducible refine gC 12 rfl ?_); refine cG (some 37) Tryd.func12 #[.agg #[.int .i64 a0_0, .int .i64 a0_1, .slice A0_2 l0_2.length c0_2], .int .u64 a1] ?_; (with_reducible refine (recoupref18_Sources.calls k a0_0 a0_1 _ _ l0_2 a1 t250 t251 t252 _ ?side1 ?side2 A6.out).mono ?_); (case side1 => exact kcB HR0_2 HB); (case side2 => exact HC0_2.out); rintro e w46 ⟨rfl, hb⟩; refine ⟨_, rfl, ?_⟩; replace BK242 := bkB BK242 hb; replace HB := hbB HB hb; (try clear hb); (try clear hb2); (try clear hk); (try clear hi)))
   go_ret
   exact ⟨rfE, hbA HB.out⟩
 ·rw [if_neg c7] at H
  have c7b0 : (t243 == t245) = false := by simpa using c7
  (try (have c7b1 : decide (t243 = t245) = false := by simpa using c7))
  (try (have c7b2 : (t243 == t245) = false := by simpa using c7))
  (try (have c7b3 : ¬ (t243 = t245) := by simpa using c7))
  clear c7
  obtain rfl := Option.some.inj H
  go_enter Tryd.func3, Tryd.ntmps3
  go_wp2_with (first | ((with_reducible refine gD 2 rfl ?_); refine bE 2 #[.int .i64 a0_0, .int .i64 a0_1, .slice A0_2 l0_2.length c0_2] 24 ?_; intro gb242 hg w47 hbox hb; have BK242 := Aside0.mk (hbox); have GW242 := hbS HB hg; have GE242 := hbS HB hg; replace HB := hbB HB hb; clear hb hbox hg; obtain ⟨hcz48_0, hcz48_1, hcz48_2, hfz48_0, hfz48_1, hfz48_2⟩ := cell3 BK242) | ((with_reducible refine gC 9 rfl ?_); refine cG (some 18) Tryd.func9 #[.agg #[.int .i64 a0_0, .int .i64 a0_1, .slice A0_2 l0_2.length c0_2], .int .u64 a1] ?_; (with_reducible refine (verdict_Recovers.calls k a0_0 a0_1 _ _ l0_2 a1 t243 t244 _ ?side1 ?side2 A3.out (tab_below HT.out (by repeat (first | (with_reducible first | exact HB.out | apply below_alloc | apply pw_below_drewN | apply below_drew1) | exact HB.out | exact Below.refl _ _)))).mono ?_); (case side1 => exact kcB HR0_2 HB); (case side2 => exact HC0_2.out); rintro e w49 ⟨rfl, hb⟩; refine ⟨_, rfl, ?_⟩; replace BK242 := bkB BK242 hb; replace HB := hbB HB hb; (try clear hb); (try clear hb2); (try clear hk); (try clear hi); obtain ⟨hcz50_0, hcz50_1, hcz50_2, hfz50_0, hfz50_1, hfz50_2⟩ := cell3 BK242) | ((with_reducible refine gC 10 rfl ?_); refine cG (some 24) Tryd.func10 #[.agg #[.int .i64 a0_0, .int .i64 a0_1, .slice A0_2 l0_2.length c0_2], .int .u64 a1] ?_; (with_reducible refine (recoupref18_Recovers.calls k a0_0 a0_1 _ _ l0_2 a1 t245 t246 _ ?side1 ?side2 A4.out).mono ?_); (case side1 => exact kcB HR0_2 HB); (case side2 => exact HC0_2.out); rintro e w51 ⟨rfl, hb⟩; refine ⟨_, rfl, ?_⟩; replace BK242 := bkB BK242 hb; replace HB := hbB HB hb; (try clear hb); (try clear hb2); (try clear hk); (try clear hi); obtain ⟨hcz52_0, hcz52_1, hcz52_2, hfz52_0, hfz52_1, hfz52_2⟩ := cell3 BK242) | ((with_reducible refine gC 11 rfl ?_); refine cG (some 30) Tryd.func11 #[.agg #[.int .i64 a0_0, .int .i64 a0_1, .slice A0_2 l0_2.length c0_2], .int .u64 a1] ?_; (with_reducible refine (verdict_Sources.calls k a0_0 a0_1 _ _ l0_2 a1 t247 t248 t249 _ ?side1 ?side2 A5.out (tab_below HT.out (by repeat (first | (with_reducible first | exact HB.out | apply below_alloc | apply pw_below_drewN | apply below_drew1) | exact HB.out | exact Below.refl _ _)))).mono ?_); (case side1 => exact kcB HR0_2 HB); (case side2 => exact HC0_2.out); rintro e w53 ⟨rfl, hb⟩; refine ⟨_, rfl, ?_⟩; replace BK242 := bkB BK242 hb; replace HB := hbB HB hb; (try clear hb); (try clear hb2); (try clear hk); (try clear hi); obtain ⟨hcz54_0, hcz54_1, hcz54_2, hfz54_0, hfz54_1, hfz54_2⟩ := cell3 BK242) | ((with_reducible refine gC 12 rfl ?_); refine cG (some 37) Tryd.func12 #[.agg #[.int .i64 a0_0, .int .i64 a0_1, .slice A0_2 l0_2.length c0_2], .int .u64 a1] ?_; (with_reducible refine (recoupref18_Sources.calls k a0_0 a0_1 _ _ l0_2 a1 t250 t251 t252 _ ?side1 ?side2 A6.out).mono ?_); (case side1 => exact kcB HR0_2 HB); (case side2 => exact HC0_2.out); rintro e w55 ⟨rfl, hb⟩; refine ⟨_, rfl, ?_⟩; replace BK242 := bkB BK242 hb; replace HB := hbB HB hb; (try clear hb); (try clear hb2); (try clear hk); (try clear hi)))
  go_ret
  exact ⟨rfE, hbA HB.out⟩

end Go.Proofs.YtkagobkedifhkaaDoor.Q
