/- Written by drive.py (a program of this repo, over the kit's print): each Go function named here answers what the Lean function beside it answers, wherever that one answers, in every world that meets the stated premises. -/
import Derived.Test.YtjgcocfnilhggaaDoorQx0
import Derived.Test.YtjgcocfnilhggaaDoorQx109
import Derived.Test.YtjgcocfnilhggaaDoorQx110
namespace Go.Proofs.YtjgcocfnilhggaaDoor.Q
open Go.RowKit Go.Proofs.YtjgcocfnilhggaaDoorW.PrintWords Go.Proofs.YtjgcocfnilhggaaDoorW.PrintLast Go.Proofs.YtjgcocfnilhggaaDoorW.PrintMore
attribute [local go_sem] max2_int min2_int max_two min_two max_three min_three max_four min_four   -- for this text's walks alone
set_option linter.unusedVariables false
set_option linter.unusedSimpArgs false

/-! ### recouplaw19_LocalGroups: function 3 -/
def recouplaw19_LocalGroups.f (k : Nat) (a0_0 : Int) (a0_1 : Int) (l0_2 : List Int) (l0_3 : List Int) (a1 : Int) : Option (Bool) := (local_Group.f k a0_0 a0_1 l0_2 l0_3 a1).bind fun bt242 => ((recoupref19_Group.f k a0_0 a0_1 l0_2 l0_3 a1).bind fun bt245 => (if bt242.1 = bt245.1 then (if (bt242.2.1 == bt245.2.1) = true then (some (bt242.2.2 == bt245.2.2)) else (some false)) else (some false)))
theorem recouplaw19_LocalGroups.mono : ∀ a0 a1 a2 a3 a4 k, LeO (recouplaw19_LocalGroups.f k a0 a1 a2 a3 a4) (recouplaw19_LocalGroups.f (k + 1) a0 a1 a2 a3 a4) := by
 intro a0 a1 a2 a3 a4 k
 unfold recouplaw19_LocalGroups.f
 repeat' first
   | (with_reducible exact local_Group.mono _ _ _ _ _ _)
   | (with_reducible exact recoupref19_Group.mono _ _ _ _ _ _)
   | (with_reducible exact LeO.refl _)
   | (with_reducible exact LeO.none _)
   | (with_reducible refine LeO.ite ?_ ?_)
   | (with_reducible refine LeO.bind ?_ (fun _ => ?_))
   | exact local_Group.mono _ _ _ _ _ _
   | exact recoupref19_Group.mono _ _ _ _ _ _
   | exact LeO.none _
   | refine LeO.ite ?_ ?_
   | refine LeO.bind ?_ (fun _ => ?_)
set_option maxHeartbeats 8000000 in
set_option maxRecDepth 100000 in
theorem recouplaw19_LocalGroups.calls (k : Nat) (a0_0 : Int) (a0_1 : Int) (A0_2 : Option Addr) (c0_2 : Nat) (l0_2 : List Int) (A0_3 : Option Addr) (c0_3 : Nat) (l0_3 : List Int) (a1 : Int) (r : Bool) (w : World) (hr0_2 : Kd.C (Kd.int .u8) w A0_2 l0_2.length l0_2) (hc0_2 : l0_2.length ≤ c0_2) (hr0_3 : Kd.C (Kd.int .u64) w A0_3 l0_3.length l0_3) (hc0_3 : l0_3.length ≤ c0_3) (h : recouplaw19_LocalGroups.f k a0_0 a0_1 l0_2 l0_3 a1 = some r) (hT : TabAt 0 Lib.deBruijn64tab w) :
  Calls Tryd.prog 3 #[.agg #[.int .i64 a0_0, .int .i64 a0_1, .slice A0_2 l0_2.length c0_2, .slice A0_3 l0_3.length c0_3], .int .i64 a1] w fun e w' => e = .returned (.bool r) ∧ Below w.heap.size w w' := by
 have HT := Aside0.mk hT
 clear hT
 have hu27 := Tryd.underlying27
 have HR0_2 := Aside0.mk hr0_2
 have HC0_2 := Aside0.mk hc0_2
 clear hr0_2 hc0_2
 have HR0_3 := Aside0.mk hr0_3
 have HC0_3 := Aside0.mk hc0_3
 clear hr0_3 hc0_3
 have HB := Aside0.mk (Below.refl w.heap.size w)
 have H : ((local_Group.f k a0_0 a0_1 l0_2 l0_3 a1).bind fun bt242 => ((recoupref19_Group.f k a0_0 a0_1 l0_2 l0_3 a1).bind fun bt245 => (if bt242.1 = bt245.1 then (if (bt242.2.1 == bt245.2.1) = true then (some (bt242.2.2 == bt245.2.2)) else (some false)) else (some false)))) = some r := h
 clear h
 obtain ⟨⟨t242, t243, t244⟩, A3, H⟩ := bindO H
 (try dsimp only at H)
 obtain ⟨⟨t245, t246, t247⟩, A4, H⟩ := bindO H
 (try dsimp only at H)
 by_cases c5 : t242 = t245
 ·rw [if_pos c5] at H
  have c5b0 : (t242 == t245) = true := beq_iff_eq.mpr c5
  have c5b1 : (t242 != t245) = false := bne_eq_false_iff_eq.mpr c5
  clear c5
  by_cases c6 : (t243 == t246) = true
  ·rw [if_pos c6] at H
   have c6b0 : (t243 == t246) = true := c6
   (try (have c6b1 : decide (t243 = t246) = true := by simpa using c6))
   (try (have c6b2 : (t243 == t246) = true := by simpa using c6))
   clear c6
   obtain rfl := Option.some.inj H
   go_enter Tryd.func3, Tryd.ntmps3
   go_wp2_with (first | ((with_reducible refine gD 2 rfl ?_); refine bE 2 #[.int .i64 a0_0, .int .i64 a0_1, .slice A0_2 l0_2.length c0_2, .slice A0_3 l0_3.length c0_3] 27 ?_; intro gb241 hg w7 hbox hb; have BK241 := Aside0.mk (hbox); have GW241 := hbS HB hg; have GE241 := hbS HB hg; replace HB := hbB HB hb; clear hb hbox hg; obtain ⟨hcz8_0, hcz8_1, hcz8_2, hcz8_3, hfz8_0, hfz8_1, hfz8_2, hfz8_3⟩ := cell4 BK241) | ((with_reducible refine gC 9 rfl ?_); refine cG (some 14) Tryd.func9 #[.agg #[.int .i64 a0_0, .int .i64 a0_1, .slice A0_2 l0_2.length c0_2, .slice A0_3 l0_3.length c0_3], .int .i64 a1] ?_; (with_reducible refine (local_Group.calls k a0_0 a0_1 _ _ l0_2 _ _ l0_3 a1 t242 t243 t244 _ ?side1 ?side2 ?side3 ?side4 A3.out (tab_below HT.out (by repeat (first | (with_reducible first | exact HB.out | apply below_alloc | apply pw_below_drewN | apply below_drew1) | exact HB.out | exact Below.refl _ _)))).mono ?_); (case side1 => exact kcB HR0_2 HB); (case side2 => exact HC0_2.out); (case side3 => exact kcB HR0_3 HB); (case side4 => exact HC0_3.out); rintro e w9 ⟨rfl, hb⟩; refine ⟨_, rfl, ?_⟩; replace BK241 := bkB BK241 hb; replace HB := hbB HB hb; (try clear hb); (try clear hb2); (try clear hk); (try clear hi); obtain ⟨hcz10_0, hcz10_1, hcz10_2, hcz10_3, hfz10_0, hfz10_1, hfz10_2, hfz10_3⟩ := cell4 BK241) | ((with_reducible refine gC 10 rfl ?_); refine cG (some 21) Tryd.func10 #[.agg #[.int .i64 a0_0, .int .i64 a0_1, .slice A0_2 l0_2.length c0_2, .slice A0_3 l0_3.length c0_3], .int .i64 a1] ?_; (with_reducible refine (recoupref19_Group.calls k a0_0 a0_1 _ _ l0_2 _ _ l0_3 a1 t245 t246 t247 _ ?side1 ?side2 ?side3 ?side4 A4.out).mono ?_); (case side1 => exact kcB HR0_2 HB); (case side2 => exact HC0_2.out); (case side3 => exact kcB HR0_3 HB); (case side4 => exact HC0_3.out); rintro e w11 ⟨rfl, hb⟩; refine ⟨_, rfl, ?_⟩; replace BK241 := bkB BK241 hb; replace HB := hbB HB hb; (try clear hb); (try clear hb2); (try clear hk); (try clear hi)))
   go_ret
   exact ⟨rfE, hbA HB.out⟩
  ·rw [if_neg c6] at H
   have c6b0 : (t243 == t246) = false := by simpa using c6
   (try (have c6b1 : decide (t243 = t246) = false := by simpa using c6))
   (try (have c6b2 : (t243 == t246) = false := by simpa using c6))
   (try (have c6b3 : ¬ (t243 = t246) := by simpa using c6))
   clear c6
   obtain rfl := Option.some.inj H
   go_enter Tryd.func3, Tryd.ntmps3
   go_wp2_with (first | ((with_reducible refine gD 2 rfl ?_); refine bE 2 #[.int .i64 a0_0, .int .i64 a0_1, .slice A0_2 l0_2.length c0_2, .slice A0_3 l0_3.length c0_3] 27 ?_; intro gb241 hg w12 hbox hb; have BK241 := Aside0.mk (hbox); have GW241 := hbS HB hg; have GE241 := hbS HB hg; replace HB := hbB HB hb; clear hb hbox hg; obtain ⟨hcz13_0, hcz13_1, hcz13_2, hcz13_3, hfz13_0, hfz13_1, hfz13_2, hfz13_3⟩ := cell4 BK241) | ((with_reducible refine gC 9 rfl ?_); refine cG (some 14) Tryd.func9 #[.agg #[.int .i64 a0_0, .int .i64 a0_1, .slice A0_2 l0_2.length c0_2, .slice A0_3 l0_3.length c0_3], .int .i64 a1] ?_; (with_reducible refine (local_Group.calls k a0_0 a0_1 _ _ l0_2 _ _ l0_3 a1 t242 t243 t244 _ ?side1 ?side2 ?side3 ?side4 A3.out (tab_below HT.out (by repeat (first | (with_reducible first | exact HB.out | apply below_alloc | apply pw_below_drewN | apply below_drew1) | exact HB.out | exact Below.refl _ _)))).mono ?_); (case side1 => exact kcB HR0_2 HB); (case side2 => exact HC0_2.out); (case side3 => exact kcB HR0_3 HB); (case side4 => exact HC0_3.out); rintro e w14 ⟨rfl, hb⟩; refine ⟨_, rfl, ?_⟩; replace BK241 := bkB BK241 hb; replace HB := hbB HB hb; (try clear hb); (try clear hb2); (try clear hk); (try clear hi); obtain ⟨hcz15_0, hcz15_1, hcz15_2, hcz15_3, hfz15_0, hfz15_1, hfz15_2, hfz15_3⟩ := cell4 BK241) | ((with_reducible refine gC 10 rfl ?_); refine cG (some 21) Tryd.func10 #[.agg #[.int .i64 a0_0, .int .i64 a0_1, .slice A0_2 l0_2.length c0_2, .slice A0_3 l0_3.length c0_3], .int .i64 a1] ?_; (with_reducible refine (recoupref19_Group.calls k a0_0 a0_1 _ _ l0_2 _ _ l0_3 a1 t245 t246 t247 _ ?side1 ?side2 ?side3 ?side4 A4.out).mono ?_); (case side1 => exact kcB HR0_2 HB); (case side2 => exact HC0_2.out); (case side3 => exact kcB HR0_3 HB); (case side4 => exact HC0_3.out); rintro e w16 ⟨rfl, hb⟩; refine ⟨_, rfl, ?_⟩; replace BK241 := bkB BK241 hb; replace HB := hbB HB hb; (try clear hb); (try clear hb2); (try clear hk); (try clear hi)))
   go_ret
   exact ⟨rfE, hbA HB.out⟩
 ·rw [if_neg c5] at H
  have c5b0 : (t242 == t245) = false := beq_eq_false_iff_ne.mpr c5
  have c5b1 : (t242 != t245) = true := bne_iff_ne.mpr c5
  obtain rfl := Option.some.inj H
  go_enter Tryd.func3, Tryd.ntmps3
  go_wp2_with (first | ((with_reducible refine gD 2 rfl ?_); refine bE 2 #[.int .i64 a0_0, .int .i64 a0_1, .slice A0_2 l0_2.length c0_2, .slice A0_3 l0_3.length c0_3] 27 ?_; intro gb241 hg w17 hbox hb; have BK241 := Aside0.mk (hbox); have GW241 := hbS HB hg; have GE241 := hbS HB hg; replace HB := hbB HB hb; clear hb hbox hg; obtain ⟨hcz18_0, hcz18_1, hcz18_2, hcz18_3, hfz18_0, hfz18_1, hfz18_2, hfz18_3⟩ := cell4 BK241) | ((with_reducible refine gC 9 rfl ?_); refine cG (some 14) Tryd.func9 #[.agg #[.int .i64 a0_0, .int .i64 a0_1, .slice A0_2 l0_2.length c0_2, .slice A0_3 l0_3.length c0_3], .int .i64 a1] ?_; (with_reducible refine (local_Group.calls k a0_0 a0_1 _ _ l0_2 _ _ l0_3 a1 t242 t243 t244 _ ?side1 ?side2 ?side3 ?side4 A3.out (tab_below HT.out (by repeat (first | (with_reducible first | exact HB.out | apply below_alloc | apply pw_below_drewN | apply below_drew1) | exact HB.out | exact Below.refl _ _)))).mono ?_); (case side1 => exact kcB HR0_2 HB); (case side2 => exact HC0_2.out); (case side3 => exact kcB HR0_3 HB); (case side4 => exact HC0_3.out); rintro e w19 ⟨rfl, hb⟩; refine ⟨_, rfl, ?_⟩; replace BK241 := bkB BK241 hb; replace HB := hbB HB hb; (try clear hb); (try clear hb2); (try clear hk); (try clear hi); obtain ⟨hcz20_0, hcz20_1, hcz20_2, hcz20_3, hfz20_0, hfz20_1, hfz20_2, hfz20_3⟩ := cell4 BK241) | ((with_reducible refine gC 10 rfl ?_); refine cG (some 21) Tryd.func10 #[.agg #[.int .i64 a0_0, .int .i64 a0_1, .slice A0_2 l0_2.length c0_2, .slice A0_3 l0_3.length c0_3], .int .i64 a1] ?_; (with_reducible refine (recoupref19_Group.calls k a0_0 a0_1 _ _ l0_2 _ _ l0_3 a1 t245 t246 t247 _ ?side1 ?side2 ?side3 ?side4 A4.out).mono ?_); (case side1 => exact kcB HR0_2 HB); (case side2 => exact HC0_2.out); (case side3 => exact kcB HR0_3 HB); (case side4 => exact HC0_3.out); rintro e w21 ⟨rfl, hb⟩; refine ⟨_, rfl, ?_⟩; replace BK241 := bkB BK241 hb; replace HB := hbB HB hb; (try clear hb); (try clear hb2); (try clear hk); (try clear hi)))
  go_ret
  exact ⟨rfE, hbA HB.out⟩

end Go.Proofs.YtjgcocfnilhggaaDoor.Q
