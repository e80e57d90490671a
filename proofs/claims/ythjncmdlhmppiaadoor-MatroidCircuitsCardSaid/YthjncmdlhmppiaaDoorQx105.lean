/- Written by drive.py (a program of this repo, over the kit's print): each Go function named here answers what the Lean function beside it answers, wherever that one answers, in every world that meets the stated premises. -/
import Derived.Test.YthjncmdlhmppiaaDoorQx0
import Derived.Test.YthjncmdlhmppiaaDoorQx124
import Derived.Test.YthjncmdlhmppiaaDoorQx125
namespace Go.Proofs.YthjncmdlhmppiaaDoor.Q
open Go.RowKit Go.Proofs.YthjncmdlhmppiaaDoorW.PrintWords Go.Proofs.YthjncmdlhmppiaaDoorW.PrintLast Go.Proofs.YthjncmdlhmppiaaDoorW.PrintMore
attribute [local go_sem] max2_int min2_int max_two min_two max_three min_three max_four min_four   -- for this text's walks alone
set_option linter.unusedVariables false
set_option linter.unusedSimpArgs false

/-! ### recouplaw07_MatroidCircuits: function 5 -/
def recouplaw07_MatroidCircuits.f (k : Nat) (a0_0 : Int) (a0_1 : Int) (l0_2 : List Int) (a1 : Int) (a2 : Int) : Option (Bool) := (matroid_Circuit.f k a0_0 a0_1 l0_2 a1 a2).bind fun bt407 => ((recoupref07_Circuit.f k a0_0 a0_1 l0_2 a1 a2).bind fun bt410 => (if bt407.1 = bt410.1 then (if (bt407.2.1 == bt410.2.1) = true then (some (bt407.2.2 == bt410.2.2)) else (some false)) else (some false)))
theorem recouplaw07_MatroidCircuits.mono : ∀ a0 a1 a2 a3 a4 k, LeO (recouplaw07_MatroidCircuits.f k a0 a1 a2 a3 a4) (recouplaw07_MatroidCircuits.f (k + 1) a0 a1 a2 a3 a4) := by
 intro a0 a1 a2 a3 a4 k
 unfold recouplaw07_MatroidCircuits.f
 repeat' first
   | (with_reducible exact matroid_Circuit.mono _ _ _ _ _ _)
   | (with_reducible exact recoupref07_Circuit.mono _ _ _ _ _ _)
   | (with_reducible exact LeO.refl _)
   | (with_reducible exact LeO.none _)
   | (with_reducible refine LeO.ite ?_ ?_)
   | (with_reducible refine LeO.bind ?_ (fun _ => ?_))
   | exact matroid_Circuit.mono _ _ _ _ _ _
   | exact recoupref07_Circuit.mono _ _ _ _ _ _
   | exact LeO.none _
   | refine LeO.ite ?_ ?_
   | refine LeO.bind ?_ (fun _ => ?_)
set_option maxHeartbeats 8000000 in
set_option maxRecDepth 100000 in
theorem recouplaw07_MatroidCircuits.calls (k : Nat) (a0_0 : Int) (a0_1 : Int) (A0_2 : Option Addr) (c0_2 : Nat) (l0_2 : List Int) (a1 : Int) (a2 : Int) (r : Bool) (w : World) (hr0_2 : Kd.C (Kd.int .u8) w A0_2 l0_2.length l0_2) (hc0_2 : l0_2.length ≤ c0_2) (h : recouplaw07_MatroidCircuits.f k a0_0 a0_1 l0_2 a1 a2 = some r) (hT : TabAt 0 Lib.deBruijn64tab w) :
  Calls Tryd.prog 5 #[.agg #[.int .i64 a0_0, .int .i64 a0_1, .slice A0_2 l0_2.length c0_2], .int .i64 a1, .int .u64 a2] w fun e w' => e = .returned (.bool r) ∧ Below w.heap.size w w' := by
 have HT := Aside0.mk hT
 clear hT
 have hu24 := Tryd.underlying24
 have HR0_2 := Aside0.mk hr0_2
 have HC0_2 := Aside0.mk hc0_2
 clear hr0_2 hc0_2
 have HB := Aside0.mk (Below.refl w.heap.size w)
 have H : ((matroid_Circuit.f k a0_0 a0_1 l0_2 a1 a2).bind fun bt407 => ((recoupref07_Circuit.f k a0_0 a0_1 l0_2 a1 a2).bind fun bt410 => (if bt407.1 = bt410.1 then (if (bt407.2.1 == bt410.2.1) = true then (some (bt407.2.2 == bt410.2.2)) else (some false)) else (some false)))) = some r := h
 clear h
 obtain ⟨⟨t407, t408, t409⟩, A4, H⟩ := bindO H
 (try dsimp only at H)
 obtain ⟨⟨t410, t411, t412⟩, A5, H⟩ := bindO H
 (try dsimp only at H)
 by_cases c6 : t407 = t410
 ·rw [if_pos c6] at H
  have c6b0 : (t407 == t410) = true := beq_iff_eq.mpr c6
  have c6b1 : (t407 != t410) = false := bne_eq_false_iff_eq.mpr c6
  clear c6
  by_cases c7 : (t408 == t411) = true
  ·rw [if_pos c7] at H
   have c7b0 : (t408 == t411) = true := c7
   (try (have c7b1 : decide (t408 = t411) = true := by simpa using c7))
   (try (have c7b2 : (t408 == t411) = true := by simpa using c7))
   clear c7
   obtain rfl := Option.some.inj H
   go_enter Tryd.func5, Tryd.ntmps5
   go_wp2_with (first | ((with_reducible refine gD 3 rfl ?_); refine bE 3 #[.int .i64 a0_0, .int .i64 a0_1, .slice A0_2 l0_2.length c0_2] 24 ?_; intro gb406 hg w8 hbox hb; have BK406 := Aside0.mk (hbox); have GW406 := hbS HB hg; have GE406 := hbS HB hg; replace HB := hbB HB hb; clear hb hbox hg; obtain ⟨hcz9_0, hcz9_1, hcz9_2, hfz9_0, hfz9_1, hfz9_2⟩ := cell3 BK406) | ((with_reducible refine gC 24 rfl ?_); refine cG (some 17) Tryd.func24 #[.agg #[.int .i64 a0_0, .int .i64 a0_1, .slice A0_2 l0_2.length c0_2], .int .i64 a1, .int .u64 a2] ?_; (with_reducible refine (matroid_Circuit.calls k a0_0 a0_1 _ _ l0_2 a1 a2 t407 t408 t409 _ ?side1 ?side2 A4.out (tab_below HT.out (by repeat (first | (with_reducible first | exact HB.out | apply below_alloc | apply pw_below_drewN | apply below_drew1) | exact HB.out | exact Below.refl _ _)))).mono ?_); (case side1 => exact kcB HR0_2 HB); (case side2 => exact HC0_2.out); rintro e w10 ⟨rfl, hb⟩; refine ⟨_, rfl, ?_⟩; replace BK406 := bkB BK406 hb; replace HB := hbB HB hb; (try clear hb); (try clear hb2); (try clear hk); (try clear hi); obtain ⟨hcz11_0, hcz11_1, hcz11_2, hfz11_0, hfz11_1, hfz11_2⟩ := cell3 BK406) | ((with_reducible refine gC 25 rfl ?_); refine cG (some 25) Tryd.func25 #[.agg #[.int .i64 a0_0, .int .i64 a0_1, .slice A0_2 l0_2.length c0_2], .int .i64 a1, .int .u64 a2] ?_; (with_reducible refine (recoupref07_Circuit.calls k a0_0 a0_1 _ _ l0_2 a1 a2 t410 t411 t412 _ ?side1 ?side2 A5.out).mono ?_); (case side1 => exact kcB HR0_2 HB); (case side2 => exact HC0_2.out); rintro e w12 ⟨rfl, hb⟩; refine ⟨_, rfl, ?_⟩; replace BK406 := bkB BK406 hb; replace HB := hbB HB hb; (try clear hb); (try clear hb2); (try clear hk); (try clear hi)))
   go_ret
   exact ⟨rfE, hbA HB.out⟩
  ·rw [if_neg c7] at H
   have c7b0 : (t408 == t411) = false := by simpa using c7
   (try (have c7b1 : decide (t408 = t411) = false := by simpa using c7))
   (try (have c7b2 : (t408 == t411) = false := by simpa using c7))
   (try (have c7b3 : ¬ (t408 = t411) := by simpa using c7))
   clear c7
   obtain rfl := Option.some.inj H
   go_enter Tryd.func5, Tryd.ntmps5
   go_wp2_with (first | ((with_reducible refine gD 3 rfl ?_); refine bE 3 #[.int .i64 a0_0, .int .i64 a0_1, .slice A0_2 l0_2.length c0_2] 24 ?_; intro gb406 hg w13 hbox hb; have BK406 := Aside0.mk (hbox); have GW406 := hbS HB hg; have GE406 := hbS HB hg; replace HB := hbB HB hb; clear hb hbox hg; obtain ⟨hcz14_0, hcz14_1, hcz14_2, hfz14_0, hfz14_1, hfz14_2⟩ := cell3 BK406) | ((with_reducible refine gC 24 rfl ?_); refine cG (some 17) Tryd.func24 #[.agg #[.int .i64 a0_0, .int .i64 a0_1, .slice A0_2 l0_2.length c0_2], .int .i64 a1, .int .u64 a2] ?_; (with_reducible refine (matroid_Circuit.calls k a0_0 a0_1 _ _ l0_2 a1 a2 t407 t408 t409 _ ?side1 ?side2 A4.out (tab_below HT.out (by repeat (first | (with_reducible first | exact HB.out | apply below_alloc | apply pw_below_drewN | apply below_drew1) | exact HB.out | exact Below.refl _ _)))).mono ?_); (case side1 => exact kcB HR0_2 HB); (case side2 => exact HC0_2.out); rintro e w15 ⟨rfl, hb⟩; refine ⟨_, rfl, ?_⟩; replace BK406 := bkB BK406 hb; replace HB := hbB HB hb; (try clear hb); (try clear hb2); (try clear hk); (try clear hi); obtain ⟨hcz16_0, hcz16_1, hcz16_2, hfz16_0, hfz16_1, hfz16_2⟩ := cell3 BK406) | ((with_reducible refine gC 25 rfl ?_); refine cG (some 25) Tryd.func25 #[.agg #[.int .i64 a0_0, .int .i64 a0_1, .slice A0_2 l0_2.length c0_2], .int .i64 a1, .int .u64 a2] ?_; (with_reducible refine (recoupref07_Circuit.calls k a0_0 a0_1 _ _ l0_2 a1 a2 t410 t411 t412 _ ?side1 ?side2 A5.out).mono ?_); (case side1 => exact kcB HR0_2 HB); (case side2 => exact HC0_2.out); rintro e w17 ⟨rfl, hb⟩; refine ⟨_, rfl, ?_⟩; replace BK406 := bkB BK406 hb; replace HB := hbB HB hb; (try clear hb); (try clear hb2); (try clear hk); (try clear hi)))
   go_ret
   exact ⟨rfE, hbA HB.out⟩
 ·rw [if_neg c6] at H
  have c6b0 : (t407 == t410) = false := beq_eq_false_iff_ne.mpr c6
  have c6b1 : (t407 != t410) = true := bne_iff_ne.mpr c6
  obtain rfl := Option.some.inj H
  go_enter Tryd.func5, Tryd.ntmps5
  go_wp2_with (first | ((with_reducible refine gD 3 rfl ?_); refine bE 3 #[.int .i64 a0_0, .int .i64 a0_1, .slice A0_2 l0_2.length c0_2] 24 ?_; intro gb406 hg w18 hbox hb; have BK406 := Aside0.mk (hbox); have GW406 := hbS HB hg; have GE406 := hbS HB hg; replace HB := hbB HB hb; clear hb hbox hg; obtain ⟨hcz19_0, hcz19_1, hcz19_2, hfz19_0, hfz19_1, hfz19_2⟩ := cell3 BK406) | ((with_reducible refine gC 24 rfl ?_); refine cG (some 17) Tryd.func24 #[.agg #[.int .i64 a0_0, .int .i64 a0_1, .slice A0_2 l0_2.length c0_2], .int .i64 a1, .int .u64 a2] ?_; (with_reducible refine (matroid_Circuit.calls k a0_0 a0_1 _ _ l0_2 a1 a2 t407 t408 t409 _ ?side1 ?side2 A4.out (tab_below HT.out (by repeat (first | (with_reducible first | exact HB.out | apply below_alloc | apply pw_below_drewN | apply below_drew1) | exact HB.out | exact Below.refl _ _)))).mono ?_); (case side1 => exact kcB HR0_2 HB); (case side2 => exact HC0_2.out); rintro e w20 ⟨rfl, hb⟩; refine ⟨_, rfl, ?_⟩; replace BK406 := bkB BK406 hb; replace HB := hbB HB hb; (try clear hb); (try clear hb2); (try clear hk); (try clear hi); obtain ⟨hcz21_0, hcz21_1, hcz21_2, hfz21_0, hfz21_1, hfz21_2⟩ := cell3 BK406) | ((with_reducible refine gC 25 rfl ?_); refine cG (some 25) Tryd.func25 #[.agg #[.int .i64 a0_0, .int .i64 a0_1, .slice A0_2 l0_2.length c0_2], .int .i64 a1, .int .u64 a2] ?_; (with_reducible refine (recoupref07_Circuit.calls k a0_0 a0_1 _ _ l0_2 a1 a2 t410 t411 t412 _ ?side1 ?side2 A5.out).mono ?_); (case side1 => exact kcB HR0_2 HB); (case side2 => exact HC0_2.out); rintro e w22 ⟨rfl, hb⟩; refine ⟨_, rfl, ?_⟩; replace BK406 := bkB BK406 hb; replace HB := hbB HB hb; (try clear hb); (try clear hb2); (try clear hk); (try clear hi)))
  go_ret
  exact ⟨rfE, hbA HB.out⟩

end Go.Proofs.YthjncmdlhmppiaaDoor.Q
