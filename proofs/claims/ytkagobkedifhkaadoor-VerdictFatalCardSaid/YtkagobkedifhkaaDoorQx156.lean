/- Written by drive.py (a program of this repo, over the kit's print): each Go function named here answers what the Lean function beside it answers, wherever that one answers, in every world that meets the stated premises. -/
import Derived.Test.YtkagobkedifhkaaDoorQx0
import Derived.Test.YtkagobkedifhkaaDoorQx157
import Derived.Test.YtkagobkedifhkaaDoorQx158
namespace Go.Proofs.YtkagobkedifhkaaDoor.Q
open Go.RowKit Go.Proofs.YtkagobkedifhkaaDoorW.PrintWords Go.Proofs.YtkagobkedifhkaaDoorW.PrintLast Go.Proofs.YtkagobkedifhkaaDoorW.PrintMore
attribute [local go_sem] max2_int min2_int max_two min_two max_three min_three max_four min_four   -- for this text's walks alone
set_option linter.unusedVariables false
set_option linter.unusedSimpArgs false
def recoupref07_Rank.f (k : Nat) (a0_0 : Int) (a0_1 : Int) (l0_2 : List Int) (a1 : Int) : Option (Int × Int) := (recoupref07_bad.f k a0_0 a0_1 l0_2 a1).bind fun t218 => (if t218 = 0 then ((recoupref07_rank.f k a0_0 a0_1 l0_2 a1).bind fun t219 => (some (t219, 0))) else (some (0, t218)))
set_option maxHeartbeats 8000000 in
set_option maxRecDepth 100000 in
theorem recoupref07_Rank.calls (k : Nat) (a0_0 : Int) (a0_1 : Int) (A0_2 : Option Addr) (c0_2 : Nat) (l0_2 : List Int) (a1 : Int) (r1 : Int) (r2 : Int) (w : World) (hr0_2 : Kd.C (Kd.int .u8) w A0_2 l0_2.length l0_2) (hc0_2 : l0_2.length ≤ c0_2) (h : recoupref07_Rank.f k a0_0 a0_1 l0_2 a1 = some (r1, r2)) :
  Calls Tryd.prog 56 #[.agg #[.int .i64 a0_0, .int .i64 a0_1, .slice A0_2 l0_2.length c0_2], .int .u64 a1] w fun e w' => e = .returned (.tuple #[.int .i64 r1, .int .i64 r2]) ∧ Below w.heap.size w w' := by
 have hu24 := Tryd.underlying24
 have HR0_2 := Aside0.mk hr0_2
 have HC0_2 := Aside0.mk hc0_2
 clear hr0_2 hc0_2
 have HB := Aside0.mk (Below.refl w.heap.size w)
 have H : ((recoupref07_bad.f k a0_0 a0_1 l0_2 a1).bind fun t218 => (if t218 = 0 then ((recoupref07_rank.f k a0_0 a0_1 l0_2 a1).bind fun t219 => (some (t219, 0))) else (some (0, t218)))) = some (r1, r2) := h
 clear h
 obtain ⟨t218, A3, H⟩ := bindO H
 (try dsimp only at H)
 by_cases c4 : t218 = 0
 ·rw [if_pos c4] at H
  have c4b0 : (t218 == 0) = true := beq_iff_eq.mpr c4
  have c4b1 : (t218 != 0) = false := bne_eq_false_iff_eq.mpr c4
  clear c4
  obtain ⟨t219, A5, H⟩ := bindO H
  (try dsimp only at H)
  simp only [Option.some.injEq, Prod.mk.injEq] at H
  obtain ⟨rfl, rfl⟩ := H
  go_enter Tryd.func56, Tryd.ntmps56
  go_wp2_with (first | ((with_reducible refine gD 2 rfl ?_); refine bE 2 #[.int .i64 a0_0, .int .i64 a0_1, .slice A0_2 l0_2.length c0_2] 24 ?_; intro gb217 hg w6 hbox hb; have BK217 := Aside0.mk (hbox); have GW217 := hbS HB hg; have GE217 := hbS HB hg; replace HB := hbB HB hb; clear hb hbox hg; obtain ⟨hcz7_0, hcz7_1, hcz7_2, hfz7_0, hfz7_1, hfz7_2⟩ := cell3 BK217) | ((with_reducible refine gC 57 rfl ?_); refine cG (some 9) Tryd.func57 #[.agg #[.int .i64 a0_0, .int .i64 a0_1, .slice A0_2 l0_2.length c0_2], .int .u64 a1] ?_; (with_reducible refine (recoupref07_bad.calls k a0_0 a0_1 _ _ l0_2 a1 t218 _ ?side1 ?side2 A3.out).mono ?_); (case side1 => exact kcB HR0_2 HB); (case side2 => exact HC0_2.out); rintro e w8 ⟨rfl, hb⟩; refine ⟨_, rfl, ?_⟩; replace BK217 := bkB BK217 hb; replace HB := hbB HB hb; (try clear hb); (try clear hb2); (try clear hk); (try clear hi); obtain ⟨hcz9_0, hcz9_1, hcz9_2, hfz9_0, hfz9_1, hfz9_2⟩ := cell3 BK217) | ((with_reducible refine gC 58 rfl ?_); refine cG (some 15) Tryd.func58 #[.agg #[.int .i64 a0_0, .int .i64 a0_1, .slice A0_2 l0_2.length c0_2], .int .u64 a1] ?_; (with_reducible refine (recoupref07_rank.calls k a0_0 a0_1 _ _ l0_2 a1 t219 _ ?side1 ?side2 A5.out).mono ?_); (case side1 => exact kcB HR0_2 HB); (case side2 => exact HC0_2.out); rintro e w10 ⟨rfl, hb⟩; refine ⟨_, rfl, ?_⟩; replace BK217 := bkB BK217 hb; replace HB := hbB HB hb; (try clear hb); (try clear hb2); (try clear hk); (try clear hi)))
  go_ret2
  exact ⟨rfE, hbA HB.out⟩
 ·rw [if_neg c4] at H
  have c4b0 : (t218 == 0) = false := beq_eq_false_iff_ne.mpr c4
  have c4b1 : (t218 != 0) = true := bne_iff_ne.mpr c4
  simp only [Option.some.injEq, Prod.mk.injEq] at H
  obtain ⟨rfl, rfl⟩ := H
  go_enter Tryd.func56, Tryd.ntmps56
  go_wp2_with (first | ((with_reducible refine gD 2 rfl ?_); refine bE 2 #[.int .i64 a0_0, .int .i64 a0_1, .slice A0_2 l0_2.length c0_2] 24 ?_; intro gb217 hg w11 hbox hb; have BK217 := Aside0.mk (hbox); have GW217 := hbS HB hg; have GE217 := hbS HB hg; replace HB := hbB HB hb; clear hb hbox hg; obtain ⟨hcz12_0, hcz12_1, hcz12_2, hfz12_0, hfz12_1, hfz12_2⟩ := cell3 BK217) | ((with_reducible refine gC 57 rfl ?_); refine cG (some 9) Tryd.func57 #[.agg #[.int .i64 a0_0, .int .i64 a0_1, .slice A0_2 l0_2.length c0_2], .int .u64 a1] ?_; (with_reducible refine (recoupref07_bad.calls k a0_0 a0_1 _ _ l0_2 a1 t218 _ ?side1 ?side2 A3.out).mono ?_); (case side1 => exact kcB HR0_2 HB); (case side2 => exact HC0_2.out); rintro e w13 ⟨rfl, hb⟩; refine ⟨_, rfl, ?_⟩; replace BK217 := bkB BK217 hb; replace HB := hbB HB hb; (try clear hb); (try clear hb2); (try clear hk); (try clear hi)))
  go_ret2
  exact ⟨rfE, hbA HB.out⟩
end Go.Proofs.YtkagobkedifhkaaDoor.Q
