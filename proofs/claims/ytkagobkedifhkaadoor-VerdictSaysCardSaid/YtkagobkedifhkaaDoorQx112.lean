/- Written by drive.py (a program of this repo, over the kit's print): each Go function named here answers what the Lean function beside it answers, wherever that one answers, in every world that meets the stated premises. -/
import Derived.Test.YtkagobkedifhkaaDoorQx0
import Derived.Test.YtkagobkedifhkaaDoorQx115
import Derived.Test.YtkagobkedifhkaaDoorQx133
import Derived.Test.YtkagobkedifhkaaDoorQx135
namespace Go.Proofs.YtkagobkedifhkaaDoor.Q
open Go.RowKit Go.Proofs.YtkagobkedifhkaaDoorW.PrintWords Go.Proofs.YtkagobkedifhkaaDoorW.PrintLast Go.Proofs.YtkagobkedifhkaaDoorW.PrintMore
attribute [local go_sem] max2_int min2_int max_two min_two max_three min_three max_four min_four   -- for this text's walks alone
set_option linter.unusedVariables false
set_option linter.unusedSimpArgs false

/-! ### recoupref18_Sources: function 12 -/
def recoupref18_Sources.f (k : Nat) (a0_0 : Int) (a0_1 : Int) (l0_2 : List Int) (a1 : Int) : Option (Int × Bool × Int) := (recoupref18_Recovers.f k a0_0 a0_1 l0_2 a1).bind fun bt236 => (if bt236.1 = true then ((recoupref18_left.f k a0_0 a0_1 l0_2 a1).bind fun bt238 => ((recoupref07_Basis.f k a0_0 a0_1 l0_2 bt238.1).bind fun bt240 => (some (bt240.1, true, 0)))) else (some (0, false, bt236.2)))
theorem recoupref18_Sources.mono : ∀ a0 a1 a2 a3 k, LeO (recoupref18_Sources.f k a0 a1 a2 a3) (recoupref18_Sources.f (k + 1) a0 a1 a2 a3) := by
 intro a0 a1 a2 a3 k
 unfold recoupref18_Sources.f
 repeat' first
   | (with_reducible exact recoupref07_Basis.mono _ _ _ _ _)
   | (with_reducible exact recoupref18_Recovers.mono _ _ _ _ _)
   | (with_reducible exact recoupref18_left.mono _ _ _ _ _)
   | (with_reducible exact LeO.refl _)
   | (with_reducible exact LeO.none _)
   | (with_reducible refine LeO.ite ?_ ?_)
   | (with_reducible refine LeO.bind ?_ (fun _ => ?_))
   | exact recoupref07_Basis.mono _ _ _ _ _
   | exact recoupref18_Recovers.mono _ _ _ _ _
   | exact recoupref18_left.mono _ _ _ _ _
   | exact LeO.none _
   | refine LeO.ite ?_ ?_
   | refine LeO.bind ?_ (fun _ => ?_)
set_option maxHeartbeats 8000000 in
set_option maxRecDepth 100000 in
theorem recoupref18_Sources.calls (k : Nat) (a0_0 : Int) (a0_1 : Int) (A0_2 : Option Addr) (c0_2 : Nat) (l0_2 : List Int) (a1 : Int) (r1 : Int) (r2 : Bool) (r3 : Int) (w : World) (hr0_2 : Kd.C (Kd.int .u8) w A0_2 l0_2.length l0_2) (hc0_2 : l0_2.length ≤ c0_2) (h : recoupref18_Sources.f k a0_0 a0_1 l0_2 a1 = some (r1, r2, r3)) :
  Calls Tryd.prog 12 #[.agg #[.int .i64 a0_0, .int .i64 a0_1, .slice A0_2 l0_2.length c0_2], .int .u64 a1] w fun e w' => e = .returned (.tuple #[.int .u64 r1, .bool r2, .int .i64 r3]) ∧ Below w.heap.size w w' := by
 have hu24 := Tryd.underlying24
 have HR0_2 := Aside0.mk hr0_2
 have HC0_2 := Aside0.mk hc0_2
 clear hr0_2 hc0_2
 have HB := Aside0.mk (Below.refl w.heap.size w)
 have H : ((recoupref18_Recovers.f k a0_0 a0_1 l0_2 a1).bind fun bt236 => (if bt236.1 = true then ((recoupref18_left.f k a0_0 a0_1 l0_2 a1).bind fun bt238 => ((recoupref07_Basis.f k a0_0 a0_1 l0_2 bt238.1).bind fun bt240 => (some (bt240.1, true, 0)))) else (some (0, false, bt236.2)))) = some (r1, r2, r3) := h
 clear h
 obtain ⟨⟨t236, t237⟩, A3, H⟩ := bindO H
 (try dsimp only at H)
 by_cases c4 : t236 = true
 ·subst c4
  rw [if_pos rfl] at H
  obtain ⟨⟨t238, t239⟩, A5, H⟩ := bindO H
  (try dsimp only at H)
  obtain ⟨⟨t240, t241⟩, A6, H⟩ := bindO H
  (try dsimp only at H)
  simp only [Option.some.injEq, Prod.mk.injEq] at H
  obtain ⟨rfl, rfl, rfl⟩ := H
  go_enter Tryd.func12, Tryd.ntmps12
  go_wp2_with (first | ((with_reducible refine gD 2 rfl ?_); refine bE 2 #[.int .i64 a0_0, .int .i64 a0_1, .slice A0_2 l0_2.length c0_2] 24 ?_; intro gb235 hg w7 hbox hb; have BK235 := Aside0.mk (hbox); have GW235 := hbS HB hg; have GE235 := hbS HB hg; replace HB := hbB HB hb; clear hb hbox hg; obtain ⟨hcz8_0, hcz8_1, hcz8_2, hfz8_0, hfz8_1, hfz8_2⟩ := cell3 BK235) | ((with_reducible refine gC 10 rfl ?_); refine cG (some 16) Tryd.func10 #[.agg #[.int .i64 a0_0, .int .i64 a0_1, .slice A0_2 l0_2.length c0_2], .int .u64 a1] ?_; (with_reducible refine (recoupref18_Recovers.calls k a0_0 a0_1 _ _ l0_2 a1 true t237 _ ?side1 ?side2 A3.out).mono ?_); (case side1 => exact kcB HR0_2 HB); (case side2 => exact HC0_2.out); rintro e w9 ⟨rfl, hb⟩; refine ⟨_, rfl, ?_⟩; replace BK235 := bkB BK235 hb; replace HB := hbB HB hb; (try clear hb); (try clear hb2); (try clear hk); (try clear hi); obtain ⟨hcz10_0, hcz10_1, hcz10_2, hfz10_0, hfz10_1, hfz10_2⟩ := cell3 BK235) | ((with_reducible refine gC 32 rfl ?_); refine cG (some 25) Tryd.func32 #[.agg #[.int .i64 a0_0, .int .i64 a0_1, .slice A0_2 l0_2.length c0_2], .int .u64 a1] ?_; (with_reducible refine (recoupref18_left.calls k a0_0 a0_1 _ _ l0_2 a1 t238 t239 _ ?side1 ?side2 A5.out).mono ?_); (case side1 => exact kcB HR0_2 HB); (case side2 => exact HC0_2.out); rintro e w11 ⟨rfl, hb⟩; refine ⟨_, rfl, ?_⟩; replace BK235 := bkB BK235 hb; replace HB := hbB HB hb; (try clear hb); (try clear hb2); (try clear hk); (try clear hi); obtain ⟨hcz12_0, hcz12_1, hcz12_2, hfz12_0, hfz12_1, hfz12_2⟩ := cell3 BK235) | ((with_reducible refine gC 35 rfl ?_); refine cG (some 31) Tryd.func35 #[.agg #[.int .i64 a0_0, .int .i64 a0_1, .slice A0_2 l0_2.length c0_2], .int .u64 t238] ?_; (with_reducible refine (recoupref07_Basis.calls k a0_0 a0_1 _ _ l0_2 t238 t240 t241 _ ?side1 ?side2 A6.out).mono ?_); (case side1 => exact kcB HR0_2 HB); (case side2 => exact HC0_2.out); rintro e w13 ⟨rfl, hb⟩; refine ⟨_, rfl, ?_⟩; replace BK235 := bkB BK235 hb; replace HB := hbB HB hb; (try clear hb); (try clear hb2); (try clear hk); (try clear hi)))
  go_ret3
  exact ⟨rfE, hbA HB.out⟩
 ·replace c4 := Bool.eq_false_iff.mpr c4
  subst c4
  rw [if_neg nofT] at H
  simp only [Option.some.injEq, Prod.mk.injEq] at H
  obtain ⟨rfl, rfl, rfl⟩ := H
  go_enter Tryd.func12, Tryd.ntmps12
  go_wp2_with (first | ((with_reducible refine gD 2 rfl ?_); refine bE 2 #[.int .i64 a0_0, .int .i64 a0_1, .slice A0_2 l0_2.length c0_2] 24 ?_; intro gb235 hg w14 hbox hb; have BK235 := Aside0.mk (hbox); have GW235 := hbS HB hg; have GE235 := hbS HB hg; replace HB := hbB HB hb; clear hb hbox hg; obtain ⟨hcz15_0, hcz15_1, hcz15_2, hfz15_0, hfz15_1, hfz15_2⟩ := cell3 BK235) | ((with_reducible refine gC 10 rfl ?_); refine cG (some 16) Tryd.func10 #[.agg #[.int .i64 a0_0, .int .i64 a0_1, .slice A0_2 l0_2.length c0_2], .int .u64 a1] ?_; (with_reducible refine (recoupref18_Recovers.calls k a0_0 a0_1 _ _ l0_2 a1 false t237 _ ?side1 ?side2 A3.out).mono ?_); (case side1 => exact kcB HR0_2 HB); (case side2 => exact HC0_2.out); rintro e w16 ⟨rfl, hb⟩; refine ⟨_, rfl, ?_⟩; replace BK235 := bkB BK235 hb; replace HB := hbB HB hb; (try clear hb); (try clear hb2); (try clear hk); (try clear hi)))
  go_ret3
  exact ⟨rfE, hbA HB.out⟩

end Go.Proofs.YtkagobkedifhkaaDoor.Q
