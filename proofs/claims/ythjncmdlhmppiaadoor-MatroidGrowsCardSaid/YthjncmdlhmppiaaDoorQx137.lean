/- Written by drive.py (a program of this repo, over the kit's print): each Go function named here answers what the Lean function beside it answers, wherever that one answers, in every world that meets the stated premises. -/
import Derived.Test.YthjncmdlhmppiaaDoorQx0
import Derived.Test.YthjncmdlhmppiaaDoorQx113
import Derived.Test.YthjncmdlhmppiaaDoorQx134
import Derived.Test.YthjncmdlhmppiaaDoorQx135
import Derived.Test.YthjncmdlhmppiaaDoorQx152
namespace Go.Proofs.YthjncmdlhmppiaaDoor.Q
open Go.RowKit Go.Proofs.YthjncmdlhmppiaaDoorW.PrintWords Go.Proofs.YthjncmdlhmppiaaDoorW.PrintLast Go.Proofs.YthjncmdlhmppiaaDoorW.PrintMore
attribute [local go_sem] max2_int min2_int max_two min_two max_three min_three max_four min_four   -- for this text's walks alone
set_option linter.unusedVariables false
set_option linter.unusedSimpArgs false

/-! ### subset_Count: function 37 -/
def subset_Count.f (a0 : Int) : Option (Int) := (bits_OnesCount64.f a0).bind fun t220 => (some t220)
set_option maxHeartbeats 8000000 in
set_option maxRecDepth 100000 in
theorem subset_Count.calls (a0 : Int) (r : Int) (w : World) (h : subset_Count.f a0 = some r) :
  Calls Tryd.prog 37 #[.int .u64 a0] w fun e w' => e = .returned (.int .i64 r) ∧ Drawn0 w w' := by
 have H : ((bits_OnesCount64.f a0).bind fun t220 => (some t220)) = some r := h
 clear h
 obtain ⟨t220, A2, H⟩ := bindO H
 (try dsimp only at H)
 obtain rfl := Option.some.inj H
 go_enter Tryd.func37, Tryd.ntmps37
 go_wp2_with (first | ((with_reducible refine gC 52 rfl ?_); refine cG (some 4) Tryd.func52 #[.int .u64 a0] ?_; (with_reducible refine (bits_OnesCount64.calls a0 t220 _ A2.out).mono ?_); rintro e w' ⟨rfl, ⟨nd, rfl⟩⟩; refine ⟨_, rfl, ?_⟩))
 go_ret
 exact ⟨by first | rfl | (simp; done) | (simp [*]; done), by repeat (first | exact Drawn0.refl _ | apply Drawn0.step)⟩

/-! ### matroid_Free: function 14 -/
def matroid_Free.f (k : Nat) (a0_0 : Int) (a0_1 : Int) (l0_2 : List Int) (a1 : Int) : Option (Bool × Int) := (matroid_Rank.f k a0_0 a0_1 l0_2 a1).bind fun bt222 => (if bt222.2 = 0 then ((subset_Count.f a1).bind fun t224 => (some ((bt222.1 == t224), bt222.2))) else (some (false, bt222.2)))
theorem matroid_Free.mono : ∀ a0 a1 a2 a3 k, LeO (matroid_Free.f k a0 a1 a2 a3) (matroid_Free.f (k + 1) a0 a1 a2 a3) := by
 intro a0 a1 a2 a3 k
 unfold matroid_Free.f
 repeat' first
   | (with_reducible exact matroid_Rank.mono _ _ _ _ _)
   | (with_reducible exact LeO.refl _)
   | (with_reducible exact LeO.none _)
   | (with_reducible refine LeO.ite ?_ ?_)
   | (with_reducible refine LeO.bind ?_ (fun _ => ?_))
   | exact matroid_Rank.mono _ _ _ _ _
   | exact LeO.none _
   | refine LeO.ite ?_ ?_
   | refine LeO.bind ?_ (fun _ => ?_)
set_option maxHeartbeats 8000000 in
set_option maxRecDepth 100000 in
theorem matroid_Free.calls (k : Nat) (a0_0 : Int) (a0_1 : Int) (A0_2 : Option Addr) (c0_2 : Nat) (l0_2 : List Int) (a1 : Int) (r1 : Bool) (r2 : Int) (w : World) (hr0_2 : Kd.C (Kd.int .u8) w A0_2 l0_2.length l0_2) (hc0_2 : l0_2.length ≤ c0_2) (h : matroid_Free.f k a0_0 a0_1 l0_2 a1 = some (r1, r2)) (hT : TabAt 0 Lib.deBruijn64tab w) :
  Calls Tryd.prog 14 #[.agg #[.int .i64 a0_0, .int .i64 a0_1, .slice A0_2 l0_2.length c0_2], .int .u64 a1] w fun e w' => e = .returned (.tuple #[.bool r1, .int .i64 r2]) ∧ Below w.heap.size w w' := by
 have HT := Aside0.mk hT
 clear hT
 have hu24 := Tryd.underlying24
 have HR0_2 := Aside0.mk hr0_2
 have HC0_2 := Aside0.mk hc0_2
 clear hr0_2 hc0_2
 have HB := Aside0.mk (Below.refl w.heap.size w)
 have H : ((matroid_Rank.f k a0_0 a0_1 l0_2 a1).bind fun bt222 => (if bt222.2 = 0 then ((subset_Count.f a1).bind fun t224 => (some ((bt222.1 == t224), bt222.2))) else (some (false, bt222.2)))) = some (r1, r2) := h
 clear h
 obtain ⟨⟨t222, t223⟩, A3, H⟩ := bindO H
 (try dsimp only at H)
 by_cases c4 : t223 = 0
 ·rw [if_pos c4] at H
  have c4b0 : (t223 == 0) = true := beq_iff_eq.mpr c4
  have c4b1 : (t223 != 0) = false := bne_eq_false_iff_eq.mpr c4
  clear c4
  obtain ⟨t224, A5, H⟩ := bindO H
  (try dsimp only at H)
  simp only [Option.some.injEq, Prod.mk.injEq] at H
  obtain ⟨rfl, rfl⟩ := H
  go_enter Tryd.func14, Tryd.ntmps14
  go_wp2_with (first | ((with_reducible refine gD 2 rfl ?_); refine bE 2 #[.int .i64 a0_0, .int .i64 a0_1, .slice A0_2 l0_2.length c0_2] 24 ?_; intro gb221 hg w6 hbox hb; have BK221 := Aside0.mk (hbox); have GW221 := hbS HB hg; have GE221 := hbS HB hg; replace HB := hbB HB hb; clear hb hbox hg; obtain ⟨hcz7_0, hcz7_1, hcz7_2, hfz7_0, hfz7_1, hfz7_2⟩ := cell3 BK221) | ((with_reducible refine gC 12 rfl ?_); refine cG (some 11) Tryd.func12 #[.agg #[.int .i64 a0_0, .int .i64 a0_1, .slice A0_2 l0_2.length c0_2], .int .u64 a1] ?_; (with_reducible refine (matroid_Rank.calls k a0_0 a0_1 _ _ l0_2 a1 t222 t223 _ ?side1 ?side2 A3.out (tab_below HT.out (by repeat (first | (with_reducible first | exact HB.out | apply below_alloc | apply pw_below_drewN | apply below_drew1) | exact HB.out | exact Below.refl _ _)))).mono ?_); (case side1 => exact kcB HR0_2 HB); (case side2 => exact HC0_2.out); rintro e w8 ⟨rfl, hb⟩; refine ⟨_, rfl, ?_⟩; replace BK221 := bkB BK221 hb; replace HB := hbB HB hb; (try clear hb); (try clear hb2); (try clear hk); (try clear hi)) | (go_at_call 37; (with_reducible refine (subset_Count.calls a1 t224 _ A5.out).mono ?_); rintro e w' ⟨rfl, ⟨nd, rfl⟩⟩))
  go_ret2
  exact ⟨rfE, hbA HB.out⟩
 ·rw [if_neg c4] at H
  have c4b0 : (t223 == 0) = false := beq_eq_false_iff_ne.mpr c4
  have c4b1 : (t223 != 0) = true := bne_iff_ne.mpr c4
  simp only [Option.some.injEq, Prod.mk.injEq] at H
  obtain ⟨rfl, rfl⟩ := H
  go_enter Tryd.func14, Tryd.ntmps14
  go_wp2_with (first | ((with_reducible refine gD 2 rfl ?_); refine bE 2 #[.int .i64 a0_0, .int .i64 a0_1, .slice A0_2 l0_2.length c0_2] 24 ?_; intro gb221 hg w9 hbox hb; have BK221 := Aside0.mk (hbox); have GW221 := hbS HB hg; have GE221 := hbS HB hg; replace HB := hbB HB hb; clear hb hbox hg; obtain ⟨hcz10_0, hcz10_1, hcz10_2, hfz10_0, hfz10_1, hfz10_2⟩ := cell3 BK221) | ((with_reducible refine gC 12 rfl ?_); refine cG (some 11) Tryd.func12 #[.agg #[.int .i64 a0_0, .int .i64 a0_1, .slice A0_2 l0_2.length c0_2], .int .u64 a1] ?_; (with_reducible refine (matroid_Rank.calls k a0_0 a0_1 _ _ l0_2 a1 t222 t223 _ ?side1 ?side2 A3.out (tab_below HT.out (by repeat (first | (with_reducible first | exact HB.out | apply below_alloc | apply pw_below_drewN | apply below_drew1) | exact HB.out | exact Below.refl _ _)))).mono ?_); (case side1 => exact kcB HR0_2 HB); (case side2 => exact HC0_2.out); rintro e w11 ⟨rfl, hb⟩; refine ⟨_, rfl, ?_⟩; replace BK221 := bkB BK221 hb; replace HB := hbB HB hb; (try clear hb); (try clear hb2); (try clear hk); (try clear hi)))
  go_ret2
  exact ⟨rfE, hbA HB.out⟩

/-! ### recoupref07_Free: function 15 -/
def recoupref07_Free.f (k : Nat) (a0_0 : Int) (a0_1 : Int) (l0_2 : List Int) (a1 : Int) : Option (Bool × Int) := (recoupref07_Rank.f k a0_0 a0_1 l0_2 a1).bind fun bt226 => (if bt226.2 = 0 then ((recoupref06_List.f k a1).bind fun t228 => (some ((bt226.1 == (t228.length : Int)), bt226.2))) else (some (false, bt226.2)))
theorem recoupref07_Free.mono : ∀ a0 a1 a2 a3 k, LeO (recoupref07_Free.f k a0 a1 a2 a3) (recoupref07_Free.f (k + 1) a0 a1 a2 a3) := by
 intro a0 a1 a2 a3 k
 unfold recoupref07_Free.f
 repeat' first
   | (with_reducible exact recoupref06_List.mono _ _)
   | (with_reducible exact recoupref07_Rank.mono _ _ _ _ _)
   | (with_reducible exact LeO.refl _)
   | (with_reducible exact LeO.none _)
   | (with_reducible refine LeO.ite ?_ ?_)
   | (with_reducible refine LeO.bind ?_ (fun _ => ?_))
   | exact recoupref06_List.mono _ _
   | exact recoupref07_Rank.mono _ _ _ _ _
   | exact LeO.none _
   | refine LeO.ite ?_ ?_
   | refine LeO.bind ?_ (fun _ => ?_)
set_option maxHeartbeats 8000000 in
set_option maxRecDepth 100000 in
theorem recoupref07_Free.calls (k : Nat) (a0_0 : Int) (a0_1 : Int) (A0_2 : Option Addr) (c0_2 : Nat) (l0_2 : List Int) (a1 : Int) (r1 : Bool) (r2 : Int) (w : World) (hr0_2 : Kd.C (Kd.int .u8) w A0_2 l0_2.length l0_2) (hc0_2 : l0_2.length ≤ c0_2) (h : recoupref07_Free.f k a0_0 a0_1 l0_2 a1 = some (r1, r2)) :
  Calls Tryd.prog 15 #[.agg #[.int .i64 a0_0, .int .i64 a0_1, .slice A0_2 l0_2.length c0_2], .int .u64 a1] w fun e w' => e = .returned (.tuple #[.bool r1, .int .i64 r2]) ∧ Below w.heap.size w w' := by
 have hu24 := Tryd.underlying24
 have HR0_2 := Aside0.mk hr0_2
 have HC0_2 := Aside0.mk hc0_2
 clear hr0_2 hc0_2
 have HB := Aside0.mk (Below.refl w.heap.size w)
 have H : ((recoupref07_Rank.f k a0_0 a0_1 l0_2 a1).bind fun bt226 => (if bt226.2 = 0 then ((recoupref06_List.f k a1).bind fun t228 => (some ((bt226.1 == (t228.length : Int)), bt226.2))) else (some (false, bt226.2)))) = some (r1, r2) := h
 clear h
 obtain ⟨⟨t226, t227⟩, A3, H⟩ := bindO H
 (try dsimp only at H)
 by_cases c4 : t227 = 0
 ·rw [if_pos c4] at H
  have c4b0 : (t227 == 0) = true := beq_iff_eq.mpr c4
  have c4b1 : (t227 != 0) = false := bne_eq_false_iff_eq.mpr c4
  clear c4
  obtain ⟨t228, A5, H⟩ := bindO H
  (try dsimp only at H)
  simp only [Option.some.injEq, Prod.mk.injEq] at H
  obtain ⟨rfl, rfl⟩ := H
  go_enter Tryd.func15, Tryd.ntmps15
  go_wp2_with (first | ((with_reducible refine gD 2 rfl ?_); (try (refine gate_guard (by rfl) ?_; dsimp only)); refine bE 2 #[.int .i64 a0_0, .int .i64 a0_1, .slice A0_2 l0_2.length c0_2] 24 ?_; intro gb225 hg w6 hbox hb; have BK225 := Aside0.mk (hbox); have GW225 := hbS HB hg; have GE225 := hbS HB hg; replace HB := hbB HB hb; clear hb hbox hg; obtain ⟨hcz7_0, hcz7_1, hcz7_2, hfz7_0, hfz7_1, hfz7_2⟩ := cell3 BK225) | ((with_reducible refine gC 13 rfl ?_); refine cG (some 11) Tryd.func13 #[.agg #[.int .i64 a0_0, .int .i64 a0_1, .slice A0_2 l0_2.length c0_2], .int .u64 a1] ?_; (with_reducible refine (recoupref07_Rank.calls k a0_0 a0_1 _ _ l0_2 a1 t226 t227 _ ?side1 ?side2 A3.out).mono ?_); (case side1 => exact kcB HR0_2 HB); (case side2 => exact HC0_2.out); rintro e w8 ⟨rfl, hb⟩; refine ⟨_, rfl, ?_⟩; replace BK225 := bkB BK225 hb; replace HB := hbB HB hb; (try clear hb); (try clear hb2); (try clear hk); (try clear hi)) | (go_at_call 28; (with_reducible refine (recoupref06_List.calls k a1 t228 _ A5.out).mono ?_); rintro e w9 ⟨v229, rfl, ho0, hb⟩; have HO230 := Aside0.mk (Kd.R_lower ho0 (below_size (hbA HB.out))); replace BK225 := bkB BK225 hb; replace HB := hbB HB hb; (try clear hb); (try clear hb2); (try clear hk); (try clear hi); (try clear ho0); obtain ⟨Ao10, co10, eo10⟩ := Kd.R_slice HO230.out; subst eo10))
  go_ret2
  exact ⟨rfE, hbA HB.out⟩
 ·rw [if_neg c4] at H
  have c4b0 : (t227 == 0) = false := beq_eq_false_iff_ne.mpr c4
  have c4b1 : (t227 != 0) = true := bne_iff_ne.mpr c4
  simp only [Option.some.injEq, Prod.mk.injEq] at H
  obtain ⟨rfl, rfl⟩ := H
  go_enter Tryd.func15, Tryd.ntmps15
  go_wp2_with (first | ((with_reducible refine gD 2 rfl ?_); (try (refine gate_guard (by rfl) ?_; dsimp only)); refine bE 2 #[.int .i64 a0_0, .int .i64 a0_1, .slice A0_2 l0_2.length c0_2] 24 ?_; intro gb225 hg w11 hbox hb; have BK225 := Aside0.mk (hbox); have GW225 := hbS HB hg; have GE225 := hbS HB hg; replace HB := hbB HB hb; clear hb hbox hg; obtain ⟨hcz12_0, hcz12_1, hcz12_2, hfz12_0, hfz12_1, hfz12_2⟩ := cell3 BK225) | ((with_reducible refine gC 13 rfl ?_); refine cG (some 11) Tryd.func13 #[.agg #[.int .i64 a0_0, .int .i64 a0_1, .slice A0_2 l0_2.length c0_2], .int .u64 a1] ?_; (with_reducible refine (recoupref07_Rank.calls k a0_0 a0_1 _ _ l0_2 a1 t226 t227 _ ?side1 ?side2 A3.out).mono ?_); (case side1 => exact kcB HR0_2 HB); (case side2 => exact HC0_2.out); rintro e w13 ⟨rfl, hb⟩; refine ⟨_, rfl, ?_⟩; replace BK225 := bkB BK225 hb; replace HB := hbB HB hb; (try clear hb); (try clear hb2); (try clear hk); (try clear hi)))
  go_ret2
  exact ⟨rfE, hbA HB.out⟩

/-! ### matroid_Covers: function 16 -/
def matroid_Covers.f (k : Nat) (a0_0 : Int) (a0_1 : Int) (l0_2 : List Int) (a1 : Int) : Option (Bool × Int) := (matroid_Rank.f k a0_0 a0_1 l0_2 a1).bind fun bt232 => (if bt232.2 = 0 then (some ((bt232.1 == a0_1), bt232.2)) else (some (false, bt232.2)))
theorem matroid_Covers.mono : ∀ a0 a1 a2 a3 k, LeO (matroid_Covers.f k a0 a1 a2 a3) (matroid_Covers.f (k + 1) a0 a1 a2 a3) := by
 intro a0 a1 a2 a3 k
 unfold matroid_Covers.f
 repeat' first
   | (with_reducible exact matroid_Rank.mono _ _ _ _ _)
   | (with_reducible exact LeO.refl _)
   | (with_reducible exact LeO.none _)
   | (with_reducible refine LeO.ite ?_ ?_)
   | (with_reducible refine LeO.bind ?_ (fun _ => ?_))
   | exact matroid_Rank.mono _ _ _ _ _
   | exact LeO.none _
   | refine LeO.ite ?_ ?_
   | refine LeO.bind ?_ (fun _ => ?_)
set_option maxHeartbeats 8000000 in
set_option maxRecDepth 100000 in
theorem matroid_Covers.calls (k : Nat) (a0_0 : Int) (a0_1 : Int) (A0_2 : Option Addr) (c0_2 : Nat) (l0_2 : List Int) (a1 : Int) (r1 : Bool) (r2 : Int) (w : World) (hr0_2 : Kd.C (Kd.int .u8) w A0_2 l0_2.length l0_2) (hc0_2 : l0_2.length ≤ c0_2) (h : matroid_Covers.f k a0_0 a0_1 l0_2 a1 = some (r1, r2)) (hT : TabAt 0 Lib.deBruijn64tab w) :
  Calls Tryd.prog 16 #[.agg #[.int .i64 a0_0, .int .i64 a0_1, .slice A0_2 l0_2.length c0_2], .int .u64 a1] w fun e w' => e = .returned (.tuple #[.bool r1, .int .i64 r2]) ∧ Below w.heap.size w w' := by
 have HT := Aside0.mk hT
 clear hT
 have hu24 := Tryd.underlying24
 have HR0_2 := Aside0.mk hr0_2
 have HC0_2 := Aside0.mk hc0_2
 clear hr0_2 hc0_2
 have HB := Aside0.mk (Below.refl w.heap.size w)
 have H : ((matroid_Rank.f k a0_0 a0_1 l0_2 a1).bind fun bt232 => (if bt232.2 = 0 then (some ((bt232.1 == a0_1), bt232.2)) else (some (false, bt232.2)))) = some (r1, r2) := h
 clear h
 obtain ⟨⟨t232, t233⟩, A3, H⟩ := bindO H
 (try dsimp only at H)
 by_cases c4 : t233 = 0
 ·rw [if_pos c4] at H
  have c4b0 : (t233 == 0) = true := beq_iff_eq.mpr c4
  have c4b1 : (t233 != 0) = false := bne_eq_false_iff_eq.mpr c4
  clear c4
  simp only [Option.some.injEq, Prod.mk.injEq] at H
  obtain ⟨rfl, rfl⟩ := H
  go_enter Tryd.func16, Tryd.ntmps16
  go_wp2_with (first | ((with_reducible refine gD 2 rfl ?_); refine bE 2 #[.int .i64 a0_0, .int .i64 a0_1, .slice A0_2 l0_2.length c0_2] 24 ?_; intro gb231 hg w5 hbox hb; have BK231 := Aside0.mk (hbox); have GW231 := hbS HB hg; have GE231 := hbS HB hg; replace HB := hbB HB hb; clear hb hbox hg; obtain ⟨hcz6_0, hcz6_1, hcz6_2, hfz6_0, hfz6_1, hfz6_2⟩ := cell3 BK231) | ((with_reducible refine gC 12 rfl ?_); refine cG (some 11) Tryd.func12 #[.agg #[.int .i64 a0_0, .int .i64 a0_1, .slice A0_2 l0_2.length c0_2], .int .u64 a1] ?_; (with_reducible refine (matroid_Rank.calls k a0_0 a0_1 _ _ l0_2 a1 t232 t233 _ ?side1 ?side2 A3.out (tab_below HT.out (by repeat (first | (with_reducible first | exact HB.out | apply below_alloc | apply pw_below_drewN | apply below_drew1) | exact HB.out | exact Below.refl _ _)))).mono ?_); (case side1 => exact kcB HR0_2 HB); (case side2 => exact HC0_2.out); rintro e w7 ⟨rfl, hb⟩; refine ⟨_, rfl, ?_⟩; replace BK231 := bkB BK231 hb; replace HB := hbB HB hb; (try clear hb); (try clear hb2); (try clear hk); (try clear hi); obtain ⟨hcz8_0, hcz8_1, hcz8_2, hfz8_0, hfz8_1, hfz8_2⟩ := cell3 BK231))
  go_ret2
  exact ⟨rfE, hbA HB.out⟩
 ·rw [if_neg c4] at H
  have c4b0 : (t233 == 0) = false := beq_eq_false_iff_ne.mpr c4
  have c4b1 : (t233 != 0) = true := bne_iff_ne.mpr c4
  simp only [Option.some.injEq, Prod.mk.injEq] at H
  obtain ⟨rfl, rfl⟩ := H
  go_enter Tryd.func16, Tryd.ntmps16
  go_wp2_with (first | ((with_reducible refine gD 2 rfl ?_); refine bE 2 #[.int .i64 a0_0, .int .i64 a0_1, .slice A0_2 l0_2.length c0_2] 24 ?_; intro gb231 hg w9 hbox hb; have BK231 := Aside0.mk (hbox); have GW231 := hbS HB hg; have GE231 := hbS HB hg; replace HB := hbB HB hb; clear hb hbox hg; obtain ⟨hcz10_0, hcz10_1, hcz10_2, hfz10_0, hfz10_1, hfz10_2⟩ := cell3 BK231) | ((with_reducible refine gC 12 rfl ?_); refine cG (some 11) Tryd.func12 #[.agg #[.int .i64 a0_0, .int .i64 a0_1, .slice A0_2 l0_2.length c0_2], .int .u64 a1] ?_; (with_reducible refine (matroid_Rank.calls k a0_0 a0_1 _ _ l0_2 a1 t232 t233 _ ?side1 ?side2 A3.out (tab_below HT.out (by repeat (first | (with_reducible first | exact HB.out | apply below_alloc | apply pw_below_drewN | apply below_drew1) | exact HB.out | exact Below.refl _ _)))).mono ?_); (case side1 => exact kcB HR0_2 HB); (case side2 => exact HC0_2.out); rintro e w11 ⟨rfl, hb⟩; refine ⟨_, rfl, ?_⟩; replace BK231 := bkB BK231 hb; replace HB := hbB HB hb; (try clear hb); (try clear hb2); (try clear hk); (try clear hi)))
  go_ret2
  exact ⟨rfE, hbA HB.out⟩

/-! ### recoupref07_Covers: function 17 -/
def recoupref07_Covers.f (k : Nat) (a0_0 : Int) (a0_1 : Int) (l0_2 : List Int) (a1 : Int) : Option (Bool × Int) := (recoupref07_Rank.f k a0_0 a0_1 l0_2 a1).bind fun bt235 => (if bt235.2 = 0 then (some ((bt235.1 == a0_1), bt235.2)) else (some (false, bt235.2)))
theorem recoupref07_Covers.mono : ∀ a0 a1 a2 a3 k, LeO (recoupref07_Covers.f k a0 a1 a2 a3) (recoupref07_Covers.f (k + 1) a0 a1 a2 a3) := by
 intro a0 a1 a2 a3 k
 unfold recoupref07_Covers.f
 repeat' first
   | (with_reducible exact recoupref07_Rank.mono _ _ _ _ _)
   | (with_reducible exact LeO.refl _)
   | (with_reducible exact LeO.none _)
   | (with_reducible refine LeO.ite ?_ ?_)
   | (with_reducible refine LeO.bind ?_ (fun _ => ?_))
   | exact recoupref07_Rank.mono _ _ _ _ _
   | exact LeO.none _
   | refine LeO.ite ?_ ?_
   | refine LeO.bind ?_ (fun _ => ?_)
set_option maxHeartbeats 8000000 in
set_option maxRecDepth 100000 in
theorem recoupref07_Covers.calls (k : Nat) (a0_0 : Int) (a0_1 : Int) (A0_2 : Option Addr) (c0_2 : Nat) (l0_2 : List Int) (a1 : Int) (r1 : Bool) (r2 : Int) (w : World) (hr0_2 : Kd.C (Kd.int .u8) w A0_2 l0_2.length l0_2) (hc0_2 : l0_2.length ≤ c0_2) (h : recoupref07_Covers.f k a0_0 a0_1 l0_2 a1 = some (r1, r2)) :
  Calls Tryd.prog 17 #[.agg #[.int .i64 a0_0, .int .i64 a0_1, .slice A0_2 l0_2.length c0_2], .int .u64 a1] w fun e w' => e = .returned (.tuple #[.bool r1, .int .i64 r2]) ∧ Below w.heap.size w w' := by
 have hu24 := Tryd.underlying24
 have HR0_2 := Aside0.mk hr0_2
 have HC0_2 := Aside0.mk hc0_2
 clear hr0_2 hc0_2
 have HB := Aside0.mk (Below.refl w.heap.size w)
 have H : ((recoupref07_Rank.f k a0_0 a0_1 l0_2 a1).bind fun bt235 => (if bt235.2 = 0 then (some ((bt235.1 == a0_1), bt235.2)) else (some (false, bt235.2)))) = some (r1, r2) := h
 clear h
 obtain ⟨⟨t235, t236⟩, A3, H⟩ := bindO H
 (try dsimp only at H)
 by_cases c4 : t236 = 0
 ·rw [if_pos c4] at H
  have c4b0 : (t236 == 0) = true := beq_iff_eq.mpr c4
  have c4b1 : (t236 != 0) = false := bne_eq_false_iff_eq.mpr c4
  clear c4
  simp only [Option.some.injEq, Prod.mk.injEq] at H
  obtain ⟨rfl, rfl⟩ := H
  go_enter Tryd.func17, Tryd.ntmps17
  go_wp2_with (first | ((with_reducible refine gD 2 rfl ?_); refine bE 2 #[.int .i64 a0_0, .int .i64 a0_1, .slice A0_2 l0_2.length c0_2] 24 ?_; intro gb234 hg w5 hbox hb; have BK234 := Aside0.mk (hbox); have GW234 := hbS HB hg; have GE234 := hbS HB hg; replace HB := hbB HB hb; clear hb hbox hg; obtain ⟨hcz6_0, hcz6_1, hcz6_2, hfz6_0, hfz6_1, hfz6_2⟩ := cell3 BK234) | ((with_reducible refine gC 13 rfl ?_); refine cG (some 11) Tryd.func13 #[.agg #[.int .i64 a0_0, .int .i64 a0_1, .slice A0_2 l0_2.length c0_2], .int .u64 a1] ?_; (with_reducible refine (recoupref07_Rank.calls k a0_0 a0_1 _ _ l0_2 a1 t235 t236 _ ?side1 ?side2 A3.out).mono ?_); (case side1 => exact kcB HR0_2 HB); (case side2 => exact HC0_2.out); rintro e w7 ⟨rfl, hb⟩; refine ⟨_, rfl, ?_⟩; replace BK234 := bkB BK234 hb; replace HB := hbB HB hb; (try clear hb); (try clear hb2); (try clear hk); (try clear hi); obtain ⟨hcz8_0, hcz8_1, hcz8_2, hfz8_0, hfz8_1, hfz8_2⟩ := cell3 BK234))
  go_ret2
  exact ⟨rfE, hbA HB.out⟩
 ·rw [if_neg c4] at H
  have c4b0 : (t236 == 0) = false := beq_eq_false_iff_ne.mpr c4
  have c4b1 : (t236 != 0) = true := bne_iff_ne.mpr c4
  simp only [Option.some.injEq, Prod.mk.injEq] at H
  obtain ⟨rfl, rfl⟩ := H
  go_enter Tryd.func17, Tryd.ntmps17
  go_wp2_with (first | ((with_reducible refine gD 2 rfl ?_); refine bE 2 #[.int .i64 a0_0, .int .i64 a0_1, .slice A0_2 l0_2.length c0_2] 24 ?_; intro gb234 hg w9 hbox hb; have BK234 := Aside0.mk (hbox); have GW234 := hbS HB hg; have GE234 := hbS HB hg; replace HB := hbB HB hb; clear hb hbox hg; obtain ⟨hcz10_0, hcz10_1, hcz10_2, hfz10_0, hfz10_1, hfz10_2⟩ := cell3 BK234) | ((with_reducible refine gC 13 rfl ?_); refine cG (some 11) Tryd.func13 #[.agg #[.int .i64 a0_0, .int .i64 a0_1, .slice A0_2 l0_2.length c0_2], .int .u64 a1] ?_; (with_reducible refine (recoupref07_Rank.calls k a0_0 a0_1 _ _ l0_2 a1 t235 t236 _ ?side1 ?side2 A3.out).mono ?_); (case side1 => exact kcB HR0_2 HB); (case side2 => exact HC0_2.out); rintro e w11 ⟨rfl, hb⟩; refine ⟨_, rfl, ?_⟩; replace BK234 := bkB BK234 hb; replace HB := hbB HB hb; (try clear hb); (try clear hb2); (try clear hk); (try clear hi)))
  go_ret2
  exact ⟨rfE, hbA HB.out⟩

end Go.Proofs.YthjncmdlhmppiaaDoor.Q
