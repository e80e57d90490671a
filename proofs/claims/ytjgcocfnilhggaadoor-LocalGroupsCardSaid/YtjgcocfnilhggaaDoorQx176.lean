/- Written by drive.py (a program of this repo, over the kit's print): each Go function named here answers what the Lean function beside it answers, wherever that one answers, in every world that meets the stated premises. -/
import Derived.Test.YtjgcocfnilhggaaDoorQx0
import Derived.Test.YtjgcocfnilhggaaDoorQx196
namespace Go.Proofs.YtjgcocfnilhggaaDoor.Q
open Go.RowKit Go.Proofs.YtjgcocfnilhggaaDoorW.PrintWords Go.Proofs.YtjgcocfnilhggaaDoorW.PrintLast Go.Proofs.YtjgcocfnilhggaaDoorW.PrintMore
attribute [local go_sem] max2_int min2_int max_two min_two max_three min_three max_four min_four   -- for this text's walks alone
set_option linter.unusedVariables false
set_option linter.unusedSimpArgs false

/-! ### recoupref04_Rank: function 76 -/
def recoupref04_Rank.f (k : Nat) (a0_0 : Int) (a0_1 : Int) (l0_2 : List Int) : Option (Int × Int) := (recoupref04_Reduce.f k a0_0 a0_1 l0_2).bind fun bt194 => (some ((bt194.2.2.2.1.length : Int), bt194.2.2.2.2))
theorem recoupref04_Rank.mono : ∀ a0 a1 a2 k, LeO (recoupref04_Rank.f k a0 a1 a2) (recoupref04_Rank.f (k + 1) a0 a1 a2) := by
 intro a0 a1 a2 k
 unfold recoupref04_Rank.f
 repeat' first
   | (with_reducible exact recoupref04_Reduce.mono _ _ _ _)
   | (with_reducible exact LeO.refl _)
   | (with_reducible exact LeO.none _)
   | (with_reducible refine LeO.ite ?_ ?_)
   | (with_reducible refine LeO.bind ?_ (fun _ => ?_))
   | exact recoupref04_Reduce.mono _ _ _ _
   | exact LeO.none _
   | refine LeO.ite ?_ ?_
   | refine LeO.bind ?_ (fun _ => ?_)
set_option maxHeartbeats 8000000 in
set_option maxRecDepth 100000 in
theorem recoupref04_Rank.calls (k : Nat) (a0_0 : Int) (a0_1 : Int) (A0_2 : Option Addr) (c0_2 : Nat) (l0_2 : List Int) (r1 : Int) (r2 : Int) (w : World) (hr0_2 : Kd.C (Kd.int .u8) w A0_2 l0_2.length l0_2) (hc0_2 : l0_2.length ≤ c0_2) (h : recoupref04_Rank.f k a0_0 a0_1 l0_2 = some (r1, r2)) :
  Calls Tryd.prog 76 #[.agg #[.int .i64 a0_0, .int .i64 a0_1, .slice A0_2 l0_2.length c0_2]] w fun e w' => e = .returned (.tuple #[.int .i64 r1, .int .i64 r2]) ∧ Below w.heap.size w w' := by
 have hu24 := Tryd.underlying24
 have HR0_2 := Aside0.mk hr0_2
 have HC0_2 := Aside0.mk hc0_2
 clear hr0_2 hc0_2
 have HB := Aside0.mk (Below.refl w.heap.size w)
 have H : ((recoupref04_Reduce.f k a0_0 a0_1 l0_2).bind fun bt194 => (some ((bt194.2.2.2.1.length : Int), bt194.2.2.2.2))) = some (r1, r2) := h
 clear h
 obtain ⟨⟨t194, t195, t196, t199, t202⟩, A2, H⟩ := bindO H
 (try dsimp only at H)
 simp only [Option.some.injEq, Prod.mk.injEq] at H
 obtain ⟨rfl, rfl⟩ := H
 go_enter Tryd.func76, Tryd.ntmps76
 go_wp2_with (first | ((with_reducible refine gD 1 rfl ?_); refine bE 1 #[.int .i64 a0_0, .int .i64 a0_1, .slice A0_2 l0_2.length c0_2] 24 ?_; intro gb193 hg w3 hbox hb; have BK193 := Aside0.mk (hbox); have GW193 := hbS HB hg; have GE193 := hbS HB hg; replace HB := hbB HB hb; clear hb hbox hg; obtain ⟨hcz4_0, hcz4_1, hcz4_2, hfz4_0, hfz4_1, hfz4_2⟩ := cell3 BK193) | ((with_reducible refine gC 96 rfl ?_); refine cG (some 9) Tryd.func96 #[.agg #[.int .i64 a0_0, .int .i64 a0_1, .slice A0_2 l0_2.length c0_2]] ?_; (with_reducible refine (recoupref04_Reduce.calls k a0_0 a0_1 _ _ l0_2 t194 t195 t196 t199 t202 _ ?side1 ?side2 A2.out).mono ?_); (case side1 => exact kcB HR0_2 HB); (case side2 => exact HC0_2.out); rintro e w5 ⟨v197, v200, rfl, ho0, ho1, hb⟩; refine ⟨_, rfl, ?_⟩; have HO198 := Aside0.mk (Kd.R_lower ho0 (below_size (hbA HB.out))); have HO201 := Aside0.mk (Kd.R_lower ho1 (below_size (hbA HB.out))); replace BK193 := bkB BK193 hb; replace HB := hbB HB hb; (try clear hb); (try clear hb2); (try clear hk); (try clear hi); (try clear ho0); (try clear ho1)) | ((with_reducible refine gD 4 rfl ?_); refine bE 4 #[.int .i64 0, .int .i64 0, .slice none 0 0] 24 ?_; intro gb203 hg w6 hbox hb; replace HO198 := kdB HO198 hb; replace HO201 := kdB HO201 hb; have BK203 := Aside0.mk (hbox); have GW203 := hbS HB hg; have GE203 := hbS HB hg; replace HB := hbB HB hb; have NB193_203 := neL BK193 hg; have NB203_193 := neG BK193 hg; replace BK193 := bkB BK193 hb; clear hb hbox hg; have hnb7 := NB203_193.out; have hnc7 := NB193_203.out; obtain ⟨hcz8_0, hcz8_1, hcz8_2, hfz8_0, hfz8_1, hfz8_2⟩ := cell3 BK203; obtain ⟨Ao9, co9, eo9⟩ := Kd.R_slice HO198.out; subst eo9; obtain ⟨Ao10, co10, eo10⟩ := Kd.R_slice HO201.out; subst eo10))
 go_ret2
 exact ⟨rfE, hbA HB.out⟩

end Go.Proofs.YtjgcocfnilhggaaDoor.Q
