/- Written by drive.py (a program of this repo, over the kit's print): each Go function named here answers what the Lean function beside it answers, wherever that one answers, in every world that meets the stated premises. -/
import Derived.Test.YtccfbhnhedoggaaQx0
import Derived.Test.YtccfbhnhedoggaaQx115
namespace Go.Proofs.Ytccfbhnhedoggaa.Q
open Go.RowKit Go.Proofs.YtccfbhnhedoggaaW.PrintWords Go.Proofs.YtccfbhnhedoggaaW.PrintLast Go.Proofs.YtccfbhnhedoggaaW.PrintMore
attribute [local go_sem] max2_int min2_int max_two min_two max_three min_three max_four min_four   -- for this text's walks alone
set_option linter.unusedVariables false
set_option linter.unusedSimpArgs false

/-! ### recoupref04_Rank: function 49 -/
def recoupref04_Rank.f (k : Nat) (a0_0 : Int) (a0_1 : Int) (l0_2 : List Int) : Option (Int × Int) := (recoupref04_Reduce.f k a0_0 a0_1 l0_2).bind fun bt286 => (some ((bt286.2.2.2.1.length : Int), bt286.2.2.2.2))
theorem recoupref04_Rank.mono : ∀ a0 a1 a2 k, LeO (recoupref04_Rank.f k a0 a1 a2) (recoupref04_Rank.f (k + 1) a0 a1 a2) := by
 intro a0 a1 a2 k
 unfold recoupref04_Rank.f
 repeat' first
   | (with_reducible exact recoupref04_Reduce.mono _ _ _ _)
   | (with_reducible exact LeO.refl _)
   | (with_reducible exact LeO.none _)
   | (with_reducible refine LeO.ite ?_ ?_)
   | (with_reducible refine LeO.bind ?_ (fun _ => ?_))
   | exact recoupref04_Reduce.mono _ _ _ _
   | exact LeO.none _
   | refine LeO.ite ?_ ?_
   | refine LeO.bind ?_ (fun _ => ?_)
set_option maxHeartbeats 8000000 in
set_option maxRecDepth 100000 in
theorem recoupref04_Rank.calls (k : Nat) (a0_0 : Int) (a0_1 : Int) (A0_2 : Option Addr) (c0_2 : Nat) (l0_2 : List Int) (r1 : Int) (r2 : Int) (w : World) (hr0_2 : Kd.C (Kd.int .u8) w A0_2 l0_2.length l0_2) (hc0_2 : l0_2.length ≤ c0_2) (h : recoupref04_Rank.f k a0_0 a0_1 l0_2 = some (r1, r2)) :
  Calls Try.prog 49 #[.agg #[.int .i64 a0_0, .int .i64 a0_1, .slice A0_2 l0_2.length c0_2]] w fun e w' => e = .returned (.tuple #[.int .i64 r1, .int .i64 r2]) ∧ Below w.heap.size w w' := by
 have hu24 := Try.underlying24
 have HR0_2 := Aside0.mk hr0_2
 have HC0_2 := Aside0.mk hc0_2
 clear hr0_2 hc0_2
 have HB := Aside0.mk (Below.refl w.heap.size w)
 have H : ((recoupref04_Reduce.f k a0_0 a0_1 l0_2).bind fun bt286 => (some ((bt286.2.2.2.1.length : Int), bt286.2.2.2.2))) = some (r1, r2) := h
 clear h
 obtain ⟨⟨t286, t287, t288, t291, t294⟩, A2, H⟩ := bindO H
 (try dsimp only at H)
 simp only [Option.some.injEq, Prod.mk.injEq] at H
 obtain ⟨rfl, rfl⟩ := H
 go_enter Try.func49, Try.ntmps49
 go_wp2_with (first | ((with_reducible refine gD 1 rfl ?_); refine bE 1 #[.int .i64 a0_0, .int .i64 a0_1, .slice A0_2 l0_2.length c0_2] 24 ?_; intro gb285 hg w3 hbox hb; have BK285 := Aside0.mk (hbox); have GW285 := hbS HB hg; have GE285 := hbS HB hg; replace HB := hbB HB hb; clear hb hbox hg; obtain ⟨hcz4_0, hcz4_1, hcz4_2, hfz4_0, hfz4_1, hfz4_2⟩ := cell3 BK285) | ((with_reducible refine gC 15 rfl ?_); refine cG (some 9) Try.func15 #[.agg #[.int .i64 a0_0, .int .i64 a0_1, .slice A0_2 l0_2.length c0_2]] ?_; (with_reducible refine (recoupref04_Reduce.calls k a0_0 a0_1 _ _ l0_2 t286 t287 t288 t291 t294 _ ?side1 ?side2 A2.out).mono ?_); (case side1 => exact kcB HR0_2 HB); (case side2 => exact HC0_2.out); rintro e w5 ⟨v289, v292, rfl, ho0, ho1, hb⟩; refine ⟨_, rfl, ?_⟩; have HO290 := Aside0.mk (Kd.R_lower ho0 (below_size (hbA HB.out))); have HO293 := Aside0.mk (Kd.R_lower ho1 (below_size (hbA HB.out))); replace BK285 := bkB BK285 hb; replace HB := hbB HB hb; (try clear hb); (try clear hb2); (try clear hk); (try clear hi); (try clear ho0); (try clear ho1)) | ((with_reducible refine gD 4 rfl ?_); refine bE 4 #[.int .i64 0, .int .i64 0, .slice none 0 0] 24 ?_; intro gb295 hg w6 hbox hb; replace HO290 := kdB HO290 hb; replace HO293 := kdB HO293 hb; have BK295 := Aside0.mk (hbox); have GW295 := hbS HB hg; have GE295 := hbS HB hg; replace HB := hbB HB hb; have NB285_295 := neL BK285 hg; have NB295_285 := neG BK285 hg; replace BK285 := bkB BK285 hb; clear hb hbox hg; have hnb7 := NB295_285.out; have hnc7 := NB285_295.out; obtain ⟨hcz8_0, hcz8_1, hcz8_2, hfz8_0, hfz8_1, hfz8_2⟩ := cell3 BK295; obtain ⟨Ao9, co9, eo9⟩ := Kd.R_slice HO290.out; subst eo9; obtain ⟨Ao10, co10, eo10⟩ := Kd.R_slice HO293.out; subst eo10))
 go_ret2
 exact ⟨rfE, hbA HB.out⟩

/-! ### recoupref03_Zero: function 50 -/
def recoupref03_Zero.f (a0 : Int) (a1 : Int) : Option (Int × Int × List Int) := if 0 ≤ (wrap64 (a0 * a1)) then (if (wrap64 (a0 * a1) : Int).toNat ≤ 281474976710656 then (some (a0, a1, (List.replicate (wrap64 (a0 * a1) : Int).toNat 0))) else (none)) else (none)
set_option maxHeartbeats 8000000 in
set_option maxRecDepth 100000 in
theorem recoupref03_Zero.calls (a0 : Int) (a1 : Int) (r1 : Int) (r2 : Int) (r3 : List Int) (w : World) (h : recoupref03_Zero.f a0 a1 = some (r1, r2, r3)) :
  Calls Try.prog 50 #[.int .i64 a0, .int .i64 a1] w fun e w' => ∃ v2_ : Value, e = .returned (.agg #[.int .i64 r1, .int .i64 r2, v2_]) ∧ Kd.R (Kd.int .u8) 5 w' w.heap.size (fun _ => True) v2_ r3 ∧ Below w.heap.size w w' := by
 have hu24 := Try.underlying24
 have HB := Aside0.mk (Below.refl w.heap.size w)
 have H : (if 0 ≤ (wrap64 (a0 * a1)) then (if (wrap64 (a0 * a1) : Int).toNat ≤ 281474976710656 then (some (a0, a1, (List.replicate (wrap64 (a0 * a1) : Int).toNat 0))) else (none)) else (none)) = some (r1, r2, r3) := h
 clear h
 obtain ⟨ji3, hji3⟩ : ∃ j_ : Int, (wrap64 (a0 * a1)) = j_ := ⟨_, rfl⟩
 replace H : (if 0 ≤ (ji3) then (if (ji3 : Int).toNat ≤ 281474976710656 then (some (a0, a1, (List.replicate (ji3 : Int).toNat 0))) else (none)) else (none)) = some (r1, r2, r3) := by first | (rw [hji3] at H; exact H) | (simp only [hji3] at H ⊢; exact H)
 have hji3w : (IntKind.i64.wrap (a0 * a1)) = ji3 := (i64_w _).trans hji3
 by_cases c4 : 0 ≤ (ji3)
 ·rw [if_pos c4] at H
  have c4b0 := eq_true c4
  have c4b1 : decide (0 ≤ (ji3)) = true := decide_eq_true c4
  clear c4
  by_cases c5 : (ji3 : Int).toNat ≤ 281474976710656
  ·rw [if_pos c5] at H
   have c5b0 := eq_true c5
   have c5b1 : decide ((ji3 : Int).toNat ≤ 281474976710656) = true := decide_eq_true c5
   clear c5
   obtain ⟨y297, hy297⟩ : ∃ y_ : List Int, y_ = (List.replicate (ji3 : Int).toNat 0) := ⟨_, rfl⟩
   replace H : (some (a0, a1, y297)) = some (r1, r2, r3) := by first | (rw [hy297]; with_reducible exact H) | (have H2_ := (Option.bind_some _ _).symm.trans H; rw [hy297]; with_reducible exact H2_) | (have H2_ := (Option.bind_some _ _).symm.trans H; with_reducible exact H2_) | with_reducible exact H | (rw [hy297]; exact H) | exact H
   have Ny297 := Aside0.mk hy297
   clear hy297
   simp only [Option.some.injEq, Prod.mk.injEq] at H
   obtain ⟨rfl, rfl, rfl⟩ := H
   go_enter Try.func50, Try.ntmps50
   go_wp2_with (first | ((with_reducible refine gD 4 rfl ?_); refine bE 4 #[.int .i64 0, .int .i64 0, .slice none 0 0] 24 ?_; intro gb296 hg w6 hbox hb; have BK296 := Aside0.mk (hbox); have GW296 := hbS HB hg; have GE296 := hbS HB hg; replace HB := hbB HB hb; clear hb hbox hg) | ((with_reducible refine gate_dst (N := 10) rfl ?_); refine Kd.R_make (Kd.int .u8) _ 5 rfl (N := 10) rfl 22 _ _ rfl ji3 rfl rfl Try.underlying22 (.int .u8 0) 1 info5 rfl (by decide) (by omega) 0 (ok := fun _ => True) (okp := fun _ => True) rfl (fun _ hk => hk) trivial (of_decide_eq_true asE) (Nat.le_trans (Nat.mul_le_mul_right _ (of_decide_eq_true asE : ji3.toNat ≤ 281474976710656)) (by omega)) (Below.refl _ _) (Nat.le_refl _) ?_; intro v298 w7 ho8 hb hg_ hnew_; clear hg_ hnew_; (first | rw [← Ny297.out] at ho8 | (simp only [Int.reduceToNat] at ho8; rw [← Ny297.out] at ho8)); have HO299 := Aside0.mk (Kd.R_lower ho8 (below_size (hbA HB.out))); replace BK296 := bkB BK296 hb; replace HB := hbB HB hb; clear hb ho8; obtain ⟨Ao9, co9, eo9⟩ := Kd.R_slice HO299.out; subst eo9; obtain ⟨hcz10_0, hcz10_1, hcz10_2, hfz10_0, hfz10_1, hfz10_2⟩ := cell3 BK296))
   refine bodyPost_ret (results_cell_row rfl _ _ gb296 24 #[.int .i64 a0, .int .i64 a1, .slice Ao9 y297.length co9] (0, 0) _ rfl (by refine bkR ?_; refine blk_put (cs := #[.int .i64 a0, .int .i64 a1, .slice none 0 0]) ?_ 2 _ rfl; refine bkR ?_; refine blk_put (cs := #[.int .i64 a0, .int .i64 0, .slice none 0 0]) ?_ 1 _ rfl; refine bkR ?_; refine blk_put (cs := #[.int .i64 0, .int .i64 0, .slice none 0 0]) ?_ 0 _ rfl; refine bkR ?_; exact BK296.out) Try.underlying24 rfl (by kernel_rfl)) rfl ?_
   exact ⟨_, by first | rfl | (simp [errW_none, errW_some] <;> rfl) | (simp only [← hji3]; first | rfl | (simp [errW_none, errW_some] <;> rfl)) | (simp [*, errW_none, errW_some] <;> rfl), by (with_reducible repeat (first | apply Kd.R_alloc | apply Kd.R_drewN | apply Kd.R_drew)); exact Kd.R_mono (Kd.R_far (p := ⟨gb296, 2, none⟩) (Kd.R_far (p := ⟨gb296, 1, none⟩) (Kd.R_far (p := ⟨gb296, 0, none⟩) (Kd.R_types HO299.out BK296.out (by decide)) (fun _ hk => hk.2) (.int .i64 a0)) (fun _ hk => hk.2) (.int .i64 a1)) (fun _ hk => hk.2) (.slice Ao9 y297.length co9)) (fun _ hk => trivial), hbA HB.out⟩
  ·rw [if_neg c5] at H
   exact absurd H (by simp)
 ·rw [if_neg c4] at H
  exact absurd H (by simp)

end Go.Proofs.Ytccfbhnhedoggaa.Q
