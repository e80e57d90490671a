/- Written by drive.py (a program of this repo, over the kit's print): each Go function named here answers what the Lean function beside it answers, wherever that one answers, in every world that meets the stated premises. -/
import Derived.Test.YtccfbhnhedoggaaQx0
import Derived.Test.YtccfbhnhedoggaaQx114
namespace Go.Proofs.Ytccfbhnhedoggaa.Q
open Go.RowKit Go.Proofs.YtccfbhnhedoggaaW.PrintWords Go.Proofs.YtccfbhnhedoggaaW.PrintLast Go.Proofs.YtccfbhnhedoggaaW.PrintMore
attribute [local go_sem] max2_int min2_int max_two min_two max_three min_three max_four min_four   -- for this text's walks alone
set_option linter.unusedVariables false
set_option linter.unusedSimpArgs false

/-! ### gauss_Kernel: function 27 -/
mutual
def gauss_Kernel.l0 : Nat → List Int → Int → Int → Int → Int → Int → List Int → Int → Int → List Int → Int → Int → List Int → Option (Int × Int × List Int × Int)
  | 0, _, _, _, _, _, _, _, _, _, _, _, _, _ => none
  | k + 1, x5, x8, x27, x28, x439000, x439001, x439002, x450000, x450001, x450002, x451000, x451001, x451002 => if x28 < x27 then (if x8 < (x5.length : Int) then (if 0 ≤ x8 then (gauss_Kernel.j1 k x5 x8 x28 x27 x28 ((rd x5 x8) == x28) x439000 x439001 x439002 x450000 x450001 x450002 x451000 x451001 x451002) else (none)) else (gauss_Kernel.j1 k x5 x8 x28 x27 x28 false x439000 x439001 x439002 x450000 x450001 x450002 x451000 x451001 x451002)) else (some (x451000, x451001, x451002, 0))
def gauss_Kernel.j1 : Nat → List Int → Int → Int → Int → Int → Bool → Int → Int → List Int → Int → Int → List Int → Int → Int → List Int → Option (Int × Int × List Int × Int)
  | 0, _, _, _, _, _, _, _, _, _, _, _, _, _, _, _ => none
  | k + 1, x5, x8, x9, x27, x28, x42, x439000, x439001, x439002, x450000, x450001, x450002, x451000, x451001, x451002 => if x42 = true then (gauss_Kernel.l0 k x5 (wrap64 (x8 + 1)) x27 (wrap64 (x28 + 1)) x439000 x439001 x439002 x450000 x450001 x450002 x451000 x451001 x451002) else (if 0 ≤ x439001 then (if (x439001 : Int).toNat ≤ 281474976710656 then ((some (List.replicate (x439001 : Int).toNat 0 : List Int)).bind fun y452 => (if 0 ≤ x9 then (if x9 < (y452.length : Int) then (gauss_Kernel.l1 k x5 x8 x9 (y452.set (x9 : Int).toNat 1) x27 x28 x5 (x5.length : Int) 0 x439000 x439001 x439002 x450000 x450001 x450002 x451000 x451001 x451002) else (none)) else (none))) else (none)) else (none))
def gauss_Kernel.l1 : Nat → List Int → Int → Int → List Int → Int → Int → List Int → Int → Int → Int → Int → List Int → Int → Int → List Int → Int → Int → List Int → Option (Int × Int × List Int × Int)
  | 0, _, _, _, _, _, _, _, _, _, _, _, _, _, _, _, _, _, _ => none
  | k + 1, x5, x8, x9, x10, x27, x28, x51, x52, x53, x439000, x439001, x439002, x450000, x450001, x450002, x451000, x451001, x451002 => if x53 < x52 then (if 0 ≤ x53 then (if x53 < (x51.length : Int) then (if 0 ≤ (wrap64 ((wrap64 (x53 * x439001)) + x9)) then (if (wrap64 ((wrap64 (x53 * x439001)) + x9)) < (x450002.length : Int) then (if 0 ≤ (rd x51 x53) then (if (rd x51 x53) < (x10.length : Int) then (gauss_Kernel.l1 k x5 x8 x9 (x10.set ((rd x51 x53) : Int).toNat (rd x450002 (wrap64 ((wrap64 (x53 * x439001)) + x9)))) x27 x28 x51 x52 (wrap64 (x53 + 1)) x439000 x439001 x439002 x450000 x450001 x450002 x451000 x451001 x451002) else (none)) else (none)) else (none)) else (none)) else (none)) else (none)) else (if x451002.length + x10.length < 140737488355328 then (gauss_Kernel.l0 k x5 x8 x27 (wrap64 (x28 + 1)) x439000 x439001 x439002 x450000 x450001 x450002 (wrap64 (x451000 + 1)) x451001 (x451002 ++ x10)) else (none))
end
def gauss_Kernel.f (k : Nat) (a0_0 : Int) (a0_1 : Int) (l0_2 : List Int) : Option (Int × Int × List Int × Int) := (gauss_Reduce.f a0_0 a0_1 l0_2).bind fun bt440 => (if bt440.2.2.2.2 = 0 then (gauss_Kernel.l0 k bt440.2.2.2.1 0 a0_1 0 a0_0 a0_1 l0_2 bt440.1 bt440.2.1 bt440.2.2.1 0 a0_1 ([] : List Int)) else (some (0, 0, ([] : List Int), bt440.2.2.2.2)))
theorem gauss_Kernel.mono_l : ∀ k, (∀ y0 y1 y2 y3 y4 y5 y6 y7 y8 y9 y10 y11 y12, LeO (gauss_Kernel.l0 k y0 y1 y2 y3 y4 y5 y6 y7 y8 y9 y10 y11 y12) (gauss_Kernel.l0 (k + 1) y0 y1 y2 y3 y4 y5 y6 y7 y8 y9 y10 y11 y12)) ∧ (∀ y0 y1 y2 y3 y4 y5 y6 y7 y8 y9 y10 y11 y12 y13 y14, LeO (gauss_Kernel.j1 k y0 y1 y2 y3 y4 y5 y6 y7 y8 y9 y10 y11 y12 y13 y14) (gauss_Kernel.j1 (k + 1) y0 y1 y2 y3 y4 y5 y6 y7 y8 y9 y10 y11 y12 y13 y14)) ∧ (∀ y0 y1 y2 y3 y4 y5 y6 y7 y8 y9 y10 y11 y12 y13 y14 y15 y16 y17, LeO (gauss_Kernel.l1 k y0 y1 y2 y3 y4 y5 y6 y7 y8 y9 y10 y11 y12 y13 y14 y15 y16 y17) (gauss_Kernel.l1 (k + 1) y0 y1 y2 y3 y4 y5 y6 y7 y8 y9 y10 y11 y12 y13 y14 y15 y16 y17))
  | 0 => ⟨fun _ _ _ _ _ _ _ _ _ _ _ _ _ r h => by simp [gauss_Kernel.l0] at h, fun _ _ _ _ _ _ _ _ _ _ _ _ _ _ _ r h => by simp [gauss_Kernel.j1] at h, fun _ _ _ _ _ _ _ _ _ _ _ _ _ _ _ _ _ _ r h => by simp [gauss_Kernel.l1] at h⟩
  | k + 1 => by
    obtain ⟨ih0, ih1, ih2⟩ := gauss_Kernel.mono_l k
    refine ⟨?_, ?_, ?_⟩
    all_goals (intros; first | unfold gauss_Kernel.l0 | unfold gauss_Kernel.j1 | unfold gauss_Kernel.l1)
    all_goals repeat' first | (with_reducible exact ih0 _ _ _ _ _ _ _ _ _ _ _ _ _) | (with_reducible exact ih1 _ _ _ _ _ _ _ _ _ _ _ _ _ _ _) | (with_reducible exact ih2 _ _ _ _ _ _ _ _ _ _ _ _ _ _ _ _ _ _) | (with_reducible exact LeO.refl _) | (with_reducible exact LeO.none _) | (with_reducible refine LeO.ite ?_ ?_) | (with_reducible refine LeO.bind ?_ (fun _ => ?_)) | exact ih0 _ _ _ _ _ _ _ _ _ _ _ _ _ | exact ih1 _ _ _ _ _ _ _ _ _ _ _ _ _ _ _ | exact ih2 _ _ _ _ _ _ _ _ _ _ _ _ _ _ _ _ _ _ | exact LeO.none _ | refine LeO.ite ?_ ?_ | refine LeO.bind ?_ (fun _ => ?_)
theorem gauss_Kernel.mono : ∀ a0 a1 a2 k, LeO (gauss_Kernel.f k a0 a1 a2) (gauss_Kernel.f (k + 1) a0 a1 a2) := by
  intro a0 a1 a2 k
  obtain ⟨ih0, ih1, ih2⟩ := gauss_Kernel.mono_l k
  unfold gauss_Kernel.f
  repeat' first
      | (with_reducible exact ih0 _ _ _ _ _ _ _ _ _ _ _ _ _)
      | (with_reducible exact ih1 _ _ _ _ _ _ _ _ _ _ _ _ _ _ _)
      | (with_reducible exact ih2 _ _ _ _ _ _ _ _ _ _ _ _ _ _ _ _ _ _)
      | (with_reducible exact LeO.refl _)
      | (with_reducible exact LeO.none _)
      | (with_reducible refine LeO.ite ?_ ?_)
      | (with_reducible refine LeO.bind ?_ (fun _ => ?_))
      | exact ih0 _ _ _ _ _ _ _ _ _ _ _ _ _
      | exact ih1 _ _ _ _ _ _ _ _ _ _ _ _ _ _ _
      | exact ih2 _ _ _ _ _ _ _ _ _ _ _ _ _ _ _ _ _ _
      | exact LeO.none _
      | refine LeO.ite ?_ ?_
      | refine LeO.bind ?_ (fun _ => ?_)
set_option maxHeartbeats 8000000 in
set_option maxRecDepth 100000 in
theorem gauss_Kernel.calls (k : Nat) (a0_0 : Int) (a0_1 : Int) (A0_2 : Option Addr) (c0_2 : Nat) (l0_2 : List Int) (r1 : Int) (r2 : Int) (r3 : List Int) (r4 : Int) (w : World) (hr0_2 : Kd.C (Kd.int .u8) w A0_2 l0_2.length l0_2) (hc0_2 : l0_2.length ≤ c0_2) (h : gauss_Kernel.f k a0_0 a0_1 l0_2 = some (r1, r2, r3, r4)) :
    Calls Try.prog 27 #[.agg #[.int .i64 a0_0, .int .i64 a0_1, .slice A0_2 l0_2.length c0_2]] w fun e w' => ∃ v2_ : Value, e = .returned (.tuple #[.agg #[.int .i64 r1, .int .i64 r2, v2_], .int .i64 r4]) ∧ Kd.R (Kd.int .u8) 5 w' w.heap.size (fun _ => True) v2_ r3 ∧ Below w.heap.size w w' := by
  have hu24 := Try.underlying24
  have HR0_2 := Aside0.mk hr0_2
  have HC0_2 := Aside0.mk hc0_2
  clear hr0_2 hc0_2
  have HB := Aside0.mk (Below.refl w.heap.size w)
  have H : ((gauss_Reduce.f a0_0 a0_1 l0_2).bind fun bt440 => (if bt440.2.2.2.2 = 0 then (gauss_Kernel.l0 k bt440.2.2.2.1 0 a0_1 0 a0_0 a0_1 l0_2 bt440.1 bt440.2.1 bt440.2.2.1 0 a0_1 ([] : List Int)) else (some (0, 0, ([] : List Int), bt440.2.2.2.2)))) = some (r1, r2, r3, r4) := h
  clear h
  obtain ⟨⟨t440, t441, t442, t445, t448⟩, A2, H⟩ := bindO H
  (try dsimp only at H)
  by_cases c3 : t448 = 0
  · rw [if_pos c3] at H
    have c3b0 : (t448 == 0) = true := beq_iff_eq.mpr c3
    have c3b1 : (t448 != 0) = false := bne_eq_false_iff_eq.mpr c3
    clear c3
    have H' := Aside0.mk H
    clear H
    go_enter Try.func27, Try.ntmps27
    go_wp2_with (first | ((with_reducible refine gD 1 rfl ?_); refine bE 1 #[.int .i64 a0_0, .int .i64 a0_1, .slice A0_2 l0_2.length c0_2] 24 ?_; intro gb438 hg w4 hbox hb; have BK438 := Aside0.mk (hbox); have GW438 := hbS HB hg; have GE438 := hbS HB hg; replace HB := hbB HB hb; clear hb hbox hg) | ((with_reducible refine gD 2 rfl ?_); refine bE 2 #[.int .i64 0, .int .i64 0, .slice none 0 0] 24 ?_; intro gb439 hg w5 hbox hb; have BK439 := Aside0.mk (hbox); have GW439 := hbS HB hg; have GE439 := hbS HB hg; replace HB := hbB HB hb; have NB438_439 := neL BK438 hg; have NB439_438 := neG BK438 hg; replace BK438 := bkB BK438 hb; clear hb hbox hg; have hnb6 := NB438_439.out; have hnc6 := NB439_438.out; obtain ⟨hcz7_0, hcz7_1, hcz7_2, hfz7_0, hfz7_1, hfz7_2⟩ := cell3 BK438) | ((with_reducible refine gC 14 rfl ?_); refine cG (some 15) Try.func14 #[.agg #[.int .i64 a0_0, .int .i64 a0_1, .slice A0_2 l0_2.length c0_2]] ?_; (with_reducible refine (gauss_Reduce.calls a0_0 a0_1 _ _ l0_2 t440 t441 t442 t445 t448 _ ?side1 ?side2 A2.out).mono ?_); (case side1 => exact kcB HR0_2 HB); (case side2 => exact HC0_2.out); rintro e w8 ⟨v443, v446, rfl, ho0, ho1, hb⟩; refine ⟨_, rfl, ?_⟩; have HO444 := Aside0.mk (Kd.V_lower (Kd.V_mono (ok' := fun k_ => some k_ ≠ (v446 : Value).ownBlock ∧ k_ ≠ gb438 ∧ k_ ≠ gb439) ho0 (fun k_ hk_ => ⟨hk_.2, (Kd.freshB (g := gb438) (o := .cells #[.int .i64 a0_0, .int .i64 a0_1, .slice A0_2 l0_2.length c0_2] 24 (0, 0)) (bkA BK438.out) k_ hk_.1), (Kd.freshB (g := gb439) (o := .cells #[.int .i64 0, .int .i64 0, .slice none 0 0] 24 (0, 0)) (bkA BK439.out) k_ hk_.1)⟩)) (below_size (hbA HB.out))); have HO447 := Aside0.mk (Kd.R_lower (Kd.R_mono (ok' := fun k_ => True) ho1 (fun _ hk_ => trivial)) (below_size (hbA HB.out))); replace BK438 := bkB BK438 hb; replace BK439 := bkB BK439 hb; replace HB := hbB HB hb; (try clear hb); (try clear hb2); (try clear hk); (try clear hi); (try clear ho0); (try clear ho1)) | ((with_reducible refine gD 4 rfl ?_); refine bE 4 #[.int .i64 0, .int .i64 0, .slice none 0 0] 24 ?_; intro gb449 hg w9 hbox hb; replace HO444 := Aside0.mk (Kd.V_below (Kd.V_elderB (by (with_reducible repeat (first | apply Kd.V_alloc | apply Kd.V_drewN | apply Kd.V_drew)); exact HO444.out) gb449 (Nat.le_of_eq hg.symm)) hb); replace HO447 := kdB HO447 hb; have BK449 := Aside0.mk (hbox); have GW449 := hbS HB hg; have GE449 := hbS HB hg; replace HB := hbB HB hb; have NB438_449 := neL BK438 hg; have NB449_438 := neG BK438 hg; replace BK438 := bkB BK438 hb; have NB439_449 := neL BK439 hg; have NB449_439 := neG BK439 hg; replace BK439 := bkB BK439 hb; clear hb hbox hg; have hnb10 := NB449_438.out; have hnc10 := NB438_449.out; have hnb11 := NB449_439.out; have hnc11 := NB439_449.out; obtain ⟨hcz12_0, hcz12_1, hcz12_2, hfz12_0, hfz12_1, hfz12_2⟩ := cell3 BK449; obtain ⟨Ao13, co13, eo13⟩ := Kd.V_slice HO444.out; subst eo13; obtain ⟨hcz14_0, hcz14_1, hcz14_2, hfz14_0, hfz14_1, hfz14_2⟩ := cell3 BK438) | ((with_reducible refine gD 7 rfl ?_); refine bE 7 #[.int .i64 0, .int .i64 0, .slice none 0 0] 24 ?_; intro gb450 hg w15 hbox hb; replace HO444 := Aside0.mk (Kd.V_below (Kd.V_elderB (by (with_reducible repeat (first | apply Kd.V_alloc | apply Kd.V_drewN | apply Kd.V_drew)); exact (Kd.V_mono (Kd.V_far (p := ⟨gb449, 2, none⟩) (Kd.V_far (p := ⟨gb449, 1, none⟩) (Kd.V_far (p := ⟨gb449, 0, none⟩) (Kd.V_mono HO444.out (fun k_ hk => (⟨hk, hk.2⟩ : _ ∧ k_ ≠ gb449))) (fun _ hk => hk.2) (.int .i64 t440)) (fun _ hk => hk.2) (.int .i64 t441)) (fun _ hk => hk.2) (.slice Ao13 t442.length co13)) (fun _ h_ => h_.1))) gb450 (Nat.le_of_eq hg.symm)) hb); replace HO447 := Aside0.mk (Kd.R_below (by (with_reducible repeat (first | apply Kd.R_alloc | apply Kd.R_drewN | apply Kd.R_drew)); exact (Kd.R_mono (Kd.R_far (p := ⟨gb449, 2, none⟩) (Kd.R_far (p := ⟨gb449, 1, none⟩) (Kd.R_far (p := ⟨gb449, 0, none⟩) (Kd.R_types HO447.out BK449.out (by decide)) (fun _ hk => hk.2) (.int .i64 t440)) (fun _ hk => hk.2) (.int .i64 t441)) (fun _ hk => hk.2) (.slice Ao13 t442.length co13)) (fun _ h_ => h_.1))) hb); have BK450 := Aside0.mk (hbox); have GW450 := hbS HB hg; have GE450 := hbS HB hg; replace HB := hbB HB hb; have NB438_450 := Aside0.mk ((by rw [hg]; exact Nat.ne_of_lt (blk_lt (g := gb438) (o := .cells #[.int .i64 a0_0, .int .i64 a0_1, .slice A0_2 l0_2.length c0_2] 24 (0, 0)) (by refine bkR ?_; refine blk_far ?_ NB438_449.out _; refine bkR ?_; refine blk_far ?_ NB438_449.out _; refine bkR ?_; refine blk_far ?_ NB438_449.out _; refine bkR ?_; exact BK438.out)) : gb438 ≠ gb450)); have NB450_438 := Aside0.mk ((by rw [hg]; exact Nat.ne_of_gt (blk_lt (g := gb438) (o := .cells #[.int .i64 a0_0, .int .i64 a0_1, .slice A0_2 l0_2.length c0_2] 24 (0, 0)) (by refine bkR ?_; refine blk_far ?_ NB438_449.out _; refine bkR ?_; refine blk_far ?_ NB438_449.out _; refine bkR ?_; refine blk_far ?_ NB438_449.out _; refine bkR ?_; exact BK438.out)) : gb450 ≠ gb438)); replace BK438 := Aside0.mk (blk_below (g := gb438) (o := .cells #[.int .i64 a0_0, .int .i64 a0_1, .slice A0_2 l0_2.length c0_2] 24 (0, 0)) (by refine bkR ?_; refine blk_far ?_ NB438_449.out _; refine bkR ?_; refine blk_far ?_ NB438_449.out _; refine bkR ?_; refine blk_far ?_ NB438_449.out _; refine bkR ?_; exact BK438.out) hb); have NB439_450 := Aside0.mk ((by rw [hg]; exact Nat.ne_of_lt (blk_lt (g := gb439) (o := .cells #[.int .i64 0, .int .i64 0, .slice none 0 0] 24 (0, 0)) (by refine bkR ?_; refine blk_far ?_ NB439_449.out _; refine bkR ?_; refine blk_far ?_ NB439_449.out _; refine bkR ?_; refine blk_far ?_ NB439_449.out _; refine bkR ?_; exact BK439.out)) : gb439 ≠ gb450)); have NB450_439 := Aside0.mk ((by rw [hg]; exact Nat.ne_of_gt (blk_lt (g := gb439) (o := .cells #[.int .i64 0, .int .i64 0, .slice none 0 0] 24 (0, 0)) (by refine bkR ?_; refine blk_far ?_ NB439_449.out _; refine bkR ?_; refine blk_far ?_ NB439_449.out _; refine bkR ?_; refine blk_far ?_ NB439_449.out _; refine bkR ?_; exact BK439.out)) : gb450 ≠ gb439)); replace BK439 := Aside0.mk (blk_below (g := gb439) (o := .cells #[.int .i64 0, .int .i64 0, .slice none 0 0] 24 (0, 0)) (by refine bkR ?_; refine blk_far ?_ NB439_449.out _; refine bkR ?_; refine blk_far ?_ NB439_449.out _; refine bkR ?_; refine blk_far ?_ NB439_449.out _; refine bkR ?_; exact BK439.out) hb); have NB449_450 := Aside0.mk ((by rw [hg]; exact Nat.ne_of_lt (blk_lt (g := gb449) (o := .cells #[.int .i64 t440, .int .i64 t441, .slice Ao13 t442.length co13] 24 (0, 0)) (by refine bkR ?_; refine blk_put (cs := #[.int .i64 t440, .int .i64 t441, .slice none 0 0]) ?_ 2 _ rfl; refine bkR ?_; refine blk_put (cs := #[.int .i64 t440, .int .i64 0, .slice none 0 0]) ?_ 1 _ rfl; refine bkR ?_; refine blk_put (cs := #[.int .i64 0, .int .i64 0, .slice none 0 0]) ?_ 0 _ rfl; refine bkR ?_; exact BK449.out)) : gb449 ≠ gb450)); have NB450_449 := Aside0.mk ((by rw [hg]; exact Nat.ne_of_gt (blk_lt (g := gb449) (o := .cells #[.int .i64 t440, .int .i64 t441, .slice Ao13 t442.length co13] 24 (0, 0)) (by refine bkR ?_; refine blk_put (cs := #[.int .i64 t440, .int .i64 t441, .slice none 0 0]) ?_ 2 _ rfl; refine bkR ?_; refine blk_put (cs := #[.int .i64 t440, .int .i64 0, .slice none 0 0]) ?_ 1 _ rfl; refine bkR ?_; refine blk_put (cs := #[.int .i64 0, .int .i64 0, .slice none 0 0]) ?_ 0 _ rfl; refine bkR ?_; exact BK449.out)) : gb450 ≠ gb449)); replace BK449 := Aside0.mk (blk_below (g := gb449) (o := .cells #[.int .i64 t440, .int .i64 t441, .slice Ao13 t442.length co13] 24 (0, 0)) (by refine bkR ?_; refine blk_put (cs := #[.int .i64 t440, .int .i64 t441, .slice none 0 0]) ?_ 2 _ rfl; refine bkR ?_; refine blk_put (cs := #[.int .i64 t440, .int .i64 0, .slice none 0 0]) ?_ 1 _ rfl; refine bkR ?_; refine blk_put (cs := #[.int .i64 0, .int .i64 0, .slice none 0 0]) ?_ 0 _ rfl; refine bkR ?_; exact BK449.out) hb); clear hb hbox hg; have hnb16 := NB450_438.out; have hnc16 := NB438_450.out; have hnb17 := NB450_439.out; have hnc17 := NB439_450.out; have hnb18 := NB450_449.out; have hnc18 := NB449_450.out; obtain ⟨hcz19_0, hcz19_1, hcz19_2, hfz19_0, hfz19_1, hfz19_2⟩ := cell3 BK450; obtain ⟨hcz20_0, hcz20_1, hcz20_2, hfz20_0, hfz20_1, hfz20_2⟩ := cell3 BK438))
    go_loopg [8, 28] k (fun kq v8 v28 w' => ∃ (x8_1 : Int) (x28_1 : Int) (x450002_1 : List Int) (x451000_1 : Int) (x451002_1 : List Int) (u450002 : Value) (u451002 : Value), v8 = .int .i64 x8_1 ∧ v28 = .int .i64 x28_1 ∧ Aside0 (gauss_Kernel.l0 kq t445 x8_1 a0_1 x28_1 a0_0 a0_1 l0_2 t440 t441 x450002_1 x451000_1 a0_1 x451002_1 = some (r1, r2, r3, r4)) ∧ Aside0 (kq ≤ k) ∧ Aside0 (Kd.R (Kd.int .i64) 3 w' w.heap.size (fun _ => True) v446 t445) ∧ Aside0 (Kd.V (Kd.int .u8) 5 w' w.heap.size (fun k_ => some k_ ≠ (v446 : Value).ownBlock ∧ some k_ ≠ (u451002 : Value).ownBlock ∧ k_ ≠ gb438 ∧ k_ ≠ gb439 ∧ k_ ≠ gb449 ∧ k_ ≠ gb450) u450002 x450002_1) ∧ Aside0 (Kd.R (Kd.int .u8) 5 w' w.heap.size (fun _ => True) u451002 x451002_1) ∧ Aside0 (w'.heap[gb438]? = some (.cells #[.int .i64 a0_0, .int .i64 a0_1, (.slice A0_2 l0_2.length c0_2)] 24 (0, 0))) ∧ Aside0 (w'.heap[gb439]? = some (.cells #[.int .i64 0, .int .i64 0, (.slice none 0 0)] 24 (0, 0))) ∧ Aside0 (w'.heap[gb449]? = some (.cells #[.int .i64 t440, .int .i64 t441, u450002] 24 (0, 0))) ∧ Aside0 (w'.heap[gb450]? = some (.cells #[.int .i64 x451000_1, .int .i64 a0_1, u451002] 24 (0, 0))) ∧ Aside0 (Below w.heap.size w w'))
    case atStart => exact ⟨(0), (0), (t442), (0), (([] : List Int)), (.slice Ao13 t442.length co13), (.slice none 0 0), rsE, rsE, H', ⟨Nat.le_refl _⟩, ⟨by (with_reducible repeat (first | apply Kd.R_alloc | apply Kd.R_drewN | apply Kd.R_drew)); exact Kd.R_mono (Kd.R_far (p := ⟨gb450, 2, none⟩) (Kd.R_far (p := ⟨gb450, 1, none⟩) (Kd.R_far (p := ⟨gb450, 0, none⟩) (Kd.R_types HO447.out BK450.out (by decide)) (fun _ hk => hk.2) (.int .i64 0)) (fun _ hk => hk.2) (.int .i64 a0_1)) (fun _ hk => hk.2) (.slice none 0 0)) (fun _ hk => trivial)⟩, ⟨by (with_reducible repeat (first | apply Kd.V_alloc | apply Kd.V_drewN | apply Kd.V_drew)); exact Kd.V_mono (Kd.V_far (p := ⟨gb450, 2, none⟩) (Kd.V_far (p := ⟨gb450, 1, none⟩) (Kd.V_far (p := ⟨gb450, 0, none⟩) (Kd.V_mono HO444.out (fun k_ hk => (⟨hk, hk.2⟩ : _ ∧ k_ ≠ gb450))) (fun _ hk => hk.2) (.int .i64 0)) (fun _ hk => hk.2) (.int .i64 a0_1)) (fun _ hk => hk.2) (.slice none 0 0)) (fun _ hk => ⟨hk.1.1.1.1, ⟨(by simp [Value.ownBlock]), ⟨hk.1.1.1.2.1, ⟨hk.1.1.1.2.2, ⟨hk.1.1.2, hk.1.2⟩⟩⟩⟩⟩)⟩, ⟨nilE⟩, ⟨by refine bkR ?_; refine blk_far ?_ NB438_450.out _; refine bkR ?_; refine blk_far ?_ NB438_450.out _; refine bkR ?_; refine blk_far ?_ NB438_450.out _; refine bkR ?_; exact BK438.out⟩, ⟨by refine bkR ?_; refine blk_far ?_ NB439_450.out _; refine bkR ?_; refine blk_far ?_ NB439_450.out _; refine bkR ?_; refine blk_far ?_ NB439_450.out _; refine bkR ?_; exact BK439.out⟩, ⟨by refine bkR ?_; refine blk_far ?_ NB449_450.out _; refine bkR ?_; refine blk_far ?_ NB449_450.out _; refine bkR ?_; refine blk_far ?_ NB449_450.out _; refine bkR ?_; exact BK449.out⟩, ⟨by refine bkR ?_; refine blk_put (cs := #[.int .i64 0, .int .i64 a0_1, .slice none 0 0]) ?_ 2 _ rfl; refine bkR ?_; refine blk_put (cs := #[.int .i64 0, .int .i64 0, .slice none 0 0]) ?_ 1 _ rfl; refine bkR ?_; refine blk_put (cs := #[.int .i64 0, .int .i64 0, .slice none 0 0]) ?_ 0 _ rfl; refine bkR ?_; exact BK450.out⟩, ⟨hbA HB.out⟩⟩
    case round =>
      clear H'
      (try clear c1); (try clear c2); (try clear p2); (try clear c3); (try clear c3b0); (try clear c3b1); (try clear c6); (try clear c10); (try clear c11); (try clear c14); (try clear c16); (try clear c17); (try clear c18); (try clear hcz12_0 hcz12_1 hcz12_2 hfz12_0 hfz12_1 hfz12_2); (try clear hcz14_0 hcz14_1 hcz14_2 hfz14_0 hfz14_1 hfz14_2); (try clear hcz19_0 hcz19_1 hcz19_2 hfz19_0 hfz19_1 hfz19_2); (try clear hcz20_0 hcz20_1 hcz20_2 hfz20_0 hfz20_1 hfz20_2); (try clear hcz7_0 hcz7_1 hcz7_2 hfz7_0 hfz7_1 hfz7_2)
      obtain ⟨x8_1, x28_1, x450002_1, x451000_1, x451002_1, u450002, u451002, rfl, rfl, HA, HK1, HO_5, HO_450002, HO_451002, BK438, BK439, BK449, BK450, HB⟩ := hrel
      cases gk with
      | zero => exact absurd HA.out (by simp [gauss_Kernel.l0])
      | succ k1 =>
        have H := HA.out
        clear HA
        simp only [gauss_Kernel.l0] at H
        by_cases c21 : x28_1 < a0_1
        · rw [if_pos c21] at H
          have c21b0 : decide (x28_1 < a0_1) = true := decide_eq_true c21
          clear c21
          have HC22 := Aside0.mk H
          clear H
          go_upto_region 9 with (fail)
          go_cut [42] (fun v42 wc => ∃ (kq : Nat) (x42_21 : Bool), v42 = .bool x42_21 ∧ Aside0 (gauss_Kernel.j1 kq t445 x8_1 x28_1 a0_1 x28_1 x42_21 a0_0 a0_1 l0_2 t440 t441 x450002_1 x451000_1 a0_1 x451002_1 = some (r1, r2, r3, r4)) ∧ Aside0 (kq ≤ k1) ∧ Aside0 (Kd.R (Kd.int .i64) 3 wc w.heap.size (fun _ => True) v446 t445) ∧ Aside0 (Kd.V (Kd.int .u8) 5 wc w.heap.size (fun k_ => some k_ ≠ (v446 : Value).ownBlock ∧ some k_ ≠ (u451002 : Value).ownBlock ∧ k_ ≠ gb438 ∧ k_ ≠ gb439 ∧ k_ ≠ gb449 ∧ k_ ≠ gb450) u450002 x450002_1) ∧ Aside0 (Kd.R (Kd.int .u8) 5 wc w.heap.size (fun _ => True) u451002 x451002_1) ∧ Aside0 (wc.heap[gb438]? = some (.cells #[.int .i64 a0_0, .int .i64 a0_1, (.slice A0_2 l0_2.length c0_2)] 24 (0, 0))) ∧ Aside0 (wc.heap[gb439]? = some (.cells #[.int .i64 0, .int .i64 0, (.slice none 0 0)] 24 (0, 0))) ∧ Aside0 (wc.heap[gb449]? = some (.cells #[.int .i64 t440, .int .i64 t441, u450002] 24 (0, 0))) ∧ Aside0 (wc.heap[gb450]? = some (.cells #[.int .i64 x451000_1, .int .i64 a0_1, u451002] 24 (0, 0))) ∧ Aside0 (Below w.heap.size w wc))
          case first =>
            have H := HC22.out
            clear HC22
            by_cases c23 : x8_1 < (t445.length : Int)
            · rw [if_pos c23] at H
              have c23b0 : decide (x8_1 < (t445.length : Int)) = true := decide_eq_true c23
              clear c23
              (first | rw [c23b0] | (simp only [i64_w, i32_w]; rw [c23b0]) | skip)
              by_cases c24 : 0 ≤ x8_1
              · rw [if_pos c24] at H
                have c24b0 : decide (0 ≤ x8_1) = true := decide_eq_true c24
                clear c24
                have H' := Aside0.mk H
                clear H
                obtain ⟨Ao25, co25, eo25⟩ := Kd.R_slice HO_5.out
                subst eo25
                have p451 : 0 ≤ (x8_1 : Int) := of_decide_eq_true asE
                have q451 : x8_1 < (t445.length : Int) := of_decide_eq_true asE
                obtain ⟨ad451, e451, hx451_0⟩ := Kd.at_int (Kd.R_reads' HO_5.out).2.2 x8_1 p451 q451
                cases e451
                replace p451 := eq_true p451
                replace q451 := eq_true q451
                go_wp2
                go_meet
                case rel => exact ⟨_, (((rd t445 x8_1) == x28_1)), rsE, H', ⟨by have := HK1.out; first | omega | exact Nat.le_refl _⟩, ⟨kdA HO_5.out⟩, ⟨by (with_reducible repeat (first | apply Kd.V_alloc | apply Kd.V_drewN | apply Kd.V_drew)); exact HO_450002.out⟩, ⟨kdA HO_451002.out⟩, ⟨bkA BK438.out⟩, ⟨bkA BK439.out⟩, ⟨bkA BK449.out⟩, ⟨bkA BK450.out⟩, ⟨hbA HB.out⟩⟩
              · rw [if_neg c24] at H
                exact absurd H (by simp)
            · rw [if_neg c23] at H
              have c23b0 : decide (x8_1 < (t445.length : Int)) = false := decide_eq_false c23
              clear c23
              (first | rw [c23b0] | (simp only [i64_w, i32_w]; rw [c23b0]) | skip)
              have H' := Aside0.mk H
              clear H
              obtain ⟨Ao26, co26, eo26⟩ := Kd.R_slice HO_5.out
              subst eo26
              go_wp2
              go_meet
              case rel => exact ⟨_, (false), rsE, H', ⟨by have := HK1.out; first | omega | exact Nat.le_refl _⟩, ⟨kdA HO_5.out⟩, ⟨by (with_reducible repeat (first | apply Kd.V_alloc | apply Kd.V_drewN | apply Kd.V_drew)); exact HO_450002.out⟩, ⟨kdA HO_451002.out⟩, ⟨bkA BK438.out⟩, ⟨bkA BK439.out⟩, ⟨bkA BK449.out⟩, ⟨bkA BK450.out⟩, ⟨hbA HB.out⟩⟩
          case rest =>
            clear HC22
            (try clear c1); (try clear c2); (try clear p2 p2); (try clear c3); (try clear c3b0); (try clear c3b1); (try clear p4); (try clear q4); (try clear hx4); (try clear c6); (try clear c10); (try clear c11); (try clear c14); (try clear c16); (try clear c17); (try clear c18); (try clear c21); (try clear c21b0); (try clear c23); (try clear c23b0); (try clear c24); (try clear c24b0); (try clear hcz12_0 hcz12_1 hcz12_2 hfz12_0 hfz12_1 hfz12_2); (try clear hcz14_0 hcz14_1 hcz14_2 hfz14_0 hfz14_1 hfz14_2); (try clear hcz19_0 hcz19_1 hcz19_2 hfz19_0 hfz19_1 hfz19_2); (try clear hcz20_0 hcz20_1 hcz20_2 hfz20_0 hfz20_1 hfz20_2); (try clear hcz7_0 hcz7_1 hcz7_2 hfz7_0 hfz7_1 hfz7_2); (try clear hx451_0); (try clear p451); (try clear q451)
            obtain ⟨kq, x42_21, rfl, HA, HJ21, HO_5, HO_450002, HO_451002, BK438, BK439, BK449, BK450, HB⟩ := hcut
            cases kq with
            | zero => exact absurd HA.out (by simp [gauss_Kernel.j1])
            | succ kj21 =>
              have H := HA.out
              clear HA
              simp only [gauss_Kernel.j1] at H
              by_cases c27 : x42_21 = true
              · subst c27
                rw [if_pos rfl] at H
                have H' := Aside0.mk H
                clear H
                go_wp2
                go_roundg kj21
                case measure => have := HK1.out; have := HJ21.out; omega
                case rel => exact ⟨(wrap64 (x8_1 + 1)), (wrap64 (x28_1 + 1)), (x450002_1), (x451000_1), (x451002_1), (u450002), (u451002), rsE, rsE, H', ⟨by have := HK1.out; have := HJ21.out; omega⟩, ⟨kdA HO_5.out⟩, ⟨by (with_reducible repeat (first | apply Kd.V_alloc | apply Kd.V_drewN | apply Kd.V_drew)); exact HO_450002.out⟩, ⟨kdA HO_451002.out⟩, ⟨bkA BK438.out⟩, ⟨bkA BK439.out⟩, ⟨bkA BK449.out⟩, ⟨bkA BK450.out⟩, ⟨hbA HB.out⟩⟩
              · replace c27 := Bool.eq_false_iff.mpr c27
                subst c27
                rw [if_neg nofT] at H
                by_cases c28 : 0 ≤ a0_1
                · rw [if_pos c28] at H
                  have c28b0 := eq_true c28
                  have c28b1 : decide (0 ≤ a0_1) = true := decide_eq_true c28
                  clear c28
                  by_cases c29 : (a0_1 : Int).toNat ≤ 281474976710656
                  · rw [if_pos c29] at H
                    have c29b0 := eq_true c29
                    have c29b1 : decide ((a0_1 : Int).toNat ≤ 281474976710656) = true := decide_eq_true c29
                    clear c29
                    obtain ⟨y452, hy452⟩ : ∃ y_ : List Int, y_ = (List.replicate (a0_1 : Int).toNat 0) := ⟨_, rfl⟩
                    replace H : (if 0 ≤ x28_1 then (if x28_1 < (y452.length : Int) then (gauss_Kernel.l1 kj21 t445 x8_1 x28_1 (y452.set (x28_1 : Int).toNat 1) a0_1 x28_1 t445 (t445.length : Int) 0 a0_0 a0_1 l0_2 t440 t441 x450002_1 x451000_1 a0_1 x451002_1) else (none)) else (none)) = some (r1, r2, r3, r4) := by first | (rw [hy452]; with_reducible exact H) | (have H2_ := (Option.bind_some _ _).symm.trans H; rw [hy452]; with_reducible exact H2_) | (have H2_ := (Option.bind_some _ _).symm.trans H; with_reducible exact H2_) | with_reducible exact H | (rw [hy452]; exact H) | exact H
                    have Ny452 := Aside0.mk hy452
                    clear hy452
                    by_cases c30 : 0 ≤ x28_1
                    · rw [if_pos c30] at H
                      have c30b0 : decide (0 ≤ x28_1) = true := decide_eq_true c30
                      clear c30
                      by_cases c31 : x28_1 < (y452.length : Int)
                      · rw [if_pos c31] at H
                        have c31b0 : decide (x28_1 < (y452.length : Int)) = true := decide_eq_true c31
                        clear c31
                        obtain ⟨y455, hy455⟩ : ∃ y_ : List Int, y_ = (y452.set (x28_1 : Int).toNat 1) := ⟨_, rfl⟩
                        replace H : (gauss_Kernel.l1 kj21 t445 x8_1 x28_1 y455 a0_1 x28_1 t445 (t445.length : Int) 0 a0_0 a0_1 l0_2 t440 t441 x450002_1 x451000_1 a0_1 x451002_1) = some (r1, r2, r3, r4) := by first | (rw [hy455]; with_reducible exact H) | (have H2_ := (Option.bind_some _ _).symm.trans H; rw [hy455]; with_reducible exact H2_) | (have H2_ := (Option.bind_some _ _).symm.trans H; with_reducible exact H2_) | with_reducible exact H | (rw [hy455]; exact H) | exact H
                        have Ny455 := Aside0.mk hy455
                        clear hy455
                        have H' := Aside0.mk H
                        clear H
                        have hnb33 := NB438_439.out
                        have hnc33 := NB439_438.out
                        have hnb34 := NB438_449.out
                        have hnc34 := NB449_438.out
                        have hnb35 := NB438_450.out
                        have hnc35 := NB450_438.out
                        obtain ⟨hcz36_0, hcz36_1, hcz36_2, hfz36_0, hfz36_1, hfz36_2⟩ := cell3 BK438
                        go_wp2_with (first | ((with_reducible refine gate_dst (N := 47) rfl ?_); refine Kd.R_make (Kd.int .u8) _ 5 rfl (N := 47) rfl 22 _ _ rfl a0_1 rfl rfl Try.underlying22 (.int .u8 0) 1 info5 rfl (by decide) (by omega) 0 (ok := fun _ => True) (okp := fun _ => True) rfl (fun _ hk => hk) trivial (of_decide_eq_true asE) (Nat.le_trans (Nat.mul_le_mul_right _ (of_decide_eq_true asE : a0_1.toNat ≤ 281474976710656)) (by omega)) (Below.refl _ _) (Nat.le_refl _) ?_; intro v453 w37 ho38 hb hg_ hnew_; clear hg_ hnew_; (first | rw [← Ny452.out] at ho38 | (simp only [Int.reduceToNat] at ho38; rw [← Ny452.out] at ho38)); replace HO_5 := kdB HO_5 hb; replace HO_450002 := Aside0.mk (Kd.V_elder' (by (with_reducible repeat (first | apply Kd.V_alloc | apply Kd.V_drewN | apply Kd.V_drew)); exact HO_450002.out) (Kd.R_base ho38) hb); have HO454 := Aside0.mk (Kd.R_lower (Kd.R_new' ho38 (Kd.R_lt (kdA HO_451002.out))) (below_size (hbA HB.out))); replace HO_451002 := Aside0.mk (Kd.R_elder' (kdA HO_451002.out) (Kd.R_base ho38) hb); replace BK438 := bkB BK438 hb; replace BK439 := bkB BK439 hb; replace BK449 := bkB BK449 hb; replace BK450 := bkB BK450 hb; replace HB := hbB HB hb; clear hb ho38; have p32 : 0 ≤ (x28_1 : Int) := of_decide_eq_true asE; have q32 : (x28_1 : Int) < ((y452.length : Int) : Int) := of_decide_eq_true asE; obtain ⟨go32, co32, eo32, gb32, gl32, cl32, HG32⟩ := Kd.R_form HO454.out (by omega); (first | cases eo32 | (injection eo32 with ea_ en_ ec_; (first | subst ea_ | (injection ea_ with ea_; subst ea_)); subst ec_; clear en_)); have GB32 := Aside0.mk gb32; have GG32 := Aside0.mk HG32; clear gb32 gl32 HG32; obtain ⟨hx32_0, hf32_0⟩ := Kd.R_celln 0 HO454.out (x28_1 : Int) p32 q32; replace p32 := eq_true p32; replace q32 := eq_true q32; have n_ := Aside0.mk (Kd.R_mono (ok' := (fun k_ => some k_ ≠ (u451002 : Value).ownBlock)) HO454.out (fun k_ hk => hk.2)); clear HO454; have HO454 := n_; clear n_; obtain ⟨hy39_, hz39_⟩ := Kd.R_celln 0 HO454.out (x28_1 : Int) (of_decide_eq_true asE) (of_decide_eq_true asE); have HP39 := Kd.R_putg HO454.out (x28_1 : Int) 1) | ((with_reducible refine gate_store (t := 5) (p := 50) rfl ?_); refine store_event (t := 5) (p := 50) (v := ?vo_w40) (w1 := (w37.setCell ⟨go32, (x28_1 : Int).toNat, none⟩ (.int .u8 1))) ?hg ?ho ?hn ?hr ?_; (case ho => rfl); (case hg => rfl); (case hn => rfl); (case hr => first | (go_simp; done) | (go_simp; rfl)); intro w40 hw; have hg : w37.grownBy w40 (some go32) := (by rw [hw]; exact HP39.2); have hp_ : Kd.R (Kd.int .u8) 5 w40 w.heap.size (fun k_ => some k_ ≠ (u451002 : Value).ownBlock) (.slice (some ⟨go32, 0, none⟩) y452.length co32) y455 := (by rw [hw, Ny455.out]; exact HP39.1); clear HP39; replace HO_5 := Aside0.mk (Kd.R_over' (v := (.slice (some ⟨go32, 0, none⟩) y452.length co32)) (kdA HO_5.out) (Kd.R_typed HO454.out) (by decide) hg); replace HO_450002 := Aside0.mk (Kd.V_afterv (v := (.slice (some ⟨go32, 0, none⟩) y452.length co32)) (v1 := (.slice (some ⟨go32, 0, none⟩) y452.length co32)) (ok := (fun k_ => some k_ ≠ (v446 : Value).ownBlock ∧ some k_ ≠ (u451002 : Value).ownBlock ∧ k_ ≠ gb438 ∧ k_ ≠ gb439 ∧ k_ ≠ gb449 ∧ k_ ≠ gb450)) (by (with_reducible repeat (first | apply Kd.V_alloc | apply Kd.V_drewN | apply Kd.V_drew)); exact HO_450002.out) hg (.inl rfl)); replace HO_451002 := Aside0.mk (Kd.R_after (v := (.slice (some ⟨go32, 0, none⟩) y452.length co32)) (v1 := (.slice (some ⟨go32, 0, none⟩) y452.length co32)) (ok := (fun _ => True)) (kdA HO_451002.out) hg (.inl rfl)); replace BK438 := bkG BK438 hg (Kd.R_ne HO454.out BK438.out (by decide)); replace BK439 := bkG BK439 hg (Kd.R_ne HO454.out BK439.out (by decide)); replace BK449 := bkG BK449 hg (Kd.R_ne HO454.out BK449.out (by decide)); replace BK450 := bkG BK450 hg (Kd.R_ne HO454.out BK450.out (by decide)); replace HO454 := Aside0.mk (hp_); replace HB := Aside0.mk ((by rw [hw]; exact below_set (HB.out) GB32.out : Below w.heap.size w w40)); clear hg hw hp_; obtain ⟨Ao41, co41, eo41⟩ := Kd.R_slice HO_5.out; subst eo41))
                        go_loopg [53] kj21 (fun kq v53 w' => ∃ (x10_3 : List Int) (x53_3 : Int), v53 = .int .i64 x53_3 ∧ Aside0 (gauss_Kernel.l1 kq t445 x8_1 x28_1 x10_3 a0_1 x28_1 t445 (t445.length : Int) x53_3 a0_0 a0_1 l0_2 t440 t441 x450002_1 x451000_1 a0_1 x451002_1 = some (r1, r2, r3, r4)) ∧ Aside0 (kq ≤ kj21) ∧ Aside0 (Kd.R (Kd.int .i64) 3 w' w.heap.size (fun _ => True) (.slice Ao41 t445.length co41) t445) ∧ Aside0 (Kd.R (Kd.int .u8) 5 w' w.heap.size (fun k_ => some k_ ≠ (u451002 : Value).ownBlock) (.slice (some ⟨go32, 0, none⟩) y452.length co32) x10_3) ∧ Aside0 (Kd.R (Kd.int .i64) 3 w' w.heap.size (fun _ => True) (.slice Ao41 t445.length co41) t445) ∧ Aside0 (Kd.V (Kd.int .u8) 5 w' w.heap.size (fun k_ => some k_ ≠ ((.slice Ao41 t445.length co41) : Value).ownBlock ∧ some k_ ≠ ((.slice (some ⟨go32, 0, none⟩) y452.length co32) : Value).ownBlock ∧ some k_ ≠ ((.slice Ao41 t445.length co41) : Value).ownBlock ∧ some k_ ≠ (u451002 : Value).ownBlock ∧ k_ ≠ gb438 ∧ k_ ≠ gb439 ∧ k_ ≠ gb449 ∧ k_ ≠ gb450) u450002 x450002_1) ∧ Aside0 (Kd.R (Kd.int .u8) 5 w' w.heap.size (fun k_ => some k_ ≠ ((.slice (some ⟨go32, 0, none⟩) y452.length co32) : Value).ownBlock) u451002 x451002_1) ∧ Aside0 (w'.heap[gb438]? = some (.cells #[.int .i64 a0_0, .int .i64 a0_1, (.slice A0_2 l0_2.length c0_2)] 24 (0, 0))) ∧ Aside0 (w'.heap[gb439]? = some (.cells #[.int .i64 0, .int .i64 0, (.slice none 0 0)] 24 (0, 0))) ∧ Aside0 (w'.heap[gb449]? = some (.cells #[.int .i64 t440, .int .i64 t441, u450002] 24 (0, 0))) ∧ Aside0 (w'.heap[gb450]? = some (.cells #[.int .i64 x451000_1, .int .i64 a0_1, u451002] 24 (0, 0))) ∧ Aside0 (Below w.heap.size w w'))
                        case atStart => exact ⟨(y455), (0), rsE, H', ⟨Nat.le_refl _⟩, ⟨kdA HO_5.out⟩, ⟨kdA HO454.out⟩, ⟨kdA HO_5.out⟩, ⟨by (with_reducible repeat (first | apply Kd.V_alloc | apply Kd.V_drewN | apply Kd.V_drew)); exact Kd.V_mono HO_450002.out (fun _ hk => ⟨hk.1.1, ⟨hk.2, ⟨hk.1.1, ⟨hk.1.2.1, ⟨hk.1.2.2.1, ⟨hk.1.2.2.2.1, ⟨hk.1.2.2.2.2.1, hk.1.2.2.2.2.2⟩⟩⟩⟩⟩⟩⟩)⟩, ⟨by (with_reducible repeat (first | apply Kd.R_alloc | apply Kd.R_drewN | apply Kd.R_drew)); exact Kd.R_mono HO_451002.out (fun _ hk => hk.2)⟩, ⟨bkA BK438.out⟩, ⟨bkA BK439.out⟩, ⟨bkA BK449.out⟩, ⟨bkA BK450.out⟩, ⟨hbA HB.out⟩⟩
                        case round =>
                          clear H'
                          (try clear c1); (try clear c2); (try clear p2 p2); (try clear c3); (try clear c3b0); (try clear c3b1); (try clear p3); (try clear q3); (try clear hx3); (try clear hf3); (try clear p4 p4); (try clear q4 q4); (try clear hx4); (try clear c6); (try clear p6); (try clear c10); (try clear c11); (try clear c14); (try clear c16); (try clear c17); (try clear c18); (try clear c21); (try clear c21b0); (try clear c23); (try clear c23b0); (try clear c24); (try clear c24b0); (try clear c27); (try clear c28); (try clear c28b0); (try clear c28b1); (try clear c29); (try clear c29b0); (try clear c29b1); (try clear c30); (try clear c30b0); (try clear c31); (try clear c31b0); (try clear p32 p32); (try clear q32 q32); (try clear hx32); (try clear hf32); (try clear c33); (try clear c34); (try clear c35); (try clear hcz12_0 hcz12_1 hcz12_2 hfz12_0 hfz12_1 hfz12_2); (try clear hcz14_0 hcz14_1 hcz14_2 hfz14_0 hfz14_1 hfz14_2); (try clear hcz19_0 hcz19_1 hcz19_2 hfz19_0 hfz19_1 hfz19_2); (try clear hcz20_0 hcz20_1 hcz20_2 hfz20_0 hfz20_1 hfz20_2); (try clear hcz36_0 hcz36_1 hcz36_2 hfz36_0 hfz36_1 hfz36_2); (try clear hcz7_0 hcz7_1 hcz7_2 hfz7_0 hfz7_1 hfz7_2); (try clear hx32_0); (try clear hx451_0); (try clear p451); (try clear q451)
                          obtain ⟨x10_3, x53_3, rfl, HA, HK3, HO_5, HO_10, HO_51, HO_450002, HO_451002, BK438, BK439, BK449, BK450, HB⟩ := hrel
                          have hl10_3 := (Kd.R_reads' HO_10.out).1
                          rw [hl10_3] at HO_10
                          (try simp only [hl10_3])
                          (try simp only [hl10_3] at BK438)
                          (try simp only [hl10_3] at BK439)
                          (try simp only [hl10_3] at BK449)
                          (try simp only [hl10_3] at BK450)
                          (try simp only [hl10_3] at HO_5)
                          (try simp only [hl10_3] at HO_51)
                          (try simp only [hl10_3] at HO_450002)
                          (try simp only [hl10_3] at HO_451002)
                          cases gk with
                          | zero => exact absurd HA.out (by simp [gauss_Kernel.l1])
                          | succ k3 =>
                            have H := HA.out
                            clear HA
                            simp only [gauss_Kernel.l1] at H
                            by_cases c42 : x53_3 < (t445.length : Int)
                            · rw [if_pos c42] at H
                              have c42b0 : decide (x53_3 < (t445.length : Int)) = true := decide_eq_true c42
                              clear c42
                              by_cases c43 : 0 ≤ x53_3
                              · rw [if_pos c43] at H
                                have c43b0 : decide (0 ≤ x53_3) = true := decide_eq_true c43
                                clear c43
                                by_cases c44 : x53_3 < (t445.length : Int)
                                · rw [if_pos c44] at H
                                  have c44b0 : decide (x53_3 < (t445.length : Int)) = true := decide_eq_true c44
                                  clear c44
                                  obtain ⟨ji45, hji45⟩ : ∃ j_ : Int, (wrap64 ((wrap64 (x53_3 * a0_1)) + x28_1)) = j_ := ⟨_, rfl⟩
                                  replace H : (if 0 ≤ (ji45) then (if (ji45) < (x450002_1.length : Int) then (if 0 ≤ (rd t445 x53_3) then (if (rd t445 x53_3) < (x10_3.length : Int) then (gauss_Kernel.l1 k3 t445 x8_1 x28_1 (x10_3.set ((rd t445 x53_3) : Int).toNat (rd x450002_1 (ji45))) a0_1 x28_1 t445 (t445.length : Int) (wrap64 (x53_3 + 1)) a0_0 a0_1 l0_2 t440 t441 x450002_1 x451000_1 a0_1 x451002_1) else (none)) else (none)) else (none)) else (none)) = some (r1, r2, r3, r4) := by first | (rw [hji45] at H; exact H) | (simp only [hji45] at H ⊢; exact H)
                                  have hji45w : (IntKind.i64.wrap ((wrap64 (x53_3 * a0_1)) + x28_1)) = ji45 := (i64_w _).trans hji45
                                  by_cases c46 : 0 ≤ (ji45)
                                  · rw [if_pos c46] at H
                                    have c46b0 : decide (0 ≤ (ji45)) = true := decide_eq_true c46
                                    clear c46
                                    by_cases c47 : (ji45) < (x450002_1.length : Int)
                                    · rw [if_pos c47] at H
                                      have c47b0 : decide ((ji45) < (x450002_1.length : Int)) = true := decide_eq_true c47
                                      clear c47
                                      by_cases c48 : 0 ≤ (rd t445 x53_3)
                                      · rw [if_pos c48] at H
                                        have c48b0 : decide (0 ≤ (rd t445 x53_3)) = true := decide_eq_true c48
                                        clear c48
                                        by_cases c49 : (rd t445 x53_3) < (x10_3.length : Int)
                                        · rw [if_pos c49] at H
                                          have c49b0 : decide ((rd t445 x53_3) < (x10_3.length : Int)) = true := decide_eq_true c49
                                          clear c49
                                          obtain ⟨y458, hy458⟩ : ∃ y_ : List Int, y_ = (x10_3.set ((rd t445 x53_3) : Int).toNat (rd x450002_1 (ji45))) := ⟨_, rfl⟩
                                          replace H : (gauss_Kernel.l1 k3 t445 x8_1 x28_1 y458 a0_1 x28_1 t445 (t445.length : Int) (wrap64 (x53_3 + 1)) a0_0 a0_1 l0_2 t440 t441 x450002_1 x451000_1 a0_1 x451002_1) = some (r1, r2, r3, r4) := by first | (rw [hy458]; with_reducible exact H) | (have H2_ := (Option.bind_some _ _).symm.trans H; rw [hy458]; with_reducible exact H2_) | (have H2_ := (Option.bind_some _ _).symm.trans H; with_reducible exact H2_) | with_reducible exact H | (rw [hy458]; exact H) | exact H
                                          have Ny458 := Aside0.mk hy458
                                          clear hy458
                                          have H' := Aside0.mk H
                                          clear H
                                          have p456 : 0 ≤ (x53_3 : Int) := of_decide_eq_true asE
                                          have q456 : x53_3 < (t445.length : Int) := of_decide_eq_true asE
                                          obtain ⟨ad456, e456, hx456_0⟩ := Kd.at_int (Kd.R_reads' HO_51.out).2.2 x53_3 p456 q456
                                          cases e456
                                          replace p456 := eq_true p456
                                          replace q456 := eq_true q456
                                          have hnb51 := NB449_438.out
                                          have hnc51 := NB438_449.out
                                          have hnb52 := NB449_439.out
                                          have hnc52 := NB439_449.out
                                          have hnb53 := NB449_450.out
                                          have hnc53 := NB450_449.out
                                          obtain ⟨hcz54_0, hcz54_1, hcz54_2, hfz54_0, hfz54_1, hfz54_2⟩ := cell3 BK449
                                          have hnb55 := NB438_439.out
                                          have hnc55 := NB439_438.out
                                          have hnb56 := NB438_450.out
                                          have hnc56 := NB450_438.out
                                          obtain ⟨hcz57_0, hcz57_1, hcz57_2, hfz57_0, hfz57_1, hfz57_2⟩ := cell3 BK438
                                          obtain ⟨Ao58, co58, eo58⟩ := Kd.V_slice HO_450002.out
                                          subst eo58
                                          have p457 : 0 ≤ ((ji45) : Int) := of_decide_eq_true asE
                                          have q457 : (ji45) < (x450002_1.length : Int) := of_decide_eq_true asE
                                          obtain ⟨ad457, e457, hx457_0⟩ := Kd.at_int (Kd.V_reads' HO_450002.out).2.2 (ji45) p457 q457
                                          cases e457
                                          replace p457 := eq_true p457
                                          replace q457 := eq_true q457
                                          have p50 : 0 ≤ ((rd t445 x53_3) : Int) := of_decide_eq_true asE
                                          have q50 : ((rd t445 x53_3) : Int) < ((x10_3.length : Int) : Int) := of_decide_eq_true asE
                                          obtain ⟨hx50_0, hf50_0⟩ := Kd.R_celln 0 HO_10.out ((rd t445 x53_3) : Int) p50 q50
                                          replace p50 := eq_true p50
                                          replace q50 := eq_true q50
                                          have HP59 := Kd.R_putg HO_10.out ((rd t445 x53_3) : Int) (rd x450002_1 (ji45))
                                          go_wp2_with (first | ((with_reducible refine gate_store (t := 5) (p := 70) rfl ?_); refine store_event (t := 5) (p := 70) (v := ?vo_w60) (w1 := (wr.setCell ⟨go32, ((rd t445 x53_3) : Int).toNat, none⟩ (.int .u8 (rd x450002_1 (ji45))))) ?hg ?ho ?hn ?hr ?_; (case ho => rfl); (case hg => rfl); (case hn => rfl); (case hr => first | (go_simp; done) | (go_simp; rfl)); intro w60 hw; have hg : wr.grownBy w60 (some go32) := (by rw [hw]; exact HP59.2); have hp_ : Kd.R (Kd.int .u8) 5 w60 w.heap.size (fun k_ => some k_ ≠ (u451002 : Value).ownBlock) (.slice (some ⟨go32, 0, none⟩) x10_3.length co32) y458 := (by rw [hw, Ny458.out]; exact HP59.1); clear HP59; replace HO_5 := Aside0.mk (Kd.R_over' (v := (.slice (some ⟨go32, 0, none⟩) x10_3.length co32)) (kdA HO_5.out) (Kd.R_typed HO_10.out) (by decide) hg); replace HO_51 := Aside0.mk (Kd.R_over' (v := (.slice (some ⟨go32, 0, none⟩) x10_3.length co32)) (kdA HO_51.out) (Kd.R_typed HO_10.out) (by decide) hg); replace HO_450002 := Aside0.mk (Kd.V_afterv (v := (.slice (some ⟨go32, 0, none⟩) x10_3.length co32)) (v1 := (.slice (some ⟨go32, 0, none⟩) x10_3.length co32)) (ok := (fun k_ => some k_ ≠ (.slice (some ad456) t445.length co41 : Value).ownBlock ∧ some k_ ≠ (.slice (some ad456) t445.length co41 : Value).ownBlock ∧ some k_ ≠ (u451002 : Value).ownBlock ∧ k_ ≠ gb438 ∧ k_ ≠ gb439 ∧ k_ ≠ gb449 ∧ k_ ≠ gb450)) (by (with_reducible repeat (first | apply Kd.V_alloc | apply Kd.V_drewN | apply Kd.V_drew)); exact Kd.V_mono HO_450002.out (fun _ hk => ⟨⟨hk.1, ⟨hk.2.2.1, ⟨hk.2.2.2.1, ⟨hk.2.2.2.2.1, ⟨hk.2.2.2.2.2.1, ⟨hk.2.2.2.2.2.2.1, hk.2.2.2.2.2.2.2⟩⟩⟩⟩⟩⟩, hk.2.1⟩)) hg (.inl rfl)); replace HO_451002 := Aside0.mk (Kd.R_after (v := (.slice (some ⟨go32, 0, none⟩) x10_3.length co32)) (v1 := (.slice (some ⟨go32, 0, none⟩) x10_3.length co32)) (ok := (fun _ => True)) (by (with_reducible repeat (first | apply Kd.R_alloc | apply Kd.R_drewN | apply Kd.R_drew)); exact Kd.R_mono HO_451002.out (fun _ hk => ⟨trivial, hk⟩)) hg (.inl rfl)); replace BK438 := bkG BK438 hg (Kd.R_ne HO_10.out BK438.out (by decide)); replace BK439 := bkG BK439 hg (Kd.R_ne HO_10.out BK439.out (by decide)); replace BK449 := bkG BK449 hg (Kd.R_ne HO_10.out BK449.out (by decide)); replace BK450 := bkG BK450 hg (Kd.R_ne HO_10.out BK450.out (by decide)); replace HO_10 := Aside0.mk (hp_); replace HB := Aside0.mk ((by rw [hw]; exact below_set (HB.out) GB32.out : Below w.heap.size w w60)); clear hg hw hp_))
                                          (try simp only [← hl10_3])
                                          go_roundg k3
                                          case measure => have := HK1.out; have := HJ21.out; have := HK3.out; omega
                                          case rel => exact ⟨(y458), (wrap64 (x53_3 + 1)), rsE, H', ⟨by have := HK1.out; have := HJ21.out; have := HK3.out; omega⟩, ⟨by (try simp only [hl10_3]); (with_reducible repeat (first | apply Kd.R_alloc | apply Kd.R_drewN | apply Kd.R_drew)); exact HO_5.out⟩, ⟨by (try simp only [hl10_3]); (with_reducible repeat (first | apply Kd.R_alloc | apply Kd.R_drewN | apply Kd.R_drew)); exact HO_10.out⟩, ⟨by (try simp only [hl10_3]); (with_reducible repeat (first | apply Kd.R_alloc | apply Kd.R_drewN | apply Kd.R_drew)); exact HO_51.out⟩, ⟨by (try simp only [hl10_3]); (with_reducible repeat (first | apply Kd.V_alloc | apply Kd.V_drewN | apply Kd.V_drew)); exact Kd.V_mono HO_450002.out (fun _ hk => ⟨hk.1.1, ⟨hk.2, ⟨hk.1.2.1, ⟨hk.1.2.2.1, ⟨hk.1.2.2.2.1, ⟨hk.1.2.2.2.2.1, ⟨hk.1.2.2.2.2.2.1, hk.1.2.2.2.2.2.2⟩⟩⟩⟩⟩⟩⟩)⟩, ⟨by (try simp only [hl10_3]); (with_reducible repeat (first | apply Kd.R_alloc | apply Kd.R_drewN | apply Kd.R_drew)); exact Kd.R_mono HO_451002.out (fun _ hk => hk.2)⟩, ⟨by (try simp only [hl10_3]); refine bkR ?_; exact BK438.out⟩, ⟨by (try simp only [hl10_3]); refine bkR ?_; exact BK439.out⟩, ⟨by (try simp only [hl10_3]); refine bkR ?_; exact BK449.out⟩, ⟨by (try simp only [hl10_3]); refine bkR ?_; exact BK450.out⟩, ⟨hbA HB.out⟩⟩
                                        · rw [if_neg c49] at H
                                          exact absurd H (by simp)
                                      · rw [if_neg c48] at H
                                        exact absurd H (by simp)
                                    · rw [if_neg c47] at H
                                      exact absurd H (by simp)
                                  · rw [if_neg c46] at H
                                    exact absurd H (by simp)
                                · rw [if_neg c44] at H
                                  exact absurd H (by simp)
                              · rw [if_neg c43] at H
                                exact absurd H (by simp)
                            · rw [if_neg c42] at H
                              have c42b0 : decide (x53_3 < (t445.length : Int)) = false := decide_eq_false c42
                              clear c42
                              by_cases c61 : x451002_1.length + x10_3.length < 140737488355328
                              · rw [if_pos c61] at H
                                have LMc61 := Aside0.mk c61
                                clear c61
                                obtain ⟨y459, hy459⟩ : ∃ y_ : List Int, y_ = (x451002_1 ++ x10_3) := ⟨_, rfl⟩
                                replace H : (gauss_Kernel.l0 k3 t445 x8_1 a0_1 (wrap64 (x28_1 + 1)) a0_0 a0_1 l0_2 t440 t441 x450002_1 (wrap64 (x451000_1 + 1)) a0_1 y459) = some (r1, r2, r3, r4) := by first | (rw [hy459]; with_reducible exact H) | (have H2_ := (Option.bind_some _ _).symm.trans H; rw [hy459]; with_reducible exact H2_) | (have H2_ := (Option.bind_some _ _).symm.trans H; with_reducible exact H2_) | with_reducible exact H | (rw [hy459]; exact H) | exact H
                                have Ny459 := Aside0.mk hy459
                                clear hy459
                                have H' := Aside0.mk H
                                clear H
                                have hnb62 := NB450_438.out
                                have hnc62 := NB438_450.out
                                have hnb63 := NB450_439.out
                                have hnc63 := NB439_450.out
                                have hnb64 := NB450_449.out
                                have hnc64 := NB449_450.out
                                obtain ⟨hcz65_0, hcz65_1, hcz65_2, hfz65_0, hfz65_1, hfz65_2⟩ := cell3 BK450
                                go_wp2_with (first | ((with_reducible refine gate_builtin (b := .append) (xs := #[.tmp 77, .tmp 78]) rfl ?_); at_builtin; refine Kd.R_append_rows (Kd.int .u8) (w0 := w) w.heap.size rfl (.tmp 77) (.tmp 78) 22 5 (.int .u8 0) 1 rfl Try.underlying22 info5 rfl (by decide) (by omega) u451002 x451002_1 x10_3 _ _ _ (fun k_ => some k_ ≠ (.slice (some ⟨go32, 0, none⟩) x10_3.length co32 : Value).ownBlock) (fun _ => False) rfl rfl ?aO ?aR (fun _ _ h => h) (fun _ h => h.elim) ?aF ?aB ?aS ?aL ?_; (case aR => refine (Kd.R_reads' (e := 5) (base := w.heap.size) (ok := fun k_ => some k_ ≠ (u451002 : Value).ownBlock) (n := x10_3.length) (c := co32) ?_).2.2; exact (by (with_reducible repeat (first | apply Kd.R_alloc | apply Kd.R_drewN | apply Kd.R_drew)); exact (Kd.R_mono (Kd.R_far (p := ⟨gb450, 0, none⟩) (Kd.R_types HO_10.out BK450.out (by decide)) (fun _ hk => hk.2) (.int .i64 (wrap64 (x451000_1 + 1)))) (fun _ h_ => h_.1)))); (case aB => exact (hbA HB.out)); (case aF => exact (fun k_ hk => Kd.fresh' (Kd.R_lt (by (with_reducible repeat (first | apply Kd.R_alloc | apply Kd.R_drewN | apply Kd.R_drew)); exact (Kd.R_mono (Kd.R_far (p := ⟨gb450, 0, none⟩) (Kd.R_types HO_10.out BK450.out (by decide)) (fun _ hk => hk.2) (.int .i64 (wrap64 (x451000_1 + 1)))) (fun _ h_ => h_.1)))) k_ hk)); (case aO => exact (by (with_reducible repeat (first | apply Kd.R_alloc | apply Kd.R_drewN | apply Kd.R_drew)); exact Kd.R_mono (Kd.R_far (p := ⟨gb450, 0, none⟩) (Kd.R_types HO_451002.out BK450.out (by decide)) (fun _ hk => hk.2) (.int .i64 (wrap64 (x451000_1 + 1)))) (fun _ hk => hk.1))); (case aS => exact (below_size (hbA HB.out))); (case aL => have := LMc61.out; omega); intro v460 w66 ho hb hg hat; rw [← Ny459.out] at ho; have n0_ := Aside0.mk (Kd.R_over' (by (with_reducible repeat (first | apply Kd.R_alloc | apply Kd.R_drewN | apply Kd.R_drew)); exact (Kd.R_mono (Kd.R_far (p := ⟨gb450, 0, none⟩) (Kd.R_types HO_5.out BK450.out (by decide)) (fun _ hk => hk.2) (.int .i64 (wrap64 (x451000_1 + 1)))) (fun _ h_ => h_.1))) (Kd.R_typed (by (with_reducible repeat (first | apply Kd.R_alloc | apply Kd.R_drewN | apply Kd.R_drew)); exact (Kd.R_mono (Kd.R_far (p := ⟨gb450, 0, none⟩) (Kd.R_types HO_451002.out BK450.out (by decide)) (fun _ hk => hk.2) (.int .i64 (wrap64 (x451000_1 + 1)))) (fun _ h_ => h_.1)))) (by decide) hg); have n1_ := Aside0.mk (Kd.R_after (ok := (fun _ => True)) (by (with_reducible repeat (first | apply Kd.R_alloc | apply Kd.R_drewN | apply Kd.R_drew)); exact Kd.R_mono (Kd.R_far (p := ⟨gb450, 0, none⟩) (Kd.R_types HO_10.out BK450.out (by decide)) (fun _ hk => hk.2) (.int .i64 (wrap64 (x451000_1 + 1)))) (fun _ hk => ⟨trivial, hk.1⟩)) hg hat); have n2_ := Aside0.mk (Kd.R_over' (by (with_reducible repeat (first | apply Kd.R_alloc | apply Kd.R_drewN | apply Kd.R_drew)); exact (Kd.R_mono (Kd.R_far (p := ⟨gb450, 0, none⟩) (Kd.R_types HO_51.out BK450.out (by decide)) (fun _ hk => hk.2) (.int .i64 (wrap64 (x451000_1 + 1)))) (fun _ h_ => h_.1))) (Kd.R_typed (by (with_reducible repeat (first | apply Kd.R_alloc | apply Kd.R_drewN | apply Kd.R_drew)); exact (Kd.R_mono (Kd.R_far (p := ⟨gb450, 0, none⟩) (Kd.R_types HO_451002.out BK450.out (by decide)) (fun _ hk => hk.2) (.int .i64 (wrap64 (x451000_1 + 1)))) (fun _ h_ => h_.1)))) (by decide) hg); have n3_ := Aside0.mk (Kd.V_afterv (ok := (fun k_ => some k_ ≠ (.slice Ao41 t445.length co41 : Value).ownBlock ∧ some k_ ≠ (.slice (some ⟨go32, 0, none⟩) x10_3.length co32 : Value).ownBlock ∧ some k_ ≠ (.slice Ao41 t445.length co41 : Value).ownBlock ∧ k_ ≠ gb438 ∧ k_ ≠ gb439 ∧ k_ ≠ gb449 ∧ k_ ≠ gb450)) (by (with_reducible repeat (first | apply Kd.V_alloc | apply Kd.V_drewN | apply Kd.V_drew)); exact Kd.V_mono (Kd.V_far (p := ⟨gb450, 0, none⟩) (Kd.V_mono HO_450002.out (fun k_ hk => (⟨hk, hk.2.2.2.2.2.2.2⟩ : _ ∧ k_ ≠ gb450))) (fun _ hk => hk.2) (.int .i64 (wrap64 (x451000_1 + 1)))) (fun _ hk => ⟨⟨hk.1.1, ⟨hk.1.2.1, ⟨hk.1.2.2.1, ⟨hk.1.2.2.2.2.1, ⟨hk.1.2.2.2.2.2.1, ⟨hk.1.2.2.2.2.2.2.1, hk.1.2.2.2.2.2.2.2⟩⟩⟩⟩⟩⟩, hk.1.2.2.2.1⟩)) hg hat); have n4_ := Aside0.mk (blk_grown (g := gb438) (o := .cells #[.int .i64 a0_0, .int .i64 a0_1, .slice A0_2 l0_2.length c0_2] 24 (0, 0)) (by refine bkR ?_; refine blk_far ?_ NB438_450.out _; refine bkR ?_; exact BK438.out) hg (Kd.R_ne HO_451002.out BK438.out (by decide))); have n5_ := Aside0.mk (blk_grown (g := gb439) (o := .cells #[.int .i64 0, .int .i64 0, .slice none 0 0] 24 (0, 0)) (by refine bkR ?_; refine blk_far ?_ NB439_450.out _; refine bkR ?_; exact BK439.out) hg (Kd.R_ne HO_451002.out BK439.out (by decide))); have n6_ := Aside0.mk (blk_grown (g := gb449) (o := .cells #[.int .i64 t440, .int .i64 t441, u450002] 24 (0, 0)) (by refine bkR ?_; refine blk_far ?_ NB449_450.out _; refine bkR ?_; exact BK449.out) hg (Kd.R_ne HO_451002.out BK449.out (by decide))); have n7_ := Aside0.mk (blk_grown (g := gb450) (o := .cells #[.int .i64 (wrap64 (x451000_1 + 1)), .int .i64 a0_1, u451002] 24 (0, 0)) (by refine bkR ?_; refine blk_put (cs := #[.int .i64 x451000_1, .int .i64 a0_1, u451002]) ?_ 0 _ rfl; refine bkR ?_; exact BK450.out) hg (Kd.R_ne HO_451002.out BK450.out (by decide))); have n8_ := Aside0.mk (hb); have n9_ := Aside0.mk (ho); clear HO_5; clear HO_10; clear HO_51; clear HO_450002; clear BK438; clear BK439; clear BK449; clear BK450; clear HB; clear HO_451002; have HO_5 := n0_; have HO_10 := n1_; have HO_51 := n2_; have HO_450002 := n3_; have BK438 := n4_; have BK439 := n5_; have BK449 := n6_; have BK450 := n7_; have HB := n8_; have HO461 := n9_; clear n0_ n1_ n2_ n3_ n4_ n5_ n6_ n7_ n8_ n9_; clear ho hb hg hat; obtain ⟨Ao67, co67, eo67⟩ := Kd.R_slice HO461.out; subst eo67; obtain ⟨hcz68_0, hcz68_1, hcz68_2, hfz68_0, hfz68_1, hfz68_2⟩ := cell3 BK450))
                                (try simp only [← hl10_3])
                                go_roundg k3
                                case measure => have := HK1.out; have := HJ21.out; have := HK3.out; omega
                                case rel => exact ⟨(x8_1), (wrap64 (x28_1 + 1)), (x450002_1), (wrap64 (x451000_1 + 1)), (y459), (u450002), (.slice Ao67 y459.length co67), rsE, rsE, H', ⟨by have := HK1.out; have := HJ21.out; have := HK3.out; omega⟩, ⟨by (try simp only [hl10_3]); (with_reducible repeat (first | apply Kd.R_alloc | apply Kd.R_drewN | apply Kd.R_drew)); exact Kd.R_mono (Kd.R_far (p := ⟨gb450, 2, none⟩) (Kd.R_types HO_5.out BK450.out (by decide)) (fun _ hk => hk.2) (.slice Ao67 y459.length co67)) (fun _ hk => trivial)⟩, ⟨by (try simp only [hl10_3]); (with_reducible repeat (first | apply Kd.V_alloc | apply Kd.V_drewN | apply Kd.V_drew)); exact Kd.V_mono (Kd.V_far (p := ⟨gb450, 2, none⟩) (Kd.V_mono HO_450002.out (fun k_ hk => (⟨hk, hk.1.2.2.2.2.2.2⟩ : _ ∧ k_ ≠ gb450))) (fun _ hk => hk.2) (.slice Ao67 y459.length co67)) (fun _ hk => ⟨hk.1.1.1, ⟨hk.1.2, ⟨hk.1.1.2.2.2.1, ⟨hk.1.1.2.2.2.2.1, ⟨hk.1.1.2.2.2.2.2.1, hk.1.1.2.2.2.2.2.2⟩⟩⟩⟩⟩)⟩, ⟨by (try simp only [hl10_3]); (with_reducible repeat (first | apply Kd.R_alloc | apply Kd.R_drewN | apply Kd.R_drew)); exact Kd.R_mono (Kd.R_far (p := ⟨gb450, 2, none⟩) (Kd.R_types HO461.out BK450.out (by decide)) (fun _ hk => hk.2) (.slice Ao67 y459.length co67)) (fun _ hk => trivial)⟩, ⟨by (try simp only [hl10_3]); refine bkR ?_; refine blk_far ?_ NB438_450.out _; refine bkR ?_; exact BK438.out⟩, ⟨by (try simp only [hl10_3]); refine bkR ?_; refine blk_far ?_ NB439_450.out _; refine bkR ?_; exact BK439.out⟩, ⟨by (try simp only [hl10_3]); refine bkR ?_; refine blk_far ?_ NB449_450.out _; refine bkR ?_; exact BK449.out⟩, ⟨by (try simp only [hl10_3]); refine bkR ?_; refine blk_put (cs := #[.int .i64 (wrap64 (x451000_1 + 1)), .int .i64 a0_1, u451002]) ?_ 2 _ rfl; refine bkR ?_; exact BK450.out⟩, ⟨hbA HB.out⟩⟩
                              · rw [if_neg c61] at H
                                exact absurd H (by simp)
                      · rw [if_neg c31] at H
                        exact absurd H (by simp)
                    · rw [if_neg c30] at H
                      exact absurd H (by simp)
                  · rw [if_neg c29] at H
                    exact absurd H (by simp)
                · rw [if_neg c28] at H
                  exact absurd H (by simp)
        · rw [if_neg c21] at H
          have c21b0 : decide (x28_1 < a0_1) = false := decide_eq_false c21
          clear c21
          simp only [Option.some.injEq, Prod.mk.injEq] at H
          obtain ⟨rfl, rfl, rfl, rfl⟩ := H
          have hnb69 := NB450_438.out
          have hnc69 := NB438_450.out
          have hnb70 := NB450_439.out
          have hnc70 := NB439_450.out
          have hnb71 := NB450_449.out
          have hnc71 := NB449_450.out
          obtain ⟨hcz72_0, hcz72_1, hcz72_2, hfz72_0, hfz72_1, hfz72_2⟩ := cell3 BK450
          have hnb73 := NB439_438.out
          have hnc73 := NB438_439.out
          have hnb74 := NB439_449.out
          have hnc74 := NB449_439.out
          obtain ⟨hcz75_0, hcz75_1, hcz75_2, hfz75_0, hfz75_1, hfz75_2⟩ := cell3 BK439
          obtain ⟨Ao76, co76, eo76⟩ := Kd.R_slice HO_451002.out
          subst eo76
          go_wp2
          refine bodyPost_ret (results_ct rfl _ _ gb439 24 #[.int .i64 x451000_1, .int .i64 a0_1, .slice Ao76 x451002_1.length co76] (0, 0) _ rfl (by refine bkR ?_; refine blk_put (cs := #[.int .i64 x451000_1, .int .i64 a0_1, .slice none 0 0]) ?_ 2 _ rfl; refine bkR ?_; refine blk_put (cs := #[.int .i64 x451000_1, .int .i64 0, .slice none 0 0]) ?_ 1 _ rfl; refine bkR ?_; refine blk_put (cs := #[.int .i64 0, .int .i64 0, .slice none 0 0]) ?_ 0 _ rfl; refine bkR ?_; exact BK439.out) Try.underlying24 rfl (by kernel_rfl)) rfl ?_
          exact ⟨_, rfE, by (with_reducible repeat (first | apply Kd.R_alloc | apply Kd.R_drewN | apply Kd.R_drew)); exact Kd.R_mono (Kd.R_far (p := ⟨gb439, 2, none⟩) (Kd.R_far (p := ⟨gb439, 1, none⟩) (Kd.R_far (p := ⟨gb439, 0, none⟩) (Kd.R_types HO_451002.out BK439.out (by decide)) (fun _ hk => hk.2) (.int .i64 x451000_1)) (fun _ hk => hk.2) (.int .i64 a0_1)) (fun _ hk => hk.2) (.slice Ao76 x451002_1.length co76)) (fun _ hk => trivial), hbA HB.out⟩
  · rw [if_neg c3] at H
    have c3b0 : (t448 == 0) = false := beq_eq_false_iff_ne.mpr c3
    have c3b1 : (t448 != 0) = true := bne_iff_ne.mpr c3
    simp only [Option.some.injEq, Prod.mk.injEq] at H
    obtain ⟨rfl, rfl, rfl, rfl⟩ := H
    go_enter Try.func27, Try.ntmps27
    go_wp2_with (first | ((with_reducible refine gD 1 rfl ?_); refine bE 1 #[.int .i64 a0_0, .int .i64 a0_1, .slice A0_2 l0_2.length c0_2] 24 ?_; intro gb438 hg w77 hbox hb; have BK438 := Aside0.mk (hbox); have GW438 := hbS HB hg; have GE438 := hbS HB hg; replace HB := hbB HB hb; clear hb hbox hg) | ((with_reducible refine gD 2 rfl ?_); refine bE 2 #[.int .i64 0, .int .i64 0, .slice none 0 0] 24 ?_; intro gb439 hg w78 hbox hb; have BK439 := Aside0.mk (hbox); have GW439 := hbS HB hg; have GE439 := hbS HB hg; replace HB := hbB HB hb; have NB438_439 := neL BK438 hg; have NB439_438 := neG BK438 hg; replace BK438 := bkB BK438 hb; clear hb hbox hg; have hnb79 := NB438_439.out; have hnc79 := NB439_438.out; obtain ⟨hcz80_0, hcz80_1, hcz80_2, hfz80_0, hfz80_1, hfz80_2⟩ := cell3 BK438) | ((with_reducible refine gC 14 rfl ?_); refine cG (some 15) Try.func14 #[.agg #[.int .i64 a0_0, .int .i64 a0_1, .slice A0_2 l0_2.length c0_2]] ?_; (with_reducible refine (gauss_Reduce.calls a0_0 a0_1 _ _ l0_2 t440 t441 t442 t445 t448 _ ?side1 ?side2 A2.out).mono ?_); (case side1 => exact kcB HR0_2 HB); (case side2 => exact HC0_2.out); rintro e w81 ⟨v443, v446, rfl, ho0, ho1, hb⟩; refine ⟨_, rfl, ?_⟩; have HO444 := Aside0.mk (Kd.V_lower (Kd.V_mono (ok' := fun k_ => some k_ ≠ (v446 : Value).ownBlock ∧ k_ ≠ gb438 ∧ k_ ≠ gb439) ho0 (fun k_ hk_ => ⟨hk_.2, (Kd.freshB (g := gb438) (o := .cells #[.int .i64 a0_0, .int .i64 a0_1, .slice A0_2 l0_2.length c0_2] 24 (0, 0)) (bkA BK438.out) k_ hk_.1), (Kd.freshB (g := gb439) (o := .cells #[.int .i64 0, .int .i64 0, .slice none 0 0] 24 (0, 0)) (bkA BK439.out) k_ hk_.1)⟩)) (below_size (hbA HB.out))); have HO447 := Aside0.mk (Kd.R_lower (Kd.R_mono (ok' := fun k_ => True) ho1 (fun _ hk_ => trivial)) (below_size (hbA HB.out))); replace BK438 := bkB BK438 hb; replace BK439 := bkB BK439 hb; replace HB := hbB HB hb; (try clear hb); (try clear hb2); (try clear hk); (try clear hi); (try clear ho0); (try clear ho1)) | ((with_reducible refine gD 4 rfl ?_); refine bE 4 #[.int .i64 0, .int .i64 0, .slice none 0 0] 24 ?_; intro gb449 hg w82 hbox hb; replace HO444 := Aside0.mk (Kd.V_below (Kd.V_elderB (by (with_reducible repeat (first | apply Kd.V_alloc | apply Kd.V_drewN | apply Kd.V_drew)); exact HO444.out) gb449 (Nat.le_of_eq hg.symm)) hb); replace HO447 := kdB HO447 hb; have BK449 := Aside0.mk (hbox); have GW449 := hbS HB hg; have GE449 := hbS HB hg; replace HB := hbB HB hb; have NB438_449 := neL BK438 hg; have NB449_438 := neG BK438 hg; replace BK438 := bkB BK438 hb; have NB439_449 := neL BK439 hg; have NB449_439 := neG BK439 hg; replace BK439 := bkB BK439 hb; clear hb hbox hg; have hnb83 := NB449_438.out; have hnc83 := NB438_449.out; have hnb84 := NB449_439.out; have hnc84 := NB439_449.out; obtain ⟨hcz85_0, hcz85_1, hcz85_2, hfz85_0, hfz85_1, hfz85_2⟩ := cell3 BK449; obtain ⟨Ao86, co86, eo86⟩ := Kd.V_slice HO444.out; subst eo86; obtain ⟨hcz87_0, hcz87_1, hcz87_2, hfz87_0, hfz87_1, hfz87_2⟩ := cell3 BK439))
    refine bodyPost_ret (results_ct rfl _ _ gb439 24 #[.int .i64 0, .int .i64 0, .slice none 0 0] (0, 0) _ rfl (by refine bkR ?_; refine blk_put (cs := #[.int .i64 0, .int .i64 0, .slice none 0 0]) ?_ 2 _ rfl; refine bkR ?_; refine blk_put (cs := #[.int .i64 0, .int .i64 0, .slice none 0 0]) ?_ 1 _ rfl; refine bkR ?_; refine blk_put (cs := #[.int .i64 0, .int .i64 0, .slice none 0 0]) ?_ 0 _ rfl; refine bkR ?_; refine blk_far ?_ NB439_449.out _; refine bkR ?_; refine blk_far ?_ NB439_449.out _; refine bkR ?_; refine blk_far ?_ NB439_449.out _; refine bkR ?_; exact BK439.out) Try.underlying24 rfl (by kernel_rfl)) rfl ?_
    exact ⟨_, rfE, nilE, hbA HB.out⟩

end Go.Proofs.Ytccfbhnhedoggaa.Q
