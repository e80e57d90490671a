/- Written by drive.py (a program of this repo, over the kit's print): each Go function named here answers what the Lean function beside it answers, wherever that one answers, in every world that meets the stated premises. -/
import Derived.Test.YtccfbhnhedoggaaQx0
import Derived.Test.YtccfbhnhedoggaaQx149
namespace Go.Proofs.Ytccfbhnhedoggaa.Q
open Go.RowKit Go.Proofs.YtccfbhnhedoggaaW.PrintWords Go.Proofs.YtccfbhnhedoggaaW.PrintLast Go.Proofs.YtccfbhnhedoggaaW.PrintMore
attribute [local go_sem] max2_int min2_int max_two min_two max_three min_three max_four min_four   -- for this text's walks alone
set_option linter.unusedVariables false
set_option linter.unusedSimpArgs false

/-! ### recoupref03_Make: function 51 -/
def recoupref03_Make.f (a0 : Int) (a1 : Int) : Option (Int × Int × List Int × Int) := if a0 < 0 then (some (0, 0, ([] : List Int), 2)) else (if a0 > 64 then (some (0, 0, ([] : List Int), 2)) else (if a1 < 0 then (some (0, 0, ([] : List Int), 2)) else (if a1 > 64 then (some (0, 0, ([] : List Int), 2)) else ((recoupref03_Zero.f a0 a1).bind fun bt463 => (some (bt463.1, bt463.2.1, bt463.2.2, 0))))))
set_option maxHeartbeats 8000000 in
set_option maxRecDepth 100000 in
theorem recoupref03_Make.calls (a0 : Int) (a1 : Int) (r1 : Int) (r2 : Int) (r3 : List Int) (r4 : Int) (w : World) (h : recoupref03_Make.f a0 a1 = some (r1, r2, r3, r4)) :
  Calls Try.prog 51 #[.int .i64 a0, .int .i64 a1] w fun e w' => ∃ v2_ : Value, e = .returned (.tuple #[.agg #[.int .i64 r1, .int .i64 r2, v2_], .int .i64 r4]) ∧ Kd.R (Kd.int .u8) 5 w' w.heap.size (fun _ => True) v2_ r3 ∧ Below w.heap.size w w' := by
 have hu24 := Try.underlying24
 have HB := Aside0.mk (Below.refl w.heap.size w)
 have H : (if a0 < 0 then (some (0, 0, ([] : List Int), 2)) else (if a0 > 64 then (some (0, 0, ([] : List Int), 2)) else (if a1 < 0 then (some (0, 0, ([] : List Int), 2)) else (if a1 > 64 then (some (0, 0, ([] : List Int), 2)) else ((recoupref03_Zero.f a0 a1).bind fun bt463 => (some (bt463.1, bt463.2.1, bt463.2.2, 0))))))) = some (r1, r2, r3, r4) := h
 clear h
 by_cases c3 : a0 < 0
 ·rw [if_pos c3] at H
  have c3b0 : decide (a0 < 0) = true := decide_eq_true c3
  clear c3
  simp only [Option.some.injEq, Prod.mk.injEq] at H
  obtain ⟨rfl, rfl, rfl, rfl⟩ := H
  go_enter Try.func51, Try.ntmps51
  go_wp2_with (first | ((with_reducible refine gD 4 rfl ?_); refine bE 4 #[.int .i64 0, .int .i64 0, .slice none 0 0] 24 ?_; intro gb462 hg w4 hbox hb; have BK462 := Aside0.mk (hbox); have GW462 := hbS HB hg; have GE462 := hbS HB hg; replace HB := hbB HB hb; clear hb hbox hg; obtain ⟨hcz5_0, hcz5_1, hcz5_2, hfz5_0, hfz5_1, hfz5_2⟩ := cell3 BK462))
  refine bodyPost_ret (results_ct rfl _ _ gb462 24 #[.int .i64 0, .int .i64 0, .slice none 0 0] (0, 0) _ rfl (by refine bkR ?_; refine blk_put (cs := #[.int .i64 0, .int .i64 0, .slice none 0 0]) ?_ 2 _ rfl; refine bkR ?_; refine blk_put (cs := #[.int .i64 0, .int .i64 0, .slice none 0 0]) ?_ 1 _ rfl; refine bkR ?_; refine blk_put (cs := #[.int .i64 0, .int .i64 0, .slice none 0 0]) ?_ 0 _ rfl; refine bkR ?_; exact BK462.out) Try.underlying24 rfl (by kernel_rfl)) rfl ?_
  exact ⟨_, rfE, nilE, hbA HB.out⟩
 ·rw [if_neg c3] at H
  have c3b0 : decide (a0 < 0) = false := decide_eq_false c3
  clear c3
  by_cases c6 : a0 > 64
  ·rw [if_pos c6] at H
   have c6b0 : decide (64 < a0) = true := decide_eq_true c6
   clear c6
   simp only [Option.some.injEq, Prod.mk.injEq] at H
   obtain ⟨rfl, rfl, rfl, rfl⟩ := H
   go_enter Try.func51, Try.ntmps51
   go_wp2_with (first | ((with_reducible refine gD 4 rfl ?_); refine bE 4 #[.int .i64 0, .int .i64 0, .slice none 0 0] 24 ?_; intro gb462 hg w7 hbox hb; have BK462 := Aside0.mk (hbox); have GW462 := hbS HB hg; have GE462 := hbS HB hg; replace HB := hbB HB hb; clear hb hbox hg; obtain ⟨hcz8_0, hcz8_1, hcz8_2, hfz8_0, hfz8_1, hfz8_2⟩ := cell3 BK462))
   refine bodyPost_ret (results_ct rfl _ _ gb462 24 #[.int .i64 0, .int .i64 0, .slice none 0 0] (0, 0) _ rfl (by refine bkR ?_; refine blk_put (cs := #[.int .i64 0, .int .i64 0, .slice none 0 0]) ?_ 2 _ rfl; refine bkR ?_; refine blk_put (cs := #[.int .i64 0, .int .i64 0, .slice none 0 0]) ?_ 1 _ rfl; refine bkR ?_; refine blk_put (cs := #[.int .i64 0, .int .i64 0, .slice none 0 0]) ?_ 0 _ rfl; refine bkR ?_; exact BK462.out) Try.underlying24 rfl (by kernel_rfl)) rfl ?_
   exact ⟨_, rfE, nilE, hbA HB.out⟩
  ·rw [if_neg c6] at H
   have c6b0 : decide (64 < a0) = false := decide_eq_false c6
   clear c6
   by_cases c9 : a1 < 0
   ·rw [if_pos c9] at H
    have c9b0 : decide (a1 < 0) = true := decide_eq_true c9
    clear c9
    simp only [Option.some.injEq, Prod.mk.injEq] at H
    obtain ⟨rfl, rfl, rfl, rfl⟩ := H
    go_enter Try.func51, Try.ntmps51
    go_wp2_with (first | ((with_reducible refine gD 4 rfl ?_); refine bE 4 #[.int .i64 0, .int .i64 0, .slice none 0 0] 24 ?_; intro gb462 hg w10 hbox hb; have BK462 := Aside0.mk (hbox); have GW462 := hbS HB hg; have GE462 := hbS HB hg; replace HB := hbB HB hb; clear hb hbox hg; obtain ⟨hcz11_0, hcz11_1, hcz11_2, hfz11_0, hfz11_1, hfz11_2⟩ := cell3 BK462))
    refine bodyPost_ret (results_ct rfl _ _ gb462 24 #[.int .i64 0, .int .i64 0, .slice none 0 0] (0, 0) _ rfl (by refine bkR ?_; refine blk_put (cs := #[.int .i64 0, .int .i64 0, .slice none 0 0]) ?_ 2 _ rfl; refine bkR ?_; refine blk_put (cs := #[.int .i64 0, .int .i64 0, .slice none 0 0]) ?_ 1 _ rfl; refine bkR ?_; refine blk_put (cs := #[.int .i64 0, .int .i64 0, .slice none 0 0]) ?_ 0 _ rfl; refine bkR ?_; exact BK462.out) Try.underlying24 rfl (by kernel_rfl)) rfl ?_
    exact ⟨_, rfE, nilE, hbA HB.out⟩
   ·rw [if_neg c9] at H
    have c9b0 : decide (a1 < 0) = false := decide_eq_false c9
    clear c9
    by_cases c12 : a1 > 64
    ·rw [if_pos c12] at H
     have c12b0 : decide (64 < a1) = true := decide_eq_true c12
     clear c12
     simp only [Option.some.injEq, Prod.mk.injEq] at H
     obtain ⟨rfl, rfl, rfl, rfl⟩ := H
     go_enter Try.func51, Try.ntmps51
     go_wp2_with (first | ((with_reducible refine gD 4 rfl ?_); refine bE 4 #[.int .i64 0, .int .i64 0, .slice none 0 0] 24 ?_; intro gb462 hg w13 hbox hb; have BK462 := Aside0.mk (hbox); have GW462 := hbS HB hg; have GE462 := hbS HB hg; replace HB := hbB HB hb; clear hb hbox hg; obtain ⟨hcz14_0, hcz14_1, hcz14_2, hfz14_0, hfz14_1, hfz14_2⟩ := cell3 BK462))
     refine bodyPost_ret (results_ct rfl _ _ gb462 24 #[.int .i64 0, .int .i64 0, .slice none 0 0] (0, 0) _ rfl (by refine bkR ?_; refine blk_put (cs := #[.int .i64 0, .int .i64 0, .slice none 0 0]) ?_ 2 _ rfl; refine bkR ?_; refine blk_put (cs := #[.int .i64 0, .int .i64 0, .slice none 0 0]) ?_ 1 _ rfl; refine bkR ?_; refine blk_put (cs := #[.int .i64 0, .int .i64 0, .slice none 0 0]) ?_ 0 _ rfl; refine bkR ?_; exact BK462.out) Try.underlying24 rfl (by kernel_rfl)) rfl ?_
     exact ⟨_, rfE, nilE, hbA HB.out⟩
    ·rw [if_neg c12] at H
     have c12b0 : decide (64 < a1) = false := decide_eq_false c12
     clear c12
     obtain ⟨⟨t463, t464, t465⟩, A15, H⟩ := bindO H
     (try dsimp only at H)
     simp only [Option.some.injEq, Prod.mk.injEq] at H
     obtain ⟨rfl, rfl, rfl, rfl⟩ := H
     go_enter Try.func51, Try.ntmps51
     go_wp2_with (first | ((with_reducible refine gD 4 rfl ?_); refine bE 4 #[.int .i64 0, .int .i64 0, .slice none 0 0] 24 ?_; intro gb462 hg w16 hbox hb; have BK462 := Aside0.mk (hbox); have GW462 := hbS HB hg; have GE462 := hbS HB hg; replace HB := hbB HB hb; clear hb hbox hg) | ((with_reducible refine gC 50 rfl ?_); refine cG (some 23) Try.func50 #[.int .i64 a0, .int .i64 a1] ?_; (with_reducible refine (recoupref03_Zero.calls a0 a1 t463 t464 t465 _ A15.out).mono ?_); rintro e w17 ⟨v466, rfl, ho0, hb⟩; refine ⟨_, rfl, ?_⟩; have HO467 := Aside0.mk (Kd.R_lower ho0 (below_size (hbA HB.out))); replace BK462 := bkB BK462 hb; replace HB := hbB HB hb; (try clear hb); (try clear hb2); (try clear hk); (try clear hi); (try clear ho0); obtain ⟨hcz18_0, hcz18_1, hcz18_2, hfz18_0, hfz18_1, hfz18_2⟩ := cell3 BK462; obtain ⟨Ao19, co19, eo19⟩ := Kd.R_slice HO467.out; subst eo19))
     refine bodyPost_ret (results_ct rfl _ _ gb462 24 #[.int .i64 t463, .int .i64 t464, .slice Ao19 t465.length co19] (0, 0) _ rfl (by refine bkR ?_; refine blk_put (cs := #[.int .i64 t463, .int .i64 t464, .slice none 0 0]) ?_ 2 _ rfl; refine bkR ?_; refine blk_put (cs := #[.int .i64 t463, .int .i64 0, .slice none 0 0]) ?_ 1 _ rfl; refine bkR ?_; refine blk_put (cs := #[.int .i64 0, .int .i64 0, .slice none 0 0]) ?_ 0 _ rfl; refine bkR ?_; exact BK462.out) Try.underlying24 rfl (by kernel_rfl)) rfl ?_
     exact ⟨_, rfE, by (with_reducible repeat (first | apply Kd.R_alloc | apply Kd.R_drewN | apply Kd.R_drew)); exact Kd.R_mono (Kd.R_far (p := ⟨gb462, 2, none⟩) (Kd.R_far (p := ⟨gb462, 1, none⟩) (Kd.R_far (p := ⟨gb462, 0, none⟩) (Kd.R_types HO467.out BK462.out (by decide)) (fun _ hk => hk.2) (.int .i64 t463)) (fun _ hk => hk.2) (.int .i64 t464)) (fun _ hk => hk.2) (.slice Ao19 t465.length co19)) (fun _ hk => trivial), hbA HB.out⟩

end Go.Proofs.Ytccfbhnhedoggaa.Q
