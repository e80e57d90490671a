/- Written by drive.py (a program of this repo, over the kit's print): each Go function named here answers what the Lean function beside it answers, wherever that one answers, in every world that meets the stated premises. -/
import Derived.Test.YtccfbhnhedoggaaQx0
import Derived.Test.YtccfbhnhedoggaaQx116
import Derived.Test.YtccfbhnhedoggaaQx121
import Derived.Test.YtccfbhnhedoggaaQx122
import Derived.Test.YtccfbhnhedoggaaQx133
import Derived.Test.YtccfbhnhedoggaaQx135
import Derived.Test.YtccfbhnhedoggaaQx138
namespace Go.Proofs.Ytccfbhnhedoggaa.Q
open Go.RowKit Go.Proofs.YtccfbhnhedoggaaW.PrintWords Go.Proofs.YtccfbhnhedoggaaW.PrintLast Go.Proofs.YtccfbhnhedoggaaW.PrintMore
attribute [local go_sem] max2_int min2_int max_two min_two max_three min_three max_four min_four   -- for this text's walks alone
set_option linter.unusedVariables false
set_option linter.unusedSimpArgs false

/-! ### recouplaw04_GaussPuts: function 12 -/
mutual
def recouplaw04_GaussPuts.j0 : Nat → List Int → Bool → Int → Int → List Int → Option (Bool)
  | 0, _, _, _, _, _ => none
  | k + 1, x1, x26, x780000, x780001, x780002 => if x26 = true then ((gauss_Combine.f k 1 0 ([] : List Int) (([1] : List Int))).bind fun bt784 => ((recouplaw04_anchored.f).bind fun t789 => (if t789 = true then (some (bt784.2.2 != 0)) else (some false)))) else ((recoupref03_Transpose.f k x780000 x780001 x780002).bind fun bt790 => ((recoupref03_Apply.f k bt790.1 bt790.2.1 bt790.2.2.1 x1).bind fun bt797 => ((gauss_Combine.f k x780000 x780001 x780002 bt797.1).bind fun bt801 => (if bt801.2.2 = 0 then (if bt801.2.1 = true then (recouplaw04_GaussPuts.j1 k bt797.1 bt801.1 ((bt801.1.length : Int) != x780000) bt790.1 bt790.2.1 bt790.2.2.1) else (recouplaw04_GaussPuts.j1 k bt797.1 bt801.1 true bt790.1 bt790.2.1 bt790.2.2.1)) else (recouplaw04_GaussPuts.j1 k bt797.1 bt801.1 true bt790.1 bt790.2.1 bt790.2.2.1)))))
def recouplaw04_GaussPuts.j1 : Nat → List Int → List Int → Bool → Int → Int → List Int → Option (Bool)
  | 0, _, _, _, _, _, _ => none
  | k + 1, x10, x12, x69, x797000, x797001, x797002 => if x69 = true then (some false) else ((recoupref03_Apply.f k x797000 x797001 x797002 x12).bind fun bt806 => ((recouplaw04_anchored.f).bind fun t810 => (if t810 = true then ((recoupref01_Same.f bt806.1 x10).bind fun t811 => (some t811)) else (some false))))
end
def recouplaw04_GaussPuts.f (k : Nat) (a0_0 : Int) (a0_1 : Int) (l0_2 : List Int) (l1 : List Int) : Option (Bool) := (recoupref03_Right.f a0_0 a0_1 l0_2).bind fun t780 => (if t780 = true then (recouplaw04_GaussPuts.j0 k l1 ((l1.length : Int) != a0_0) a0_0 a0_1 l0_2) else (recouplaw04_GaussPuts.j0 k l1 true a0_0 a0_1 l0_2))
theorem recouplaw04_GaussPuts.mono_l : ∀ k, (∀ y0 y1 y2 y3 y4, LeO (recouplaw04_GaussPuts.j0 k y0 y1 y2 y3 y4) (recouplaw04_GaussPuts.j0 (k + 1) y0 y1 y2 y3 y4)) ∧ (∀ y0 y1 y2 y3 y4 y5, LeO (recouplaw04_GaussPuts.j1 k y0 y1 y2 y3 y4 y5) (recouplaw04_GaussPuts.j1 (k + 1) y0 y1 y2 y3 y4 y5))
  | 0 => ⟨fun _ _ _ _ _ r h => by simp [recouplaw04_GaussPuts.j0] at h, fun _ _ _ _ _ _ r h => by simp [recouplaw04_GaussPuts.j1] at h⟩
  | k + 1 => by
    obtain ⟨ih0, ih1⟩ := recouplaw04_GaussPuts.mono_l k
    refine ⟨?_, ?_⟩
    all_goals (intros; first | unfold recouplaw04_GaussPuts.j0 | unfold recouplaw04_GaussPuts.j1)
    all_goals repeat' first | (with_reducible exact ih0 _ _ _ _ _) | (with_reducible exact ih1 _ _ _ _ _ _) | (with_reducible exact gauss_Combine.mono _ _ _ _ _) | (with_reducible exact recoupref03_Apply.mono _ _ _ _ _) | (with_reducible exact recoupref03_Transpose.mono _ _ _ _) | (with_reducible exact LeO.refl _) | (with_reducible exact LeO.none _) | (with_reducible refine LeO.ite ?_ ?_) | (with_reducible refine LeO.bind ?_ (fun _ => ?_)) | exact ih0 _ _ _ _ _ | exact ih1 _ _ _ _ _ _ | exact gauss_Combine.mono _ _ _ _ _ | exact recoupref03_Apply.mono _ _ _ _ _ | exact recoupref03_Transpose.mono _ _ _ _ | exact LeO.none _ | refine LeO.ite ?_ ?_ | refine LeO.bind ?_ (fun _ => ?_)
theorem recouplaw04_GaussPuts.mono : ∀ a0 a1 a2 a3 k, LeO (recouplaw04_GaussPuts.f k a0 a1 a2 a3) (recouplaw04_GaussPuts.f (k + 1) a0 a1 a2 a3) := by
  intro a0 a1 a2 a3 k
  obtain ⟨ih0, ih1⟩ := recouplaw04_GaussPuts.mono_l k
  unfold recouplaw04_GaussPuts.f
  repeat' first
      | (with_reducible exact ih0 _ _ _ _ _)
      | (with_reducible exact ih1 _ _ _ _ _ _)
      | (with_reducible exact gauss_Combine.mono _ _ _ _ _)
      | (with_reducible exact recoupref03_Apply.mono _ _ _ _ _)
      | (with_reducible exact recoupref03_Transpose.mono _ _ _ _)
      | (with_reducible exact LeO.refl _)
      | (with_reducible exact LeO.none _)
      | (with_reducible refine LeO.ite ?_ ?_)
      | (with_reducible refine LeO.bind ?_ (fun _ => ?_))
      | exact ih0 _ _ _ _ _
      | exact ih1 _ _ _ _ _ _
      | exact gauss_Combine.mono _ _ _ _ _
      | exact recoupref03_Apply.mono _ _ _ _ _
      | exact recoupref03_Transpose.mono _ _ _ _
      | exact LeO.none _
      | refine LeO.ite ?_ ?_
      | refine LeO.bind ?_ (fun _ => ?_)
set_option maxHeartbeats 8000000 in
set_option maxRecDepth 100000 in
theorem recouplaw04_GaussPuts.calls (k : Nat) (a0_0 : Int) (a0_1 : Int) (A0_2 : Option Addr) (c0_2 : Nat) (l0_2 : List Int) (A1 : Option Addr) (c1 : Nat) (l1 : List Int) (r : Bool) (w : World) (hr0_2 : Kd.C (Kd.int .u8) w A0_2 l0_2.length l0_2) (hc0_2 : l0_2.length ≤ c0_2) (hr1 : Kd.C (Kd.int .u8) w A1 l1.length l1) (hc1 : l1.length ≤ c1) (h : recouplaw04_GaussPuts.f k a0_0 a0_1 l0_2 l1 = some r) :
    Calls Try.prog 12 #[.agg #[.int .i64 a0_0, .int .i64 a0_1, .slice A0_2 l0_2.length c0_2], .slice A1 l1.length c1] w fun e w' => e = .returned (.bool r) ∧ Below w.heap.size w w' := by
  have hu24 := Try.underlying24
  have HR0_2 := Aside0.mk hr0_2
  have HC0_2 := Aside0.mk hc0_2
  clear hr0_2 hc0_2
  have HR1 := Aside0.mk hr1
  have HC1 := Aside0.mk hc1
  clear hr1 hc1
  have HB := Aside0.mk (Below.refl w.heap.size w)
  have H : ((recoupref03_Right.f a0_0 a0_1 l0_2).bind fun t780 => (if t780 = true then (recouplaw04_GaussPuts.j0 k l1 ((l1.length : Int) != a0_0) a0_0 a0_1 l0_2) else (recouplaw04_GaussPuts.j0 k l1 true a0_0 a0_1 l0_2))) = some r := h
  clear h
  have HC3 := Aside0.mk H
  clear H
  go_enter Try.func12, Try.ntmps12
  go_upto_region 1 with (first | ((with_reducible refine gD 2 rfl ?_); (try (refine gate_guard (by rfl) ?_; dsimp only)); refine bE 2 #[.int .i64 a0_0, .int .i64 a0_1, .slice A0_2 l0_2.length c0_2] 24 ?_; intro gb779 hg w4 hbox hb; have BK779 := Aside0.mk (hbox); have GW779 := hbS HB hg; have GE779 := hbS HB hg; replace HB := hbB HB hb; clear hb hbox hg))
  (try simp only [Act.put, List.setIfInBounds_toArray, List.set_cons_zero, List.set_cons_succ])
  go_cut [26] (fun v26 wc => ∃ (kq : Nat) (x26_2 : Bool), v26 = .bool x26_2 ∧ Aside0 (recouplaw04_GaussPuts.j0 kq l1 x26_2 a0_0 a0_1 l0_2 = some r) ∧ Aside0 (kq ≤ k) ∧ Aside0 (wc.heap[gb779]? = some (.cells #[.int .i64 a0_0, .int .i64 a0_1, (.slice A0_2 l0_2.length c0_2)] 24 (0, 0))) ∧ Aside0 (Below w.heap.size w wc))
  case first =>
    have H := HC3.out
    clear HC3
    obtain ⟨t780, A5, H⟩ := bindO H
    (try dsimp only at H)
    by_cases c6 : t780 = true
    · subst c6
      rw [if_pos rfl] at H
      have H' := Aside0.mk H
      clear H
      obtain ⟨hcz7_0, hcz7_1, hcz7_2, hfz7_0, hfz7_1, hfz7_2⟩ := cell3 BK779
      go_wp2_with (first | ((with_reducible refine gC 21 rfl ?_); refine cG (some 18) Try.func21 #[.agg #[.int .i64 a0_0, .int .i64 a0_1, .slice A0_2 l0_2.length c0_2]] ?_; (with_reducible refine (recoupref03_Right.calls a0_0 a0_1 _ _ l0_2 true _ ?side1 ?side2 A5.out).mono ?_); (case side1 => exact kcB HR0_2 HB); (case side2 => exact HC0_2.out); rintro e w8 ⟨rfl, hb⟩; refine ⟨_, rfl, ?_⟩; replace BK779 := bkB BK779 hb; replace HB := hbB HB hb; (try clear hb); (try clear hb2); (try clear hk); (try clear hi); obtain ⟨hcz9_0, hcz9_1, hcz9_2, hfz9_0, hfz9_1, hfz9_2⟩ := cell3 BK779))
      go_meet
      case rel => exact ⟨_, (((l1.length : Int) != a0_0)), rsE, H', ⟨leE⟩, ⟨bkA BK779.out⟩, ⟨hbA HB.out⟩⟩
    · replace c6 := Bool.eq_false_iff.mpr c6
      subst c6
      rw [if_neg nofT] at H
      have H' := Aside0.mk H
      clear H
      obtain ⟨hcz10_0, hcz10_1, hcz10_2, hfz10_0, hfz10_1, hfz10_2⟩ := cell3 BK779
      go_wp2_with (first | ((with_reducible refine gC 21 rfl ?_); refine cG (some 18) Try.func21 #[.agg #[.int .i64 a0_0, .int .i64 a0_1, .slice A0_2 l0_2.length c0_2]] ?_; (with_reducible refine (recoupref03_Right.calls a0_0 a0_1 _ _ l0_2 false _ ?side1 ?side2 A5.out).mono ?_); (case side1 => exact kcB HR0_2 HB); (case side2 => exact HC0_2.out); rintro e w11 ⟨rfl, hb⟩; refine ⟨_, rfl, ?_⟩; replace BK779 := bkB BK779 hb; replace HB := hbB HB hb; (try clear hb); (try clear hb2); (try clear hk); (try clear hi)))
      go_meet
      case rel => exact ⟨_, (true), rsE, H', ⟨leE⟩, ⟨bkA BK779.out⟩, ⟨hbA HB.out⟩⟩
  case rest =>
    clear HC3
    (try clear c1); (try clear c2); (try clear p2); (try clear c6); (try clear hcz10_0 hcz10_1 hcz10_2 hfz10_0 hfz10_1 hfz10_2); (try clear hcz7_0 hcz7_1 hcz7_2 hfz7_0 hfz7_1 hfz7_2); (try clear hcz9_0 hcz9_1 hcz9_2 hfz9_0 hfz9_1 hfz9_2)
    obtain ⟨kq, x26_2, rfl, HA, HJ2, BK779, HB⟩ := hcut
    cases kq with
    | zero => exact absurd HA.out (by simp [recouplaw04_GaussPuts.j0])
    | succ kj2 =>
      have H := HA.out
      clear HA
      simp only [recouplaw04_GaussPuts.j0] at H
      by_cases c12 : x26_2 = true
      · subst c12
        rw [if_pos rfl] at H
        obtain ⟨y781, hy781⟩ : ∃ y_ : List Int, y_ = (([1] : List Int)) := ⟨_, rfl⟩
        replace H : ((gauss_Combine.f kj2 1 0 ([] : List Int) y781).bind fun bt784 => ((recouplaw04_anchored.f).bind fun t789 => (if t789 = true then (some (bt784.2.2 != 0)) else (some false)))) = some r := by first | (rw [hy781]; with_reducible exact H) | (have H2_ := (Option.bind_some _ _).symm.trans H; rw [hy781]; with_reducible exact H2_) | (have H2_ := (Option.bind_some _ _).symm.trans H; with_reducible exact H2_) | with_reducible exact H | (rw [hy781]; exact H) | exact H
        have Ny781 := Aside0.mk hy781
        clear hy781
        obtain ⟨⟨t784, t787, t788⟩, A13, H⟩ := bindO H
        (try dsimp only at H)
        obtain ⟨t789, A14, H⟩ := bindO H
        (try dsimp only at H)
        by_cases c15 : t789 = true
        · subst c15
          rw [if_pos rfl] at H
          obtain rfl := Option.some.inj H
          go_wp2_with (first | ((with_reducible refine gate_dst (N := 29) rfl ?_); (try (refine gate_guard (by rfl) ?_; dsimp only)); refine Kd.R_lit (Kd.int .u8) _ 5 ?hg (N := 29) ?hd (xs := ([1] : List Int)) (inner := [.int .u8 1]) (ok := fun _ => True) (okp := fun _ => True) ?hr ?hp (fun _ hk => hk) trivial (Below.refl _ _) (Nat.le_refl _) (by simp) ?_; (case hd => rfl); (case hg => rfl); (case hr => first | (go_simp; done) | (go_simp; rfl)); (case hp => exact (Reps.one (show Kd.M (Kd.int .u8) _ _ _ 1 [.int .u8 1] from rfl) (Reps.none _ _))); intro v782 w16 ho17 hb hg_ hnew_; clear hg_ hnew_; (first | rw [← Ny781.out] at ho17 | (simp only [Int.reduceToNat] at ho17; rw [← Ny781.out] at ho17)); have HO783 := Aside0.mk (Kd.R_lower ho17 (below_size (hbA HB.out))); replace BK779 := bkB BK779 hb; replace HB := hbB HB hb; clear hb ho17; obtain ⟨Ao18, co18, eo18⟩ := Kd.R_slice HO783.out; subst eo18) | ((with_reducible refine gC 38 rfl ?_); refine cG (some 30) Try.func38 #[.agg #[.int .i64 1, .int .i64 0, .slice none 0 0], .slice Ao18 y781.length co18] ?_; (refine (gauss_Combine.calls kj2 1 0 _ _ ([] : List Int) _ _ y781 t784 t787 t788 _ ?side1 ?side2 ?side3 ?side4 A13.out).mono ?_); (case side1 => exact Kd.C_nil _ _); (case side2 => exact Nat.le_refl _); (case side3 => exact kcA (Kd.R_reads' HO783.out).2.2); (case side4 => exact (Kd.R_reads' HO783.out).2.1); rintro e w19 ⟨v785, rfl, ho0, hb⟩; refine ⟨_, rfl, ?_⟩; have HO786 := Aside0.mk (Kd.R_lower (Kd.R_new' ho0 (Kd.R_lt (kdA HO783.out))) (below_size (hbA HB.out))); replace HO783 := Aside0.mk (Kd.R_elder' (kdA HO783.out) (Kd.R_base ho0) hb); replace BK779 := bkB BK779 hb; replace HB := hbB HB hb; (try clear hb); (try clear hb2); (try clear hk); (try clear hi); (try clear ho0)) | ((with_reducible refine gC 22 rfl ?_); refine cG (some 34) Try.func22 #[] ?_; (with_reducible refine (recouplaw04_anchored.calls  true _ A14.out).mono ?_); rintro e w20 ⟨rfl, hb⟩; refine ⟨_, rfl, ?_⟩; replace HO783 := kdB HO783 hb; replace HO786 := kdB HO786 hb; replace BK779 := bkB BK779 hb; replace HB := hbB HB hb; (try clear hb); (try clear hb2); (try clear hk); (try clear hi)))
          go_ret
          exact ⟨rfE, hbA HB.out⟩
        · replace c15 := Bool.eq_false_iff.mpr c15
          subst c15
          rw [if_neg nofT] at H
          obtain rfl := Option.some.inj H
          go_wp2_with (first | ((with_reducible refine gate_dst (N := 29) rfl ?_); (try (refine gate_guard (by rfl) ?_; dsimp only)); refine Kd.R_lit (Kd.int .u8) _ 5 ?hg (N := 29) ?hd (xs := ([1] : List Int)) (inner := [.int .u8 1]) (ok := fun _ => True) (okp := fun _ => True) ?hr ?hp (fun _ hk => hk) trivial (Below.refl _ _) (Nat.le_refl _) (by simp) ?_; (case hd => rfl); (case hg => rfl); (case hr => first | (go_simp; done) | (go_simp; rfl)); (case hp => exact (Reps.one (show Kd.M (Kd.int .u8) _ _ _ 1 [.int .u8 1] from rfl) (Reps.none _ _))); intro v782 w21 ho22 hb hg_ hnew_; clear hg_ hnew_; (first | rw [← Ny781.out] at ho22 | (simp only [Int.reduceToNat] at ho22; rw [← Ny781.out] at ho22)); have HO783 := Aside0.mk (Kd.R_lower ho22 (below_size (hbA HB.out))); replace BK779 := bkB BK779 hb; replace HB := hbB HB hb; clear hb ho22; obtain ⟨Ao23, co23, eo23⟩ := Kd.R_slice HO783.out; subst eo23) | ((with_reducible refine gC 38 rfl ?_); refine cG (some 30) Try.func38 #[.agg #[.int .i64 1, .int .i64 0, .slice none 0 0], .slice Ao23 y781.length co23] ?_; (refine (gauss_Combine.calls kj2 1 0 _ _ ([] : List Int) _ _ y781 t784 t787 t788 _ ?side1 ?side2 ?side3 ?side4 A13.out).mono ?_); (case side1 => exact Kd.C_nil _ _); (case side2 => exact Nat.le_refl _); (case side3 => exact kcA (Kd.R_reads' HO783.out).2.2); (case side4 => exact (Kd.R_reads' HO783.out).2.1); rintro e w24 ⟨v785, rfl, ho0, hb⟩; refine ⟨_, rfl, ?_⟩; have HO786 := Aside0.mk (Kd.R_lower (Kd.R_new' ho0 (Kd.R_lt (kdA HO783.out))) (below_size (hbA HB.out))); replace HO783 := Aside0.mk (Kd.R_elder' (kdA HO783.out) (Kd.R_base ho0) hb); replace BK779 := bkB BK779 hb; replace HB := hbB HB hb; (try clear hb); (try clear hb2); (try clear hk); (try clear hi); (try clear ho0)) | ((with_reducible refine gC 22 rfl ?_); refine cG (some 34) Try.func22 #[] ?_; (with_reducible refine (recouplaw04_anchored.calls  false _ A14.out).mono ?_); rintro e w25 ⟨rfl, hb⟩; refine ⟨_, rfl, ?_⟩; replace HO783 := kdB HO783 hb; replace HO786 := kdB HO786 hb; replace BK779 := bkB BK779 hb; replace HB := hbB HB hb; (try clear hb); (try clear hb2); (try clear hk); (try clear hi)))
          go_ret
          exact ⟨rfE, hbA HB.out⟩
      · replace c12 := Bool.eq_false_iff.mpr c12
        subst c12
        rw [if_neg nofT] at H
        obtain ⟨⟨t790, t791, t792, t795⟩, A26, H⟩ := bindO H
        (try dsimp only at H)
        obtain ⟨⟨t797, t800⟩, A27, H⟩ := bindO H
        (try dsimp only at H)
        obtain ⟨⟨t801, t804, t805⟩, A28, H⟩ := bindO H
        (try dsimp only at H)
        have HC29 := Aside0.mk H
        clear H
        obtain ⟨hcz30_0, hcz30_1, hcz30_2, hfz30_0, hfz30_1, hfz30_2⟩ := cell3 BK779
        go_upto_region 7 with (first | ((with_reducible refine gC 35 rfl ?_); refine cG (some 41) Try.func35 #[.agg #[.int .i64 a0_0, .int .i64 a0_1, .slice A0_2 l0_2.length c0_2]] ?_; (with_reducible refine (recoupref03_Transpose.calls kj2 a0_0 a0_1 _ _ l0_2 t790 t791 t792 t795 _ ?side1 ?side2 A26.out).mono ?_); (case side1 => exact kcB HR0_2 HB); (case side2 => exact HC0_2.out); rintro e w31 ⟨v793, rfl, ho0, hb⟩; refine ⟨_, rfl, ?_⟩; have HO794 := Aside0.mk (Kd.R_lower ho0 (below_size (hbA HB.out))); replace BK779 := bkB BK779 hb; replace HB := hbB HB hb; (try clear hb); (try clear hb2); (try clear hk); (try clear hi); (try clear ho0)) | ((with_reducible refine gD 8 rfl ?_); (try (refine gate_guard (by rfl) ?_; dsimp only)); refine bE 8 #[.int .i64 0, .int .i64 0, .slice none 0 0] 24 ?_; intro gb796 hg w32 hbox hb; replace HO794 := kdB HO794 hb; have BK796 := Aside0.mk (hbox); have GW796 := hbS HB hg; have GE796 := hbS HB hg; replace HB := hbB HB hb; have NB779_796 := neL BK779 hg; have NB796_779 := neG BK779 hg; replace BK779 := bkB BK779 hb; clear hb hbox hg; have hnb33 := NB796_779.out; have hnc33 := NB779_796.out; obtain ⟨hcz34_0, hcz34_1, hcz34_2, hfz34_0, hfz34_1, hfz34_2⟩ := cell3 BK796; obtain ⟨Ao35, co35, eo35⟩ := Kd.R_slice HO794.out; subst eo35) | ((with_reducible refine gC 33 rfl ?_); refine cG (some 47) Try.func33 #[.agg #[.int .i64 t790, .int .i64 t791, .slice Ao35 t792.length co35], .slice A1 l1.length c1] ?_; (with_reducible refine (recoupref03_Apply.calls kj2 t790 t791 _ _ t792 _ _ l1 t797 t800 _ ?side1 ?side2 ?side3 ?side4 A27.out).mono ?_); (case side1 => refine (Kd.R_reads' (e := 5) (base := w.heap.size) (ok := fun k_ => True) (n := t792.length) (c := co35) ?_).2.2; exact (by (with_reducible repeat (first | apply Kd.R_alloc | apply Kd.R_drewN | apply Kd.R_drew)); exact (Kd.R_mono (Kd.R_far (p := ⟨gb796, 2, none⟩) (Kd.R_far (p := ⟨gb796, 1, none⟩) (Kd.R_far (p := ⟨gb796, 0, none⟩) (Kd.R_types HO794.out BK796.out (by decide)) (fun _ hk => hk.2) (.int .i64 t790)) (fun _ hk => hk.2) (.int .i64 t791)) (fun _ hk => hk.2) (.slice Ao35 t792.length co35)) (fun _ h_ => h_.1)))); (case side2 => exact (Kd.R_reads' HO794.out).2.1); (case side3 => exact Kd.C_below HR1.out (hbA HB.out)); (case side4 => exact HC1.out); rintro e w36 ⟨v798, rfl, ho0, hb⟩; refine ⟨_, rfl, ?_⟩; have HO799 := Aside0.mk (Kd.R_lower (Kd.R_new' ho0 (Kd.R_lt (by (with_reducible repeat (first | apply Kd.R_alloc | apply Kd.R_drewN | apply Kd.R_drew)); exact (Kd.R_mono (Kd.R_far (p := ⟨gb796, 2, none⟩) (Kd.R_far (p := ⟨gb796, 1, none⟩) (Kd.R_far (p := ⟨gb796, 0, none⟩) (Kd.R_types HO794.out BK796.out (by decide)) (fun _ hk => hk.2) (.int .i64 t790)) (fun _ hk => hk.2) (.int .i64 t791)) (fun _ hk => hk.2) (.slice Ao35 t792.length co35)) (fun _ h_ => h_.1))))) (below_size (hbA HB.out))); replace HO794 := Aside0.mk (Kd.R_elder' (by (with_reducible repeat (first | apply Kd.R_alloc | apply Kd.R_drewN | apply Kd.R_drew)); exact (Kd.R_mono (Kd.R_far (p := ⟨gb796, 2, none⟩) (Kd.R_far (p := ⟨gb796, 1, none⟩) (Kd.R_far (p := ⟨gb796, 0, none⟩) (Kd.R_types HO794.out BK796.out (by decide)) (fun _ hk => hk.2) (.int .i64 t790)) (fun _ hk => hk.2) (.int .i64 t791)) (fun _ hk => hk.2) (.slice Ao35 t792.length co35)) (fun _ h_ => h_.1))) (Kd.R_base ho0) hb); replace BK779 := Aside0.mk (blk_below (g := gb779) (o := .cells #[.int .i64 a0_0, .int .i64 a0_1, .slice A0_2 l0_2.length c0_2] 24 (0, 0)) (by refine bkR ?_; refine blk_far ?_ NB779_796.out _; refine bkR ?_; refine blk_far ?_ NB779_796.out _; refine bkR ?_; refine blk_far ?_ NB779_796.out _; refine bkR ?_; exact BK779.out) hb); replace BK796 := Aside0.mk (blk_below (g := gb796) (o := .cells #[.int .i64 t790, .int .i64 t791, .slice Ao35 t792.length co35] 24 (0, 0)) (by refine bkR ?_; refine blk_put (cs := #[.int .i64 t790, .int .i64 t791, .slice none 0 0]) ?_ 2 _ rfl; refine bkR ?_; refine blk_put (cs := #[.int .i64 t790, .int .i64 0, .slice none 0 0]) ?_ 1 _ rfl; refine bkR ?_; refine blk_put (cs := #[.int .i64 0, .int .i64 0, .slice none 0 0]) ?_ 0 _ rfl; refine bkR ?_; exact BK796.out) hb); replace HB := hbB HB hb; (try clear hb); (try clear hb2); (try clear hk); (try clear hi); (try clear ho0); obtain ⟨hcz37_0, hcz37_1, hcz37_2, hfz37_0, hfz37_1, hfz37_2⟩ := cell3 BK779; obtain ⟨Ao38, co38, eo38⟩ := Kd.R_slice HO799.out; subst eo38) | ((with_reducible refine gC 38 rfl ?_); refine cG (some 53) Try.func38 #[.agg #[.int .i64 a0_0, .int .i64 a0_1, .slice A0_2 l0_2.length c0_2], .slice Ao38 t797.length co38] ?_; (with_reducible refine (gauss_Combine.calls kj2 a0_0 a0_1 _ _ l0_2 _ _ t797 t801 t804 t805 _ ?side1 ?side2 ?side3 ?side4 A28.out).mono ?_); (case side1 => exact kcB HR0_2 HB); (case side2 => exact HC0_2.out); (case side3 => exact kcA (Kd.R_reads' HO799.out).2.2); (case side4 => exact (Kd.R_reads' HO799.out).2.1); rintro e w39 ⟨v802, rfl, ho0, hb⟩; refine ⟨_, rfl, ?_⟩; have HO803 := Aside0.mk (Kd.R_lower (Kd.R_new' (Kd.R_new' ho0 (Kd.R_lt (kdA HO794.out))) (Kd.R_lt (kdA HO799.out))) (below_size (hbA HB.out))); replace HO794 := Aside0.mk (Kd.R_elder' (kdA HO794.out) (Kd.R_base ho0) hb); replace HO799 := Aside0.mk (Kd.R_elder' (kdA HO799.out) (Kd.R_base ho0) hb); replace BK779 := bkB BK779 hb; replace BK796 := bkB BK796 hb; replace HB := hbB HB hb; (try clear hb); (try clear hb2); (try clear hk); (try clear hi); (try clear ho0)))
        (try simp only [Act.put, List.setIfInBounds_toArray, List.set_cons_zero, List.set_cons_succ])
        go_cut [69] (fun v69 wc => ∃ (kq : Nat) (x69_28 : Bool), v69 = .bool x69_28 ∧ Aside0 (recouplaw04_GaussPuts.j1 kq t797 t801 x69_28 t790 t791 t792 = some r) ∧ Aside0 (kq ≤ kj2) ∧ Aside0 (Kd.R (Kd.int .u8) 5 wc w.heap.size (fun k_ => some k_ ≠ (v802 : Value).ownBlock ∧ some k_ ≠ ((.slice Ao35 t792.length co35) : Value).ownBlock) (.slice Ao38 t797.length co38) t797) ∧ Aside0 (Kd.R (Kd.int .u8) 5 wc w.heap.size (fun k_ => some k_ ≠ ((.slice Ao38 t797.length co38) : Value).ownBlock ∧ some k_ ≠ ((.slice Ao35 t792.length co35) : Value).ownBlock) v802 t801) ∧ Aside0 (Kd.R (Kd.int .u8) 5 wc w.heap.size (fun k_ => some k_ ≠ ((.slice Ao38 t797.length co38) : Value).ownBlock ∧ some k_ ≠ (v802 : Value).ownBlock) (.slice Ao35 t792.length co35) t792) ∧ Aside0 (wc.heap[gb779]? = some (.cells #[.int .i64 a0_0, .int .i64 a0_1, (.slice A0_2 l0_2.length c0_2)] 24 (0, 0))) ∧ Aside0 (wc.heap[gb796]? = some (.cells #[.int .i64 t790, .int .i64 t791, (.slice Ao35 t792.length co35)] 24 (0, 0))) ∧ Aside0 (Below w.heap.size w wc))
        case first =>
          have H := HC29.out
          clear HC29
          by_cases c40 : t805 = 0
          · rw [if_pos c40] at H
            have c40b0 : (t805 == 0) = true := beq_iff_eq.mpr c40
            have c40b1 : (t805 != 0) = false := bne_eq_false_iff_eq.mpr c40
            clear c40
            (first | rw [c40b0] | (simp only [i64_w, i32_w]; rw [c40b0]) | skip)
            by_cases c41 : t804 = true
            · subst c41
              rw [if_pos rfl] at H
              have H' := Aside0.mk H
              clear H
              obtain ⟨Ao42, co42, eo42⟩ := Kd.R_slice HO803.out
              subst eo42
              have hnb43 := NB779_796.out
              have hnc43 := NB796_779.out
              obtain ⟨hcz44_0, hcz44_1, hcz44_2, hfz44_0, hfz44_1, hfz44_2⟩ := cell3 BK779
              go_wp2
              go_meet
              case rel => exact ⟨_, (((t801.length : Int) != a0_0)), rsE, H', ⟨by have := HJ2.out; first | omega | exact Nat.le_refl _⟩, ⟨by (with_reducible repeat (first | apply Kd.R_alloc | apply Kd.R_drewN | apply Kd.R_drew)); exact Kd.R_mono HO799.out (fun _ hk => ⟨hk.2, hk.1.2⟩)⟩, ⟨by (with_reducible repeat (first | apply Kd.R_alloc | apply Kd.R_drewN | apply Kd.R_drew)); exact Kd.R_mono HO803.out (fun _ hk => ⟨hk.2, hk.1.2⟩)⟩, ⟨by (with_reducible repeat (first | apply Kd.R_alloc | apply Kd.R_drewN | apply Kd.R_drew)); exact Kd.R_mono HO794.out (fun _ hk => ⟨hk.1.2, hk.2⟩)⟩, ⟨bkA BK779.out⟩, ⟨bkA BK796.out⟩, ⟨hbA HB.out⟩⟩
            · replace c41 := Bool.eq_false_iff.mpr c41
              subst c41
              rw [if_neg nofT] at H
              have H' := Aside0.mk H
              clear H
              go_wp2
              go_meet
              case rel => exact ⟨_, (true), rsE, H', ⟨by have := HJ2.out; first | omega | exact Nat.le_refl _⟩, ⟨by (with_reducible repeat (first | apply Kd.R_alloc | apply Kd.R_drewN | apply Kd.R_drew)); exact Kd.R_mono HO799.out (fun _ hk => ⟨hk.2, hk.1.2⟩)⟩, ⟨by (with_reducible repeat (first | apply Kd.R_alloc | apply Kd.R_drewN | apply Kd.R_drew)); exact Kd.R_mono HO803.out (fun _ hk => ⟨hk.2, hk.1.2⟩)⟩, ⟨by (with_reducible repeat (first | apply Kd.R_alloc | apply Kd.R_drewN | apply Kd.R_drew)); exact Kd.R_mono HO794.out (fun _ hk => ⟨hk.1.2, hk.2⟩)⟩, ⟨bkA BK779.out⟩, ⟨bkA BK796.out⟩, ⟨hbA HB.out⟩⟩
          · rw [if_neg c40] at H
            have c40b0 : (t805 == 0) = false := beq_eq_false_iff_ne.mpr c40
            have c40b1 : (t805 != 0) = true := bne_iff_ne.mpr c40
            (first | rw [c40b0] | (simp only [i64_w, i32_w]; rw [c40b0]) | skip)
            have H' := Aside0.mk H
            clear H
            go_wp2
            go_meet
            case rel => exact ⟨_, (true), rsE, H', ⟨by have := HJ2.out; first | omega | exact Nat.le_refl _⟩, ⟨by (with_reducible repeat (first | apply Kd.R_alloc | apply Kd.R_drewN | apply Kd.R_drew)); exact Kd.R_mono HO799.out (fun _ hk => ⟨hk.2, hk.1.2⟩)⟩, ⟨by (with_reducible repeat (first | apply Kd.R_alloc | apply Kd.R_drewN | apply Kd.R_drew)); exact Kd.R_mono HO803.out (fun _ hk => ⟨hk.2, hk.1.2⟩)⟩, ⟨by (with_reducible repeat (first | apply Kd.R_alloc | apply Kd.R_drewN | apply Kd.R_drew)); exact Kd.R_mono HO794.out (fun _ hk => ⟨hk.1.2, hk.2⟩)⟩, ⟨bkA BK779.out⟩, ⟨bkA BK796.out⟩, ⟨hbA HB.out⟩⟩
        case rest =>
          clear HC29
          (try clear c1); (try clear c2); (try clear p2 p2); (try clear c3); (try clear c4); (try clear c6); (try clear c12); (try clear c15); (try clear c21); (try clear c22); (try clear c33); (try clear c35); (try clear c38); (try clear c40); (try clear c40b0); (try clear c40b1); (try clear c41); (try clear c43); (try clear hcz10_0 hcz10_1 hcz10_2 hfz10_0 hfz10_1 hfz10_2); (try clear hcz30_0 hcz30_1 hcz30_2 hfz30_0 hfz30_1 hfz30_2); (try clear hcz34_0 hcz34_1 hcz34_2 hfz34_0 hfz34_1 hfz34_2); (try clear hcz37_0 hcz37_1 hcz37_2 hfz37_0 hfz37_1 hfz37_2); (try clear hcz44_0 hcz44_1 hcz44_2 hfz44_0 hfz44_1 hfz44_2); (try clear hcz7_0 hcz7_1 hcz7_2 hfz7_0 hfz7_1 hfz7_2); (try clear hcz9_0 hcz9_1 hcz9_2 hfz9_0 hfz9_1 hfz9_2)
          obtain ⟨kq, x69_28, rfl, HA, HJ28, HO_10, HO_12, HO_797002, BK779, BK796, HB⟩ := hcut
          cases kq with
          | zero => exact absurd HA.out (by simp [recouplaw04_GaussPuts.j1])
          | succ kj28 =>
            have H := HA.out
            clear HA
            simp only [recouplaw04_GaussPuts.j1] at H
            by_cases c45 : x69_28 = true
            · subst c45
              rw [if_pos rfl] at H
              obtain rfl := Option.some.inj H
              go_wp2
              go_ret
              exact ⟨rfE, hbA HB.out⟩
            · replace c45 := Bool.eq_false_iff.mpr c45
              subst c45
              rw [if_neg nofT] at H
              obtain ⟨⟨t806, t809⟩, A46, H⟩ := bindO H
              (try dsimp only at H)
              obtain ⟨t810, A47, H⟩ := bindO H
              (try dsimp only at H)
              by_cases c48 : t810 = true
              · subst c48
                rw [if_pos rfl] at H
                obtain ⟨t811, A49, H⟩ := bindO H
                (try dsimp only at H)
                obtain rfl := Option.some.inj H
                have hnb50 := NB796_779.out
                have hnc50 := NB779_796.out
                obtain ⟨hcz51_0, hcz51_1, hcz51_2, hfz51_0, hfz51_1, hfz51_2⟩ := cell3 BK796
                obtain ⟨Ao52, co52, eo52⟩ := Kd.R_slice HO_12.out
                subst eo52
                go_wp2_with (first | ((with_reducible refine gC 33 rfl ?_); refine cG (some 73) Try.func33 #[.agg #[.int .i64 t790, .int .i64 t791, .slice Ao35 t792.length co35], .slice Ao52 t801.length co52] ?_; (with_reducible refine (recoupref03_Apply.calls kj28 t790 t791 _ _ t792 _ _ t801 t806 t809 _ ?side1 ?side2 ?side3 ?side4 A46.out).mono ?_); (case side1 => exact kcA (Kd.R_reads' HO_797002.out).2.2); (case side2 => exact (Kd.R_reads' HO_797002.out).2.1); (case side3 => exact kcA (Kd.R_reads' HO_12.out).2.2); (case side4 => exact (Kd.R_reads' HO_12.out).2.1); rintro e w53 ⟨v807, rfl, ho0, hb⟩; refine ⟨_, rfl, ?_⟩; have HO808 := Aside0.mk (Kd.R_lower (Kd.R_new' (Kd.R_new' (Kd.R_new' ho0 (Kd.R_lt (kdA HO_10.out))) (Kd.R_lt (kdA HO_12.out))) (Kd.R_lt (kdA HO_797002.out))) (below_size (hbA HB.out))); replace HO_10 := Aside0.mk (Kd.R_elder' (kdA HO_10.out) (Kd.R_base ho0) hb); replace HO_12 := Aside0.mk (Kd.R_elder' (kdA HO_12.out) (Kd.R_base ho0) hb); replace HO_797002 := Aside0.mk (Kd.R_elder' (kdA HO_797002.out) (Kd.R_base ho0) hb); replace BK779 := bkB BK779 hb; replace BK796 := bkB BK796 hb; replace HB := hbB HB hb; (try clear hb); (try clear hb2); (try clear hk); (try clear hi); (try clear ho0)) | ((with_reducible refine gC 22 rfl ?_); refine cG (some 76) Try.func22 #[] ?_; (with_reducible refine (recouplaw04_anchored.calls  true _ A47.out).mono ?_); rintro e w54 ⟨rfl, hb⟩; refine ⟨_, rfl, ?_⟩; replace HO_10 := kdB HO_10 hb; replace HO_12 := kdB HO_12 hb; replace HO_797002 := kdB HO_797002 hb; replace HO808 := kdB HO808 hb; replace BK779 := bkB BK779 hb; replace BK796 := bkB BK796 hb; replace HB := hbB HB hb; (try clear hb); (try clear hb2); (try clear hk); (try clear hi); obtain ⟨Ao55, co55, eo55⟩ := Kd.R_slice HO808.out; subst eo55) | (go_at_call 32; (with_reducible refine (recoupref01_Same.calls _ _ t806 _ _ t797 t811 _ ?side1 ?side2 ?side3 ?side4 A49.out).mono ?_); (case side1 => exact kcA (Kd.R_reads' HO808.out).2.2); (case side2 => exact (Kd.R_reads' HO808.out).2.1); (case side3 => exact kcA (Kd.R_reads' HO_10.out).2.2); (case side4 => exact (Kd.R_reads' HO_10.out).2.1); rintro e w' ⟨rfl, ⟨nd, rfl⟩⟩))
                go_ret
                exact ⟨rfE, hbA HB.out⟩
              · replace c48 := Bool.eq_false_iff.mpr c48
                subst c48
                rw [if_neg nofT] at H
                obtain rfl := Option.some.inj H
                have hnb56 := NB796_779.out
                have hnc56 := NB779_796.out
                obtain ⟨hcz57_0, hcz57_1, hcz57_2, hfz57_0, hfz57_1, hfz57_2⟩ := cell3 BK796
                obtain ⟨Ao58, co58, eo58⟩ := Kd.R_slice HO_12.out
                subst eo58
                go_wp2_with (first | ((with_reducible refine gC 33 rfl ?_); refine cG (some 73) Try.func33 #[.agg #[.int .i64 t790, .int .i64 t791, .slice Ao35 t792.length co35], .slice Ao58 t801.length co58] ?_; (with_reducible refine (recoupref03_Apply.calls kj28 t790 t791 _ _ t792 _ _ t801 t806 t809 _ ?side1 ?side2 ?side3 ?side4 A46.out).mono ?_); (case side1 => exact kcA (Kd.R_reads' HO_797002.out).2.2); (case side2 => exact (Kd.R_reads' HO_797002.out).2.1); (case side3 => exact kcA (Kd.R_reads' HO_12.out).2.2); (case side4 => exact (Kd.R_reads' HO_12.out).2.1); rintro e w59 ⟨v807, rfl, ho0, hb⟩; refine ⟨_, rfl, ?_⟩; have HO808 := Aside0.mk (Kd.R_lower (Kd.R_new' (Kd.R_new' (Kd.R_new' ho0 (Kd.R_lt (kdA HO_10.out))) (Kd.R_lt (kdA HO_12.out))) (Kd.R_lt (kdA HO_797002.out))) (below_size (hbA HB.out))); replace HO_10 := Aside0.mk (Kd.R_elder' (kdA HO_10.out) (Kd.R_base ho0) hb); replace HO_12 := Aside0.mk (Kd.R_elder' (kdA HO_12.out) (Kd.R_base ho0) hb); replace HO_797002 := Aside0.mk (Kd.R_elder' (kdA HO_797002.out) (Kd.R_base ho0) hb); replace BK779 := bkB BK779 hb; replace BK796 := bkB BK796 hb; replace HB := hbB HB hb; (try clear hb); (try clear hb2); (try clear hk); (try clear hi); (try clear ho0)) | ((with_reducible refine gC 22 rfl ?_); refine cG (some 76) Try.func22 #[] ?_; (with_reducible refine (recouplaw04_anchored.calls  false _ A47.out).mono ?_); rintro e w60 ⟨rfl, hb⟩; refine ⟨_, rfl, ?_⟩; replace HO_10 := kdB HO_10 hb; replace HO_12 := kdB HO_12 hb; replace HO_797002 := kdB HO_797002 hb; replace HO808 := kdB HO808 hb; replace BK779 := bkB BK779 hb; replace BK796 := bkB BK796 hb; replace HB := hbB HB hb; (try clear hb); (try clear hb2); (try clear hk); (try clear hi)))
                go_ret
                exact ⟨rfE, hbA HB.out⟩

end Go.Proofs.Ytccfbhnhedoggaa.Q
