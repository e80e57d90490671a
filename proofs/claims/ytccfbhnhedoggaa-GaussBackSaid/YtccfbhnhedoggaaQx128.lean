/- Written by drive.py (a program of this repo, over the kit's print): each Go function named here answers what the Lean function beside it answers, wherever that one answers, in every world that meets the stated premises. -/
import Derived.Test.YtccfbhnhedoggaaQx0
import Derived.Test.YtccfbhnhedoggaaQx151
namespace Go.Proofs.Ytccfbhnhedoggaa.Q
open Go.RowKit Go.Proofs.YtccfbhnhedoggaaW.PrintWords Go.Proofs.YtccfbhnhedoggaaW.PrintLast Go.Proofs.YtccfbhnhedoggaaW.PrintMore
attribute [local go_sem] max2_int min2_int max_two min_two max_three min_three max_four min_four   -- for this text's walks alone
set_option linter.unusedVariables false
set_option linter.unusedSimpArgs false

/-! ### recoupref03_Identity: function 28 -/
def recoupref03_Identity.l0 : Nat → Int → Int → Int → Int → Int → List Int → Option (Int × Int × List Int × Int)
  | 0, _, _, _, _, _, _ => none
  | k + 1, x0, x5, x6, x476000, x476001, x476002 => if x6 < x0 then (if x5 = 0 then (if 0 ≤ (wrap64 ((wrap64 (x6 * x0)) + x6)) then (if (wrap64 ((wrap64 (x6 * x0)) + x6)) < (x476002.length : Int) then (recoupref03_Identity.l0 k x0 x5 (wrap64 (x6 + 1)) x476000 x476001 (x476002.set ((wrap64 ((wrap64 (x6 * x0)) + x6)) : Int).toNat 1)) else (none)) else (none)) else (some (x476000, x476001, x476002, x5))) else (some (x476000, x476001, x476002, x5))
def recoupref03_Identity.f (k : Nat) (a0 : Int) : Option (Int × Int × List Int × Int) := (recoupref03_Make.f a0 a0).bind fun bt469 => (recoupref03_Identity.l0 k a0 bt469.2.2.2 0 bt469.1 bt469.2.1 bt469.2.2.1)
theorem recoupref03_Identity.mono_l : ∀ k, (∀ y0 y1 y2 y3 y4 y5, LeO (recoupref03_Identity.l0 k y0 y1 y2 y3 y4 y5) (recoupref03_Identity.l0 (k + 1) y0 y1 y2 y3 y4 y5))
  | 0 => fun _ _ _ _ _ _ r h => by simp [recoupref03_Identity.l0] at h
  | k + 1 => by
    have ih0 := recoupref03_Identity.mono_l k
    · intro y0 y1 y2 y3 y4 y5
      unfold recoupref03_Identity.l0
      repeat' first
      | (with_reducible exact ih0 _ _ _ _ _ _)
      | (with_reducible exact LeO.refl _)
      | (with_reducible exact LeO.none _)
      | (with_reducible refine LeO.ite ?_ ?_)
      | (with_reducible refine LeO.bind ?_ (fun _ => ?_))
      | exact ih0 _ _ _ _ _ _
      | exact LeO.none _
      | refine LeO.ite ?_ ?_
      | refine LeO.bind ?_ (fun _ => ?_)
theorem recoupref03_Identity.mono : ∀ a0 k, LeO (recoupref03_Identity.f k a0) (recoupref03_Identity.f (k + 1) a0) := by
  intro a0 k
  have ih0 := recoupref03_Identity.mono_l k
  unfold recoupref03_Identity.f
  repeat' first
      | (with_reducible exact ih0 _ _ _ _ _ _)
      | (with_reducible exact LeO.refl _)
      | (with_reducible exact LeO.none _)
      | (with_reducible refine LeO.ite ?_ ?_)
      | (with_reducible refine LeO.bind ?_ (fun _ => ?_))
      | exact ih0 _ _ _ _ _ _
      | exact LeO.none _
      | refine LeO.ite ?_ ?_
      | refine LeO.bind ?_ (fun _ => ?_)
set_option maxHeartbeats 8000000 in
set_option maxRecDepth 100000 in
theorem recoupref03_Identity.calls (k : Nat) (a0 : Int) (r1 : Int) (r2 : Int) (r3 : List Int) (r4 : Int) (w : World) (h : recoupref03_Identity.f k a0 = some (r1, r2, r3, r4)) :
    Calls Try.prog 28 #[.int .i64 a0] w fun e w' => ∃ v2_ : Value, e = .returned (.tuple #[.agg #[.int .i64 r1, .int .i64 r2, v2_], .int .i64 r4]) ∧ Kd.R (Kd.int .u8) 5 w' w.heap.size (fun _ => True) v2_ r3 ∧ Below w.heap.size w w' := by
  have hu24 := Try.underlying24
  have HB := Aside0.mk (Below.refl w.heap.size w)
  have H : ((recoupref03_Make.f a0 a0).bind fun bt469 => (recoupref03_Identity.l0 k a0 bt469.2.2.2 0 bt469.1 bt469.2.1 bt469.2.2.1)) = some (r1, r2, r3, r4) := h
  clear h
  obtain ⟨⟨t469, t470, t471, t474⟩, A2, H⟩ := bindO H
  (try dsimp only at H)
  have H' := Aside0.mk H
  clear H
  go_enter Try.func28, Try.ntmps28
  go_wp2_with (first | ((with_reducible refine gD 2 rfl ?_); refine bE 2 #[.int .i64 0, .int .i64 0, .slice none 0 0] 24 ?_; intro gb468 hg w3 hbox hb; have BK468 := Aside0.mk (hbox); have GW468 := hbS HB hg; have GE468 := hbS HB hg; replace HB := hbB HB hb; clear hb hbox hg) | ((with_reducible refine gC 51 rfl ?_); refine cG (some 10) Try.func51 #[.int .i64 a0, .int .i64 a0] ?_; (with_reducible refine (recoupref03_Make.calls a0 a0 t469 t470 t471 t474 _ A2.out).mono ?_); rintro e w4 ⟨v472, rfl, ho0, hb⟩; refine ⟨_, rfl, ?_⟩; have HO473 := Aside0.mk (Kd.R_lower ho0 (below_size (hbA HB.out))); replace BK468 := bkB BK468 hb; replace HB := hbB HB hb; (try clear hb); (try clear hb2); (try clear hk); (try clear hi); (try clear ho0)) | ((with_reducible refine gD 4 rfl ?_); refine bE 4 #[.int .i64 0, .int .i64 0, .slice none 0 0] 24 ?_; intro gb475 hg w5 hbox hb; replace HO473 := kdB HO473 hb; have BK475 := Aside0.mk (hbox); have GW475 := hbS HB hg; have GE475 := hbS HB hg; replace HB := hbB HB hb; have NB468_475 := neL BK468 hg; have NB475_468 := neG BK468 hg; replace BK468 := bkB BK468 hb; clear hb hbox hg; have hnb6 := NB475_468.out; have hnc6 := NB468_475.out; obtain ⟨hcz7_0, hcz7_1, hcz7_2, hfz7_0, hfz7_1, hfz7_2⟩ := cell3 BK475; obtain ⟨Ao8, co8, eo8⟩ := Kd.R_slice HO473.out; subst eo8))
  go_loopg [6] k (fun kq v6 w' => ∃ (x6_1 : Int) (x476002_1 : List Int) (u476002 : Value), v6 = .int .i64 x6_1 ∧ Aside0 (recoupref03_Identity.l0 kq a0 t474 x6_1 t469 t470 x476002_1 = some (r1, r2, r3, r4)) ∧ Aside0 (kq ≤ k) ∧ Aside0 (Kd.R (Kd.int .u8) 5 w' w.heap.size (fun _ => True) u476002 x476002_1) ∧ Aside0 (w'.heap[gb468]? = some (.cells #[.int .i64 0, .int .i64 0, (.slice none 0 0)] 24 (0, 0))) ∧ Aside0 (w'.heap[gb475]? = some (.cells #[.int .i64 t469, .int .i64 t470, u476002] 24 (0, 0))) ∧ Aside0 (Below w.heap.size w w'))
  case atStart => exact ⟨(0), (t471), (.slice Ao8 t471.length co8), rsE, H', ⟨Nat.le_refl _⟩, ⟨by (with_reducible repeat (first | apply Kd.R_alloc | apply Kd.R_drewN | apply Kd.R_drew)); exact Kd.R_mono (Kd.R_far (p := ⟨gb475, 2, none⟩) (Kd.R_far (p := ⟨gb475, 1, none⟩) (Kd.R_far (p := ⟨gb475, 0, none⟩) (Kd.R_types HO473.out BK475.out (by decide)) (fun _ hk => hk.2) (.int .i64 t469)) (fun _ hk => hk.2) (.int .i64 t470)) (fun _ hk => hk.2) (.slice Ao8 t471.length co8)) (fun _ hk => trivial)⟩, ⟨by refine bkR ?_; refine blk_far ?_ NB468_475.out _; refine bkR ?_; refine blk_far ?_ NB468_475.out _; refine bkR ?_; refine blk_far ?_ NB468_475.out _; refine bkR ?_; exact BK468.out⟩, ⟨by refine bkR ?_; refine blk_put (cs := #[.int .i64 t469, .int .i64 t470, .slice none 0 0]) ?_ 2 _ rfl; refine bkR ?_; refine blk_put (cs := #[.int .i64 t469, .int .i64 0, .slice none 0 0]) ?_ 1 _ rfl; refine bkR ?_; refine blk_put (cs := #[.int .i64 0, .int .i64 0, .slice none 0 0]) ?_ 0 _ rfl; refine bkR ?_; exact BK475.out⟩, ⟨hbA HB.out⟩⟩
  case round =>
    clear H'
    (try clear c2); (try clear p2); (try clear c5); (try clear c6); (try clear hcz7_0 hcz7_1 hcz7_2 hfz7_0 hfz7_1 hfz7_2)
    obtain ⟨x6_1, x476002_1, u476002, rfl, HA, HK1, HO_476002, BK468, BK475, HB⟩ := hrel
    cases gk with
    | zero => exact absurd HA.out (by simp [recoupref03_Identity.l0])
    | succ k1 =>
      have H := HA.out
      clear HA
      simp only [recoupref03_Identity.l0] at H
      by_cases c9 : x6_1 < a0
      · rw [if_pos c9] at H
        have c9b0 : decide (x6_1 < a0) = true := decide_eq_true c9
        clear c9
        by_cases c10 : t474 = 0
        · rw [if_pos c10] at H
          have c10b0 : (t474 == 0) = true := beq_iff_eq.mpr c10
          have c10b1 : (t474 != 0) = false := bne_eq_false_iff_eq.mpr c10
          clear c10
          obtain ⟨ji11, hji11⟩ : ∃ j_ : Int, (wrap64 ((wrap64 (x6_1 * a0)) + x6_1)) = j_ := ⟨_, rfl⟩
          replace H : (if 0 ≤ (ji11) then (if (ji11) < (x476002_1.length : Int) then (recoupref03_Identity.l0 k1 a0 t474 (wrap64 (x6_1 + 1)) t469 t470 (x476002_1.set ((ji11) : Int).toNat 1)) else (none)) else (none)) = some (r1, r2, r3, r4) := by first | (rw [hji11] at H; exact H) | (simp only [hji11] at H ⊢; exact H)
          have hji11w : (IntKind.i64.wrap ((wrap64 (x6_1 * a0)) + x6_1)) = ji11 := (i64_w _).trans hji11
          by_cases c12 : 0 ≤ (ji11)
          · rw [if_pos c12] at H
            have c12b0 : decide (0 ≤ (ji11)) = true := decide_eq_true c12
            clear c12
            by_cases c13 : (ji11) < (x476002_1.length : Int)
            · rw [if_pos c13] at H
              have c13b0 : decide ((ji11) < (x476002_1.length : Int)) = true := decide_eq_true c13
              clear c13
              obtain ⟨y476, hy476⟩ : ∃ y_ : List Int, y_ = (x476002_1.set ((ji11) : Int).toNat 1) := ⟨_, rfl⟩
              replace H : (recoupref03_Identity.l0 k1 a0 t474 (wrap64 (x6_1 + 1)) t469 t470 y476) = some (r1, r2, r3, r4) := by first | (rw [hy476]; with_reducible exact H) | (have H2_ := (Option.bind_some _ _).symm.trans H; rw [hy476]; with_reducible exact H2_) | (have H2_ := (Option.bind_some _ _).symm.trans H; with_reducible exact H2_) | with_reducible exact H | (rw [hy476]; exact H) | exact H
              have Ny476 := Aside0.mk hy476
              clear hy476
              have H' := Aside0.mk H
              clear H
              have hnb15 := NB475_468.out
              have hnc15 := NB468_475.out
              obtain ⟨hcz16_0, hcz16_1, hcz16_2, hfz16_0, hfz16_1, hfz16_2⟩ := cell3 BK475
              have p14 : 0 ≤ ((ji11) : Int) := of_decide_eq_true asE
              have q14 : ((ji11) : Int) < ((x476002_1.length : Int) : Int) := of_decide_eq_true asE
              obtain ⟨go14, co14, eo14, gb14, gl14, cl14, HG14⟩ := Kd.R_form HO_476002.out (by omega)
              (first | cases eo14 | (injection eo14 with ea_ en_ ec_; (first | subst ea_ | (injection ea_ with ea_; subst ea_)); subst ec_; clear en_))
              have GB14 := Aside0.mk gb14
              have GG14 := Aside0.mk HG14
              clear gb14 gl14 HG14
              obtain ⟨hx14_0, hf14_0⟩ := Kd.R_celln 0 HO_476002.out ((ji11) : Int) p14 q14
              replace p14 := eq_true p14
              replace q14 := eq_true q14
              have HP17 := Kd.R_putg HO_476002.out ((ji11) : Int) 1
              go_wp2_with (first | ((with_reducible refine gate_store (t := 5) (p := 29) rfl ?_); refine store_event (t := 5) (p := 29) (v := ?vo_w18) (w1 := (wr.setCell ⟨go14, ((ji11) : Int).toNat, none⟩ (.int .u8 1))) ?hg ?ho ?hn ?hr ?_; (case ho => rfl); (case hg => rfl); (case hn => rfl); (case hr => first | (go_simp; done) | (go_simp; rfl)); intro w18 hw; have hg : wr.grownBy w18 (some go14) := (by rw [hw]; exact HP17.2); have hp_ : Kd.R (Kd.int .u8) 5 w18 w.heap.size (fun _ => True) (.slice (some ⟨go14, 0, none⟩) x476002_1.length co14) y476 := (by rw [hw, Ny476.out]; exact HP17.1); clear HP17; replace BK468 := bkG BK468 hg (Kd.R_ne HO_476002.out BK468.out (by decide)); replace BK475 := bkG BK475 hg (Kd.R_ne HO_476002.out BK475.out (by decide)); replace HO_476002 := Aside0.mk (hp_); replace HB := Aside0.mk ((by rw [hw]; exact below_set (HB.out) GB14.out : Below w.heap.size w w18)); clear hg hw hp_))
              go_roundg k1
              case measure => have := HK1.out; omega
              case rel => exact ⟨(wrap64 (x6_1 + 1)), (y476), (.slice (some ⟨go14, 0, none⟩) x476002_1.length co14), rsE, H', ⟨by have := HK1.out; omega⟩, ⟨kdA HO_476002.out⟩, ⟨bkA BK468.out⟩, ⟨bkA BK475.out⟩, ⟨hbA HB.out⟩⟩
            · rw [if_neg c13] at H
              exact absurd H (by simp)
          · rw [if_neg c12] at H
            exact absurd H (by simp)
        · rw [if_neg c10] at H
          have c10b0 : (t474 == 0) = false := beq_eq_false_iff_ne.mpr c10
          have c10b1 : (t474 != 0) = true := bne_iff_ne.mpr c10
          simp only [Option.some.injEq, Prod.mk.injEq] at H
          obtain ⟨rfl, rfl, rfl, rfl⟩ := H
          have hnb19 := NB475_468.out
          have hnc19 := NB468_475.out
          obtain ⟨hcz20_0, hcz20_1, hcz20_2, hfz20_0, hfz20_1, hfz20_2⟩ := cell3 BK475
          obtain ⟨hcz21_0, hcz21_1, hcz21_2, hfz21_0, hfz21_1, hfz21_2⟩ := cell3 BK468
          obtain ⟨Ao22, co22, eo22⟩ := Kd.R_slice HO_476002.out
          subst eo22
          go_wp2
          refine bodyPost_ret (results_ct rfl _ _ gb468 24 #[.int .i64 t469, .int .i64 t470, .slice Ao22 x476002_1.length co22] (0, 0) _ rfl (by refine bkR ?_; refine blk_put (cs := #[.int .i64 t469, .int .i64 t470, .slice none 0 0]) ?_ 2 _ rfl; refine bkR ?_; refine blk_put (cs := #[.int .i64 t469, .int .i64 0, .slice none 0 0]) ?_ 1 _ rfl; refine bkR ?_; refine blk_put (cs := #[.int .i64 0, .int .i64 0, .slice none 0 0]) ?_ 0 _ rfl; refine bkR ?_; exact BK468.out) Try.underlying24 rfl (by kernel_rfl)) rfl ?_
          exact ⟨_, rfE, by (with_reducible repeat (first | apply Kd.R_alloc | apply Kd.R_drewN | apply Kd.R_drew)); exact Kd.R_mono (Kd.R_far (p := ⟨gb468, 2, none⟩) (Kd.R_far (p := ⟨gb468, 1, none⟩) (Kd.R_far (p := ⟨gb468, 0, none⟩) (Kd.R_types HO_476002.out BK468.out (by decide)) (fun _ hk => hk.2) (.int .i64 t469)) (fun _ hk => hk.2) (.int .i64 t470)) (fun _ hk => hk.2) (.slice Ao22 x476002_1.length co22)) (fun _ hk => trivial), hbA HB.out⟩
      · rw [if_neg c9] at H
        have c9b0 : decide (x6_1 < a0) = false := decide_eq_false c9
        clear c9
        simp only [Option.some.injEq, Prod.mk.injEq] at H
        obtain ⟨rfl, rfl, rfl, rfl⟩ := H
        have hnb23 := NB475_468.out
        have hnc23 := NB468_475.out
        obtain ⟨hcz24_0, hcz24_1, hcz24_2, hfz24_0, hfz24_1, hfz24_2⟩ := cell3 BK475
        obtain ⟨hcz25_0, hcz25_1, hcz25_2, hfz25_0, hfz25_1, hfz25_2⟩ := cell3 BK468
        obtain ⟨Ao26, co26, eo26⟩ := Kd.R_slice HO_476002.out
        subst eo26
        go_wp2
        refine bodyPost_ret (results_ct rfl _ _ gb468 24 #[.int .i64 t469, .int .i64 t470, .slice Ao26 x476002_1.length co26] (0, 0) _ rfl (by refine bkR ?_; refine blk_put (cs := #[.int .i64 t469, .int .i64 t470, .slice none 0 0]) ?_ 2 _ rfl; refine bkR ?_; refine blk_put (cs := #[.int .i64 t469, .int .i64 0, .slice none 0 0]) ?_ 1 _ rfl; refine bkR ?_; refine blk_put (cs := #[.int .i64 0, .int .i64 0, .slice none 0 0]) ?_ 0 _ rfl; refine bkR ?_; exact BK468.out) Try.underlying24 rfl (by kernel_rfl)) rfl ?_
        exact ⟨_, rfE, by (with_reducible repeat (first | apply Kd.R_alloc | apply Kd.R_drewN | apply Kd.R_drew)); exact Kd.R_mono (Kd.R_far (p := ⟨gb468, 2, none⟩) (Kd.R_far (p := ⟨gb468, 1, none⟩) (Kd.R_far (p := ⟨gb468, 0, none⟩) (Kd.R_types HO_476002.out BK468.out (by decide)) (fun _ hk => hk.2) (.int .i64 t469)) (fun _ hk => hk.2) (.int .i64 t470)) (fun _ hk => hk.2) (.slice Ao26 x476002_1.length co26)) (fun _ hk => trivial), hbA HB.out⟩

end Go.Proofs.Ytccfbhnhedoggaa.Q
