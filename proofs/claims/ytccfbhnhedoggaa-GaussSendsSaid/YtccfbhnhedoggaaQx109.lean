/- Written by drive.py (a program of this repo, over the kit's print): each Go function named here answers what the Lean function beside it answers, wherever that one answers, in every world that meets the stated premises. -/
import Derived.Test.YtccfbhnhedoggaaQx0
import Derived.Test.YtccfbhnhedoggaaQx116
import Derived.Test.YtccfbhnhedoggaaQx121
import Derived.Test.YtccfbhnhedoggaaQx122
import Derived.Test.YtccfbhnhedoggaaQx127
import Derived.Test.YtccfbhnhedoggaaQx130
import Derived.Test.YtccfbhnhedoggaaQx133
import Derived.Test.YtccfbhnhedoggaaQx134
namespace Go.Proofs.Ytccfbhnhedoggaa.Q
open Go.RowKit Go.Proofs.YtccfbhnhedoggaaW.PrintWords Go.Proofs.YtccfbhnhedoggaaW.PrintLast Go.Proofs.YtccfbhnhedoggaaW.PrintMore
attribute [local go_sem] max2_int min2_int max_two min_two max_three min_three max_four min_four   -- for this text's walks alone
set_option linter.unusedVariables false
set_option linter.unusedSimpArgs false

/-! ### recouplaw04_GaussSends: function 9 -/
mutual
def recouplaw04_GaussSends.j0 : Nat → List Int → Bool → Int → Int → List Int → Option (Bool)
  | 0, _, _, _, _, _ => none
  | k + 1, x1, x31, x580000, x580001, x580002 => if x31 = true then ((gauss_Solve.f 1 0 ([] : List Int) ([] : List Int)).bind fun bt581 => ((recouplaw04_anchored.f).bind fun t586 => (if t586 = true then (some (bt581.2.2 != 0)) else (some false)))) else ((recoupref03_Apply.f k x580000 x580001 x580002 x1).bind fun bt587 => ((gauss_Solve.f x580000 x580001 x580002 bt587.1).bind fun bt591 => ((gauss_Kernel.f k x580000 x580001 x580002).bind fun bt596 => (if bt591.2.2 = 0 then (if bt596.2.2.2 = 0 then (if bt591.2.1 = true then (if (bt591.1.length : Int) = x580001 then ((recoupref03_Right.f bt596.1 bt596.2.1 bt596.2.2.1).bind fun t603 => (if t603 = true then (recouplaw04_GaussSends.j1 k bt587.1 bt591.1 (bt596.2.1 != x580001) x580000 x580001 x580002 bt596.1 bt596.2.1 bt596.2.2.1) else (recouplaw04_GaussSends.j1 k bt587.1 bt591.1 true x580000 x580001 x580002 bt596.1 bt596.2.1 bt596.2.2.1))) else (recouplaw04_GaussSends.j1 k bt587.1 bt591.1 true x580000 x580001 x580002 bt596.1 bt596.2.1 bt596.2.2.1)) else (recouplaw04_GaussSends.j1 k bt587.1 bt591.1 true x580000 x580001 x580002 bt596.1 bt596.2.1 bt596.2.2.1)) else (recouplaw04_GaussSends.j1 k bt587.1 bt591.1 true x580000 x580001 x580002 bt596.1 bt596.2.1 bt596.2.2.1)) else (recouplaw04_GaussSends.j1 k bt587.1 bt591.1 true x580000 x580001 x580002 bt596.1 bt596.2.1 bt596.2.2.1)))))
def recouplaw04_GaussSends.j1 : Nat → List Int → List Int → Bool → Int → Int → List Int → Int → Int → List Int → Option (Bool)
  | 0, _, _, _, _, _, _, _, _, _ => none
  | k + 1, x8, x10, x89, x580000, x580001, x580002, x603000, x603001, x603002 => if x89 = true then (some false) else ((recoupref03_Apply.f k x580000 x580001 x580002 x10).bind fun bt604 => (recouplaw04_GaussSends.l0 k x8 bt604.1 0 x580000 x580001 x580002 x603000 x603001 x603002))
def recouplaw04_GaussSends.l0 : Nat → List Int → List Int → Int → Int → Int → List Int → Int → Int → List Int → Option (Bool)
  | 0, _, _, _, _, _, _, _, _, _ => none
  | k + 1, x8, x15, x17, x580000, x580001, x580002, x603000, x603001, x603002 => if x17 < x603000 then ((recoupref03_Row.f k x603000 x603001 x603002 x17).bind fun bt610 => ((recoupref03_Apply.f k x580000 x580001 x580002 bt610.1).bind fun bt614 => (if 0 ≤ x580000 then (if (x580000 : Int).toNat ≤ 281474976710656 then ((recoupref01_Same.f bt614.1 (List.replicate (x580000 : Int).toNat 0)).bind fun t621 => (if t621 = true then (recouplaw04_GaussSends.l0 k x8 x15 (wrap64 (x17 + 1)) x580000 x580001 x580002 x603000 x603001 x603002) else (some false))) else (none)) else (none)))) else ((recouplaw04_anchored.f).bind fun t608 => (if t608 = true then ((recoupref01_Same.f x15 x8).bind fun t609 => (some t609)) else (some false)))
end
def recouplaw04_GaussSends.f (k : Nat) (a0_0 : Int) (a0_1 : Int) (l0_2 : List Int) (l1 : List Int) : Option (Bool) := (recoupref03_Right.f a0_0 a0_1 l0_2).bind fun t580 => (if t580 = true then (recouplaw04_GaussSends.j0 k l1 ((l1.length : Int) != a0_1) a0_0 a0_1 l0_2) else (recouplaw04_GaussSends.j0 k l1 true a0_0 a0_1 l0_2))
theorem recouplaw04_GaussSends.mono_l : ∀ k, (∀ y0 y1 y2 y3 y4, LeO (recouplaw04_GaussSends.j0 k y0 y1 y2 y3 y4) (recouplaw04_GaussSends.j0 (k + 1) y0 y1 y2 y3 y4)) ∧ (∀ y0 y1 y2 y3 y4 y5 y6 y7 y8, LeO (recouplaw04_GaussSends.j1 k y0 y1 y2 y3 y4 y5 y6 y7 y8) (recouplaw04_GaussSends.j1 (k + 1) y0 y1 y2 y3 y4 y5 y6 y7 y8)) ∧ (∀ y0 y1 y2 y3 y4 y5 y6 y7 y8, LeO (recouplaw04_GaussSends.l0 k y0 y1 y2 y3 y4 y5 y6 y7 y8) (recouplaw04_GaussSends.l0 (k + 1) y0 y1 y2 y3 y4 y5 y6 y7 y8))
  | 0 => ⟨fun _ _ _ _ _ r h => by simp [recouplaw04_GaussSends.j0] at h, fun _ _ _ _ _ _ _ _ _ r h => by simp [recouplaw04_GaussSends.j1] at h, fun _ _ _ _ _ _ _ _ _ r h => by simp [recouplaw04_GaussSends.l0] at h⟩
  | k + 1 => by
    obtain ⟨ih0, ih1, ih2⟩ := recouplaw04_GaussSends.mono_l k
    refine ⟨?_, ?_, ?_⟩
    all_goals (intros; first | unfold recouplaw04_GaussSends.j0 | unfold recouplaw04_GaussSends.j1 | unfold recouplaw04_GaussSends.l0)
    all_goals repeat' first | (with_reducible exact ih0 _ _ _ _ _) | (with_reducible exact ih1 _ _ _ _ _ _ _ _ _) | (with_reducible exact ih2 _ _ _ _ _ _ _ _ _) | (with_reducible exact gauss_Kernel.mono _ _ _ _) | (with_reducible exact recoupref03_Apply.mono _ _ _ _ _) | (with_reducible exact recoupref03_Row.mono _ _ _ _ _) | (with_reducible exact LeO.refl _) | (with_reducible exact LeO.none _) | (with_reducible refine LeO.ite ?_ ?_) | (with_reducible refine LeO.bind ?_ (fun _ => ?_)) | exact ih0 _ _ _ _ _ | exact ih1 _ _ _ _ _ _ _ _ _ | exact ih2 _ _ _ _ _ _ _ _ _ | exact gauss_Kernel.mono _ _ _ _ | exact recoupref03_Apply.mono _ _ _ _ _ | exact recoupref03_Row.mono _ _ _ _ _ | exact LeO.none _ | refine LeO.ite ?_ ?_ | refine LeO.bind ?_ (fun _ => ?_)
theorem recouplaw04_GaussSends.mono : ∀ a0 a1 a2 a3 k, LeO (recouplaw04_GaussSends.f k a0 a1 a2 a3) (recouplaw04_GaussSends.f (k + 1) a0 a1 a2 a3) := by
  intro a0 a1 a2 a3 k
  obtain ⟨ih0, ih1, ih2⟩ := recouplaw04_GaussSends.mono_l k
  unfold recouplaw04_GaussSends.f
  repeat' first
      | (with_reducible exact ih0 _ _ _ _ _)
      | (with_reducible exact ih1 _ _ _ _ _ _ _ _ _)
      | (with_reducible exact ih2 _ _ _ _ _ _ _ _ _)
      | (with_reducible exact gauss_Kernel.mono _ _ _ _)
      | (with_reducible exact recoupref03_Apply.mono _ _ _ _ _)
      | (with_reducible exact recoupref03_Row.mono _ _ _ _ _)
      | (with_reducible exact LeO.refl _)
      | (with_reducible exact LeO.none _)
      | (with_reducible refine LeO.ite ?_ ?_)
      | (with_reducible refine LeO.bind ?_ (fun _ => ?_))
      | exact ih0 _ _ _ _ _
      | exact ih1 _ _ _ _ _ _ _ _ _
      | exact ih2 _ _ _ _ _ _ _ _ _
      | exact gauss_Kernel.mono _ _ _ _
      | exact recoupref03_Apply.mono _ _ _ _ _
      | exact recoupref03_Row.mono _ _ _ _ _
      | exact LeO.none _
      | refine LeO.ite ?_ ?_
      | refine LeO.bind ?_ (fun _ => ?_)
set_option maxHeartbeats 8000000 in
set_option maxRecDepth 100000 in
theorem recouplaw04_GaussSends.calls (k : Nat) (a0_0 : Int) (a0_1 : Int) (A0_2 : Option Addr) (c0_2 : Nat) (l0_2 : List Int) (A1 : Option Addr) (c1 : Nat) (l1 : List Int) (r : Bool) (w : World) (hr0_2 : Kd.C (Kd.int .u8) w A0_2 l0_2.length l0_2) (hc0_2 : l0_2.length ≤ c0_2) (hr1 : Kd.C (Kd.int .u8) w A1 l1.length l1) (hc1 : l1.length ≤ c1) (h : recouplaw04_GaussSends.f k a0_0 a0_1 l0_2 l1 = some r) :
    Calls Try.prog 9 #[.agg #[.int .i64 a0_0, .int .i64 a0_1, .slice A0_2 l0_2.length c0_2], .slice A1 l1.length c1] w fun e w' => e = .returned (.bool r) ∧ Below w.heap.size w w' := by
  have hu24 := Try.underlying24
  have HR0_2 := Aside0.mk hr0_2
  have HC0_2 := Aside0.mk hc0_2
  clear hr0_2 hc0_2
  have HR1 := Aside0.mk hr1
  have HC1 := Aside0.mk hc1
  clear hr1 hc1
  have HB := Aside0.mk (Below.refl w.heap.size w)
  have H : ((recoupref03_Right.f a0_0 a0_1 l0_2).bind fun t580 => (if t580 = true then (recouplaw04_GaussSends.j0 k l1 ((l1.length : Int) != a0_1) a0_0 a0_1 l0_2) else (recouplaw04_GaussSends.j0 k l1 true a0_0 a0_1 l0_2))) = some r := h
  clear h
  have HC3 := Aside0.mk H
  clear H
  go_enter Try.func9, Try.ntmps9
  go_upto_region 1 with (first | ((with_reducible refine gD 2 rfl ?_); (try (refine gate_guard (by rfl) ?_; dsimp only)); refine bE 2 #[.int .i64 a0_0, .int .i64 a0_1, .slice A0_2 l0_2.length c0_2] 24 ?_; intro gb579 hg w4 hbox hb; have BK579 := Aside0.mk (hbox); have GW579 := hbS HB hg; have GE579 := hbS HB hg; replace HB := hbB HB hb; clear hb hbox hg))
  (try simp only [Act.put, List.setIfInBounds_toArray, List.set_cons_zero, List.set_cons_succ])
  go_cut [31] (fun v31 wc => ∃ (kq : Nat) (x31_2 : Bool), v31 = .bool x31_2 ∧ Aside0 (recouplaw04_GaussSends.j0 kq l1 x31_2 a0_0 a0_1 l0_2 = some r) ∧ Aside0 (kq ≤ k) ∧ Aside0 (wc.heap[gb579]? = some (.cells #[.int .i64 a0_0, .int .i64 a0_1, (.slice A0_2 l0_2.length c0_2)] 24 (0, 0))) ∧ Aside0 (Below w.heap.size w wc))
  case first =>
    have H := HC3.out
    clear HC3
    obtain ⟨t580, A5, H⟩ := bindO H
    (try dsimp only at H)
    by_cases c6 : t580 = true
    · subst c6
      rw [if_pos rfl] at H
      have H' := Aside0.mk H
      clear H
      obtain ⟨hcz7_0, hcz7_1, hcz7_2, hfz7_0, hfz7_1, hfz7_2⟩ := cell3 BK579
      go_wp2_with (first | ((with_reducible refine gC 21 rfl ?_); refine cG (some 23) Try.func21 #[.agg #[.int .i64 a0_0, .int .i64 a0_1, .slice A0_2 l0_2.length c0_2]] ?_; (with_reducible refine (recoupref03_Right.calls a0_0 a0_1 _ _ l0_2 true _ ?side1 ?side2 A5.out).mono ?_); (case side1 => exact kcB HR0_2 HB); (case side2 => exact HC0_2.out); rintro e w8 ⟨rfl, hb⟩; refine ⟨_, rfl, ?_⟩; replace BK579 := bkB BK579 hb; replace HB := hbB HB hb; (try clear hb); (try clear hb2); (try clear hk); (try clear hi); obtain ⟨hcz9_0, hcz9_1, hcz9_2, hfz9_0, hfz9_1, hfz9_2⟩ := cell3 BK579))
      go_meet
      case rel => exact ⟨_, (((l1.length : Int) != a0_1)), rsE, H', ⟨leE⟩, ⟨bkA BK579.out⟩, ⟨hbA HB.out⟩⟩
    · replace c6 := Bool.eq_false_iff.mpr c6
      subst c6
      rw [if_neg nofT] at H
      have H' := Aside0.mk H
      clear H
      obtain ⟨hcz10_0, hcz10_1, hcz10_2, hfz10_0, hfz10_1, hfz10_2⟩ := cell3 BK579
      go_wp2_with (first | ((with_reducible refine gC 21 rfl ?_); refine cG (some 23) Try.func21 #[.agg #[.int .i64 a0_0, .int .i64 a0_1, .slice A0_2 l0_2.length c0_2]] ?_; (with_reducible refine (recoupref03_Right.calls a0_0 a0_1 _ _ l0_2 false _ ?side1 ?side2 A5.out).mono ?_); (case side1 => exact kcB HR0_2 HB); (case side2 => exact HC0_2.out); rintro e w11 ⟨rfl, hb⟩; refine ⟨_, rfl, ?_⟩; replace BK579 := bkB BK579 hb; replace HB := hbB HB hb; (try clear hb); (try clear hb2); (try clear hk); (try clear hi)))
      go_meet
      case rel => exact ⟨_, (true), rsE, H', ⟨leE⟩, ⟨bkA BK579.out⟩, ⟨hbA HB.out⟩⟩
  case rest =>
    clear HC3
    (try clear c1); (try clear c2); (try clear p2); (try clear c6); (try clear c9); (try clear hcz10_0 hcz10_1 hcz10_2 hfz10_0 hfz10_1 hfz10_2); (try clear hcz7_0 hcz7_1 hcz7_2 hfz7_0 hfz7_1 hfz7_2); (try clear hcz9_0 hcz9_1 hcz9_2 hfz9_0 hfz9_1 hfz9_2)
    obtain ⟨kq, x31_2, rfl, HA, HJ2, BK579, HB⟩ := hcut
    cases kq with
    | zero => exact absurd HA.out (by simp [recouplaw04_GaussSends.j0])
    | succ kj2 =>
      have H := HA.out
      clear HA
      simp only [recouplaw04_GaussSends.j0] at H
      by_cases c12 : x31_2 = true
      · subst c12
        rw [if_pos rfl] at H
        obtain ⟨⟨t581, t584, t585⟩, A13, H⟩ := bindO H
        (try dsimp only at H)
        obtain ⟨t586, A14, H⟩ := bindO H
        (try dsimp only at H)
        by_cases c15 : t586 = true
        · subst c15
          rw [if_pos rfl] at H
          obtain rfl := Option.some.inj H
          go_wp2_with (first | ((with_reducible refine gC 30 rfl ?_); refine cG (some 34) Try.func30 #[.agg #[.int .i64 1, .int .i64 0, .slice none 0 0], .slice none 0 0] ?_; (refine (gauss_Solve.calls 1 0 _ _ ([] : List Int) _ _ ([] : List Int) t581 t584 t585 _ ?side1 ?side2 ?side3 ?side4 A13.out).mono ?_); (case side1 => exact Kd.C_nil _ _); (case side2 => exact Nat.le_refl _); (case side3 => exact Kd.C_nil _ _); (case side4 => exact Nat.le_refl _); rintro e w16 ⟨v582, rfl, ho0, hb⟩; refine ⟨_, rfl, ?_⟩; have HO583 := Aside0.mk (Kd.R_lower ho0 (below_size (hbA HB.out))); replace BK579 := bkB BK579 hb; replace HB := hbB HB hb; (try clear hb); (try clear hb2); (try clear hk); (try clear hi); (try clear ho0)) | ((with_reducible refine gC 22 rfl ?_); refine cG (some 38) Try.func22 #[] ?_; (with_reducible refine (recouplaw04_anchored.calls  true _ A14.out).mono ?_); rintro e w17 ⟨rfl, hb⟩; refine ⟨_, rfl, ?_⟩; replace HO583 := kdB HO583 hb; replace BK579 := bkB BK579 hb; replace HB := hbB HB hb; (try clear hb); (try clear hb2); (try clear hk); (try clear hi)))
          go_ret
          exact ⟨rfE, hbA HB.out⟩
        · replace c15 := Bool.eq_false_iff.mpr c15
          subst c15
          rw [if_neg nofT] at H
          obtain rfl := Option.some.inj H
          go_wp2_with (first | ((with_reducible refine gC 30 rfl ?_); refine cG (some 34) Try.func30 #[.agg #[.int .i64 1, .int .i64 0, .slice none 0 0], .slice none 0 0] ?_; (refine (gauss_Solve.calls 1 0 _ _ ([] : List Int) _ _ ([] : List Int) t581 t584 t585 _ ?side1 ?side2 ?side3 ?side4 A13.out).mono ?_); (case side1 => exact Kd.C_nil _ _); (case side2 => exact Nat.le_refl _); (case side3 => exact Kd.C_nil _ _); (case side4 => exact Nat.le_refl _); rintro e w18 ⟨v582, rfl, ho0, hb⟩; refine ⟨_, rfl, ?_⟩; have HO583 := Aside0.mk (Kd.R_lower ho0 (below_size (hbA HB.out))); replace BK579 := bkB BK579 hb; replace HB := hbB HB hb; (try clear hb); (try clear hb2); (try clear hk); (try clear hi); (try clear ho0)) | ((with_reducible refine gC 22 rfl ?_); refine cG (some 38) Try.func22 #[] ?_; (with_reducible refine (recouplaw04_anchored.calls  false _ A14.out).mono ?_); rintro e w19 ⟨rfl, hb⟩; refine ⟨_, rfl, ?_⟩; replace HO583 := kdB HO583 hb; replace BK579 := bkB BK579 hb; replace HB := hbB HB hb; (try clear hb); (try clear hb2); (try clear hk); (try clear hi)))
          go_ret
          exact ⟨rfE, hbA HB.out⟩
      · replace c12 := Bool.eq_false_iff.mpr c12
        subst c12
        rw [if_neg nofT] at H
        obtain ⟨⟨t587, t590⟩, A20, H⟩ := bindO H
        (try dsimp only at H)
        obtain ⟨⟨t591, t594, t595⟩, A21, H⟩ := bindO H
        (try dsimp only at H)
        obtain ⟨⟨t596, t597, t598, t601⟩, A22, H⟩ := bindO H
        (try dsimp only at H)
        have HC23 := Aside0.mk H
        clear H
        obtain ⟨hcz24_0, hcz24_1, hcz24_2, hfz24_0, hfz24_1, hfz24_2⟩ := cell3 BK579
        go_upto_region 7 with (first | ((with_reducible refine gC 33 rfl ?_); refine cG (some 46) Try.func33 #[.agg #[.int .i64 a0_0, .int .i64 a0_1, .slice A0_2 l0_2.length c0_2], .slice A1 l1.length c1] ?_; (with_reducible refine (recoupref03_Apply.calls kj2 a0_0 a0_1 _ _ l0_2 _ _ l1 t587 t590 _ ?side1 ?side2 ?side3 ?side4 A20.out).mono ?_); (case side1 => exact kcB HR0_2 HB); (case side2 => exact HC0_2.out); (case side3 => exact kcB HR1 HB); (case side4 => exact HC1.out); rintro e w25 ⟨v588, rfl, ho0, hb⟩; refine ⟨_, rfl, ?_⟩; have HO589 := Aside0.mk (Kd.R_lower ho0 (below_size (hbA HB.out))); replace BK579 := bkB BK579 hb; replace HB := hbB HB hb; (try clear hb); (try clear hb2); (try clear hk); (try clear hi); (try clear ho0); obtain ⟨hcz26_0, hcz26_1, hcz26_2, hfz26_0, hfz26_1, hfz26_2⟩ := cell3 BK579; obtain ⟨Ao27, co27, eo27⟩ := Kd.R_slice HO589.out; subst eo27) | ((with_reducible refine gC 30 rfl ?_); refine cG (some 52) Try.func30 #[.agg #[.int .i64 a0_0, .int .i64 a0_1, .slice A0_2 l0_2.length c0_2], .slice Ao27 t587.length co27] ?_; (with_reducible refine (gauss_Solve.calls a0_0 a0_1 _ _ l0_2 _ _ t587 t591 t594 t595 _ ?side1 ?side2 ?side3 ?side4 A21.out).mono ?_); (case side1 => exact kcB HR0_2 HB); (case side2 => exact HC0_2.out); (case side3 => exact kcA (Kd.R_reads' HO589.out).2.2); (case side4 => exact (Kd.R_reads' HO589.out).2.1); rintro e w28 ⟨v592, rfl, ho0, hb⟩; refine ⟨_, rfl, ?_⟩; have HO593 := Aside0.mk (Kd.R_lower (Kd.R_new' ho0 (Kd.R_lt (kdA HO589.out))) (below_size (hbA HB.out))); replace HO589 := Aside0.mk (Kd.R_elder' (kdA HO589.out) (Kd.R_base ho0) hb); replace BK579 := bkB BK579 hb; replace HB := hbB HB hb; (try clear hb); (try clear hb2); (try clear hk); (try clear hi); (try clear ho0); obtain ⟨hcz29_0, hcz29_1, hcz29_2, hfz29_0, hfz29_1, hfz29_2⟩ := cell3 BK579) | ((with_reducible refine gC 27 rfl ?_); refine cG (some 58) Try.func27 #[.agg #[.int .i64 a0_0, .int .i64 a0_1, .slice A0_2 l0_2.length c0_2]] ?_; (with_reducible refine (gauss_Kernel.calls kj2 a0_0 a0_1 _ _ l0_2 t596 t597 t598 t601 _ ?side1 ?side2 A22.out).mono ?_); (case side1 => exact kcB HR0_2 HB); (case side2 => exact HC0_2.out); rintro e w30 ⟨v599, rfl, ho0, hb⟩; refine ⟨_, rfl, ?_⟩; have HO600 := Aside0.mk (Kd.R_lower (Kd.R_new' (Kd.R_new' ho0 (Kd.R_lt (kdA HO589.out))) (Kd.R_lt (kdA HO593.out))) (below_size (hbA HB.out))); replace HO589 := Aside0.mk (Kd.R_elder' (kdA HO589.out) (Kd.R_base ho0) hb); replace HO593 := Aside0.mk (Kd.R_elder' (kdA HO593.out) (Kd.R_base ho0) hb); replace BK579 := bkB BK579 hb; replace HB := hbB HB hb; (try clear hb); (try clear hb2); (try clear hk); (try clear hi); (try clear ho0)) | ((with_reducible refine gD 13 rfl ?_); (try (refine gate_guard (by rfl) ?_; dsimp only)); refine bE 13 #[.int .i64 0, .int .i64 0, .slice none 0 0] 24 ?_; intro gb602 hg w31 hbox hb; replace HO589 := kdB HO589 hb; replace HO593 := kdB HO593 hb; replace HO600 := kdB HO600 hb; have BK602 := Aside0.mk (hbox); have GW602 := hbS HB hg; have GE602 := hbS HB hg; replace HB := hbB HB hb; have NB579_602 := neL BK579 hg; have NB602_579 := neG BK579 hg; replace BK579 := bkB BK579 hb; clear hb hbox hg; have hnb32 := NB602_579.out; have hnc32 := NB579_602.out; obtain ⟨hcz33_0, hcz33_1, hcz33_2, hfz33_0, hfz33_1, hfz33_2⟩ := cell3 BK602; obtain ⟨Ao34, co34, eo34⟩ := Kd.R_slice HO600.out; subst eo34))
        (try simp only [Act.put, List.setIfInBounds_toArray, List.set_cons_zero, List.set_cons_succ])
        go_cut [89] (fun v89 wc => ∃ (kq : Nat) (x89_22 : Bool), v89 = .bool x89_22 ∧ Aside0 (recouplaw04_GaussSends.j1 kq t587 t591 x89_22 a0_0 a0_1 l0_2 t596 t597 t598 = some r) ∧ Aside0 (kq ≤ kj2) ∧ Aside0 (Kd.R (Kd.int .u8) 5 wc w.heap.size (fun k_ => some k_ ≠ (v592 : Value).ownBlock ∧ some k_ ≠ ((.slice Ao34 t598.length co34) : Value).ownBlock) (.slice Ao27 t587.length co27) t587) ∧ Aside0 (Kd.R (Kd.int .u8) 5 wc w.heap.size (fun k_ => some k_ ≠ ((.slice Ao27 t587.length co27) : Value).ownBlock ∧ some k_ ≠ ((.slice Ao34 t598.length co34) : Value).ownBlock) v592 t591) ∧ Aside0 (Kd.R (Kd.int .u8) 5 wc w.heap.size (fun k_ => some k_ ≠ ((.slice Ao27 t587.length co27) : Value).ownBlock ∧ some k_ ≠ (v592 : Value).ownBlock) (.slice Ao34 t598.length co34) t598) ∧ Aside0 (wc.heap[gb579]? = some (.cells #[.int .i64 a0_0, .int .i64 a0_1, (.slice A0_2 l0_2.length c0_2)] 24 (0, 0))) ∧ Aside0 (wc.heap[gb602]? = some (.cells #[.int .i64 t596, .int .i64 t597, (.slice Ao34 t598.length co34)] 24 (0, 0))) ∧ Aside0 (Below w.heap.size w wc))
        case first =>
          have H := HC23.out
          clear HC23
          by_cases c35 : t595 = 0
          · rw [if_pos c35] at H
            have c35b0 : (t595 == 0) = true := beq_iff_eq.mpr c35
            have c35b1 : (t595 != 0) = false := bne_eq_false_iff_eq.mpr c35
            clear c35
            (first | rw [c35b0] | (simp only [i64_w, i32_w]; rw [c35b0]) | skip)
            by_cases c36 : t601 = 0
            · rw [if_pos c36] at H
              have c36b0 : (t601 == 0) = true := beq_iff_eq.mpr c36
              have c36b1 : (t601 != 0) = false := bne_eq_false_iff_eq.mpr c36
              clear c36
              by_cases c37 : t594 = true
              · subst c37
                rw [if_pos rfl] at H
                by_cases c38 : (t591.length : Int) = a0_1
                · rw [if_pos c38] at H
                  have c38b0 : ((t591.length : Int) == a0_1) = true := beq_iff_eq.mpr c38
                  have c38b1 : ((t591.length : Int) != a0_1) = false := bne_eq_false_iff_eq.mpr c38
                  clear c38
                  obtain ⟨t603, A39, H⟩ := bindO H
                  (try dsimp only at H)
                  by_cases c40 : t603 = true
                  · subst c40
                    rw [if_pos rfl] at H
                    have H' := Aside0.mk H
                    clear H
                    obtain ⟨Ao41, co41, eo41⟩ := Kd.R_slice HO593.out
                    subst eo41
                    have hnb42 := NB579_602.out
                    have hnc42 := NB602_579.out
                    obtain ⟨hcz43_0, hcz43_1, hcz43_2, hfz43_0, hfz43_1, hfz43_2⟩ := cell3 BK579
                    obtain ⟨hcz44_0, hcz44_1, hcz44_2, hfz44_0, hfz44_1, hfz44_2⟩ := cell3 BK602
                    go_wp2_with (first | (go_at_call 21; (with_reducible refine (recoupref03_Right.calls t596 t597 _ _ t598 true _ ?side1 ?side2 A39.out).mono ?_); (case side1 => refine (Kd.R_reads' (e := 5) (base := w.heap.size) (ok := fun k_ => ((True ∧ some k_ ≠ (.slice Ao27 t587.length co27 : Value).ownBlock) ∧ some k_ ≠ (.slice Ao41 t591.length co41 : Value).ownBlock)) (n := t598.length) (c := co34) ?_).2.2; exact (by (with_reducible repeat (first | apply Kd.R_alloc | apply Kd.R_drewN | apply Kd.R_drew)); exact (Kd.R_mono (Kd.R_far (p := ⟨gb602, 2, none⟩) (Kd.R_far (p := ⟨gb602, 1, none⟩) (Kd.R_far (p := ⟨gb602, 0, none⟩) (Kd.R_types HO600.out BK602.out (by decide)) (fun _ hk => hk.2) (.int .i64 t596)) (fun _ hk => hk.2) (.int .i64 t597)) (fun _ hk => hk.2) (.slice Ao34 t598.length co34)) (fun _ h_ => h_.1)))); (case side2 => exact (Kd.R_reads' HO600.out).2.1); rintro e w45 ⟨rfl, hb⟩; replace HO589 := Aside0.mk (Kd.R_below (by (with_reducible repeat (first | apply Kd.R_alloc | apply Kd.R_drewN | apply Kd.R_drew)); exact (Kd.R_mono (Kd.R_far (p := ⟨gb602, 2, none⟩) (Kd.R_far (p := ⟨gb602, 1, none⟩) (Kd.R_far (p := ⟨gb602, 0, none⟩) (Kd.R_types HO589.out BK602.out (by decide)) (fun _ hk => hk.2) (.int .i64 t596)) (fun _ hk => hk.2) (.int .i64 t597)) (fun _ hk => hk.2) (.slice Ao34 t598.length co34)) (fun _ h_ => h_.1))) hb); replace HO593 := Aside0.mk (Kd.R_below (by (with_reducible repeat (first | apply Kd.R_alloc | apply Kd.R_drewN | apply Kd.R_drew)); exact (Kd.R_mono (Kd.R_far (p := ⟨gb602, 2, none⟩) (Kd.R_far (p := ⟨gb602, 1, none⟩) (Kd.R_far (p := ⟨gb602, 0, none⟩) (Kd.R_types HO593.out BK602.out (by decide)) (fun _ hk => hk.2) (.int .i64 t596)) (fun _ hk => hk.2) (.int .i64 t597)) (fun _ hk => hk.2) (.slice Ao34 t598.length co34)) (fun _ h_ => h_.1))) hb); replace HO600 := Aside0.mk (Kd.R_below (by (with_reducible repeat (first | apply Kd.R_alloc | apply Kd.R_drewN | apply Kd.R_drew)); exact (Kd.R_mono (Kd.R_far (p := ⟨gb602, 2, none⟩) (Kd.R_far (p := ⟨gb602, 1, none⟩) (Kd.R_far (p := ⟨gb602, 0, none⟩) (Kd.R_types HO600.out BK602.out (by decide)) (fun _ hk => hk.2) (.int .i64 t596)) (fun _ hk => hk.2) (.int .i64 t597)) (fun _ hk => hk.2) (.slice Ao34 t598.length co34)) (fun _ h_ => h_.1))) hb); replace BK579 := Aside0.mk (blk_below (g := gb579) (o := .cells #[.int .i64 a0_0, .int .i64 a0_1, .slice A0_2 l0_2.length c0_2] 24 (0, 0)) (by refine bkR ?_; refine blk_far ?_ NB579_602.out _; refine bkR ?_; refine blk_far ?_ NB579_602.out _; refine bkR ?_; refine blk_far ?_ NB579_602.out _; refine bkR ?_; exact BK579.out) hb); replace BK602 := Aside0.mk (blk_below (g := gb602) (o := .cells #[.int .i64 t596, .int .i64 t597, .slice Ao34 t598.length co34] 24 (0, 0)) (by refine bkR ?_; refine blk_put (cs := #[.int .i64 t596, .int .i64 t597, .slice none 0 0]) ?_ 2 _ rfl; refine bkR ?_; refine blk_put (cs := #[.int .i64 t596, .int .i64 0, .slice none 0 0]) ?_ 1 _ rfl; refine bkR ?_; refine blk_put (cs := #[.int .i64 0, .int .i64 0, .slice none 0 0]) ?_ 0 _ rfl; refine bkR ?_; exact BK602.out) hb); replace HB := hbB HB hb; (try clear hb); (try clear hb2); (try clear hk); (try clear hi); obtain ⟨hcz46_0, hcz46_1, hcz46_2, hfz46_0, hfz46_1, hfz46_2⟩ := cell3 BK602; obtain ⟨hcz47_0, hcz47_1, hcz47_2, hfz47_0, hfz47_1, hfz47_2⟩ := cell3 BK579))
                    go_meet
                    case rel => exact ⟨_, ((t597 != a0_1)), rsE, H', ⟨by have := HJ2.out; first | omega | exact Nat.le_refl _⟩, ⟨by (with_reducible repeat (first | apply Kd.R_alloc | apply Kd.R_drewN | apply Kd.R_drew)); exact Kd.R_mono HO589.out (fun _ hk => ⟨hk.1.2, hk.2⟩)⟩, ⟨by (with_reducible repeat (first | apply Kd.R_alloc | apply Kd.R_drewN | apply Kd.R_drew)); exact Kd.R_mono HO593.out (fun _ hk => ⟨hk.1.2, hk.2⟩)⟩, ⟨by (with_reducible repeat (first | apply Kd.R_alloc | apply Kd.R_drewN | apply Kd.R_drew)); exact Kd.R_mono HO600.out (fun _ hk => ⟨hk.1.2, hk.2⟩)⟩, ⟨bkA BK579.out⟩, ⟨bkA BK602.out⟩, ⟨hbA HB.out⟩⟩
                  · replace c40 := Bool.eq_false_iff.mpr c40
                    subst c40
                    rw [if_neg nofT] at H
                    have H' := Aside0.mk H
                    clear H
                    obtain ⟨Ao48, co48, eo48⟩ := Kd.R_slice HO593.out
                    subst eo48
                    have hnb49 := NB579_602.out
                    have hnc49 := NB602_579.out
                    obtain ⟨hcz50_0, hcz50_1, hcz50_2, hfz50_0, hfz50_1, hfz50_2⟩ := cell3 BK579
                    obtain ⟨hcz51_0, hcz51_1, hcz51_2, hfz51_0, hfz51_1, hfz51_2⟩ := cell3 BK602
                    go_wp2_with (first | (go_at_call 21; (with_reducible refine (recoupref03_Right.calls t596 t597 _ _ t598 false _ ?side1 ?side2 A39.out).mono ?_); (case side1 => refine (Kd.R_reads' (e := 5) (base := w.heap.size) (ok := fun k_ => ((True ∧ some k_ ≠ (.slice Ao27 t587.length co27 : Value).ownBlock) ∧ some k_ ≠ (.slice Ao48 t591.length co48 : Value).ownBlock)) (n := t598.length) (c := co34) ?_).2.2; exact (by (with_reducible repeat (first | apply Kd.R_alloc | apply Kd.R_drewN | apply Kd.R_drew)); exact (Kd.R_mono (Kd.R_far (p := ⟨gb602, 2, none⟩) (Kd.R_far (p := ⟨gb602, 1, none⟩) (Kd.R_far (p := ⟨gb602, 0, none⟩) (Kd.R_types HO600.out BK602.out (by decide)) (fun _ hk => hk.2) (.int .i64 t596)) (fun _ hk => hk.2) (.int .i64 t597)) (fun _ hk => hk.2) (.slice Ao34 t598.length co34)) (fun _ h_ => h_.1)))); (case side2 => exact (Kd.R_reads' HO600.out).2.1); rintro e w52 ⟨rfl, hb⟩; replace HO589 := Aside0.mk (Kd.R_below (by (with_reducible repeat (first | apply Kd.R_alloc | apply Kd.R_drewN | apply Kd.R_drew)); exact (Kd.R_mono (Kd.R_far (p := ⟨gb602, 2, none⟩) (Kd.R_far (p := ⟨gb602, 1, none⟩) (Kd.R_far (p := ⟨gb602, 0, none⟩) (Kd.R_types HO589.out BK602.out (by decide)) (fun _ hk => hk.2) (.int .i64 t596)) (fun _ hk => hk.2) (.int .i64 t597)) (fun _ hk => hk.2) (.slice Ao34 t598.length co34)) (fun _ h_ => h_.1))) hb); replace HO593 := Aside0.mk (Kd.R_below (by (with_reducible repeat (first | apply Kd.R_alloc | apply Kd.R_drewN | apply Kd.R_drew)); exact (Kd.R_mono (Kd.R_far (p := ⟨gb602, 2, none⟩) (Kd.R_far (p := ⟨gb602, 1, none⟩) (Kd.R_far (p := ⟨gb602, 0, none⟩) (Kd.R_types HO593.out BK602.out (by decide)) (fun _ hk => hk.2) (.int .i64 t596)) (fun _ hk => hk.2) (.int .i64 t597)) (fun _ hk => hk.2) (.slice Ao34 t598.length co34)) (fun _ h_ => h_.1))) hb); replace HO600 := Aside0.mk (Kd.R_below (by (with_reducible repeat (first | apply Kd.R_alloc | apply Kd.R_drewN | apply Kd.R_drew)); exact (Kd.R_mono (Kd.R_far (p := ⟨gb602, 2, none⟩) (Kd.R_far (p := ⟨gb602, 1, none⟩) (Kd.R_far (p := ⟨gb602, 0, none⟩) (Kd.R_types HO600.out BK602.out (by decide)) (fun _ hk => hk.2) (.int .i64 t596)) (fun _ hk => hk.2) (.int .i64 t597)) (fun _ hk => hk.2) (.slice Ao34 t598.length co34)) (fun _ h_ => h_.1))) hb); replace BK579 := Aside0.mk (blk_below (g := gb579) (o := .cells #[.int .i64 a0_0, .int .i64 a0_1, .slice A0_2 l0_2.length c0_2] 24 (0, 0)) (by refine bkR ?_; refine blk_far ?_ NB579_602.out _; refine bkR ?_; refine blk_far ?_ NB579_602.out _; refine bkR ?_; refine blk_far ?_ NB579_602.out _; refine bkR ?_; exact BK579.out) hb); replace BK602 := Aside0.mk (blk_below (g := gb602) (o := .cells #[.int .i64 t596, .int .i64 t597, .slice Ao34 t598.length co34] 24 (0, 0)) (by refine bkR ?_; refine blk_put (cs := #[.int .i64 t596, .int .i64 t597, .slice none 0 0]) ?_ 2 _ rfl; refine bkR ?_; refine blk_put (cs := #[.int .i64 t596, .int .i64 0, .slice none 0 0]) ?_ 1 _ rfl; refine bkR ?_; refine blk_put (cs := #[.int .i64 0, .int .i64 0, .slice none 0 0]) ?_ 0 _ rfl; refine bkR ?_; exact BK602.out) hb); replace HB := hbB HB hb; (try clear hb); (try clear hb2); (try clear hk); (try clear hi)))
                    go_meet
                    case rel => exact ⟨_, (true), rsE, H', ⟨by have := HJ2.out; first | omega | exact Nat.le_refl _⟩, ⟨by (with_reducible repeat (first | apply Kd.R_alloc | apply Kd.R_drewN | apply Kd.R_drew)); exact Kd.R_mono HO589.out (fun _ hk => ⟨hk.1.2, hk.2⟩)⟩, ⟨by (with_reducible repeat (first | apply Kd.R_alloc | apply Kd.R_drewN | apply Kd.R_drew)); exact Kd.R_mono HO593.out (fun _ hk => ⟨hk.1.2, hk.2⟩)⟩, ⟨by (with_reducible repeat (first | apply Kd.R_alloc | apply Kd.R_drewN | apply Kd.R_drew)); exact Kd.R_mono HO600.out (fun _ hk => ⟨hk.1.2, hk.2⟩)⟩, ⟨bkA BK579.out⟩, ⟨bkA BK602.out⟩, ⟨hbA HB.out⟩⟩
                · rw [if_neg c38] at H
                  have c38b0 : ((t591.length : Int) == a0_1) = false := beq_eq_false_iff_ne.mpr c38
                  have c38b1 : ((t591.length : Int) != a0_1) = true := bne_iff_ne.mpr c38
                  have H' := Aside0.mk H
                  clear H
                  obtain ⟨Ao53, co53, eo53⟩ := Kd.R_slice HO593.out
                  subst eo53
                  have hnb54 := NB579_602.out
                  have hnc54 := NB602_579.out
                  obtain ⟨hcz55_0, hcz55_1, hcz55_2, hfz55_0, hfz55_1, hfz55_2⟩ := cell3 BK579
                  go_wp2
                  go_meet
                  case rel => exact ⟨_, (true), rsE, H', ⟨by have := HJ2.out; first | omega | exact Nat.le_refl _⟩, ⟨by (with_reducible repeat (first | apply Kd.R_alloc | apply Kd.R_drewN | apply Kd.R_drew)); exact Kd.R_mono (Kd.R_far (p := ⟨gb602, 2, none⟩) (Kd.R_far (p := ⟨gb602, 1, none⟩) (Kd.R_far (p := ⟨gb602, 0, none⟩) (Kd.R_types HO589.out BK602.out (by decide)) (fun _ hk => hk.2) (.int .i64 t596)) (fun _ hk => hk.2) (.int .i64 t597)) (fun _ hk => hk.2) (.slice Ao34 t598.length co34)) (fun _ hk => ⟨hk.1.1.2, hk.1.2⟩)⟩, ⟨by (with_reducible repeat (first | apply Kd.R_alloc | apply Kd.R_drewN | apply Kd.R_drew)); exact Kd.R_mono (Kd.R_far (p := ⟨gb602, 2, none⟩) (Kd.R_far (p := ⟨gb602, 1, none⟩) (Kd.R_far (p := ⟨gb602, 0, none⟩) (Kd.R_types HO593.out BK602.out (by decide)) (fun _ hk => hk.2) (.int .i64 t596)) (fun _ hk => hk.2) (.int .i64 t597)) (fun _ hk => hk.2) (.slice Ao34 t598.length co34)) (fun _ hk => ⟨hk.1.1.2, hk.1.2⟩)⟩, ⟨by (with_reducible repeat (first | apply Kd.R_alloc | apply Kd.R_drewN | apply Kd.R_drew)); exact Kd.R_mono (Kd.R_far (p := ⟨gb602, 2, none⟩) (Kd.R_far (p := ⟨gb602, 1, none⟩) (Kd.R_far (p := ⟨gb602, 0, none⟩) (Kd.R_types HO600.out BK602.out (by decide)) (fun _ hk => hk.2) (.int .i64 t596)) (fun _ hk => hk.2) (.int .i64 t597)) (fun _ hk => hk.2) (.slice Ao34 t598.length co34)) (fun _ hk => ⟨hk.1.1.2, hk.1.2⟩)⟩, ⟨by refine bkR ?_; refine blk_far ?_ NB579_602.out _; refine bkR ?_; refine blk_far ?_ NB579_602.out _; refine bkR ?_; refine blk_far ?_ NB579_602.out _; refine bkR ?_; exact BK579.out⟩, ⟨by refine bkR ?_; refine blk_put (cs := #[.int .i64 t596, .int .i64 t597, .slice none 0 0]) ?_ 2 _ rfl; refine bkR ?_; refine blk_put (cs := #[.int .i64 t596, .int .i64 0, .slice none 0 0]) ?_ 1 _ rfl; refine bkR ?_; refine blk_put (cs := #[.int .i64 0, .int .i64 0, .slice none 0 0]) ?_ 0 _ rfl; refine bkR ?_; exact BK602.out⟩, ⟨hbA HB.out⟩⟩
              · replace c37 := Bool.eq_false_iff.mpr c37
                subst c37
                rw [if_neg nofT] at H
                have H' := Aside0.mk H
                clear H
                go_wp2
                go_meet
                case rel => exact ⟨_, (true), rsE, H', ⟨by have := HJ2.out; first | omega | exact Nat.le_refl _⟩, ⟨by (with_reducible repeat (first | apply Kd.R_alloc | apply Kd.R_drewN | apply Kd.R_drew)); exact Kd.R_mono (Kd.R_far (p := ⟨gb602, 2, none⟩) (Kd.R_far (p := ⟨gb602, 1, none⟩) (Kd.R_far (p := ⟨gb602, 0, none⟩) (Kd.R_types HO589.out BK602.out (by decide)) (fun _ hk => hk.2) (.int .i64 t596)) (fun _ hk => hk.2) (.int .i64 t597)) (fun _ hk => hk.2) (.slice Ao34 t598.length co34)) (fun _ hk => ⟨hk.1.1.2, hk.1.2⟩)⟩, ⟨by (with_reducible repeat (first | apply Kd.R_alloc | apply Kd.R_drewN | apply Kd.R_drew)); exact Kd.R_mono (Kd.R_far (p := ⟨gb602, 2, none⟩) (Kd.R_far (p := ⟨gb602, 1, none⟩) (Kd.R_far (p := ⟨gb602, 0, none⟩) (Kd.R_types HO593.out BK602.out (by decide)) (fun _ hk => hk.2) (.int .i64 t596)) (fun _ hk => hk.2) (.int .i64 t597)) (fun _ hk => hk.2) (.slice Ao34 t598.length co34)) (fun _ hk => ⟨hk.1.1.2, hk.1.2⟩)⟩, ⟨by (with_reducible repeat (first | apply Kd.R_alloc | apply Kd.R_drewN | apply Kd.R_drew)); exact Kd.R_mono (Kd.R_far (p := ⟨gb602, 2, none⟩) (Kd.R_far (p := ⟨gb602, 1, none⟩) (Kd.R_far (p := ⟨gb602, 0, none⟩) (Kd.R_types HO600.out BK602.out (by decide)) (fun _ hk => hk.2) (.int .i64 t596)) (fun _ hk => hk.2) (.int .i64 t597)) (fun _ hk => hk.2) (.slice Ao34 t598.length co34)) (fun _ hk => ⟨hk.1.1.2, hk.1.2⟩)⟩, ⟨by refine bkR ?_; refine blk_far ?_ NB579_602.out _; refine bkR ?_; refine blk_far ?_ NB579_602.out _; refine bkR ?_; refine blk_far ?_ NB579_602.out _; refine bkR ?_; exact BK579.out⟩, ⟨by refine bkR ?_; refine blk_put (cs := #[.int .i64 t596, .int .i64 t597, .slice none 0 0]) ?_ 2 _ rfl; refine bkR ?_; refine blk_put (cs := #[.int .i64 t596, .int .i64 0, .slice none 0 0]) ?_ 1 _ rfl; refine bkR ?_; refine blk_put (cs := #[.int .i64 0, .int .i64 0, .slice none 0 0]) ?_ 0 _ rfl; refine bkR ?_; exact BK602.out⟩, ⟨hbA HB.out⟩⟩
            · rw [if_neg c36] at H
              have c36b0 : (t601 == 0) = false := beq_eq_false_iff_ne.mpr c36
              have c36b1 : (t601 != 0) = true := bne_iff_ne.mpr c36
              have H' := Aside0.mk H
              clear H
              go_wp2
              go_meet
              case rel => exact ⟨_, (true), rsE, H', ⟨by have := HJ2.out; first | omega | exact Nat.le_refl _⟩, ⟨by (with_reducible repeat (first | apply Kd.R_alloc | apply Kd.R_drewN | apply Kd.R_drew)); exact Kd.R_mono (Kd.R_far (p := ⟨gb602, 2, none⟩) (Kd.R_far (p := ⟨gb602, 1, none⟩) (Kd.R_far (p := ⟨gb602, 0, none⟩) (Kd.R_types HO589.out BK602.out (by decide)) (fun _ hk => hk.2) (.int .i64 t596)) (fun _ hk => hk.2) (.int .i64 t597)) (fun _ hk => hk.2) (.slice Ao34 t598.length co34)) (fun _ hk => ⟨hk.1.1.2, hk.1.2⟩)⟩, ⟨by (with_reducible repeat (first | apply Kd.R_alloc | apply Kd.R_drewN | apply Kd.R_drew)); exact Kd.R_mono (Kd.R_far (p := ⟨gb602, 2, none⟩) (Kd.R_far (p := ⟨gb602, 1, none⟩) (Kd.R_far (p := ⟨gb602, 0, none⟩) (Kd.R_types HO593.out BK602.out (by decide)) (fun _ hk => hk.2) (.int .i64 t596)) (fun _ hk => hk.2) (.int .i64 t597)) (fun _ hk => hk.2) (.slice Ao34 t598.length co34)) (fun _ hk => ⟨hk.1.1.2, hk.1.2⟩)⟩, ⟨by (with_reducible repeat (first | apply Kd.R_alloc | apply Kd.R_drewN | apply Kd.R_drew)); exact Kd.R_mono (Kd.R_far (p := ⟨gb602, 2, none⟩) (Kd.R_far (p := ⟨gb602, 1, none⟩) (Kd.R_far (p := ⟨gb602, 0, none⟩) (Kd.R_types HO600.out BK602.out (by decide)) (fun _ hk => hk.2) (.int .i64 t596)) (fun _ hk => hk.2) (.int .i64 t597)) (fun _ hk => hk.2) (.slice Ao34 t598.length co34)) (fun _ hk => ⟨hk.1.1.2, hk.1.2⟩)⟩, ⟨by refine bkR ?_; refine blk_far ?_ NB579_602.out _; refine bkR ?_; refine blk_far ?_ NB579_602.out _; refine bkR ?_; refine blk_far ?_ NB579_602.out _; refine bkR ?_; exact BK579.out⟩, ⟨by refine bkR ?_; refine blk_put (cs := #[.int .i64 t596, .int .i64 t597, .slice none 0 0]) ?_ 2 _ rfl; refine bkR ?_; refine blk_put (cs := #[.int .i64 t596, .int .i64 0, .slice none 0 0]) ?_ 1 _ rfl; refine bkR ?_; refine blk_put (cs := #[.int .i64 0, .int .i64 0, .slice none 0 0]) ?_ 0 _ rfl; refine bkR ?_; exact BK602.out⟩, ⟨hbA HB.out⟩⟩
          · rw [if_neg c35] at H
            have c35b0 : (t595 == 0) = false := beq_eq_false_iff_ne.mpr c35
            have c35b1 : (t595 != 0) = true := bne_iff_ne.mpr c35
            (first | rw [c35b0] | (simp only [i64_w, i32_w]; rw [c35b0]) | skip)
            have H' := Aside0.mk H
            clear H
            go_wp2
            go_meet
            case rel => exact ⟨_, (true), rsE, H', ⟨by have := HJ2.out; first | omega | exact Nat.le_refl _⟩, ⟨by (with_reducible repeat (first | apply Kd.R_alloc | apply Kd.R_drewN | apply Kd.R_drew)); exact Kd.R_mono (Kd.R_far (p := ⟨gb602, 2, none⟩) (Kd.R_far (p := ⟨gb602, 1, none⟩) (Kd.R_far (p := ⟨gb602, 0, none⟩) (Kd.R_types HO589.out BK602.out (by decide)) (fun _ hk => hk.2) (.int .i64 t596)) (fun _ hk => hk.2) (.int .i64 t597)) (fun _ hk => hk.2) (.slice Ao34 t598.length co34)) (fun _ hk => ⟨hk.1.1.2, hk.1.2⟩)⟩, ⟨by (with_reducible repeat (first | apply Kd.R_alloc | apply Kd.R_drewN | apply Kd.R_drew)); exact Kd.R_mono (Kd.R_far (p := ⟨gb602, 2, none⟩) (Kd.R_far (p := ⟨gb602, 1, none⟩) (Kd.R_far (p := ⟨gb602, 0, none⟩) (Kd.R_types HO593.out BK602.out (by decide)) (fun _ hk => hk.2) (.int .i64 t596)) (fun _ hk => hk.2) (.int .i64 t597)) (fun _ hk => hk.2) (.slice Ao34 t598.length co34)) (fun _ hk => ⟨hk.1.1.2, hk.1.2⟩)⟩, ⟨by (with_reducible repeat (first | apply Kd.R_alloc | apply Kd.R_drewN | apply Kd.R_drew)); exact Kd.R_mono (Kd.R_far (p := ⟨gb602, 2, none⟩) (Kd.R_far (p := ⟨gb602, 1, none⟩) (Kd.R_far (p := ⟨gb602, 0, none⟩) (Kd.R_types HO600.out BK602.out (by decide)) (fun _ hk => hk.2) (.int .i64 t596)) (fun _ hk => hk.2) (.int .i64 t597)) (fun _ hk => hk.2) (.slice Ao34 t598.length co34)) (fun _ hk => ⟨hk.1.1.2, hk.1.2⟩)⟩, ⟨by refine bkR ?_; refine blk_far ?_ NB579_602.out _; refine bkR ?_; refine blk_far ?_ NB579_602.out _; refine bkR ?_; refine blk_far ?_ NB579_602.out _; refine bkR ?_; exact BK579.out⟩, ⟨by refine bkR ?_; refine blk_put (cs := #[.int .i64 t596, .int .i64 t597, .slice none 0 0]) ?_ 2 _ rfl; refine bkR ?_; refine blk_put (cs := #[.int .i64 t596, .int .i64 0, .slice none 0 0]) ?_ 1 _ rfl; refine bkR ?_; refine blk_put (cs := #[.int .i64 0, .int .i64 0, .slice none 0 0]) ?_ 0 _ rfl; refine bkR ?_; exact BK602.out⟩, ⟨hbA HB.out⟩⟩
        case rest =>
          clear HC23
          (try clear c1); (try clear c2); (try clear p2 p2); (try clear c3); (try clear c4); (try clear c5); (try clear c6); (try clear c9); (try clear c12); (try clear c15); (try clear c21); (try clear c22); (try clear c27); (try clear c30); (try clear c32); (try clear c33); (try clear c35); (try clear c35b0); (try clear c35b1); (try clear c36); (try clear c36b0); (try clear c36b1); (try clear c37); (try clear c38); (try clear c38b0); (try clear c38b1); (try clear c40); (try clear c42); (try clear c49); (try clear c54); (try clear hcz10_0 hcz10_1 hcz10_2 hfz10_0 hfz10_1 hfz10_2); (try clear hcz24_0 hcz24_1 hcz24_2 hfz24_0 hfz24_1 hfz24_2); (try clear hcz26_0 hcz26_1 hcz26_2 hfz26_0 hfz26_1 hfz26_2); (try clear hcz29_0 hcz29_1 hcz29_2 hfz29_0 hfz29_1 hfz29_2); (try clear hcz33_0 hcz33_1 hcz33_2 hfz33_0 hfz33_1 hfz33_2); (try clear hcz43_0 hcz43_1 hcz43_2 hfz43_0 hfz43_1 hfz43_2); (try clear hcz44_0 hcz44_1 hcz44_2 hfz44_0 hfz44_1 hfz44_2); (try clear hcz46_0 hcz46_1 hcz46_2 hfz46_0 hfz46_1 hfz46_2); (try clear hcz47_0 hcz47_1 hcz47_2 hfz47_0 hfz47_1 hfz47_2); (try clear hcz50_0 hcz50_1 hcz50_2 hfz50_0 hfz50_1 hfz50_2); (try clear hcz51_0 hcz51_1 hcz51_2 hfz51_0 hfz51_1 hfz51_2); (try clear hcz55_0 hcz55_1 hcz55_2 hfz55_0 hfz55_1 hfz55_2); (try clear hcz7_0 hcz7_1 hcz7_2 hfz7_0 hfz7_1 hfz7_2); (try clear hcz9_0 hcz9_1 hcz9_2 hfz9_0 hfz9_1 hfz9_2)
          obtain ⟨kq, x89_22, rfl, HA, HJ22, HO_8, HO_10, HO_603002, BK579, BK602, HB⟩ := hcut
          cases kq with
          | zero => exact absurd HA.out (by simp [recouplaw04_GaussSends.j1])
          | succ kj22 =>
            have H := HA.out
            clear HA
            simp only [recouplaw04_GaussSends.j1] at H
            by_cases c56 : x89_22 = true
            · subst c56
              rw [if_pos rfl] at H
              obtain rfl := Option.some.inj H
              go_wp2
              go_ret
              exact ⟨rfE, hbA HB.out⟩
            · replace c56 := Bool.eq_false_iff.mpr c56
              subst c56
              rw [if_neg nofT] at H
              obtain ⟨⟨t604, t607⟩, A57, H⟩ := bindO H
              (try dsimp only at H)
              have H' := Aside0.mk H
              clear H
              have hnb58 := NB579_602.out
              have hnc58 := NB602_579.out
              obtain ⟨hcz59_0, hcz59_1, hcz59_2, hfz59_0, hfz59_1, hfz59_2⟩ := cell3 BK579
              obtain ⟨Ao60, co60, eo60⟩ := Kd.R_slice HO_10.out
              subst eo60
              go_wp2_with (first | ((with_reducible refine gC 33 rfl ?_); refine cG (some 93) Try.func33 #[.agg #[.int .i64 a0_0, .int .i64 a0_1, .slice A0_2 l0_2.length c0_2], .slice Ao60 t591.length co60] ?_; (with_reducible refine (recoupref03_Apply.calls kj22 a0_0 a0_1 _ _ l0_2 _ _ t591 t604 t607 _ ?side1 ?side2 ?side3 ?side4 A57.out).mono ?_); (case side1 => exact kcB HR0_2 HB); (case side2 => exact HC0_2.out); (case side3 => exact kcA (Kd.R_reads' HO_10.out).2.2); (case side4 => exact (Kd.R_reads' HO_10.out).2.1); rintro e w61 ⟨v605, rfl, ho0, hb⟩; refine ⟨_, rfl, ?_⟩; have HO606 := Aside0.mk (Kd.R_lower (Kd.R_new' (Kd.R_new' (Kd.R_new' ho0 (Kd.R_lt (kdA HO_8.out))) (Kd.R_lt (kdA HO_10.out))) (Kd.R_lt (kdA HO_603002.out))) (below_size (hbA HB.out))); replace HO_8 := Aside0.mk (Kd.R_elder' (kdA HO_8.out) (Kd.R_base ho0) hb); replace HO_10 := Aside0.mk (Kd.R_elder' (kdA HO_10.out) (Kd.R_base ho0) hb); replace HO_603002 := Aside0.mk (Kd.R_elder' (kdA HO_603002.out) (Kd.R_base ho0) hb); replace BK579 := bkB BK579 hb; replace BK602 := bkB BK602 hb; replace HB := hbB HB hb; (try clear hb); (try clear hb2); (try clear hk); (try clear hi); (try clear ho0)))
              go_loopg [17] kj22 (fun kq v17 w' => ∃ (x17_3 : Int), v17 = .int .i64 x17_3 ∧ Aside0 (recouplaw04_GaussSends.l0 kq t587 t604 x17_3 a0_0 a0_1 l0_2 t596 t597 t598 = some r) ∧ Aside0 (kq ≤ kj22) ∧ Aside0 (Kd.R (Kd.int .u8) 5 w' w.heap.size (fun k_ => some k_ ≠ (v605 : Value).ownBlock ∧ some k_ ≠ ((.slice Ao34 t598.length co34) : Value).ownBlock) (.slice Ao27 t587.length co27) t587) ∧ Aside0 (Kd.R (Kd.int .u8) 5 w' w.heap.size (fun k_ => some k_ ≠ ((.slice Ao27 t587.length co27) : Value).ownBlock ∧ some k_ ≠ ((.slice Ao34 t598.length co34) : Value).ownBlock) v605 t604) ∧ Aside0 (Kd.R (Kd.int .u8) 5 w' w.heap.size (fun k_ => some k_ ≠ ((.slice Ao27 t587.length co27) : Value).ownBlock ∧ some k_ ≠ (v605 : Value).ownBlock) (.slice Ao34 t598.length co34) t598) ∧ Aside0 (w'.heap[gb579]? = some (.cells #[.int .i64 a0_0, .int .i64 a0_1, (.slice A0_2 l0_2.length c0_2)] 24 (0, 0))) ∧ Aside0 (w'.heap[gb602]? = some (.cells #[.int .i64 t596, .int .i64 t597, (.slice Ao34 t598.length co34)] 24 (0, 0))) ∧ Aside0 (Below w.heap.size w w'))
              case atStart => exact ⟨(0), rsE, H', ⟨Nat.le_refl _⟩, ⟨by (with_reducible repeat (first | apply Kd.R_alloc | apply Kd.R_drewN | apply Kd.R_drew)); exact Kd.R_mono HO_8.out (fun _ hk => ⟨hk.2, hk.1.2⟩)⟩, ⟨by (with_reducible repeat (first | apply Kd.R_alloc | apply Kd.R_drewN | apply Kd.R_drew)); exact Kd.R_mono HO606.out (fun _ hk => ⟨hk.1.1.2, hk.2⟩)⟩, ⟨by (with_reducible repeat (first | apply Kd.R_alloc | apply Kd.R_drewN | apply Kd.R_drew)); exact Kd.R_mono HO_603002.out (fun _ hk => ⟨hk.1.1, hk.2⟩)⟩, ⟨bkA BK579.out⟩, ⟨bkA BK602.out⟩, ⟨hbA HB.out⟩⟩
              case round =>
                clear H'
                (try clear c1); (try clear c2); (try clear p2 p2); (try clear c3); (try clear c4); (try clear c5); (try clear c6); (try clear c9); (try clear c12); (try clear c15); (try clear c21); (try clear c22); (try clear c27); (try clear c30); (try clear c32); (try clear c33); (try clear c35); (try clear c35b0); (try clear c35b1); (try clear c36); (try clear c36b0); (try clear c36b1); (try clear c37); (try clear c38); (try clear c38b0); (try clear c38b1); (try clear c40); (try clear c42); (try clear c49); (try clear c54); (try clear c56); (try clear c58); (try clear hcz10_0 hcz10_1 hcz10_2 hfz10_0 hfz10_1 hfz10_2); (try clear hcz24_0 hcz24_1 hcz24_2 hfz24_0 hfz24_1 hfz24_2); (try clear hcz26_0 hcz26_1 hcz26_2 hfz26_0 hfz26_1 hfz26_2); (try clear hcz29_0 hcz29_1 hcz29_2 hfz29_0 hfz29_1 hfz29_2); (try clear hcz33_0 hcz33_1 hcz33_2 hfz33_0 hfz33_1 hfz33_2); (try clear hcz43_0 hcz43_1 hcz43_2 hfz43_0 hfz43_1 hfz43_2); (try clear hcz44_0 hcz44_1 hcz44_2 hfz44_0 hfz44_1 hfz44_2); (try clear hcz46_0 hcz46_1 hcz46_2 hfz46_0 hfz46_1 hfz46_2); (try clear hcz47_0 hcz47_1 hcz47_2 hfz47_0 hfz47_1 hfz47_2); (try clear hcz50_0 hcz50_1 hcz50_2 hfz50_0 hfz50_1 hfz50_2); (try clear hcz51_0 hcz51_1 hcz51_2 hfz51_0 hfz51_1 hfz51_2); (try clear hcz55_0 hcz55_1 hcz55_2 hfz55_0 hfz55_1 hfz55_2); (try clear hcz59_0 hcz59_1 hcz59_2 hfz59_0 hfz59_1 hfz59_2); (try clear hcz7_0 hcz7_1 hcz7_2 hfz7_0 hfz7_1 hfz7_2); (try clear hcz9_0 hcz9_1 hcz9_2 hfz9_0 hfz9_1 hfz9_2)
                obtain ⟨x17_3, rfl, HA, HK3, HO_8, HO_15, HO_603002, BK579, BK602, HB⟩ := hrel
                cases gk with
                | zero => exact absurd HA.out (by simp [recouplaw04_GaussSends.l0])
                | succ k3 =>
                  have H := HA.out
                  clear HA
                  simp only [recouplaw04_GaussSends.l0] at H
                  by_cases c62 : x17_3 < t596
                  · rw [if_pos c62] at H
                    have c62b0 : decide (x17_3 < t596) = true := decide_eq_true c62
                    clear c62
                    obtain ⟨⟨t610, t613⟩, A63, H⟩ := bindO H
                    (try dsimp only at H)
                    obtain ⟨⟨t614, t617⟩, A64, H⟩ := bindO H
                    (try dsimp only at H)
                    by_cases c65 : 0 ≤ a0_0
                    · rw [if_pos c65] at H
                      have c65b0 := eq_true c65
                      have c65b1 : decide (0 ≤ a0_0) = true := decide_eq_true c65
                      clear c65
                      by_cases c66 : (a0_0 : Int).toNat ≤ 281474976710656
                      · rw [if_pos c66] at H
                        have c66b0 := eq_true c66
                        have c66b1 : decide ((a0_0 : Int).toNat ≤ 281474976710656) = true := decide_eq_true c66
                        clear c66
                        obtain ⟨y618, hy618⟩ : ∃ y_ : List Int, y_ = (List.replicate (a0_0 : Int).toNat 0) := ⟨_, rfl⟩
                        replace H : ((recoupref01_Same.f t614 y618).bind fun t621 => (if t621 = true then (recouplaw04_GaussSends.l0 k3 t587 t604 (wrap64 (x17_3 + 1)) a0_0 a0_1 l0_2 t596 t597 t598) else (some false))) = some r := by first | (rw [hy618]; with_reducible exact H) | (have H2_ := (Option.bind_some _ _).symm.trans H; rw [hy618]; with_reducible exact H2_) | (have H2_ := (Option.bind_some _ _).symm.trans H; with_reducible exact H2_) | with_reducible exact H | (rw [hy618]; exact H) | exact H
                        have Ny618 := Aside0.mk hy618
                        clear hy618
                        obtain ⟨t621, A67, H⟩ := bindO H
                        (try dsimp only at H)
                        by_cases c68 : t621 = true
                        · subst c68
                          rw [if_pos rfl] at H
                          have H' := Aside0.mk H
                          clear H
                          have hnb69 := NB602_579.out
                          have hnc69 := NB579_602.out
                          obtain ⟨hcz70_0, hcz70_1, hcz70_2, hfz70_0, hfz70_1, hfz70_2⟩ := cell3 BK602
                          go_wp2_with (first | ((with_reducible refine gC 34 rfl ?_); refine cG (some 105) Try.func34 #[.agg #[.int .i64 t596, .int .i64 t597, .slice Ao34 t598.length co34], .int .i64 x17_3] ?_; (with_reducible refine (recoupref03_Row.calls k3 t596 t597 _ _ t598 x17_3 t610 t613 _ ?side1 ?side2 A63.out).mono ?_); (case side1 => exact kcA (Kd.R_reads' HO_603002.out).2.2); (case side2 => exact (Kd.R_reads' HO_603002.out).2.1); rintro e w71 ⟨v611, rfl, ho0, hb⟩; refine ⟨_, rfl, ?_⟩; have HO612 := Aside0.mk (Kd.R_lower (Kd.R_new' (Kd.R_new' (Kd.R_new' ho0 (Kd.R_lt (kdA HO_8.out))) (Kd.R_lt (kdA HO_15.out))) (Kd.R_lt (kdA HO_603002.out))) (below_size (hbA HB.out))); replace HO_8 := Aside0.mk (Kd.R_elder' (kdA HO_8.out) (Kd.R_base ho0) hb); replace HO_15 := Aside0.mk (Kd.R_elder' (kdA HO_15.out) (Kd.R_base ho0) hb); replace HO_603002 := Aside0.mk (Kd.R_elder' (kdA HO_603002.out) (Kd.R_base ho0) hb); replace BK579 := bkB BK579 hb; replace BK602 := bkB BK602 hb; replace HB := hbB HB hb; (try clear hb); (try clear hb2); (try clear hk); (try clear hi); (try clear ho0); obtain ⟨hcz72_0, hcz72_1, hcz72_2, hfz72_0, hfz72_1, hfz72_2⟩ := cell3 BK579; obtain ⟨Ao73, co73, eo73⟩ := Kd.R_slice HO612.out; subst eo73) | ((with_reducible refine gC 33 rfl ?_); refine cG (some 111) Try.func33 #[.agg #[.int .i64 a0_0, .int .i64 a0_1, .slice A0_2 l0_2.length c0_2], .slice Ao73 t610.length co73] ?_; (with_reducible refine (recoupref03_Apply.calls k3 a0_0 a0_1 _ _ l0_2 _ _ t610 t614 t617 _ ?side1 ?side2 ?side3 ?side4 A64.out).mono ?_); (case side1 => exact kcB HR0_2 HB); (case side2 => exact HC0_2.out); (case side3 => exact kcA (Kd.R_reads' HO612.out).2.2); (case side4 => exact (Kd.R_reads' HO612.out).2.1); rintro e w74 ⟨v615, rfl, ho0, hb⟩; refine ⟨_, rfl, ?_⟩; have HO616 := Aside0.mk (Kd.R_lower (Kd.R_new' (Kd.R_new' (Kd.R_new' (Kd.R_new' ho0 (Kd.R_lt (kdA HO_8.out))) (Kd.R_lt (kdA HO_15.out))) (Kd.R_lt (kdA HO_603002.out))) (Kd.R_lt (kdA HO612.out))) (below_size (hbA HB.out))); replace HO_8 := Aside0.mk (Kd.R_elder' (kdA HO_8.out) (Kd.R_base ho0) hb); replace HO_15 := Aside0.mk (Kd.R_elder' (kdA HO_15.out) (Kd.R_base ho0) hb); replace HO_603002 := Aside0.mk (Kd.R_elder' (kdA HO_603002.out) (Kd.R_base ho0) hb); replace HO612 := Aside0.mk (Kd.R_elder' (kdA HO612.out) (Kd.R_base ho0) hb); replace BK579 := bkB BK579 hb; replace BK602 := bkB BK602 hb; replace HB := hbB HB hb; (try clear hb); (try clear hb2); (try clear hk); (try clear hi); (try clear ho0); obtain ⟨hcz75_0, hcz75_1, hcz75_2, hfz75_0, hfz75_1, hfz75_2⟩ := cell3 BK579) | ((with_reducible refine gate_dst (N := 117) rfl ?_); (try (refine gate_guard (by rfl) ?_; dsimp only)); refine Kd.R_make (Kd.int .u8) _ 5 rfl (N := 117) rfl 22 _ _ rfl a0_0 rfl rfl Try.underlying22 (.int .u8 0) 1 info5 rfl (by decide) (by omega) 0 (ok := fun _ => True) (okp := fun _ => True) rfl (fun _ hk => hk) trivial (of_decide_eq_true asE) (Nat.le_trans (Nat.mul_le_mul_right _ (of_decide_eq_true asE : a0_0.toNat ≤ 281474976710656)) (by omega)) (Below.refl _ _) (Nat.le_refl _) ?_; intro v619 w76 ho77 hb hg_ hnew_; clear hg_ hnew_; (first | rw [← Ny618.out] at ho77 | (simp only [Int.reduceToNat] at ho77; rw [← Ny618.out] at ho77)); have HO620 := Aside0.mk (Kd.R_lower (Kd.R_new' (Kd.R_new' (Kd.R_new' (Kd.R_new' (Kd.R_new' ho77 (Kd.R_lt (kdA HO_8.out))) (Kd.R_lt (kdA HO_15.out))) (Kd.R_lt (kdA HO_603002.out))) (Kd.R_lt (kdA HO612.out))) (Kd.R_lt (kdA HO616.out))) (below_size (hbA HB.out))); replace HO_8 := Aside0.mk (Kd.R_elder' (kdA HO_8.out) (Kd.R_base ho77) hb); replace HO_15 := Aside0.mk (Kd.R_elder' (kdA HO_15.out) (Kd.R_base ho77) hb); replace HO_603002 := Aside0.mk (Kd.R_elder' (kdA HO_603002.out) (Kd.R_base ho77) hb); replace HO612 := Aside0.mk (Kd.R_elder' (kdA HO612.out) (Kd.R_base ho77) hb); replace HO616 := Aside0.mk (Kd.R_elder' (kdA HO616.out) (Kd.R_base ho77) hb); replace BK579 := bkB BK579 hb; replace BK602 := bkB BK602 hb; replace HB := hbB HB hb; clear hb ho77; obtain ⟨Ao78, co78, eo78⟩ := Kd.R_slice HO616.out; subst eo78; obtain ⟨Ao79, co79, eo79⟩ := Kd.R_slice HO620.out; subst eo79) | ((with_reducible refine gC 32 rfl ?_); refine cG (some 118) Try.func32 #[.slice Ao78 t614.length co78, .slice Ao79 y618.length co79] ?_; (with_reducible refine (recoupref01_Same.calls _ _ t614 _ _ y618 true _ ?side1 ?side2 ?side3 ?side4 A67.out).mono ?_); (case side1 => exact kcA (Kd.R_reads' HO616.out).2.2); (case side2 => exact (Kd.R_reads' HO616.out).2.1); (case side3 => exact kcA (Kd.R_reads' HO620.out).2.2); (case side4 => exact (Kd.R_reads' HO620.out).2.1); rintro e w' ⟨rfl, ⟨nd, rfl⟩⟩; refine ⟨_, rfl, ?_⟩))
                          go_roundg k3
                          case measure => have := HJ2.out; have := HJ22.out; have := HK3.out; omega
                          case rel => exact ⟨(wrap64 (x17_3 + 1)), rsE, H', ⟨by have := HJ2.out; have := HJ22.out; have := HK3.out; omega⟩, ⟨by (with_reducible repeat (first | apply Kd.R_alloc | apply Kd.R_drewN | apply Kd.R_drew)); exact Kd.R_mono HO_8.out (fun _ hk => ⟨hk.1.1.1.1, hk.1.1.1.2⟩)⟩, ⟨by (with_reducible repeat (first | apply Kd.R_alloc | apply Kd.R_drewN | apply Kd.R_drew)); exact Kd.R_mono HO_15.out (fun _ hk => ⟨hk.1.1.1.1, hk.1.1.1.2⟩)⟩, ⟨by (with_reducible repeat (first | apply Kd.R_alloc | apply Kd.R_drewN | apply Kd.R_drew)); exact Kd.R_mono HO_603002.out (fun _ hk => ⟨hk.1.1.1.1, hk.1.1.1.2⟩)⟩, ⟨bkA BK579.out⟩, ⟨bkA BK602.out⟩, ⟨hbA HB.out⟩⟩
                        · replace c68 := Bool.eq_false_iff.mpr c68
                          subst c68
                          rw [if_neg nofT] at H
                          obtain rfl := Option.some.inj H
                          have hnb80 := NB602_579.out
                          have hnc80 := NB579_602.out
                          obtain ⟨hcz81_0, hcz81_1, hcz81_2, hfz81_0, hfz81_1, hfz81_2⟩ := cell3 BK602
                          go_wp2_with (first | ((with_reducible refine gC 34 rfl ?_); refine cG (some 105) Try.func34 #[.agg #[.int .i64 t596, .int .i64 t597, .slice Ao34 t598.length co34], .int .i64 x17_3] ?_; (with_reducible refine (recoupref03_Row.calls k3 t596 t597 _ _ t598 x17_3 t610 t613 _ ?side1 ?side2 A63.out).mono ?_); (case side1 => exact kcA (Kd.R_reads' HO_603002.out).2.2); (case side2 => exact (Kd.R_reads' HO_603002.out).2.1); rintro e w82 ⟨v611, rfl, ho0, hb⟩; refine ⟨_, rfl, ?_⟩; have HO612 := Aside0.mk (Kd.R_lower (Kd.R_new' (Kd.R_new' (Kd.R_new' ho0 (Kd.R_lt (kdA HO_8.out))) (Kd.R_lt (kdA HO_15.out))) (Kd.R_lt (kdA HO_603002.out))) (below_size (hbA HB.out))); replace HO_8 := Aside0.mk (Kd.R_elder' (kdA HO_8.out) (Kd.R_base ho0) hb); replace HO_15 := Aside0.mk (Kd.R_elder' (kdA HO_15.out) (Kd.R_base ho0) hb); replace HO_603002 := Aside0.mk (Kd.R_elder' (kdA HO_603002.out) (Kd.R_base ho0) hb); replace BK579 := bkB BK579 hb; replace BK602 := bkB BK602 hb; replace HB := hbB HB hb; (try clear hb); (try clear hb2); (try clear hk); (try clear hi); (try clear ho0); obtain ⟨hcz83_0, hcz83_1, hcz83_2, hfz83_0, hfz83_1, hfz83_2⟩ := cell3 BK579; obtain ⟨Ao84, co84, eo84⟩ := Kd.R_slice HO612.out; subst eo84) | ((with_reducible refine gC 33 rfl ?_); refine cG (some 111) Try.func33 #[.agg #[.int .i64 a0_0, .int .i64 a0_1, .slice A0_2 l0_2.length c0_2], .slice Ao84 t610.length co84] ?_; (with_reducible refine (recoupref03_Apply.calls k3 a0_0 a0_1 _ _ l0_2 _ _ t610 t614 t617 _ ?side1 ?side2 ?side3 ?side4 A64.out).mono ?_); (case side1 => exact kcB HR0_2 HB); (case side2 => exact HC0_2.out); (case side3 => exact kcA (Kd.R_reads' HO612.out).2.2); (case side4 => exact (Kd.R_reads' HO612.out).2.1); rintro e w85 ⟨v615, rfl, ho0, hb⟩; refine ⟨_, rfl, ?_⟩; have HO616 := Aside0.mk (Kd.R_lower (Kd.R_new' (Kd.R_new' (Kd.R_new' (Kd.R_new' ho0 (Kd.R_lt (kdA HO_8.out))) (Kd.R_lt (kdA HO_15.out))) (Kd.R_lt (kdA HO_603002.out))) (Kd.R_lt (kdA HO612.out))) (below_size (hbA HB.out))); replace HO_8 := Aside0.mk (Kd.R_elder' (kdA HO_8.out) (Kd.R_base ho0) hb); replace HO_15 := Aside0.mk (Kd.R_elder' (kdA HO_15.out) (Kd.R_base ho0) hb); replace HO_603002 := Aside0.mk (Kd.R_elder' (kdA HO_603002.out) (Kd.R_base ho0) hb); replace HO612 := Aside0.mk (Kd.R_elder' (kdA HO612.out) (Kd.R_base ho0) hb); replace BK579 := bkB BK579 hb; replace BK602 := bkB BK602 hb; replace HB := hbB HB hb; (try clear hb); (try clear hb2); (try clear hk); (try clear hi); (try clear ho0); obtain ⟨hcz86_0, hcz86_1, hcz86_2, hfz86_0, hfz86_1, hfz86_2⟩ := cell3 BK579) | ((with_reducible refine gate_dst (N := 117) rfl ?_); (try (refine gate_guard (by rfl) ?_; dsimp only)); refine Kd.R_make (Kd.int .u8) _ 5 rfl (N := 117) rfl 22 _ _ rfl a0_0 rfl rfl Try.underlying22 (.int .u8 0) 1 info5 rfl (by decide) (by omega) 0 (ok := fun _ => True) (okp := fun _ => True) rfl (fun _ hk => hk) trivial (of_decide_eq_true asE) (Nat.le_trans (Nat.mul_le_mul_right _ (of_decide_eq_true asE : a0_0.toNat ≤ 281474976710656)) (by omega)) (Below.refl _ _) (Nat.le_refl _) ?_; intro v619 w87 ho88 hb hg_ hnew_; clear hg_ hnew_; (first | rw [← Ny618.out] at ho88 | (simp only [Int.reduceToNat] at ho88; rw [← Ny618.out] at ho88)); have HO620 := Aside0.mk (Kd.R_lower (Kd.R_new' (Kd.R_new' (Kd.R_new' (Kd.R_new' (Kd.R_new' ho88 (Kd.R_lt (kdA HO_8.out))) (Kd.R_lt (kdA HO_15.out))) (Kd.R_lt (kdA HO_603002.out))) (Kd.R_lt (kdA HO612.out))) (Kd.R_lt (kdA HO616.out))) (below_size (hbA HB.out))); replace HO_8 := Aside0.mk (Kd.R_elder' (kdA HO_8.out) (Kd.R_base ho88) hb); replace HO_15 := Aside0.mk (Kd.R_elder' (kdA HO_15.out) (Kd.R_base ho88) hb); replace HO_603002 := Aside0.mk (Kd.R_elder' (kdA HO_603002.out) (Kd.R_base ho88) hb); replace HO612 := Aside0.mk (Kd.R_elder' (kdA HO612.out) (Kd.R_base ho88) hb); replace HO616 := Aside0.mk (Kd.R_elder' (kdA HO616.out) (Kd.R_base ho88) hb); replace BK579 := bkB BK579 hb; replace BK602 := bkB BK602 hb; replace HB := hbB HB hb; clear hb ho88; obtain ⟨Ao89, co89, eo89⟩ := Kd.R_slice HO616.out; subst eo89; obtain ⟨Ao90, co90, eo90⟩ := Kd.R_slice HO620.out; subst eo90) | ((with_reducible refine gC 32 rfl ?_); refine cG (some 118) Try.func32 #[.slice Ao89 t614.length co89, .slice Ao90 y618.length co90] ?_; (with_reducible refine (recoupref01_Same.calls _ _ t614 _ _ y618 false _ ?side1 ?side2 ?side3 ?side4 A67.out).mono ?_); (case side1 => exact kcA (Kd.R_reads' HO616.out).2.2); (case side2 => exact (Kd.R_reads' HO616.out).2.1); (case side3 => exact kcA (Kd.R_reads' HO620.out).2.2); (case side4 => exact (Kd.R_reads' HO620.out).2.1); rintro e w' ⟨rfl, ⟨nd, rfl⟩⟩; refine ⟨_, rfl, ?_⟩))
                          go_ret
                          exact ⟨rfE, hbA HB.out⟩
                      · rw [if_neg c66] at H
                        exact absurd H (by simp)
                    · rw [if_neg c65] at H
                      exact absurd H (by simp)
                  · rw [if_neg c62] at H
                    have c62b0 : decide (x17_3 < t596) = false := decide_eq_false c62
                    clear c62
                    obtain ⟨t608, A91, H⟩ := bindO H
                    (try dsimp only at H)
                    by_cases c92 : t608 = true
                    · subst c92
                      rw [if_pos rfl] at H
                      obtain ⟨t609, A93, H⟩ := bindO H
                      (try dsimp only at H)
                      obtain rfl := Option.some.inj H
                      have hnb94 := NB602_579.out
                      have hnc94 := NB579_602.out
                      obtain ⟨hcz95_0, hcz95_1, hcz95_2, hfz95_0, hfz95_1, hfz95_2⟩ := cell3 BK602
                      go_wp2_with (first | ((with_reducible refine gC 22 rfl ?_); refine cG (some 120) Try.func22 #[] ?_; (with_reducible refine (recouplaw04_anchored.calls  true _ A91.out).mono ?_); rintro e w96 ⟨rfl, hb⟩; refine ⟨_, rfl, ?_⟩; replace HO_8 := kdB HO_8 hb; replace HO_15 := kdB HO_15 hb; replace HO_603002 := kdB HO_603002 hb; replace BK579 := bkB BK579 hb; replace BK602 := bkB BK602 hb; replace HB := hbB HB hb; (try clear hb); (try clear hb2); (try clear hk); (try clear hi); obtain ⟨Ao97, co97, eo97⟩ := Kd.R_slice HO_15.out; subst eo97) | (go_at_call 32; (with_reducible refine (recoupref01_Same.calls _ _ t604 _ _ t587 t609 _ ?side1 ?side2 ?side3 ?side4 A93.out).mono ?_); (case side1 => exact kcA (Kd.R_reads' HO_15.out).2.2); (case side2 => exact (Kd.R_reads' HO_15.out).2.1); (case side3 => exact kcA (Kd.R_reads' HO_8.out).2.2); (case side4 => exact (Kd.R_reads' HO_8.out).2.1); rintro e w' ⟨rfl, ⟨nd, rfl⟩⟩))
                      go_ret
                      exact ⟨rfE, hbA HB.out⟩
                    · replace c92 := Bool.eq_false_iff.mpr c92
                      subst c92
                      rw [if_neg nofT] at H
                      obtain rfl := Option.some.inj H
                      have hnb98 := NB602_579.out
                      have hnc98 := NB579_602.out
                      obtain ⟨hcz99_0, hcz99_1, hcz99_2, hfz99_0, hfz99_1, hfz99_2⟩ := cell3 BK602
                      go_wp2_with (first | ((with_reducible refine gC 22 rfl ?_); refine cG (some 120) Try.func22 #[] ?_; (with_reducible refine (recouplaw04_anchored.calls  false _ A91.out).mono ?_); rintro e w100 ⟨rfl, hb⟩; refine ⟨_, rfl, ?_⟩; replace HO_8 := kdB HO_8 hb; replace HO_15 := kdB HO_15 hb; replace HO_603002 := kdB HO_603002 hb; replace BK579 := bkB BK579 hb; replace BK602 := bkB BK602 hb; replace HB := hbB HB hb; (try clear hb); (try clear hb2); (try clear hk); (try clear hi)))
                      go_ret
                      exact ⟨rfE, hbA HB.out⟩

end Go.Proofs.Ytccfbhnhedoggaa.Q
