/- Written by drive.py (a program of this repo, over the kit's print): each Go function named here answers what the Lean function beside it answers, wherever that one answers, in every world that meets the stated premises. -/
import Derived.Test.YthjncmdlhmppiaaDoorQx0
import Derived.Test.YthjncmdlhmppiaaDoorQx113
import Derived.Test.YthjncmdlhmppiaaDoorQx136
import Derived.Test.YthjncmdlhmppiaaDoorQx139
namespace Go.Proofs.YthjncmdlhmppiaaDoor.Q
open Go.RowKit Go.Proofs.YthjncmdlhmppiaaDoorW.PrintWords Go.Proofs.YthjncmdlhmppiaaDoorW.PrintLast Go.Proofs.YthjncmdlhmppiaaDoorW.PrintMore
attribute [local go_sem] max2_int min2_int max_two min_two max_three min_three max_four min_four   -- for this text's walks alone
set_option linter.unusedVariables false
set_option linter.unusedSimpArgs false

/-! ### recoupref07_Span: function 19 -/
mutual
def recoupref07_Span.l0 : Nat → Int → Int → Int → Int → Int → Int → Int → List Int → Option (Int × Int)
  | 0, _, _, _, _, _, _, _, _ => none
  | k + 1, x1, x6, x7, x8, x9, x257000, x257001, x257002 => if x9 < x257000 then (recoupref07_Span.j1 k x1 x6 x7 x8 x9 (x7 == 0) x257000 x257001 x257002) else (recoupref07_Span.j1 k x1 x6 x7 x8 x9 false x257000 x257001 x257002)
def recoupref07_Span.j1 : Nat → Int → Int → Int → Int → Int → Bool → Int → Int → List Int → Option (Int × Int)
  | 0, _, _, _, _, _, _, _, _, _ => none
  | k + 1, x1, x6, x7, x8, x9, x23, x257000, x257001, x257002 => if x23 = true then ((recoupref07_one.f x9).bind fun t259 => ((recoupref07_rank.f k x257000 x257001 x257002 (Go.bits .or .u64 x1 t259)).bind fun t260 => (if t260 = x6 then ((recoupref07_one.f x9).bind fun t261 => (recoupref07_Span.l0 k x1 x6 x7 (Go.bits .or .u64 x8 t261) (wrap64 (x9 + 1)) x257000 x257001 x257002)) else (recoupref07_Span.l0 k x1 x6 x7 x8 (wrap64 (x9 + 1)) x257000 x257001 x257002)))) else (some (x8, x7))
end
def recoupref07_Span.f (k : Nat) (a0_0 : Int) (a0_1 : Int) (l0_2 : List Int) (a1 : Int) : Option (Int × Int) := (recoupref07_Rank.f k a0_0 a0_1 l0_2 a1).bind fun bt257 => (recoupref07_Span.l0 k a1 bt257.1 bt257.2 0 0 a0_0 a0_1 l0_2)
theorem recoupref07_Span.mono_l : ∀ k, (∀ y0 y1 y2 y3 y4 y5 y6 y7, LeO (recoupref07_Span.l0 k y0 y1 y2 y3 y4 y5 y6 y7) (recoupref07_Span.l0 (k + 1) y0 y1 y2 y3 y4 y5 y6 y7)) ∧ (∀ y0 y1 y2 y3 y4 y5 y6 y7 y8, LeO (recoupref07_Span.j1 k y0 y1 y2 y3 y4 y5 y6 y7 y8) (recoupref07_Span.j1 (k + 1) y0 y1 y2 y3 y4 y5 y6 y7 y8))
  | 0 => ⟨fun _ _ _ _ _ _ _ _ r h => by simp [recoupref07_Span.l0] at h, fun _ _ _ _ _ _ _ _ _ r h => by simp [recoupref07_Span.j1] at h⟩
  | k + 1 => by
    obtain ⟨ih0, ih1⟩ := recoupref07_Span.mono_l k
    refine ⟨?_, ?_⟩
    all_goals (intros; first | unfold recoupref07_Span.l0 | unfold recoupref07_Span.j1)
    all_goals repeat' first | (with_reducible exact ih0 _ _ _ _ _ _ _ _) | (with_reducible exact ih1 _ _ _ _ _ _ _ _ _) | (with_reducible exact recoupref07_Rank.mono _ _ _ _ _) | (with_reducible exact recoupref07_rank.mono _ _ _ _ _) | (with_reducible exact LeO.refl _) | (with_reducible exact LeO.none _) | (with_reducible refine LeO.ite ?_ ?_) | (with_reducible refine LeO.bind ?_ (fun _ => ?_)) | exact ih0 _ _ _ _ _ _ _ _ | exact ih1 _ _ _ _ _ _ _ _ _ | exact recoupref07_Rank.mono _ _ _ _ _ | exact recoupref07_rank.mono _ _ _ _ _ | exact LeO.none _ | refine LeO.ite ?_ ?_ | refine LeO.bind ?_ (fun _ => ?_)
theorem recoupref07_Span.mono : ∀ a0 a1 a2 a3 k, LeO (recoupref07_Span.f k a0 a1 a2 a3) (recoupref07_Span.f (k + 1) a0 a1 a2 a3) := by
  intro a0 a1 a2 a3 k
  obtain ⟨ih0, ih1⟩ := recoupref07_Span.mono_l k
  unfold recoupref07_Span.f
  repeat' first
      | (with_reducible exact ih0 _ _ _ _ _ _ _ _)
      | (with_reducible exact ih1 _ _ _ _ _ _ _ _ _)
      | (with_reducible exact recoupref07_Rank.mono _ _ _ _ _)
      | (with_reducible exact recoupref07_rank.mono _ _ _ _ _)
      | (with_reducible exact LeO.refl _)
      | (with_reducible exact LeO.none _)
      | (with_reducible refine LeO.ite ?_ ?_)
      | (with_reducible refine LeO.bind ?_ (fun _ => ?_))
      | exact ih0 _ _ _ _ _ _ _ _
      | exact ih1 _ _ _ _ _ _ _ _ _
      | exact recoupref07_Rank.mono _ _ _ _ _
      | exact recoupref07_rank.mono _ _ _ _ _
      | exact LeO.none _
      | refine LeO.ite ?_ ?_
      | refine LeO.bind ?_ (fun _ => ?_)
def recoupref07_Span.T6 : Bool × List (List Nat × List Nat) := (true, [([], []), ([], []), ([], []), ([2], [2]), ([1, 3], [1, 3]), ([0, 4, 3], [0, 4]), ([], []), ([5, 6], [5, 6])])
def recoupref07_Span.B6 : List Nat := [0, 0, 0, 4, 14, 31, 0, 127]
theorem recoupref07_Span.tab6 : rtab .any (opsOf Tryd.f19 6) = recoupref07_Span.T6 := by kernel_rfl
theorem recoupref07_Span.bits6 : waitsOk recoupref07_Span.T6.2 recoupref07_Span.B6 = true := by kernel_rfl
set_option maxHeartbeats 8000000 in
set_option maxRecDepth 100000 in
theorem recoupref07_Span.calls (k : Nat) (a0_0 : Int) (a0_1 : Int) (A0_2 : Option Addr) (c0_2 : Nat) (l0_2 : List Int) (a1 : Int) (r1 : Int) (r2 : Int) (w : World) (hr0_2 : Kd.C (Kd.int .u8) w A0_2 l0_2.length l0_2) (hc0_2 : l0_2.length ≤ c0_2) (h : recoupref07_Span.f k a0_0 a0_1 l0_2 a1 = some (r1, r2)) :
    Calls Tryd.prog 19 #[.agg #[.int .i64 a0_0, .int .i64 a0_1, .slice A0_2 l0_2.length c0_2], .int .u64 a1] w fun e w' => e = .returned (.tuple #[.int .u64 r1, .int .i64 r2]) ∧ Below w.heap.size w w' := by
  have hu24 := Tryd.underlying24
  have HR0_2 := Aside0.mk hr0_2
  have HC0_2 := Aside0.mk hc0_2
  clear hr0_2 hc0_2
  have HB := Aside0.mk (Below.refl w.heap.size w)
  have H : ((recoupref07_Rank.f k a0_0 a0_1 l0_2 a1).bind fun bt257 => (recoupref07_Span.l0 k a1 bt257.1 bt257.2 0 0 a0_0 a0_1 l0_2)) = some (r1, r2) := h
  clear h
  obtain ⟨⟨t257, t258⟩, A3, H⟩ := bindO H
  (try dsimp only at H)
  have H' := Aside0.mk H
  clear H
  go_enter Tryd.func19, Tryd.ntmps19
  go_wp2_with (first | ((with_reducible refine gD 2 rfl ?_); refine bE 2 #[.int .i64 a0_0, .int .i64 a0_1, .slice A0_2 l0_2.length c0_2] 24 ?_; intro gb256 hg w4 hbox hb; have BK256 := Aside0.mk (hbox); have GW256 := hbS HB hg; have GE256 := hbS HB hg; replace HB := hbB HB hb; clear hb hbox hg; obtain ⟨hcz5_0, hcz5_1, hcz5_2, hfz5_0, hfz5_1, hfz5_2⟩ := cell3 BK256) | ((with_reducible refine gC 13 rfl ?_); refine cG (some 13) Tryd.func13 #[.agg #[.int .i64 a0_0, .int .i64 a0_1, .slice A0_2 l0_2.length c0_2], .int .u64 a1] ?_; (with_reducible refine (recoupref07_Rank.calls k a0_0 a0_1 _ _ l0_2 a1 t257 t258 _ ?side1 ?side2 A3.out).mono ?_); (case side1 => exact kcB HR0_2 HB); (case side2 => exact HC0_2.out); rintro e w6 ⟨rfl, hb⟩; refine ⟨_, rfl, ?_⟩; replace BK256 := bkB BK256 hb; replace HB := hbB HB hb; (try clear hb); (try clear hb2); (try clear hk); (try clear hi)))
  go_loopg [8, 9] k (fun kq v8 v9 w' => ∃ (x8_1 : Int) (x9_1 : Int), v8 = .int .u64 x8_1 ∧ v9 = .int .i64 x9_1 ∧ Aside0 (recoupref07_Span.l0 kq a1 t257 t258 x8_1 x9_1 a0_0 a0_1 l0_2 = some (r1, r2)) ∧ Aside0 (kq ≤ k) ∧ Aside0 (w'.heap[gb256]? = some (.cells #[.int .i64 a0_0, .int .i64 a0_1, (.slice A0_2 l0_2.length c0_2)] 24 (0, 0))) ∧ Aside0 (Below w.heap.size w w'))
  case atStart => exact ⟨(0), (0), rsE, rsE, H', ⟨Nat.le_refl _⟩, ⟨bkA BK256.out⟩, ⟨hbA HB.out⟩⟩
  case round =>
    clear H'
    (try clear c1); (try clear p2); (try clear hcz5_0 hcz5_1 hcz5_2 hfz5_0 hfz5_1 hfz5_2)
    obtain ⟨x8_1, x9_1, rfl, rfl, HA, HK1, BK256, HB⟩ := hrel
    cases gk with
    | zero => exact absurd HA.out (by simp [recoupref07_Span.l0])
    | succ k1 =>
      have H := HA.out
      clear HA
      simp only [recoupref07_Span.l0] at H
      have HC7 := Aside0.mk H
      clear H
      go_upto_region 4 with (fail)
      go_cut [23] (fun v23 wc => ∃ (kq : Nat) (x23_6 : Bool), v23 = .bool x23_6 ∧ Aside0 (recoupref07_Span.j1 kq a1 t257 t258 x8_1 x9_1 x23_6 a0_0 a0_1 l0_2 = some (r1, r2)) ∧ Aside0 (kq ≤ k1) ∧ Aside0 (wc.heap[gb256]? = some (.cells #[.int .i64 a0_0, .int .i64 a0_1, (.slice A0_2 l0_2.length c0_2)] 24 (0, 0))) ∧ Aside0 (Below w.heap.size w wc))
      case first =>
        have H := HC7.out
        clear HC7
        by_cases c8 : x9_1 < a0_0
        · rw [if_pos c8] at H
          have c8b0 : decide (x9_1 < a0_0) = true := decide_eq_true c8
          clear c8
          (first | rw [c8b0] | (simp only [i64_w, i32_w]; rw [c8b0]) | skip)
          have H' := Aside0.mk H
          clear H
          obtain ⟨hcz9_0, hcz9_1, hcz9_2, hfz9_0, hfz9_1, hfz9_2⟩ := cell3 BK256
          go_wp2
          go_meet
          case rel => exact ⟨_, ((t258 == 0)), rsE, H', ⟨by have := HK1.out; first | omega | exact Nat.le_refl _⟩, ⟨bkA BK256.out⟩, ⟨hbA HB.out⟩⟩
        · rw [if_neg c8] at H
          have c8b0 : decide (x9_1 < a0_0) = false := decide_eq_false c8
          clear c8
          (first | rw [c8b0] | (simp only [i64_w, i32_w]; rw [c8b0]) | skip)
          have H' := Aside0.mk H
          clear H
          obtain ⟨hcz10_0, hcz10_1, hcz10_2, hfz10_0, hfz10_1, hfz10_2⟩ := cell3 BK256
          go_wp2
          go_meet
          case rel => exact ⟨_, (false), rsE, H', ⟨by have := HK1.out; first | omega | exact Nat.le_refl _⟩, ⟨bkA BK256.out⟩, ⟨hbA HB.out⟩⟩
      case rest =>
        clear HC7
        (try clear c1); (try clear p2 p2); (try clear c8); (try clear c8b0); (try clear hcz10_0 hcz10_1 hcz10_2 hfz10_0 hfz10_1 hfz10_2); (try clear hcz5_0 hcz5_1 hcz5_2 hfz5_0 hfz5_1 hfz5_2); (try clear hcz9_0 hcz9_1 hcz9_2 hfz9_0 hfz9_1 hfz9_2)
        obtain ⟨kq, x23_6, rfl, HA, HJ6, BK256, HB⟩ := hcut
        cases kq with
        | zero => exact absurd HA.out (by simp [recoupref07_Span.j1])
        | succ kj6 =>
          have H := HA.out
          clear HA
          simp only [recoupref07_Span.j1] at H
          by_cases c11 : x23_6 = true
          · subst c11
            rw [if_pos rfl] at H
            obtain ⟨t259, A12, H⟩ := bindO H
            (try dsimp only at H)
            obtain ⟨t260, A13, H⟩ := bindO H
            (try dsimp only at H)
            by_cases c14 : t260 = t257
            · rw [if_pos c14] at H
              have c14b0 : (t260 == t257) = true := beq_iff_eq.mpr c14
              have c14b1 : (t260 != t257) = false := bne_eq_false_iff_eq.mpr c14
              clear c14
              obtain ⟨t261, A15, H⟩ := bindO H
              (try dsimp only at H)
              have H' := Aside0.mk H
              clear H
              try go_wp2
              replace BK256 := Aside0.mk (blk_drew BK256.out)
              replace HB := Aside0.mk (below_drew1 HB.out)
              refine start_ (n := 8) (S := fun w' => w'.cell? ⟨gb256, 0, none⟩ = some (.int .i64 a0_0) ∧ w'.cell? ⟨gb256, 1, none⟩ = some (.int .i64 a0_1) ∧ w'.cell? ⟨gb256, 2, none⟩ = some (.slice A0_2 l0_2.length c0_2)) (ds := []) (.replicate 8 false) (by kernel_rfl) rfl rfl ⟨(blk_cell BK256.out 0).trans rfl, (blk_cell BK256.out 1).trans rfl, (blk_cell BK256.out 2).trans rfl⟩ (fun hHeld => ?_); refine with_tabW recoupref07_Span.tab6 recoupref07_Span.bits6 (fun HT_ HW_ => ?_)
              generalize wc.drew = w16 at BK256 HB hHeld ⊢
              refine pu 1 (some 27) (mB 8 2) HT_ ?_
              refine pu 2 (some 28) (mB 8 6) HT_ ?_
              refine pu 6 (some 32) (mB 8 70) HT_ ?_
              refine tk3 0 (some 26) (mB 8 71) HT_ HW_ hHeld ?_
              refine one_ (i := 3) (N := some 29) (mB 8 79) rfl rfl (one_of HT_.out (by kernel_rfl)) (by decide) (fun K hK => ?_)
              refine goes_ Tryd.func39 (by kernel_rfl) rfl #[.int .i64 x9_1] (by rfl) rfl rfl (by (try simp only [List.map_toArray, List.map_cons, List.map_nil]); first | done | rfl | (simp only [List.length_drop, List.length_take]; rfl)) ?_
              with_reducible refine (recoupref07_one.calls x9_1 t259 _ A12.out).mono ?_
              rintro e w' ⟨rfl, ⟨nd, rfl⟩⟩
              refine ⟨_, rfl, ?_⟩
              refine hK.out _ _ ⟨(blk_cell BK256.out 0).trans rfl, (blk_cell BK256.out 1).trans rfl, (blk_cell BK256.out 2).trans rfl⟩ (fun hHeld => ?_)
              clear hK K
              refine norm_ (a' := ?_) ?_ ?_
              rotate_left
              · show Act.put _ (some 29) _ = _
                simp only [Act.put, List.setIfInBounds_toArray, List.set_cons_zero, List.set_cons_succ, i64_w, i32_w]
                rfl
              refine pu 4 (some 30) (mB 8 95) HT_ ?_
              refine one_ (i := 5) (N := some 31) (mB 8 127) rfl rfl (one_of HT_.out (by kernel_rfl)) (by decide) (fun K hK => ?_)
              refine goes_ Tryd.func36 (by kernel_rfl) rfl #[.agg #[.int .i64 a0_0, .int .i64 a0_1, .slice A0_2 l0_2.length c0_2], .int .u64 (Go.bits .or .u64 a1 t259)] (by rfl) rfl rfl (by (try simp only [List.map_toArray, List.map_cons, List.map_nil]); first | done | rfl | (simp only [List.length_drop, List.length_take]; rfl)) ?_
              with_reducible refine (recoupref07_rank.calls kj6 a0_0 a0_1 _ _ l0_2 (Go.bits .or .u64 a1 t259) t260 _ ?side1 ?side2 A13.out).mono ?_
              (case side1 => repeat (first | exact (Kd.C_below HR0_2.out (hbA HB.out)) | (with_reducible refine Kd.C_alloc ?_ _) | (with_reducible refine Kd.C_drewN ?_ _) | (with_reducible refine Kd.C_drew ?_)))
              (case side2 => exact HC0_2.out)
              rintro e w17 ⟨rfl, hb⟩
              refine ⟨_, rfl, ?_⟩
              replace BK256 := bkB BK256 hb
              replace HB := hbB HB hb
              (try clear hb)
              (try clear hb2)
              (try clear hk)
              (try clear hi)
              refine hK.out _ _ ⟨(blk_cell BK256.out 0).trans rfl, (blk_cell BK256.out 1).trans rfl, (blk_cell BK256.out 2).trans rfl⟩ (fun hHeld => ?_)
              clear hK K
              refine norm_ (a' := ?_) ?_ ?_
              rotate_left
              · show Act.put _ (some 31) _ = _
                simp only [Act.put, List.setIfInBounds_toArray, List.set_cons_zero, List.set_cons_succ, i64_w, i32_w]
                rfl
              refine pu 7 (some 33) (mB 8 255) HT_ ?_
              refine done_ (done_of HT_.out (by kernel_rfl)) ?_
              try go_wp2_with (first | ((with_reducible refine gC 39 rfl ?_); refine cG (some 36) Tryd.func39 #[.int .i64 x9_1] ?_; (with_reducible refine (recoupref07_one.calls x9_1 t261 _ A15.out).mono ?_); rintro e w' ⟨rfl, ⟨nd, rfl⟩⟩; refine ⟨_, rfl, ?_⟩))
              go_roundg kj6
              case measure => have := HK1.out; have := HJ6.out; omega
              case rel => exact ⟨(Go.bits .or .u64 x8_1 t261), (wrap64 (x9_1 + 1)), rsE, rsE, H', ⟨by have := HK1.out; have := HJ6.out; omega⟩, ⟨bkA BK256.out⟩, ⟨hbA HB.out⟩⟩
            · rw [if_neg c14] at H
              have c14b0 : (t260 == t257) = false := beq_eq_false_iff_ne.mpr c14
              have c14b1 : (t260 != t257) = true := bne_iff_ne.mpr c14
              have H' := Aside0.mk H
              clear H
              try go_wp2
              replace BK256 := Aside0.mk (blk_drew BK256.out)
              replace HB := Aside0.mk (below_drew1 HB.out)
              refine start_ (n := 8) (S := fun w' => w'.cell? ⟨gb256, 0, none⟩ = some (.int .i64 a0_0) ∧ w'.cell? ⟨gb256, 1, none⟩ = some (.int .i64 a0_1) ∧ w'.cell? ⟨gb256, 2, none⟩ = some (.slice A0_2 l0_2.length c0_2)) (ds := []) (.replicate 8 false) (by kernel_rfl) rfl rfl ⟨(blk_cell BK256.out 0).trans rfl, (blk_cell BK256.out 1).trans rfl, (blk_cell BK256.out 2).trans rfl⟩ (fun hHeld => ?_); refine with_tabW recoupref07_Span.tab6 recoupref07_Span.bits6 (fun HT_ HW_ => ?_)
              generalize wc.drew = w18 at BK256 HB hHeld ⊢
              refine pu 1 (some 27) (mB 8 2) HT_ ?_
              refine pu 2 (some 28) (mB 8 6) HT_ ?_
              refine pu 6 (some 32) (mB 8 70) HT_ ?_
              refine tk3 0 (some 26) (mB 8 71) HT_ HW_ hHeld ?_
              refine one_ (i := 3) (N := some 29) (mB 8 79) rfl rfl (one_of HT_.out (by kernel_rfl)) (by decide) (fun K hK => ?_)
              refine goes_ Tryd.func39 (by kernel_rfl) rfl #[.int .i64 x9_1] (by rfl) rfl rfl (by (try simp only [List.map_toArray, List.map_cons, List.map_nil]); first | done | rfl | (simp only [List.length_drop, List.length_take]; rfl)) ?_
              with_reducible refine (recoupref07_one.calls x9_1 t259 _ A12.out).mono ?_
              rintro e w' ⟨rfl, ⟨nd, rfl⟩⟩
              refine ⟨_, rfl, ?_⟩
              refine hK.out _ _ ⟨(blk_cell BK256.out 0).trans rfl, (blk_cell BK256.out 1).trans rfl, (blk_cell BK256.out 2).trans rfl⟩ (fun hHeld => ?_)
              clear hK K
              refine norm_ (a' := ?_) ?_ ?_
              rotate_left
              · show Act.put _ (some 29) _ = _
                simp only [Act.put, List.setIfInBounds_toArray, List.set_cons_zero, List.set_cons_succ, i64_w, i32_w]
                rfl
              refine pu 4 (some 30) (mB 8 95) HT_ ?_
              refine one_ (i := 5) (N := some 31) (mB 8 127) rfl rfl (one_of HT_.out (by kernel_rfl)) (by decide) (fun K hK => ?_)
              refine goes_ Tryd.func36 (by kernel_rfl) rfl #[.agg #[.int .i64 a0_0, .int .i64 a0_1, .slice A0_2 l0_2.length c0_2], .int .u64 (Go.bits .or .u64 a1 t259)] (by rfl) rfl rfl (by (try simp only [List.map_toArray, List.map_cons, List.map_nil]); first | done | rfl | (simp only [List.length_drop, List.length_take]; rfl)) ?_
              with_reducible refine (recoupref07_rank.calls kj6 a0_0 a0_1 _ _ l0_2 (Go.bits .or .u64 a1 t259) t260 _ ?side1 ?side2 A13.out).mono ?_
              (case side1 => repeat (first | exact (Kd.C_below HR0_2.out (hbA HB.out)) | (with_reducible refine Kd.C_alloc ?_ _) | (with_reducible refine Kd.C_drewN ?_ _) | (with_reducible refine Kd.C_drew ?_)))
              (case side2 => exact HC0_2.out)
              rintro e w19 ⟨rfl, hb⟩
              refine ⟨_, rfl, ?_⟩
              replace BK256 := bkB BK256 hb
              replace HB := hbB HB hb
              (try clear hb)
              (try clear hb2)
              (try clear hk)
              (try clear hi)
              refine hK.out _ _ ⟨(blk_cell BK256.out 0).trans rfl, (blk_cell BK256.out 1).trans rfl, (blk_cell BK256.out 2).trans rfl⟩ (fun hHeld => ?_)
              clear hK K
              refine norm_ (a' := ?_) ?_ ?_
              rotate_left
              · show Act.put _ (some 31) _ = _
                simp only [Act.put, List.setIfInBounds_toArray, List.set_cons_zero, List.set_cons_succ, i64_w, i32_w]
                rfl
              refine pu 7 (some 33) (mB 8 255) HT_ ?_
              refine done_ (done_of HT_.out (by kernel_rfl)) ?_
              try go_wp2
              go_roundg kj6
              case measure => have := HK1.out; have := HJ6.out; omega
              case rel => exact ⟨(x8_1), (wrap64 (x9_1 + 1)), rsE, rsE, H', ⟨by have := HK1.out; have := HJ6.out; omega⟩, ⟨bkA BK256.out⟩, ⟨hbA HB.out⟩⟩
          · replace c11 := Bool.eq_false_iff.mpr c11
            subst c11
            rw [if_neg nofT] at H
            simp only [Option.some.injEq, Prod.mk.injEq] at H
            obtain ⟨rfl, rfl⟩ := H
            go_wp2
            go_ret2
            exact ⟨rfE, hbA HB.out⟩

end Go.Proofs.YthjncmdlhmppiaaDoor.Q
