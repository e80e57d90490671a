/- Written by drive.py (a program of this repo, over the kit's print): each Go function named here answers what the Lean function beside it answers, wherever that one answers, in every world that meets the stated premises. -/
import Derived.Test.YthjncmdlhmppiaaDoorQx0
import Derived.Test.YthjncmdlhmppiaaDoorQx134
import Derived.Test.YthjncmdlhmppiaaDoorQx138
namespace Go.Proofs.YthjncmdlhmppiaaDoor.Q
open Go.RowKit Go.Proofs.YthjncmdlhmppiaaDoorW.PrintWords Go.Proofs.YthjncmdlhmppiaaDoorW.PrintLast Go.Proofs.YthjncmdlhmppiaaDoorW.PrintMore
attribute [local go_sem] max2_int min2_int max_two min_two max_three min_three max_four min_four   -- for this text's walks alone
set_option linter.unusedVariables false
set_option linter.unusedSimpArgs false

/-! ### matroid_Span: function 18 -/
def matroid_Span.l0 : Nat → Int → Int → Int → Int → Int → Int → Int → List Int → Option (Int × Int)
  | 0, _, _, _, _, _, _, _, _ => none
  | k + 1, x1, x6, x8, x23, x24, x251000, x251001, x251002 => if x24 < x23 then ((subset_Has.f x1 x24).bind fun t253 => (if t253 = true then (matroid_Span.l0 k x1 x6 x8 x23 (wrap64 (x24 + 1)) x251000 x251001 x251002) else (if 0 ≤ x24 then ((matroid_Rank.f k x251000 x251001 x251002 (Go.bits .or .u64 x1 (shl .u64 1 x24))).bind fun bt254 => (if bt254.1 = x6 then (matroid_Span.l0 k x1 x6 (Go.bits .or .u64 x8 (shl .u64 1 x24)) x23 (wrap64 (x24 + 1)) x251000 x251001 x251002) else (matroid_Span.l0 k x1 x6 x8 x23 (wrap64 (x24 + 1)) x251000 x251001 x251002))) else (none)))) else (some (x8, 0))
def matroid_Span.f (k : Nat) (a0_0 : Int) (a0_1 : Int) (l0_2 : List Int) (a1 : Int) : Option (Int × Int) := (matroid_Rank.f k a0_0 a0_1 l0_2 a1).bind fun bt251 => (if bt251.2 = 0 then (matroid_Span.l0 k a1 bt251.1 a1 a0_0 0 a0_0 a0_1 l0_2) else (some (0, bt251.2)))
theorem matroid_Span.mono_l : ∀ k, (∀ y0 y1 y2 y3 y4 y5 y6 y7, LeO (matroid_Span.l0 k y0 y1 y2 y3 y4 y5 y6 y7) (matroid_Span.l0 (k + 1) y0 y1 y2 y3 y4 y5 y6 y7))
  | 0 => fun _ _ _ _ _ _ _ _ r h => by simp [matroid_Span.l0] at h
  | k + 1 => by
    have ih0 := matroid_Span.mono_l k
    · intro y0 y1 y2 y3 y4 y5 y6 y7
      unfold matroid_Span.l0
      repeat' first
      | (with_reducible exact ih0 _ _ _ _ _ _ _ _)
      | (with_reducible exact matroid_Rank.mono _ _ _ _ _)
      | (with_reducible exact LeO.refl _)
      | (with_reducible exact LeO.none _)
      | (with_reducible refine LeO.ite ?_ ?_)
      | (with_reducible refine LeO.bind ?_ (fun _ => ?_))
      | exact ih0 _ _ _ _ _ _ _ _
      | exact matroid_Rank.mono _ _ _ _ _
      | exact LeO.none _
      | refine LeO.ite ?_ ?_
      | refine LeO.bind ?_ (fun _ => ?_)
theorem matroid_Span.mono : ∀ a0 a1 a2 a3 k, LeO (matroid_Span.f k a0 a1 a2 a3) (matroid_Span.f (k + 1) a0 a1 a2 a3) := by
  intro a0 a1 a2 a3 k
  have ih0 := matroid_Span.mono_l k
  unfold matroid_Span.f
  repeat' first
      | (with_reducible exact ih0 _ _ _ _ _ _ _ _)
      | (with_reducible exact matroid_Rank.mono _ _ _ _ _)
      | (with_reducible exact LeO.refl _)
      | (with_reducible exact LeO.none _)
      | (with_reducible refine LeO.ite ?_ ?_)
      | (with_reducible refine LeO.bind ?_ (fun _ => ?_))
      | exact ih0 _ _ _ _ _ _ _ _
      | exact matroid_Rank.mono _ _ _ _ _
      | exact LeO.none _
      | refine LeO.ite ?_ ?_
      | refine LeO.bind ?_ (fun _ => ?_)
def matroid_Span.T9 : Bool × List (List Nat × List Nat) := (true, [([], []), ([], []), ([], []), ([2], [2]), ([1, 3], [1, 3]), ([0, 4], [0, 4]), ([5], [5]), ([6], [6]), ([6], [6]), ([7, 5, 0, 1, 2, 3, 4, 5, 6, 7], [7]), ([8, 9, 0, 1, 2, 3, 4, 5, 6, 7, 8, 9], [8])])
def matroid_Span.B9 : List Nat := [0, 0, 0, 4, 14, 31, 63, 127, 127, 255, 1023]
theorem matroid_Span.tab9 : rtab .any (opsOf Tryd.f18 9) = matroid_Span.T9 := by kernel_rfl
theorem matroid_Span.bits9 : waitsOk matroid_Span.T9.2 matroid_Span.B9 = true := by kernel_rfl
set_option maxHeartbeats 8000000 in
set_option maxRecDepth 100000 in
theorem matroid_Span.calls (k : Nat) (a0_0 : Int) (a0_1 : Int) (A0_2 : Option Addr) (c0_2 : Nat) (l0_2 : List Int) (a1 : Int) (r1 : Int) (r2 : Int) (w : World) (hr0_2 : Kd.C (Kd.int .u8) w A0_2 l0_2.length l0_2) (hc0_2 : l0_2.length ≤ c0_2) (h : matroid_Span.f k a0_0 a0_1 l0_2 a1 = some (r1, r2)) (hT : TabAt 0 Lib.deBruijn64tab w) :
    Calls Tryd.prog 18 #[.agg #[.int .i64 a0_0, .int .i64 a0_1, .slice A0_2 l0_2.length c0_2], .int .u64 a1] w fun e w' => e = .returned (.tuple #[.int .u64 r1, .int .i64 r2]) ∧ Below w.heap.size w w' := by
  have HT := Aside0.mk hT
  clear hT
  have hu24 := Tryd.underlying24
  have HR0_2 := Aside0.mk hr0_2
  have HC0_2 := Aside0.mk hc0_2
  clear hr0_2 hc0_2
  have HB := Aside0.mk (Below.refl w.heap.size w)
  have H : ((matroid_Rank.f k a0_0 a0_1 l0_2 a1).bind fun bt251 => (if bt251.2 = 0 then (matroid_Span.l0 k a1 bt251.1 a1 a0_0 0 a0_0 a0_1 l0_2) else (some (0, bt251.2)))) = some (r1, r2) := h
  clear h
  obtain ⟨⟨t251, t252⟩, A3, H⟩ := bindO H
  (try dsimp only at H)
  by_cases c4 : t252 = 0
  · rw [if_pos c4] at H
    have c4b0 : (t252 == 0) = true := beq_iff_eq.mpr c4
    have c4b1 : (t252 != 0) = false := bne_eq_false_iff_eq.mpr c4
    clear c4
    have H' := Aside0.mk H
    clear H
    go_enter Tryd.func18, Tryd.ntmps18
    go_wp2_with (first | ((with_reducible refine gD 2 rfl ?_); refine bE 2 #[.int .i64 a0_0, .int .i64 a0_1, .slice A0_2 l0_2.length c0_2] 24 ?_; intro gb250 hg w5 hbox hb; have BK250 := Aside0.mk (hbox); have GW250 := hbS HB hg; have GE250 := hbS HB hg; replace HB := hbB HB hb; clear hb hbox hg; obtain ⟨hcz6_0, hcz6_1, hcz6_2, hfz6_0, hfz6_1, hfz6_2⟩ := cell3 BK250) | ((with_reducible refine gC 12 rfl ?_); refine cG (some 15) Tryd.func12 #[.agg #[.int .i64 a0_0, .int .i64 a0_1, .slice A0_2 l0_2.length c0_2], .int .u64 a1] ?_; (with_reducible refine (matroid_Rank.calls k a0_0 a0_1 _ _ l0_2 a1 t251 t252 _ ?side1 ?side2 A3.out (tab_below HT.out (by repeat (first | (with_reducible first | exact HB.out | apply below_alloc | apply pw_below_drewN | apply below_drew1) | exact HB.out | exact Below.refl _ _)))).mono ?_); (case side1 => exact kcB HR0_2 HB); (case side2 => exact HC0_2.out); rintro e w7 ⟨rfl, hb⟩; refine ⟨_, rfl, ?_⟩; replace BK250 := bkB BK250 hb; replace HB := hbB HB hb; (try clear hb); (try clear hb2); (try clear hk); (try clear hi); obtain ⟨hcz8_0, hcz8_1, hcz8_2, hfz8_0, hfz8_1, hfz8_2⟩ := cell3 BK250))
    refine wp_scope_straight ?_
    go_wp2_with (first | ((with_reducible refine gD 2 rfl ?_); refine bE 2 #[.int .i64 a0_0, .int .i64 a0_1, .slice A0_2 l0_2.length c0_2] 24 ?_; intro gb250 hg w5 hbox hb; have BK250 := Aside0.mk (hbox); have GW250 := hbS HB hg; have GE250 := hbS HB hg; replace HB := hbB HB hb; clear hb hbox hg; obtain ⟨hcz6_0, hcz6_1, hcz6_2, hfz6_0, hfz6_1, hfz6_2⟩ := cell3 BK250) | ((with_reducible refine gC 12 rfl ?_); refine cG (some 15) Tryd.func12 #[.agg #[.int .i64 a0_0, .int .i64 a0_1, .slice A0_2 l0_2.length c0_2], .int .u64 a1] ?_; (with_reducible refine (matroid_Rank.calls k a0_0 a0_1 _ _ l0_2 a1 t251 t252 _ ?side1 ?side2 A3.out (tab_below HT.out (by repeat (first | (with_reducible first | exact HB.out | apply below_alloc | apply pw_below_drewN | apply below_drew1) | exact HB.out | exact Below.refl _ _)))).mono ?_); (case side1 => exact kcB HR0_2 HB); (case side2 => exact HC0_2.out); rintro e w7 ⟨rfl, hb⟩; refine ⟨_, rfl, ?_⟩; replace BK250 := bkB BK250 hb; replace HB := hbB HB hb; (try clear hb); (try clear hb2); (try clear hk); (try clear hi); obtain ⟨hcz8_0, hcz8_1, hcz8_2, hfz8_0, hfz8_1, hfz8_2⟩ := cell3 BK250))
    go_step3
    go_wp2
    go_loopg [8, 24] k (fun kq v8 v24 w' => ∃ (x8_1 : Int) (x24_1 : Int), v8 = .int .u64 x8_1 ∧ v24 = .int .i64 x24_1 ∧ Aside0 (matroid_Span.l0 kq a1 t251 x8_1 a0_0 x24_1 a0_0 a0_1 l0_2 = some (r1, r2)) ∧ Aside0 (kq ≤ k) ∧ Aside0 (w'.heap[gb250]? = some (.cells #[.int .i64 a0_0, .int .i64 a0_1, (.slice A0_2 l0_2.length c0_2)] 24 (0, 0))) ∧ Aside0 (Below w.heap.size w w'))
    case atStart => exact ⟨(a1), (0), rsE, rsE, H', ⟨Nat.le_refl _⟩, ⟨bkA BK250.out⟩, ⟨hbA HB.out⟩⟩
    case round =>
      clear H'
      (try clear c1); (try clear p2); (try clear c4); (try clear c4b0); (try clear c4b1); (try clear hcz6_0 hcz6_1 hcz6_2 hfz6_0 hfz6_1 hfz6_2); (try clear hcz8_0 hcz8_1 hcz8_2 hfz8_0 hfz8_1 hfz8_2)
      obtain ⟨x8_1, x24_1, rfl, rfl, HA, HK1, BK250, HB⟩ := hrel
      cases gk with
      | zero => exact absurd HA.out (by simp [matroid_Span.l0])
      | succ k1 =>
        have H := HA.out
        clear HA
        simp only [matroid_Span.l0] at H
        by_cases c9 : x24_1 < a0_0
        · rw [if_pos c9] at H
          have c9b0 : decide (x24_1 < a0_0) = true := decide_eq_true c9
          clear c9
          obtain ⟨t253, A10, H⟩ := bindO H
          (try dsimp only at H)
          by_cases c11 : t253 = true
          · subst c11
            rw [if_pos rfl] at H
            have H' := Aside0.mk H
            clear H
            go_wp2_with (first | ((with_reducible refine gC 38 rfl ?_); refine cG (some 29) Tryd.func38 #[.int .u64 a1, .int .i64 x24_1] ?_; (with_reducible refine (subset_Has.calls a1 x24_1 true _ A10.out).mono ?_); rintro e w' ⟨rfl, ⟨nd, rfl⟩⟩; refine ⟨_, rfl, ?_⟩))
            go_roundg k1
            case measure => have := HK1.out; omega
            case rel => exact ⟨(x8_1), (wrap64 (x24_1 + 1)), rsE, rsE, H', ⟨by have := HK1.out; omega⟩, ⟨bkA BK250.out⟩, ⟨hbA HB.out⟩⟩
          · replace c11 := Bool.eq_false_iff.mpr c11
            subst c11
            rw [if_neg nofT] at H
            by_cases c12 : 0 ≤ x24_1
            · rw [if_pos c12] at H
              have c12b0 := eq_true c12
              have c12b1 : decide (0 ≤ x24_1) = true := decide_eq_true c12
              clear c12
              obtain ⟨ji13, hji13⟩ : ∃ j_ : Int, (shl .u64 1 x24_1) = j_ := ⟨_, rfl⟩
              replace H : ((matroid_Rank.f k1 a0_0 a0_1 l0_2 (Go.bits .or .u64 a1 (ji13))).bind fun bt254 => (if bt254.1 = t251 then (matroid_Span.l0 k1 a1 t251 (Go.bits .or .u64 x8_1 (ji13)) a0_0 (wrap64 (x24_1 + 1)) a0_0 a0_1 l0_2) else (matroid_Span.l0 k1 a1 t251 x8_1 a0_0 (wrap64 (x24_1 + 1)) a0_0 a0_1 l0_2))) = some (r1, r2) := by first | (rw [hji13] at H; exact H) | (simp only [hji13] at H ⊢; exact H)
              (try rw [hji13] at A10)
              have hji13_ : (IntKind.u64.wrap (1 * 2 ^ min x24_1.toNat 64)) = ji13 := hji13
              have hji13z : x24_1 ≤ 64 → (IntKind.u64.wrap (1 * 2 ^ x24_1.toNat)) = ji13 := shl_small hji13
              have hji13u : (IntKind.u64.wrap (2 ^ min x24_1.toNat 64)) = ji13 := by have h_ := hji13_; rw [Int.one_mul] at h_; exact h_
              have hji13v : x24_1 ≤ 64 → (IntKind.u64.wrap (2 ^ x24_1.toNat)) = ji13 := fun hle_ => by have h_ := hji13z hle_; rw [Int.one_mul] at h_; exact h_
              obtain ⟨⟨t254, t255⟩, A14, H⟩ := bindO H
              (try dsimp only at H)
              by_cases c15 : t254 = t251
              · rw [if_pos c15] at H
                have c15b0 : (t254 == t251) = true := beq_iff_eq.mpr c15
                have c15b1 : (t254 != t251) = false := bne_eq_false_iff_eq.mpr c15
                clear c15
                have c16b0 := eq_true (of_decide_eq_true asE : 0 ≤ x24_1)
                have H' := Aside0.mk H
                clear H
                try go_wp2_with (first | ((with_reducible refine gC 38 rfl ?_); refine cG (some 29) Tryd.func38 #[.int .u64 a1, .int .i64 x24_1] ?_; (with_reducible refine (subset_Has.calls a1 x24_1 false _ A10.out).mono ?_); rintro e w' ⟨rfl, ⟨nd, rfl⟩⟩; refine ⟨_, rfl, ?_⟩))
                (try (rw [drewN_self wr]; generalize hq_ : World.drewN wr _ = wr; have n0_ : Aside0 (wr.heap[gb250]? = some (.cells #[.int .i64 a0_0, .int .i64 a0_1, .slice A0_2 l0_2.length c0_2] 24 (0, 0))) := ⟨by rw [← hq_]; exact (bkA BK250.out)⟩; have n1_ : Aside0 (Below w.heap.size w wr) := ⟨by rw [← hq_]; exact (hbA HB.out)⟩; clear BK250 HB hq_; have BK250 := n0_; have HB := n1_; clear n0_ n1_))
                replace BK250 := Aside0.mk (blk_drew BK250.out)
                replace HB := Aside0.mk (below_drew1 HB.out)
                refine start_ (n := 11) (S := fun w' => w'.cell? ⟨gb250, 0, none⟩ = some (.int .i64 a0_0) ∧ w'.cell? ⟨gb250, 1, none⟩ = some (.int .i64 a0_1) ∧ w'.cell? ⟨gb250, 2, none⟩ = some (.slice A0_2 l0_2.length c0_2)) (ds := []) (.replicate 11 false) (by kernel_rfl) rfl rfl ⟨(blk_cell BK250.out 0).trans rfl, (blk_cell BK250.out 1).trans rfl, (blk_cell BK250.out 2).trans rfl⟩ (fun hHeld => ?_); refine with_tabW matroid_Span.tab9 matroid_Span.bits9 (fun HT_ HW_ => ?_)
                generalize wr.drew = w18 at BK250 HB hHeld ⊢
                refine pu 1 (some 32) (mB 11 2) HT_ ?_
                refine pu 2 (some 33) (mB 11 6) HT_ ?_
                refine pu 3 (some 34) (mB 11 14) HT_ ?_
                refine pu 4 (some 35) (mB 11 30) HT_ ?_
                refine tk3 0 (some 31) (mB 11 31) HT_ HW_ hHeld ?_
                refine one_ (i := 5) (N := some 36) (mB 11 63) rfl rfl (one_of HT_.out (by kernel_rfl)) (by decide) (fun K hK => ?_)
                refine goes_ Tryd.func12 (by kernel_rfl) rfl #[.agg #[.int .i64 a0_0, .int .i64 a0_1, .slice A0_2 l0_2.length c0_2], .int .u64 (Go.bits .or .u64 a1 (ji13))] (by rfl) rfl rfl (by (try simp only [List.map_toArray, List.map_cons, List.map_nil]); first | done | (simp only [hji13]; rfl) | rfl | (simp only [List.length_drop, List.length_take]; rfl)) ?_
                with_reducible refine (matroid_Rank.calls k1 a0_0 a0_1 _ _ l0_2 (Go.bits .or .u64 a1 (ji13)) t254 t255 _ ?side1 ?side2 A14.out (tab_below HT.out (by repeat (first | (with_reducible first | exact HB.out | apply below_alloc | apply pw_below_drewN | apply below_drew1) | exact HB.out | exact Below.refl _ _)))).mono ?_
                (case side1 => exact kcB HR0_2 HB)
                (case side2 => exact HC0_2.out)
                rintro e w19 ⟨rfl, hb⟩
                refine ⟨_, rfl, ?_⟩
                replace BK250 := bkB BK250 hb
                replace HB := hbB HB hb
                (try clear hb)
                (try clear hb2)
                (try clear hk)
                (try clear hi)
                refine hK.out _ _ ⟨(blk_cell BK250.out 0).trans rfl, (blk_cell BK250.out 1).trans rfl, (blk_cell BK250.out 2).trans rfl⟩ (fun hHeld => ?_)
                clear hK K
                refine norm_ (a' := ?_) ?_ ?_
                rotate_left
                · show Act.put _ (some 36) _ = _
                  simp only [Act.put, List.setIfInBounds_toArray, List.set_cons_zero, List.set_cons_succ, i64_w, i32_w]
                  rfl
                refine pu 6 (some 30) (mB 11 127) HT_ ?_
                refine pu 7 (some 37) (mB 11 255) HT_ ?_
                refine pu 8 (some 38) (mB 11 511) HT_ ?_
                refine pu 9 (some 10) (mB 11 1023) HT_ ?_
                refine pu 10 (some 11) (mB 11 2047) HT_ ?_
                refine done_ (done_of HT_.out (by kernel_rfl)) ?_
                try go_wp2
                go_roundg k1
                case measure => have := HK1.out; omega
                case rel => exact ⟨(Go.bits .or .u64 x8_1 (ji13)), (wrap64 (x24_1 + 1)), (by first | rfl | (simp; done) | (simp only [← hji13] <;> (first | rfl | simp)) | (simp [*]; done)), rsE, H', ⟨by have := HK1.out; omega⟩, ⟨bkA BK250.out⟩, ⟨hbA HB.out⟩⟩
              · rw [if_neg c15] at H
                have c15b0 : (t254 == t251) = false := beq_eq_false_iff_ne.mpr c15
                have c15b1 : (t254 != t251) = true := bne_iff_ne.mpr c15
                have H' := Aside0.mk H
                clear H
                try go_wp2_with (first | ((with_reducible refine gC 38 rfl ?_); refine cG (some 29) Tryd.func38 #[.int .u64 a1, .int .i64 x24_1] ?_; (with_reducible refine (subset_Has.calls a1 x24_1 false _ A10.out).mono ?_); rintro e w' ⟨rfl, ⟨nd, rfl⟩⟩; refine ⟨_, rfl, ?_⟩))
                (try (rw [drewN_self wr]; generalize hq_ : World.drewN wr _ = wr; have n0_ : Aside0 (wr.heap[gb250]? = some (.cells #[.int .i64 a0_0, .int .i64 a0_1, .slice A0_2 l0_2.length c0_2] 24 (0, 0))) := ⟨by rw [← hq_]; exact (bkA BK250.out)⟩; have n1_ : Aside0 (Below w.heap.size w wr) := ⟨by rw [← hq_]; exact (hbA HB.out)⟩; clear BK250 HB hq_; have BK250 := n0_; have HB := n1_; clear n0_ n1_))
                replace BK250 := Aside0.mk (blk_drew BK250.out)
                replace HB := Aside0.mk (below_drew1 HB.out)
                refine start_ (n := 11) (S := fun w' => w'.cell? ⟨gb250, 0, none⟩ = some (.int .i64 a0_0) ∧ w'.cell? ⟨gb250, 1, none⟩ = some (.int .i64 a0_1) ∧ w'.cell? ⟨gb250, 2, none⟩ = some (.slice A0_2 l0_2.length c0_2)) (ds := []) (.replicate 11 false) (by kernel_rfl) rfl rfl ⟨(blk_cell BK250.out 0).trans rfl, (blk_cell BK250.out 1).trans rfl, (blk_cell BK250.out 2).trans rfl⟩ (fun hHeld => ?_); refine with_tabW matroid_Span.tab9 matroid_Span.bits9 (fun HT_ HW_ => ?_)
                generalize wr.drew = w20 at BK250 HB hHeld ⊢
                refine pu 1 (some 32) (mB 11 2) HT_ ?_
                refine pu 2 (some 33) (mB 11 6) HT_ ?_
                refine pu 3 (some 34) (mB 11 14) HT_ ?_
                refine pu 4 (some 35) (mB 11 30) HT_ ?_
                refine tk3 0 (some 31) (mB 11 31) HT_ HW_ hHeld ?_
                refine one_ (i := 5) (N := some 36) (mB 11 63) rfl rfl (one_of HT_.out (by kernel_rfl)) (by decide) (fun K hK => ?_)
                refine goes_ Tryd.func12 (by kernel_rfl) rfl #[.agg #[.int .i64 a0_0, .int .i64 a0_1, .slice A0_2 l0_2.length c0_2], .int .u64 (Go.bits .or .u64 a1 (ji13))] (by rfl) rfl rfl (by (try simp only [List.map_toArray, List.map_cons, List.map_nil]); first | done | (simp only [hji13]; rfl) | rfl | (simp only [List.length_drop, List.length_take]; rfl)) ?_
                with_reducible refine (matroid_Rank.calls k1 a0_0 a0_1 _ _ l0_2 (Go.bits .or .u64 a1 (ji13)) t254 t255 _ ?side1 ?side2 A14.out (tab_below HT.out (by repeat (first | (with_reducible first | exact HB.out | apply below_alloc | apply pw_below_drewN | apply below_drew1) | exact HB.out | exact Below.refl _ _)))).mono ?_
                (case side1 => exact kcB HR0_2 HB)
                (case side2 => exact HC0_2.out)
                rintro e w21 ⟨rfl, hb⟩
                refine ⟨_, rfl, ?_⟩
                replace BK250 := bkB BK250 hb
                replace HB := hbB HB hb
                (try clear hb)
                (try clear hb2)
                (try clear hk)
                (try clear hi)
                refine hK.out _ _ ⟨(blk_cell BK250.out 0).trans rfl, (blk_cell BK250.out 1).trans rfl, (blk_cell BK250.out 2).trans rfl⟩ (fun hHeld => ?_)
                clear hK K
                refine norm_ (a' := ?_) ?_ ?_
                rotate_left
                · show Act.put _ (some 36) _ = _
                  simp only [Act.put, List.setIfInBounds_toArray, List.set_cons_zero, List.set_cons_succ, i64_w, i32_w]
                  rfl
                refine pu 6 (some 30) (mB 11 127) HT_ ?_
                refine pu 7 (some 37) (mB 11 255) HT_ ?_
                refine pu 8 (some 38) (mB 11 511) HT_ ?_
                refine pu 9 (some 10) (mB 11 1023) HT_ ?_
                refine pu 10 (some 11) (mB 11 2047) HT_ ?_
                refine done_ (done_of HT_.out (by kernel_rfl)) ?_
                try go_wp2
                go_roundg k1
                case measure => have := HK1.out; omega
                case rel => exact ⟨(x8_1), (wrap64 (x24_1 + 1)), rsE, rsE, H', ⟨by have := HK1.out; omega⟩, ⟨bkA BK250.out⟩, ⟨hbA HB.out⟩⟩
            · rw [if_neg c12] at H
              exact absurd H (by simp)
        · rw [if_neg c9] at H
          have c9b0 : decide (x24_1 < a0_0) = false := decide_eq_false c9
          clear c9
          simp only [Option.some.injEq, Prod.mk.injEq] at H
          obtain ⟨rfl, rfl⟩ := H
          go_wp2
          (try simp only [Exit.noGoto])
          go_ret2
          exact ⟨rfE, hbA HB.out⟩
  · rw [if_neg c4] at H
    have c4b0 : (t252 == 0) = false := beq_eq_false_iff_ne.mpr c4
    have c4b1 : (t252 != 0) = true := bne_iff_ne.mpr c4
    simp only [Option.some.injEq, Prod.mk.injEq] at H
    obtain ⟨rfl, rfl⟩ := H
    go_enter Tryd.func18, Tryd.ntmps18
    go_wp2_with (first | ((with_reducible refine gD 2 rfl ?_); refine bE 2 #[.int .i64 a0_0, .int .i64 a0_1, .slice A0_2 l0_2.length c0_2] 24 ?_; intro gb250 hg w22 hbox hb; have BK250 := Aside0.mk (hbox); have GW250 := hbS HB hg; have GE250 := hbS HB hg; replace HB := hbB HB hb; clear hb hbox hg; obtain ⟨hcz23_0, hcz23_1, hcz23_2, hfz23_0, hfz23_1, hfz23_2⟩ := cell3 BK250) | ((with_reducible refine gC 12 rfl ?_); refine cG (some 15) Tryd.func12 #[.agg #[.int .i64 a0_0, .int .i64 a0_1, .slice A0_2 l0_2.length c0_2], .int .u64 a1] ?_; (with_reducible refine (matroid_Rank.calls k a0_0 a0_1 _ _ l0_2 a1 t251 t252 _ ?side1 ?side2 A3.out (tab_below HT.out (by repeat (first | (with_reducible first | exact HB.out | apply below_alloc | apply pw_below_drewN | apply below_drew1) | exact HB.out | exact Below.refl _ _)))).mono ?_); (case side1 => exact kcB HR0_2 HB); (case side2 => exact HC0_2.out); rintro e w24 ⟨rfl, hb⟩; refine ⟨_, rfl, ?_⟩; replace BK250 := bkB BK250 hb; replace HB := hbB HB hb; (try clear hb); (try clear hb2); (try clear hk); (try clear hi)))
    refine wp_scope_straight ?_
    go_wp2_with (first | ((with_reducible refine gD 2 rfl ?_); refine bE 2 #[.int .i64 a0_0, .int .i64 a0_1, .slice A0_2 l0_2.length c0_2] 24 ?_; intro gb250 hg w22 hbox hb; have BK250 := Aside0.mk (hbox); have GW250 := hbS HB hg; have GE250 := hbS HB hg; replace HB := hbB HB hb; clear hb hbox hg; obtain ⟨hcz23_0, hcz23_1, hcz23_2, hfz23_0, hfz23_1, hfz23_2⟩ := cell3 BK250) | ((with_reducible refine gC 12 rfl ?_); refine cG (some 15) Tryd.func12 #[.agg #[.int .i64 a0_0, .int .i64 a0_1, .slice A0_2 l0_2.length c0_2], .int .u64 a1] ?_; (with_reducible refine (matroid_Rank.calls k a0_0 a0_1 _ _ l0_2 a1 t251 t252 _ ?side1 ?side2 A3.out (tab_below HT.out (by repeat (first | (with_reducible first | exact HB.out | apply below_alloc | apply pw_below_drewN | apply below_drew1) | exact HB.out | exact Below.refl _ _)))).mono ?_); (case side1 => exact kcB HR0_2 HB); (case side2 => exact HC0_2.out); rintro e w24 ⟨rfl, hb⟩; refine ⟨_, rfl, ?_⟩; replace BK250 := bkB BK250 hb; replace HB := hbB HB hb; (try clear hb); (try clear hb2); (try clear hk); (try clear hi)))
    (try simp only [Exit.noGoto])
    go_ret2
    exact ⟨rfE, hbA HB.out⟩

end Go.Proofs.YthjncmdlhmppiaaDoor.Q
