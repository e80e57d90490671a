/- Written by drive.py (a program of this repo, over the kit's print): each Go function named here answers what the Lean function beside it answers, wherever that one answers, in every world that meets the stated premises. -/
import Derived.Test.YtjgcocfnilhggaaDoorQx0
import Derived.Test.YtjgcocfnilhggaaDoorQx118
import Derived.Test.YtjgcocfnilhggaaDoorQx157
namespace Go.Proofs.YtjgcocfnilhggaaDoor.Q
open Go.RowKit Go.Proofs.YtjgcocfnilhggaaDoorW.PrintWords Go.Proofs.YtjgcocfnilhggaaDoorW.PrintLast Go.Proofs.YtjgcocfnilhggaaDoorW.PrintMore
attribute [local go_sem] max2_int min2_int max_two min_two max_three min_three max_four min_four   -- for this text's walks alone
set_option linter.unusedVariables false
set_option linter.unusedSimpArgs false

/-! ### recoupref16_May: function 29 -/
def recoupref16_May.l0 : Nat → Int → Int → Int → List Int → List Int → Option (Bool)
  | 0, _, _, _, _, _ => none
  | k + 1, x3, x232000, x232001, x232002, x232003 => if x3 < (x232003.length : Int) then (if 0 ≤ x3 then ((recoupref07_Needed.f k x232000 x232001 x232002 (rd x232003 x3)).bind fun bt234 => (if bt234.2 = 0 then (if bt234.1 = 0 then (recoupref16_May.l0 k (wrap64 (x3 + 1)) x232000 x232001 x232002 x232003) else (some false)) else (some false))) else (none)) else (some true)
def recoupref16_May.f (k : Nat) (a0_0 : Int) (a0_1 : Int) (l0_2 : List Int) (l0_3 : List Int) : Option (Bool) := (recoupref16_Generator.f a0_0 a0_1 l0_2).bind fun t232 => (if t232 = true then (recoupref16_May.l0 k 0 a0_0 a0_1 l0_2 l0_3) else (some false))
theorem recoupref16_May.mono_l : ∀ k, (∀ y0 y1 y2 y3 y4, LeO (recoupref16_May.l0 k y0 y1 y2 y3 y4) (recoupref16_May.l0 (k + 1) y0 y1 y2 y3 y4))
  | 0 => fun _ _ _ _ _ r h => by simp [recoupref16_May.l0] at h
  | k + 1 => by
    have ih0 := recoupref16_May.mono_l k
    · intro y0 y1 y2 y3 y4
      unfold recoupref16_May.l0
      repeat' first
      | (with_reducible exact ih0 _ _ _ _ _)
      | (with_reducible exact recoupref07_Needed.mono _ _ _ _ _)
      | (with_reducible exact LeO.refl _)
      | (with_reducible exact LeO.none _)
      | (with_reducible refine LeO.ite ?_ ?_)
      | (with_reducible refine LeO.bind ?_ (fun _ => ?_))
      | exact ih0 _ _ _ _ _
      | exact recoupref07_Needed.mono _ _ _ _ _
      | exact LeO.none _
      | refine LeO.ite ?_ ?_
      | refine LeO.bind ?_ (fun _ => ?_)
theorem recoupref16_May.mono : ∀ a0 a1 a2 a3 k, LeO (recoupref16_May.f k a0 a1 a2 a3) (recoupref16_May.f (k + 1) a0 a1 a2 a3) := by
  intro a0 a1 a2 a3 k
  have ih0 := recoupref16_May.mono_l k
  unfold recoupref16_May.f
  repeat' first
      | (with_reducible exact ih0 _ _ _ _ _)
      | (with_reducible exact recoupref07_Needed.mono _ _ _ _ _)
      | (with_reducible exact LeO.refl _)
      | (with_reducible exact LeO.none _)
      | (with_reducible refine LeO.ite ?_ ?_)
      | (with_reducible refine LeO.bind ?_ (fun _ => ?_))
      | exact ih0 _ _ _ _ _
      | exact recoupref07_Needed.mono _ _ _ _ _
      | exact LeO.none _
      | refine LeO.ite ?_ ?_
      | refine LeO.bind ?_ (fun _ => ?_)
def recoupref16_May.T6 : Bool × List (List Nat × List Nat) := (true, [([], []), ([0], [0]), ([], []), ([2], [2]), ([], []), ([3, 4], [3, 4]), ([5], [5]), ([1, 6], [1, 6]), ([7], [7]), ([8], [8]), ([8], [8]), ([9, 7, 0, 1, 2, 3, 4, 5, 6, 7, 8, 9], [9]), ([10, 11, 0, 1, 2, 3, 4, 5, 6, 7, 8, 9, 10, 11], [10])])
def recoupref16_May.B6 : List Nat := [0, 1, 0, 4, 0, 28, 60, 127, 255, 511, 511, 1023, 4095]
theorem recoupref16_May.tab6 : rtab .any (opsOf Tryd.f29 6) = recoupref16_May.T6 := by kernel_rfl
theorem recoupref16_May.bits6 : waitsOk recoupref16_May.T6.2 recoupref16_May.B6 = true := by kernel_rfl
set_option maxHeartbeats 8000000 in
set_option maxRecDepth 100000 in
theorem recoupref16_May.calls (k : Nat) (a0_0 : Int) (a0_1 : Int) (A0_2 : Option Addr) (c0_2 : Nat) (l0_2 : List Int) (A0_3 : Option Addr) (c0_3 : Nat) (l0_3 : List Int) (r : Bool) (w : World) (hr0_2 : Kd.C (Kd.int .u8) w A0_2 l0_2.length l0_2) (hc0_2 : l0_2.length ≤ c0_2) (hr0_3 : Kd.C (Kd.int .u64) w A0_3 l0_3.length l0_3) (hc0_3 : l0_3.length ≤ c0_3) (h : recoupref16_May.f k a0_0 a0_1 l0_2 l0_3 = some r) :
    Calls Tryd.prog 29 #[.agg #[.int .i64 a0_0, .int .i64 a0_1, .slice A0_2 l0_2.length c0_2, .slice A0_3 l0_3.length c0_3]] w fun e w' => e = .returned (.bool r) ∧ Below w.heap.size w w' := by
  have hu27 := Tryd.underlying27
  have hu24 := Tryd.underlying24
  have HR0_2 := Aside0.mk hr0_2
  have HC0_2 := Aside0.mk hc0_2
  clear hr0_2 hc0_2
  have HR0_3 := Aside0.mk hr0_3
  have HC0_3 := Aside0.mk hc0_3
  clear hr0_3 hc0_3
  have HB := Aside0.mk (Below.refl w.heap.size w)
  have H : ((recoupref16_Generator.f a0_0 a0_1 l0_2).bind fun t232 => (if t232 = true then (recoupref16_May.l0 k 0 a0_0 a0_1 l0_2 l0_3) else (some false))) = some r := h
  clear h
  obtain ⟨t232, A2, H⟩ := bindO H
  (try dsimp only at H)
  by_cases c3 : t232 = true
  · subst c3
    rw [if_pos rfl] at H
    have H' := Aside0.mk H
    clear H
    go_enter Tryd.func29, Tryd.ntmps29
    go_wp2_with (first | ((with_reducible refine gD 1 rfl ?_); refine bE 1 #[.int .i64 a0_0, .int .i64 a0_1, .slice A0_2 l0_2.length c0_2, .slice A0_3 l0_3.length c0_3] 27 ?_; intro gb231 hg w4 hbox hb; have BK231 := Aside0.mk (hbox); have GW231 := hbS HB hg; have GE231 := hbS HB hg; replace HB := hbB HB hb; clear hb hbox hg; obtain ⟨hcz5_0, hcz5_1, hcz5_2, hcz5_3, hfz5_0, hfz5_1, hfz5_2, hfz5_3⟩ := cell4 BK231) | ((with_reducible refine gC 14 rfl ?_); refine cG (some 8) Tryd.func14 #[.agg #[.int .i64 a0_0, .int .i64 a0_1, .slice A0_2 l0_2.length c0_2]] ?_; (with_reducible refine (recoupref16_Generator.calls a0_0 a0_1 _ _ l0_2 true _ ?side1 ?side2 A2.out).mono ?_); (case side1 => exact kcB HR0_2 HB); (case side2 => exact HC0_2.out); rintro e w6 ⟨rfl, hb⟩; refine ⟨_, rfl, ?_⟩; replace BK231 := bkB BK231 hb; replace HB := hbB HB hb; (try clear hb); (try clear hb2); (try clear hk); (try clear hi)))
    go_loopg [3] k (fun kq v3 w' => ∃ (x3_1 : Int), v3 = .int .i64 x3_1 ∧ Aside0 (recoupref16_May.l0 kq x3_1 a0_0 a0_1 l0_2 l0_3 = some r) ∧ Aside0 (kq ≤ k) ∧ Aside0 (w'.heap[gb231]? = some (.cells #[.int .i64 a0_0, .int .i64 a0_1, (.slice A0_2 l0_2.length c0_2), (.slice A0_3 l0_3.length c0_3)] 27 (0, 0))) ∧ Aside0 (Below w.heap.size w w'))
    case atStart => exact ⟨(0), rsE, H', ⟨Nat.le_refl _⟩, ⟨bkA BK231.out⟩, ⟨hbA HB.out⟩⟩
    case round =>
      clear H'
      (try clear c1); (try clear c2); (try clear p2); (try clear c3); (try clear hcz5_0 hcz5_1 hcz5_2 hcz5_3 hfz5_0 hfz5_1 hfz5_2 hfz5_3)
      obtain ⟨x3_1, rfl, HA, HK1, BK231, HB⟩ := hrel
      cases gk with
      | zero => exact absurd HA.out (by simp [recoupref16_May.l0])
      | succ k1 =>
        have H := HA.out
        clear HA
        simp only [recoupref16_May.l0] at H
        by_cases c7 : x3_1 < (l0_3.length : Int)
        · rw [if_pos c7] at H
          have c7b0 : decide (x3_1 < (l0_3.length : Int)) = true := decide_eq_true c7
          clear c7
          by_cases c8 : 0 ≤ x3_1
          · rw [if_pos c8] at H
            have c8b0 : decide (0 ≤ x3_1) = true := decide_eq_true c8
            clear c8
            obtain ⟨⟨t234, t235⟩, A9, H⟩ := bindO H
            (try dsimp only at H)
            by_cases c10 : t235 = 0
            · rw [if_pos c10] at H
              have c10b0 : (t235 == 0) = true := beq_iff_eq.mpr c10
              have c10b1 : (t235 != 0) = false := bne_eq_false_iff_eq.mpr c10
              clear c10
              by_cases c11 : t234 = 0
              · rw [if_pos c11] at H
                have c11b0 : (t234 == 0) = true := beq_iff_eq.mpr c11
                have c11b1 : (t234 != 0) = false := bne_eq_false_iff_eq.mpr c11
                clear c11
                have H' := Aside0.mk H
                clear H
                obtain ⟨hcz12_0, hcz12_1, hcz12_2, hcz12_3, hfz12_0, hfz12_1, hfz12_2, hfz12_3⟩ := cell4 BK231
                try go_wp2
                replace BK231 := Aside0.mk (blk_drew BK231.out)
                replace HB := Aside0.mk (below_drew1 HB.out)
                have p233 : 0 ≤ (x3_1 : Int) := of_decide_eq_true asE
                have q233 : x3_1 < (l0_3.length : Int) := of_decide_eq_true asE
                obtain ⟨ad233, e233, hx233_0⟩ := Kd.at_int HR0_3.out x3_1 p233 q233
                have hw233_0 := hx233_0
                cases e233
                replace hx233_0 := (HB.out.cell (World.block_lt_of_cell? w _ hx233_0)).trans hx233_0
                replace p233 := eq_true p233
                replace q233 := eq_true q233
                refine start_ (n := 13) (S := fun w' => w'.cell? ⟨gb231, 0, none⟩ = some (.int .i64 a0_0) ∧ w'.cell? ⟨gb231, 1, none⟩ = some (.int .i64 a0_1) ∧ w'.cell? ⟨gb231, 2, none⟩ = some (.slice A0_2 l0_2.length c0_2) ∧ w'.cell? ⟨gb231, 3, none⟩ = some (.slice (some ad233) l0_3.length c0_3) ∧ w'.cell? (ad233.add (x3_1).toNat) = some (.int .u64 (rd l0_3 x3_1))) (ds := []) (.replicate 13 false) (by kernel_rfl) rfl rfl ⟨(blk_cell BK231.out 0).trans rfl, (blk_cell BK231.out 1).trans rfl, (blk_cell BK231.out 2).trans rfl, (blk_cell BK231.out 3).trans rfl, ((HB.out.cell (World.block_lt_of_cell? w _ hw233_0)).trans hw233_0)⟩ (fun hHeld => ?_); refine with_tabW recoupref16_May.tab6 recoupref16_May.bits6 (fun HT_ HW_ => ?_)
                generalize wr.drew = w13 at BK231 HB hx233_0 hHeld ⊢
                refine pu 0 (some 18) (mB 13 1) HT_ ?_
                refine pu 2 (some 20) (mB 13 5) HT_ ?_
                refine pu 4 (some 22) (mB 13 21) HT_ ?_
                refine tk5 1 (some 19) (mB 13 23) HT_ HW_ hHeld ?_
                refine tk5 3 (some 21) (mB 13 31) HT_ HW_ hHeld ?_
                refine pu 5 (some 23) (mB 13 63) HT_ ?_
                refine tk5 6 (some 24) (mB 13 127) HT_ HW_ hHeld ?_
                refine one_ (i := 7) (N := some 25) (mB 13 255) rfl rfl (one_of HT_.out (by kernel_rfl)) (by decide) (fun K hK => ?_)
                refine goes_ Tryd.func57 (by kernel_rfl) rfl #[.agg #[.int .i64 a0_0, .int .i64 a0_1, .slice A0_2 l0_2.length c0_2], .int .u64 (rd l0_3 x3_1)] (by rfl) rfl rfl (by (try simp only [List.map_toArray, List.map_cons, List.map_nil]); first | done | rfl | (simp only [List.length_drop, List.length_take]; rfl)) ?_
                with_reducible refine (recoupref07_Needed.calls k1 a0_0 a0_1 _ _ l0_2 (rd l0_3 x3_1) t234 t235 _ ?side1 ?side2 A9.out).mono ?_
                (case side1 => exact kcB HR0_2 HB)
                (case side2 => exact HC0_2.out)
                rintro e w14 ⟨rfl, hb⟩
                refine ⟨_, rfl, ?_⟩
                replace BK231 := bkB BK231 hb
                replace HB := hbB HB hb
                (try clear hb)
                (try clear hb2)
                (try clear hk)
                (try clear hi)
                refine hK.out _ _ ⟨(blk_cell BK231.out 0).trans rfl, (blk_cell BK231.out 1).trans rfl, (blk_cell BK231.out 2).trans rfl, (blk_cell BK231.out 3).trans rfl, ((HB.out.cell (World.block_lt_of_cell? w _ hw233_0)).trans hw233_0)⟩ (fun hHeld => ?_)
                clear hK K
                refine norm_ (a' := ?_) ?_ ?_
                rotate_left
                · show Act.put _ (some 25) _ = _
                  simp only [Act.put, List.setIfInBounds_toArray, List.set_cons_zero, List.set_cons_succ, i64_w, i32_w]
                  rfl
                refine pu 8 (some 17) (mB 13 511) HT_ ?_
                refine pu 9 (some 26) (mB 13 1023) HT_ ?_
                refine pu 10 (some 27) (mB 13 2047) HT_ ?_
                refine pu 11 (some 4) (mB 13 4095) HT_ ?_
                refine pu 12 (some 5) (mB 13 8191) HT_ ?_
                refine done_ (done_of HT_.out (by kernel_rfl)) ?_
                try go_wp2
                go_roundg k1
                case measure => have := HK1.out; omega
                case rel => exact ⟨(wrap64 (x3_1 + 1)), rsE, H', ⟨by have := HK1.out; omega⟩, ⟨bkA BK231.out⟩, ⟨hbA HB.out⟩⟩
              · rw [if_neg c11] at H
                have c11b0 : (t234 == 0) = false := beq_eq_false_iff_ne.mpr c11
                have c11b1 : (t234 != 0) = true := bne_iff_ne.mpr c11
                obtain rfl := Option.some.inj H
                obtain ⟨hcz15_0, hcz15_1, hcz15_2, hcz15_3, hfz15_0, hfz15_1, hfz15_2, hfz15_3⟩ := cell4 BK231
                try go_wp2
                replace BK231 := Aside0.mk (blk_drew BK231.out)
                replace HB := Aside0.mk (below_drew1 HB.out)
                have p233 : 0 ≤ (x3_1 : Int) := of_decide_eq_true asE
                have q233 : x3_1 < (l0_3.length : Int) := of_decide_eq_true asE
                obtain ⟨ad233, e233, hx233_0⟩ := Kd.at_int HR0_3.out x3_1 p233 q233
                have hw233_0 := hx233_0
                cases e233
                replace hx233_0 := (HB.out.cell (World.block_lt_of_cell? w _ hx233_0)).trans hx233_0
                replace p233 := eq_true p233
                replace q233 := eq_true q233
                refine start_ (n := 13) (S := fun w' => w'.cell? ⟨gb231, 0, none⟩ = some (.int .i64 a0_0) ∧ w'.cell? ⟨gb231, 1, none⟩ = some (.int .i64 a0_1) ∧ w'.cell? ⟨gb231, 2, none⟩ = some (.slice A0_2 l0_2.length c0_2) ∧ w'.cell? ⟨gb231, 3, none⟩ = some (.slice (some ad233) l0_3.length c0_3) ∧ w'.cell? (ad233.add (x3_1).toNat) = some (.int .u64 (rd l0_3 x3_1))) (ds := []) (.replicate 13 false) (by kernel_rfl) rfl rfl ⟨(blk_cell BK231.out 0).trans rfl, (blk_cell BK231.out 1).trans rfl, (blk_cell BK231.out 2).trans rfl, (blk_cell BK231.out 3).trans rfl, ((HB.out.cell (World.block_lt_of_cell? w _ hw233_0)).trans hw233_0)⟩ (fun hHeld => ?_); refine with_tabW recoupref16_May.tab6 recoupref16_May.bits6 (fun HT_ HW_ => ?_)
                generalize wr.drew = w16 at BK231 HB hx233_0 hHeld ⊢
                refine pu 0 (some 18) (mB 13 1) HT_ ?_
                refine pu 2 (some 20) (mB 13 5) HT_ ?_
                refine pu 4 (some 22) (mB 13 21) HT_ ?_
                refine tk5 1 (some 19) (mB 13 23) HT_ HW_ hHeld ?_
                refine tk5 3 (some 21) (mB 13 31) HT_ HW_ hHeld ?_
                refine pu 5 (some 23) (mB 13 63) HT_ ?_
                refine tk5 6 (some 24) (mB 13 127) HT_ HW_ hHeld ?_
                refine one_ (i := 7) (N := some 25) (mB 13 255) rfl rfl (one_of HT_.out (by kernel_rfl)) (by decide) (fun K hK => ?_)
                refine goes_ Tryd.func57 (by kernel_rfl) rfl #[.agg #[.int .i64 a0_0, .int .i64 a0_1, .slice A0_2 l0_2.length c0_2], .int .u64 (rd l0_3 x3_1)] (by rfl) rfl rfl (by (try simp only [List.map_toArray, List.map_cons, List.map_nil]); first | done | rfl | (simp only [List.length_drop, List.length_take]; rfl)) ?_
                with_reducible refine (recoupref07_Needed.calls k1 a0_0 a0_1 _ _ l0_2 (rd l0_3 x3_1) t234 t235 _ ?side1 ?side2 A9.out).mono ?_
                (case side1 => exact kcB HR0_2 HB)
                (case side2 => exact HC0_2.out)
                rintro e w17 ⟨rfl, hb⟩
                refine ⟨_, rfl, ?_⟩
                replace BK231 := bkB BK231 hb
                replace HB := hbB HB hb
                (try clear hb)
                (try clear hb2)
                (try clear hk)
                (try clear hi)
                refine hK.out _ _ ⟨(blk_cell BK231.out 0).trans rfl, (blk_cell BK231.out 1).trans rfl, (blk_cell BK231.out 2).trans rfl, (blk_cell BK231.out 3).trans rfl, ((HB.out.cell (World.block_lt_of_cell? w _ hw233_0)).trans hw233_0)⟩ (fun hHeld => ?_)
                clear hK K
                refine norm_ (a' := ?_) ?_ ?_
                rotate_left
                · show Act.put _ (some 25) _ = _
                  simp only [Act.put, List.setIfInBounds_toArray, List.set_cons_zero, List.set_cons_succ, i64_w, i32_w]
                  rfl
                refine pu 8 (some 17) (mB 13 511) HT_ ?_
                refine pu 9 (some 26) (mB 13 1023) HT_ ?_
                refine pu 10 (some 27) (mB 13 2047) HT_ ?_
                refine pu 11 (some 4) (mB 13 4095) HT_ ?_
                refine pu 12 (some 5) (mB 13 8191) HT_ ?_
                refine done_ (done_of HT_.out (by kernel_rfl)) ?_
                try go_wp2
                go_ret
                exact ⟨rfE, hbA HB.out⟩
            · rw [if_neg c10] at H
              have c10b0 : (t235 == 0) = false := beq_eq_false_iff_ne.mpr c10
              have c10b1 : (t235 != 0) = true := bne_iff_ne.mpr c10
              obtain rfl := Option.some.inj H
              obtain ⟨hcz18_0, hcz18_1, hcz18_2, hcz18_3, hfz18_0, hfz18_1, hfz18_2, hfz18_3⟩ := cell4 BK231
              try go_wp2
              replace BK231 := Aside0.mk (blk_drew BK231.out)
              replace HB := Aside0.mk (below_drew1 HB.out)
              have p233 : 0 ≤ (x3_1 : Int) := of_decide_eq_true asE
              have q233 : x3_1 < (l0_3.length : Int) := of_decide_eq_true asE
              obtain ⟨ad233, e233, hx233_0⟩ := Kd.at_int HR0_3.out x3_1 p233 q233
              have hw233_0 := hx233_0
              cases e233
              replace hx233_0 := (HB.out.cell (World.block_lt_of_cell? w _ hx233_0)).trans hx233_0
              replace p233 := eq_true p233
              replace q233 := eq_true q233
              refine start_ (n := 13) (S := fun w' => w'.cell? ⟨gb231, 0, none⟩ = some (.int .i64 a0_0) ∧ w'.cell? ⟨gb231, 1, none⟩ = some (.int .i64 a0_1) ∧ w'.cell? ⟨gb231, 2, none⟩ = some (.slice A0_2 l0_2.length c0_2) ∧ w'.cell? ⟨gb231, 3, none⟩ = some (.slice (some ad233) l0_3.length c0_3) ∧ w'.cell? (ad233.add (x3_1).toNat) = some (.int .u64 (rd l0_3 x3_1))) (ds := []) (.replicate 13 false) (by kernel_rfl) rfl rfl ⟨(blk_cell BK231.out 0).trans rfl, (blk_cell BK231.out 1).trans rfl, (blk_cell BK231.out 2).trans rfl, (blk_cell BK231.out 3).trans rfl, ((HB.out.cell (World.block_lt_of_cell? w _ hw233_0)).trans hw233_0)⟩ (fun hHeld => ?_); refine with_tabW recoupref16_May.tab6 recoupref16_May.bits6 (fun HT_ HW_ => ?_)
              generalize wr.drew = w19 at BK231 HB hx233_0 hHeld ⊢
              refine pu 0 (some 18) (mB 13 1) HT_ ?_
              refine pu 2 (some 20) (mB 13 5) HT_ ?_
              refine pu 4 (some 22) (mB 13 21) HT_ ?_
              refine tk5 1 (some 19) (mB 13 23) HT_ HW_ hHeld ?_
              refine tk5 3 (some 21) (mB 13 31) HT_ HW_ hHeld ?_
              refine pu 5 (some 23) (mB 13 63) HT_ ?_
              refine tk5 6 (some 24) (mB 13 127) HT_ HW_ hHeld ?_
              refine one_ (i := 7) (N := some 25) (mB 13 255) rfl rfl (one_of HT_.out (by kernel_rfl)) (by decide) (fun K hK => ?_)
              refine goes_ Tryd.func57 (by kernel_rfl) rfl #[.agg #[.int .i64 a0_0, .int .i64 a0_1, .slice A0_2 l0_2.length c0_2], .int .u64 (rd l0_3 x3_1)] (by rfl) rfl rfl (by (try simp only [List.map_toArray, List.map_cons, List.map_nil]); first | done | rfl | (simp only [List.length_drop, List.length_take]; rfl)) ?_
              with_reducible refine (recoupref07_Needed.calls k1 a0_0 a0_1 _ _ l0_2 (rd l0_3 x3_1) t234 t235 _ ?side1 ?side2 A9.out).mono ?_
              (case side1 => exact kcB HR0_2 HB)
              (case side2 => exact HC0_2.out)
              rintro e w20 ⟨rfl, hb⟩
              refine ⟨_, rfl, ?_⟩
              replace BK231 := bkB BK231 hb
              replace HB := hbB HB hb
              (try clear hb)
              (try clear hb2)
              (try clear hk)
              (try clear hi)
              refine hK.out _ _ ⟨(blk_cell BK231.out 0).trans rfl, (blk_cell BK231.out 1).trans rfl, (blk_cell BK231.out 2).trans rfl, (blk_cell BK231.out 3).trans rfl, ((HB.out.cell (World.block_lt_of_cell? w _ hw233_0)).trans hw233_0)⟩ (fun hHeld => ?_)
              clear hK K
              refine norm_ (a' := ?_) ?_ ?_
              rotate_left
              · show Act.put _ (some 25) _ = _
                simp only [Act.put, List.setIfInBounds_toArray, List.set_cons_zero, List.set_cons_succ, i64_w, i32_w]
                rfl
              refine pu 8 (some 17) (mB 13 511) HT_ ?_
              refine pu 9 (some 26) (mB 13 1023) HT_ ?_
              refine pu 10 (some 27) (mB 13 2047) HT_ ?_
              refine pu 11 (some 4) (mB 13 4095) HT_ ?_
              refine pu 12 (some 5) (mB 13 8191) HT_ ?_
              refine done_ (done_of HT_.out (by kernel_rfl)) ?_
              try go_wp2
              go_ret
              exact ⟨rfE, hbA HB.out⟩
          · rw [if_neg c8] at H
            exact absurd H (by simp)
        · rw [if_neg c7] at H
          have c7b0 : decide (x3_1 < (l0_3.length : Int)) = false := decide_eq_false c7
          clear c7
          obtain rfl := Option.some.inj H
          obtain ⟨hcz21_0, hcz21_1, hcz21_2, hcz21_3, hfz21_0, hfz21_1, hfz21_2, hfz21_3⟩ := cell4 BK231
          go_wp2
          go_ret
          exact ⟨rfE, hbA HB.out⟩
  · replace c3 := Bool.eq_false_iff.mpr c3
    subst c3
    rw [if_neg nofT] at H
    obtain rfl := Option.some.inj H
    go_enter Tryd.func29, Tryd.ntmps29
    go_wp2_with (first | ((with_reducible refine gD 1 rfl ?_); refine bE 1 #[.int .i64 a0_0, .int .i64 a0_1, .slice A0_2 l0_2.length c0_2, .slice A0_3 l0_3.length c0_3] 27 ?_; intro gb231 hg w22 hbox hb; have BK231 := Aside0.mk (hbox); have GW231 := hbS HB hg; have GE231 := hbS HB hg; replace HB := hbB HB hb; clear hb hbox hg; obtain ⟨hcz23_0, hcz23_1, hcz23_2, hcz23_3, hfz23_0, hfz23_1, hfz23_2, hfz23_3⟩ := cell4 BK231) | ((with_reducible refine gC 14 rfl ?_); refine cG (some 8) Tryd.func14 #[.agg #[.int .i64 a0_0, .int .i64 a0_1, .slice A0_2 l0_2.length c0_2]] ?_; (with_reducible refine (recoupref16_Generator.calls a0_0 a0_1 _ _ l0_2 false _ ?side1 ?side2 A2.out).mono ?_); (case side1 => exact kcB HR0_2 HB); (case side2 => exact HC0_2.out); rintro e w24 ⟨rfl, hb⟩; refine ⟨_, rfl, ?_⟩; replace BK231 := bkB BK231 hb; replace HB := hbB HB hb; (try clear hb); (try clear hb2); (try clear hk); (try clear hi)))
    go_ret
    exact ⟨rfE, hbA HB.out⟩

end Go.Proofs.YtjgcocfnilhggaaDoor.Q
