/- Written by drive.py (a program of this repo, over the kit's print): each Go function named here answers what the Lean function beside it answers, wherever that one answers, in every world that meets the stated premises. -/
import Derived.Test.YtjgcocfnilhggaaDoorQx0
import Derived.Test.YtjgcocfnilhggaaDoorQx118
import Derived.Test.YtjgcocfnilhggaaDoorQx121
namespace Go.Proofs.YtjgcocfnilhggaaDoor.Q
open Go.RowKit Go.Proofs.YtjgcocfnilhggaaDoorW.PrintWords Go.Proofs.YtjgcocfnilhggaaDoorW.PrintLast Go.Proofs.YtjgcocfnilhggaaDoorW.PrintMore
attribute [local go_sem] max2_int min2_int max_two min_two max_three min_three max_four min_four   -- for this text's walks alone
set_option linter.unusedVariables false
set_option linter.unusedSimpArgs false

/-! ### recoupref03_Pick: function 43 -/
mutual
def recoupref03_Pick.l0 : Nat → List Int → Int → Int → Int → List Int → Option (Int × Int × List Int × Int)
  | 0, _, _, _, _, _ => none
  | k + 1, x1, x6, x219000, x219001, x219002 => if x6 < (x1.length : Int) then (if 0 ≤ x6 then (if (rd x1 x6) < 0 then (some (0, 0, ([] : List Int), 2)) else (if (rd x1 x6) ≥ x219000 then (some (0, 0, ([] : List Int), 2)) else (recoupref03_Pick.l0 k x1 (wrap64 (x6 + 1)) x219000 x219001 x219002))) else (none)) else (if (x1.length : Int) > 64 then (some (0, 0, ([] : List Int), 4)) else (recoupref03_Pick.l1 k x1 0 x219000 x219001 x219002 (x1.length : Int) x219001 ([] : List Int)))
def recoupref03_Pick.l1 : Nat → List Int → Int → Int → Int → List Int → Int → Int → List Int → Option (Int × Int × List Int × Int)
  | 0, _, _, _, _, _, _, _, _ => none
  | k + 1, x1, x8, x219000, x219001, x219002, x224000, x224001, x224002 => if x8 < (x1.length : Int) then (if 0 ≤ x8 then ((recoupref03_Row.f k x219000 x219001 x219002 (rd x1 x8)).bind fun bt225 => (if x224002.length + bt225.1.length < 140737488355328 then (recoupref03_Pick.l1 k x1 (wrap64 (x8 + 1)) x219000 x219001 x219002 x224000 x224001 (x224002 ++ bt225.1)) else (none))) else (none)) else (some (x224000, x224001, x224002, 0))
end
def recoupref03_Pick.f (k : Nat) (a0_0 : Int) (a0_1 : Int) (l0_2 : List Int) (l1 : List Int) : Option (Int × Int × List Int × Int) := (recoupref03_Right.f a0_0 a0_1 l0_2).bind fun t220 => (if t220 = true then (recoupref03_Pick.l0 k l1 0 a0_0 a0_1 l0_2) else (some (0, 0, ([] : List Int), 3)))
theorem recoupref03_Pick.mono_l : ∀ k, (∀ y0 y1 y2 y3 y4, LeO (recoupref03_Pick.l0 k y0 y1 y2 y3 y4) (recoupref03_Pick.l0 (k + 1) y0 y1 y2 y3 y4)) ∧ (∀ y0 y1 y2 y3 y4 y5 y6 y7, LeO (recoupref03_Pick.l1 k y0 y1 y2 y3 y4 y5 y6 y7) (recoupref03_Pick.l1 (k + 1) y0 y1 y2 y3 y4 y5 y6 y7))
  | 0 => ⟨fun _ _ _ _ _ r h => by simp [recoupref03_Pick.l0] at h, fun _ _ _ _ _ _ _ _ r h => by simp [recoupref03_Pick.l1] at h⟩
  | k + 1 => by
    obtain ⟨ih0, ih1⟩ := recoupref03_Pick.mono_l k
    refine ⟨?_, ?_⟩
    all_goals (intros; first | unfold recoupref03_Pick.l0 | unfold recoupref03_Pick.l1)
    all_goals repeat' first | (with_reducible exact ih0 _ _ _ _ _) | (with_reducible exact ih1 _ _ _ _ _ _ _ _) | (with_reducible exact recoupref03_Row.mono _ _ _ _ _) | (with_reducible exact LeO.refl _) | (with_reducible exact LeO.none _) | (with_reducible refine LeO.ite ?_ ?_) | (with_reducible refine LeO.bind ?_ (fun _ => ?_)) | exact ih0 _ _ _ _ _ | exact ih1 _ _ _ _ _ _ _ _ | exact recoupref03_Row.mono _ _ _ _ _ | exact LeO.none _ | refine LeO.ite ?_ ?_ | refine LeO.bind ?_ (fun _ => ?_)
theorem recoupref03_Pick.mono : ∀ a0 a1 a2 a3 k, LeO (recoupref03_Pick.f k a0 a1 a2 a3) (recoupref03_Pick.f (k + 1) a0 a1 a2 a3) := by
  intro a0 a1 a2 a3 k
  obtain ⟨ih0, ih1⟩ := recoupref03_Pick.mono_l k
  unfold recoupref03_Pick.f
  repeat' first
      | (with_reducible exact ih0 _ _ _ _ _)
      | (with_reducible exact ih1 _ _ _ _ _ _ _ _)
      | (with_reducible exact recoupref03_Row.mono _ _ _ _ _)
      | (with_reducible exact LeO.refl _)
      | (with_reducible exact LeO.none _)
      | (with_reducible refine LeO.ite ?_ ?_)
      | (with_reducible refine LeO.bind ?_ (fun _ => ?_))
      | exact ih0 _ _ _ _ _
      | exact ih1 _ _ _ _ _ _ _ _
      | exact recoupref03_Row.mono _ _ _ _ _
      | exact LeO.none _
      | refine LeO.ite ?_ ?_
      | refine LeO.bind ?_ (fun _ => ?_)
def recoupref03_Pick.T6 : Bool × List (List Nat × List Nat) := (true, [([], []), ([], []), ([0, 1], [0, 1]), ([2], [2]), ([3], [3]), ([4], [4]), ([5], [5]), ([5], [5]), ([6, 7, 5], [5, 6, 7]), ([8, 5], [5, 8]), ([5], [5]), ([10, 5], [5, 10]), ([9, 11, 5], [5, 9, 11]), ([5, 12], [5, 12])])
def recoupref03_Pick.B6 : List Nat := [0, 0, 3, 7, 15, 31, 63, 63, 255, 511, 63, 1087, 4095, 8191]
theorem recoupref03_Pick.tab6 : rtab .any (opsOf Tryd.f43 6) = recoupref03_Pick.T6 := by kernel_rfl
theorem recoupref03_Pick.bits6 : waitsOk recoupref03_Pick.T6.2 recoupref03_Pick.B6 = true := by kernel_rfl
def recoupref03_Pick.T14 : Bool × List (List Nat × List Nat) := (true, [([], []), ([], []), ([], []), ([1, 2], [1, 2]), ([3], [3]), ([0, 4], [0, 4]), ([5], [5]), ([6], [6]), ([6], [6]), ([7, 5, 0, 1, 2, 3, 4, 5, 6, 7], [7]), ([8, 9, 0, 1, 2, 3, 4, 5, 6, 7, 8, 9], [8])])
def recoupref03_Pick.B14 : List Nat := [0, 0, 0, 6, 14, 31, 63, 127, 127, 255, 1023]
theorem recoupref03_Pick.tab14 : rtab .any (opsOf Tryd.f43 14) = recoupref03_Pick.T14 := by kernel_rfl
theorem recoupref03_Pick.bits14 : waitsOk recoupref03_Pick.T14.2 recoupref03_Pick.B14 = true := by kernel_rfl
set_option maxHeartbeats 8000000 in
set_option maxRecDepth 100000 in
theorem recoupref03_Pick.calls (k : Nat) (a0_0 : Int) (a0_1 : Int) (A0_2 : Option Addr) (c0_2 : Nat) (l0_2 : List Int) (A1 : Option Addr) (c1 : Nat) (l1 : List Int) (r1 : Int) (r2 : Int) (r3 : List Int) (r4 : Int) (w : World) (hr0_2 : Kd.C (Kd.int .u8) w A0_2 l0_2.length l0_2) (hc0_2 : l0_2.length ≤ c0_2) (hr1 : Kd.C (Kd.int .i64) w A1 l1.length l1) (hc1 : l1.length ≤ c1) (h : recoupref03_Pick.f k a0_0 a0_1 l0_2 l1 = some (r1, r2, r3, r4)) :
    Calls Tryd.prog 43 #[.agg #[.int .i64 a0_0, .int .i64 a0_1, .slice A0_2 l0_2.length c0_2], .slice A1 l1.length c1] w fun e w' => ∃ v2_ : Value, e = .returned (.tuple #[.agg #[.int .i64 r1, .int .i64 r2, v2_], .int .i64 r4]) ∧ Kd.R (Kd.int .u8) 5 w' w.heap.size (fun _ => True) v2_ r3 ∧ Below w.heap.size w w' := by
  have hu24 := Tryd.underlying24
  have HR0_2 := Aside0.mk hr0_2
  have HC0_2 := Aside0.mk hc0_2
  clear hr0_2 hc0_2
  have HR1 := Aside0.mk hr1
  have HC1 := Aside0.mk hc1
  clear hr1 hc1
  have HB := Aside0.mk (Below.refl w.heap.size w)
  have H : ((recoupref03_Right.f a0_0 a0_1 l0_2).bind fun t220 => (if t220 = true then (recoupref03_Pick.l0 k l1 0 a0_0 a0_1 l0_2) else (some (0, 0, ([] : List Int), 3)))) = some (r1, r2, r3, r4) := h
  clear h
  obtain ⟨t220, A3, H⟩ := bindO H
  (try dsimp only at H)
  by_cases c4 : t220 = true
  · subst c4
    rw [if_pos rfl] at H
    have H' := Aside0.mk H
    clear H
    go_enter Tryd.func43, Tryd.ntmps43
    go_wp2_with (first | ((with_reducible refine gD 2 rfl ?_); refine bE 2 #[.int .i64 a0_0, .int .i64 a0_1, .slice A0_2 l0_2.length c0_2] 24 ?_; intro gb218 hg w5 hbox hb; have BK218 := Aside0.mk (hbox); have GW218 := hbS HB hg; have GE218 := hbS HB hg; replace HB := hbB HB hb; clear hb hbox hg) | ((with_reducible refine gD 4 rfl ?_); refine bE 4 #[.int .i64 0, .int .i64 0, .slice none 0 0] 24 ?_; intro gb219 hg w6 hbox hb; have BK219 := Aside0.mk (hbox); have GW219 := hbS HB hg; have GE219 := hbS HB hg; replace HB := hbB HB hb; have NB218_219 := neL BK218 hg; have NB219_218 := neG BK218 hg; replace BK218 := bkB BK218 hb; clear hb hbox hg; have hnb7 := NB218_219.out; have hnc7 := NB219_218.out; obtain ⟨hcz8_0, hcz8_1, hcz8_2, hfz8_0, hfz8_1, hfz8_2⟩ := cell3 BK218) | ((with_reducible refine gC 45 rfl ?_); refine cG (some 12) Tryd.func45 #[.agg #[.int .i64 a0_0, .int .i64 a0_1, .slice A0_2 l0_2.length c0_2]] ?_; (with_reducible refine (recoupref03_Right.calls a0_0 a0_1 _ _ l0_2 true _ ?side1 ?side2 A3.out).mono ?_); (case side1 => exact kcB HR0_2 HB); (case side2 => exact HC0_2.out); rintro e w9 ⟨rfl, hb⟩; refine ⟨_, rfl, ?_⟩; replace BK218 := bkB BK218 hb; replace BK219 := bkB BK219 hb; replace HB := hbB HB hb; (try clear hb); (try clear hb2); (try clear hk); (try clear hi)))
    go_loopg [6] k (fun kq v6 w' => ∃ (x6_1 : Int) (x220000_1 : Int) (x220001_1 : Int), v6 = .int .i64 x6_1 ∧ Aside0 (recoupref03_Pick.l0 kq l1 x6_1 a0_0 a0_1 l0_2 = some (r1, r2, r3, r4)) ∧ Aside0 (kq ≤ k) ∧ Aside0 (w'.heap[gb218]? = some (.cells #[.int .i64 a0_0, .int .i64 a0_1, (.slice A0_2 l0_2.length c0_2)] 24 (0, 0))) ∧ Aside0 (w'.heap[gb219]? = some (.cells #[.int .i64 x220000_1, .int .i64 x220001_1, (.slice none 0 0)] 24 (0, 0))) ∧ Aside0 (Below w.heap.size w w'))
    case atStart => exact ⟨(0), (0), (0), rsE, H', ⟨Nat.le_refl _⟩, ⟨bkA BK218.out⟩, ⟨bkA BK219.out⟩, ⟨hbA HB.out⟩⟩
    case round =>
      clear H'
      (try clear c1); (try clear p2); (try clear c4); (try clear c7); (try clear hcz8_0 hcz8_1 hcz8_2 hfz8_0 hfz8_1 hfz8_2)
      obtain ⟨x6_1, x220000_1, x220001_1, rfl, HA, HK1, BK218, BK219, HB⟩ := hrel
      cases gk with
      | zero => exact absurd HA.out (by simp [recoupref03_Pick.l0])
      | succ k1 =>
        have H := HA.out
        clear HA
        simp only [recoupref03_Pick.l0] at H
        by_cases c10 : x6_1 < (l1.length : Int)
        · rw [if_pos c10] at H
          have c10b0 : decide (x6_1 < (l1.length : Int)) = true := decide_eq_true c10
          clear c10
          by_cases c11 : 0 ≤ x6_1
          · rw [if_pos c11] at H
            have c11b0 : decide (0 ≤ x6_1) = true := decide_eq_true c11
            clear c11
            by_cases c12 : (rd l1 x6_1) < 0
            · rw [if_pos c12] at H
              have c12b0 : decide ((rd l1 x6_1) < 0) = true := decide_eq_true c12
              clear c12
              simp only [Option.some.injEq, Prod.mk.injEq] at H
              obtain ⟨rfl, rfl, rfl, rfl⟩ := H
              try go_wp2
              replace BK218 := Aside0.mk (blk_drew BK218.out)
              replace BK219 := Aside0.mk (blk_drew BK219.out)
              replace HB := Aside0.mk (below_drew1 HB.out)
              have p221 : 0 ≤ (x6_1 : Int) := of_decide_eq_true asE
              have q221 : x6_1 < (l1.length : Int) := of_decide_eq_true asE
              obtain ⟨ad221, e221, hx221_0⟩ := Kd.at_int HR1.out x6_1 p221 q221
              have hw221_0 := hx221_0
              cases e221
              replace hx221_0 := (HB.out.cell (World.block_lt_of_cell? w _ hx221_0)).trans hx221_0
              replace p221 := eq_true p221
              replace q221 := eq_true q221
              refine start_ (n := 14) (S := fun w' => w'.cell? (ad221.add (x6_1).toNat) = some (.int .i64 (rd l1 x6_1))) (ds := []) (.replicate 14 false) (by kernel_rfl) rfl rfl (((HB.out.cell (World.block_lt_of_cell? w _ hw221_0)).trans hw221_0)) (fun hHeld => ?_); refine with_tabW recoupref03_Pick.tab6 recoupref03_Pick.bits6 (fun HT_ HW_ => ?_)
              generalize wr.drew = w13 at BK218 BK219 HB hx221_0 hHeld ⊢
              refine pu 0 (some 21) (mB 14 1) HT_ ?_
              refine pu 1 (some 22) (mB 14 3) HT_ ?_
              refine pu 2 (some 23) (mB 14 7) HT_ ?_
              refine tk1 3 (some 24) (mB 14 15) HT_ HW_ hHeld ?_
              refine pu 4 (some 25) (mB 14 31) HT_ ?_
              refine pu 5 (some 26) (mB 14 63) HT_ ?_
              refine pure_ (i := 6) (N := some 27) (v := undef) (a' := ?_) (mB 14 127) rfl rfl (any_of HT_.out (by kernel_rfl)) (fun _ _ _ h => h) (Or.inr ⟨by rfl, rfl⟩) ?_ ?_
              rotate_left
              · simp only [Act.put, List.setIfInBounds_toArray, List.set_cons_zero, List.set_cons_succ, i64_w, i32_w]
                rfl
              refine pure_ (i := 7) (N := some 28) (v := undef) (a' := ?_) (mB 14 255) rfl rfl (any_of HT_.out (by kernel_rfl)) (fun _ _ _ h => h) (Or.inr ⟨by rfl, rfl⟩) ?_ ?_
              rotate_left
              · simp only [Act.put, List.setIfInBounds_toArray, List.set_cons_zero, List.set_cons_succ, i64_w, i32_w]
                rfl
              refine pure_ (i := 8) (N := some 29) (v := undef) (a' := ?_) (mB 14 511) rfl rfl (any_of HT_.out (by kernel_rfl)) (fun _ _ _ h => h) (Or.inr ⟨by rfl, rfl⟩) ?_ ?_
              rotate_left
              · simp only [Act.put, List.setIfInBounds_toArray, List.set_cons_zero, List.set_cons_succ, i64_w, i32_w]
                rfl
              refine pure_ (i := 9) (N := some 30) (v := undef) (a' := ?_) (mB 14 1023) rfl rfl (any_of HT_.out (by kernel_rfl)) (fun _ _ _ h => h) (Or.inr ⟨by rfl, rfl⟩) ?_ ?_
              rotate_left
              · simp only [Act.put, List.setIfInBounds_toArray, List.set_cons_zero, List.set_cons_succ, i64_w, i32_w]
                rfl
              refine pure_ (i := 10) (N := some 31) (v := undef) (a' := ?_) (mB 14 2047) rfl rfl (any_of HT_.out (by kernel_rfl)) (fun _ _ _ h => h) (Or.inr ⟨by rfl, rfl⟩) ?_ ?_
              rotate_left
              · simp only [Act.put, List.setIfInBounds_toArray, List.set_cons_zero, List.set_cons_succ, i64_w, i32_w]
                rfl
              refine pure_ (i := 11) (N := some 32) (v := undef) (a' := ?_) (mB 14 4095) rfl rfl (any_of HT_.out (by kernel_rfl)) (fun _ _ _ h => h) (Or.inr ⟨by rfl, rfl⟩) ?_ ?_
              rotate_left
              · simp only [Act.put, List.setIfInBounds_toArray, List.set_cons_zero, List.set_cons_succ, i64_w, i32_w]
                rfl
              refine pure_ (i := 12) (N := some 33) (v := undef) (a' := ?_) (mB 14 8191) rfl rfl (any_of HT_.out (by kernel_rfl)) (fun _ _ _ h => h) (Or.inr ⟨by rfl, rfl⟩) ?_ ?_
              rotate_left
              · simp only [Act.put, List.setIfInBounds_toArray, List.set_cons_zero, List.set_cons_succ, i64_w, i32_w]
                rfl
              refine pu 13 (some 34) (mB 14 16383) HT_ ?_
              refine done_ (done_of HT_.out (by kernel_rfl)) ?_
              have hnb14 := NB219_218.out
              have hnc14 := NB218_219.out
              obtain ⟨hcz15_0, hcz15_1, hcz15_2, hfz15_0, hfz15_1, hfz15_2⟩ := cell3 BK219
              try go_wp2
              refine bodyPost_ret (results_ct rfl _ _ gb219 24 #[.int .i64 0, .int .i64 0, .slice none 0 0] (0, 0) _ rfl (by refine bkR ?_; refine blk_put (cs := #[.int .i64 0, .int .i64 0, .slice none 0 0]) ?_ 2 _ rfl; refine bkR ?_; refine blk_put (cs := #[.int .i64 0, .int .i64 x220001_1, .slice none 0 0]) ?_ 1 _ rfl; refine bkR ?_; refine blk_put (cs := #[.int .i64 x220000_1, .int .i64 x220001_1, .slice none 0 0]) ?_ 0 _ rfl; refine bkR ?_; exact BK219.out) Tryd.underlying24 rfl (by kernel_rfl)) rfl ?_
              exact ⟨_, rfE, nilE, hbA HB.out⟩
            · rw [if_neg c12] at H
              have c12b0 : decide ((rd l1 x6_1) < 0) = false := decide_eq_false c12
              clear c12
              by_cases c16 : (rd l1 x6_1) ≥ a0_0
              · rw [if_pos c16] at H
                have c16b0 : decide (a0_0 ≤ (rd l1 x6_1)) = true := decide_eq_true c16
                clear c16
                simp only [Option.some.injEq, Prod.mk.injEq] at H
                obtain ⟨rfl, rfl, rfl, rfl⟩ := H
                try go_wp2
                replace BK218 := Aside0.mk (blk_drew BK218.out)
                replace BK219 := Aside0.mk (blk_drew BK219.out)
                replace HB := Aside0.mk (below_drew1 HB.out)
                have p221 : 0 ≤ (x6_1 : Int) := of_decide_eq_true asE
                have q221 : x6_1 < (l1.length : Int) := of_decide_eq_true asE
                obtain ⟨ad221, e221, hx221_0⟩ := Kd.at_int HR1.out x6_1 p221 q221
                have hw221_0 := hx221_0
                cases e221
                replace hx221_0 := (HB.out.cell (World.block_lt_of_cell? w _ hx221_0)).trans hx221_0
                replace p221 := eq_true p221
                replace q221 := eq_true q221
                have p222 : 0 ≤ (x6_1 : Int) := of_decide_eq_true asE
                have q222 : x6_1 < (l1.length : Int) := of_decide_eq_true asE
                obtain ⟨ad222, e222, hx222_0⟩ := Kd.at_int HR1.out x6_1 p222 q222
                have hw222_0 := hx222_0
                obtain rfl : ad221 = ad222 := (by injection e222)
                replace hx222_0 := (HB.out.cell (World.block_lt_of_cell? w _ hx222_0)).trans hx222_0
                replace p222 := eq_true p222
                replace q222 := eq_true q222
                refine start_ (n := 14) (S := fun w' => w'.cell? ⟨gb218, 0, none⟩ = some (.int .i64 a0_0) ∧ w'.cell? ⟨gb218, 1, none⟩ = some (.int .i64 a0_1) ∧ w'.cell? ⟨gb218, 2, none⟩ = some (.slice A0_2 l0_2.length c0_2) ∧ w'.cell? (ad221.add (x6_1).toNat) = some (.int .i64 (rd l1 x6_1)) ∧ w'.cell? (ad221.add (x6_1).toNat) = some (.int .i64 (rd l1 x6_1))) (ds := []) (.replicate 14 false) (by kernel_rfl) rfl rfl ⟨(blk_cell BK218.out 0).trans rfl, (blk_cell BK218.out 1).trans rfl, (blk_cell BK218.out 2).trans rfl, ((HB.out.cell (World.block_lt_of_cell? w _ hw221_0)).trans hw221_0), ((HB.out.cell (World.block_lt_of_cell? w _ hw222_0)).trans hw222_0)⟩ (fun hHeld => ?_); refine with_tabW recoupref03_Pick.tab6 recoupref03_Pick.bits6 (fun HT_ HW_ => ?_)
                generalize wr.drew = w17 at BK218 BK219 HB hx221_0 hx222_0 hHeld ⊢
                refine pu 0 (some 21) (mB 14 1) HT_ ?_
                refine pu 1 (some 22) (mB 14 3) HT_ ?_
                refine pu 2 (some 23) (mB 14 7) HT_ ?_
                refine tk5 3 (some 24) (mB 14 15) HT_ HW_ hHeld ?_
                refine pu 4 (some 25) (mB 14 31) HT_ ?_
                refine pu 5 (some 26) (mB 14 63) HT_ ?_
                refine pu 6 (some 27) (mB 14 127) HT_ ?_
                refine pu 7 (some 28) (mB 14 255) HT_ ?_
                refine pu 8 (some 29) (mB 14 511) HT_ ?_
                refine pu 10 (some 31) (mB 14 1535) HT_ ?_
                refine tk5 9 (some 30) (mB 14 2047) HT_ HW_ hHeld ?_
                refine tk5 11 (some 32) (mB 14 4095) HT_ HW_ hHeld ?_
                refine pu 12 (some 33) (mB 14 8191) HT_ ?_
                refine pu 13 (some 34) (mB 14 16383) HT_ ?_
                refine done_ (done_of HT_.out (by kernel_rfl)) ?_
                have hnb18 := NB219_218.out
                have hnc18 := NB218_219.out
                obtain ⟨hcz19_0, hcz19_1, hcz19_2, hfz19_0, hfz19_1, hfz19_2⟩ := cell3 BK219
                try go_wp2
                refine bodyPost_ret (results_ct rfl _ _ gb219 24 #[.int .i64 0, .int .i64 0, .slice none 0 0] (0, 0) _ rfl (by refine bkR ?_; refine blk_put (cs := #[.int .i64 0, .int .i64 0, .slice none 0 0]) ?_ 2 _ rfl; refine bkR ?_; refine blk_put (cs := #[.int .i64 0, .int .i64 x220001_1, .slice none 0 0]) ?_ 1 _ rfl; refine bkR ?_; refine blk_put (cs := #[.int .i64 x220000_1, .int .i64 x220001_1, .slice none 0 0]) ?_ 0 _ rfl; refine bkR ?_; exact BK219.out) Tryd.underlying24 rfl (by kernel_rfl)) rfl ?_
                exact ⟨_, rfE, nilE, hbA HB.out⟩
              · rw [if_neg c16] at H
                have c16b0 : decide (a0_0 ≤ (rd l1 x6_1)) = false := decide_eq_false c16
                clear c16
                have H' := Aside0.mk H
                clear H
                try go_wp2
                replace BK218 := Aside0.mk (blk_drew BK218.out)
                replace BK219 := Aside0.mk (blk_drew BK219.out)
                replace HB := Aside0.mk (below_drew1 HB.out)
                have p221 : 0 ≤ (x6_1 : Int) := of_decide_eq_true asE
                have q221 : x6_1 < (l1.length : Int) := of_decide_eq_true asE
                obtain ⟨ad221, e221, hx221_0⟩ := Kd.at_int HR1.out x6_1 p221 q221
                have hw221_0 := hx221_0
                cases e221
                replace hx221_0 := (HB.out.cell (World.block_lt_of_cell? w _ hx221_0)).trans hx221_0
                replace p221 := eq_true p221
                replace q221 := eq_true q221
                have p222 : 0 ≤ (x6_1 : Int) := of_decide_eq_true asE
                have q222 : x6_1 < (l1.length : Int) := of_decide_eq_true asE
                obtain ⟨ad222, e222, hx222_0⟩ := Kd.at_int HR1.out x6_1 p222 q222
                have hw222_0 := hx222_0
                obtain rfl : ad221 = ad222 := (by injection e222)
                replace hx222_0 := (HB.out.cell (World.block_lt_of_cell? w _ hx222_0)).trans hx222_0
                replace p222 := eq_true p222
                replace q222 := eq_true q222
                refine start_ (n := 14) (S := fun w' => w'.cell? ⟨gb218, 0, none⟩ = some (.int .i64 a0_0) ∧ w'.cell? ⟨gb218, 1, none⟩ = some (.int .i64 a0_1) ∧ w'.cell? ⟨gb218, 2, none⟩ = some (.slice A0_2 l0_2.length c0_2) ∧ w'.cell? (ad221.add (x6_1).toNat) = some (.int .i64 (rd l1 x6_1)) ∧ w'.cell? (ad221.add (x6_1).toNat) = some (.int .i64 (rd l1 x6_1))) (ds := []) (.replicate 14 false) (by kernel_rfl) rfl rfl ⟨(blk_cell BK218.out 0).trans rfl, (blk_cell BK218.out 1).trans rfl, (blk_cell BK218.out 2).trans rfl, ((HB.out.cell (World.block_lt_of_cell? w _ hw221_0)).trans hw221_0), ((HB.out.cell (World.block_lt_of_cell? w _ hw222_0)).trans hw222_0)⟩ (fun hHeld => ?_); refine with_tabW recoupref03_Pick.tab6 recoupref03_Pick.bits6 (fun HT_ HW_ => ?_)
                generalize wr.drew = w20 at BK218 BK219 HB hx221_0 hx222_0 hHeld ⊢
                refine pu 0 (some 21) (mB 14 1) HT_ ?_
                refine pu 1 (some 22) (mB 14 3) HT_ ?_
                refine pu 2 (some 23) (mB 14 7) HT_ ?_
                refine tk5 3 (some 24) (mB 14 15) HT_ HW_ hHeld ?_
                refine pu 4 (some 25) (mB 14 31) HT_ ?_
                refine pu 5 (some 26) (mB 14 63) HT_ ?_
                refine pu 6 (some 27) (mB 14 127) HT_ ?_
                refine pu 7 (some 28) (mB 14 255) HT_ ?_
                refine pu 8 (some 29) (mB 14 511) HT_ ?_
                refine pu 10 (some 31) (mB 14 1535) HT_ ?_
                refine tk5 9 (some 30) (mB 14 2047) HT_ HW_ hHeld ?_
                refine tk5 11 (some 32) (mB 14 4095) HT_ HW_ hHeld ?_
                refine pu 12 (some 33) (mB 14 8191) HT_ ?_
                refine pu 13 (some 34) (mB 14 16383) HT_ ?_
                refine done_ (done_of HT_.out (by kernel_rfl)) ?_
                try go_wp2
                go_roundg k1
                case measure => have := HK1.out; omega
                case rel => exact ⟨(wrap64 (x6_1 + 1)), (x220000_1), (x220001_1), rsE, H', ⟨by have := HK1.out; omega⟩, ⟨bkA BK218.out⟩, ⟨bkA BK219.out⟩, ⟨hbA HB.out⟩⟩
          · rw [if_neg c11] at H
            exact absurd H (by simp)
        · rw [if_neg c10] at H
          have c10b0 : decide (x6_1 < (l1.length : Int)) = false := decide_eq_false c10
          clear c10
          by_cases c21 : (l1.length : Int) > 64
          · rw [if_pos c21] at H
            have c21b0 : decide (64 < (l1.length : Int)) = true := decide_eq_true c21
            have c21b1 : decide (64 < l1.length) = true := decide_eq_true (by omega)
            clear c21
            simp only [Option.some.injEq, Prod.mk.injEq] at H
            obtain ⟨rfl, rfl, rfl, rfl⟩ := H
            have hnb22 := NB219_218.out
            have hnc22 := NB218_219.out
            obtain ⟨hcz23_0, hcz23_1, hcz23_2, hfz23_0, hfz23_1, hfz23_2⟩ := cell3 BK219
            go_wp2
            refine bodyPost_ret (results_ct rfl _ _ gb219 24 #[.int .i64 0, .int .i64 0, .slice none 0 0] (0, 0) _ rfl (by refine bkR ?_; refine blk_put (cs := #[.int .i64 0, .int .i64 0, .slice none 0 0]) ?_ 2 _ rfl; refine bkR ?_; refine blk_put (cs := #[.int .i64 0, .int .i64 x220001_1, .slice none 0 0]) ?_ 1 _ rfl; refine bkR ?_; refine blk_put (cs := #[.int .i64 x220000_1, .int .i64 x220001_1, .slice none 0 0]) ?_ 0 _ rfl; refine bkR ?_; exact BK219.out) Tryd.underlying24 rfl (by kernel_rfl)) rfl ?_
            exact ⟨_, rfE, nilE, hbA HB.out⟩
          · rw [if_neg c21] at H
            have c21b0 : decide (64 < (l1.length : Int)) = false := decide_eq_false c21
            have c21b1 : decide (64 < l1.length) = false := decide_eq_false (by omega)
            clear c21
            have H' := Aside0.mk H
            clear H
            have hnb24 := NB218_219.out
            have hnc24 := NB219_218.out
            obtain ⟨hcz25_0, hcz25_1, hcz25_2, hfz25_0, hfz25_1, hfz25_2⟩ := cell3 BK218
            go_wp2_with (first | ((with_reducible refine gD 7 rfl ?_); refine bE 7 #[.int .i64 0, .int .i64 0, .slice none 0 0] 24 ?_; intro gb223 hg w26 hbox hb; have BK223 := Aside0.mk (hbox); have GW223 := hbS HB hg; have GE223 := hbS HB hg; replace HB := hbB HB hb; have NB218_223 := neL BK218 hg; have NB223_218 := neG BK218 hg; replace BK218 := bkB BK218 hb; have NB219_223 := neL BK219 hg; have NB223_219 := neG BK219 hg; replace BK219 := bkB BK219 hb; clear hb hbox hg; have hnb27 := NB223_218.out; have hnc27 := NB218_223.out; have hnb28 := NB223_219.out; have hnc28 := NB219_223.out; obtain ⟨hcz29_0, hcz29_1, hcz29_2, hfz29_0, hfz29_1, hfz29_2⟩ := cell3 BK223))
            go_loopg [8] k1 (fun kq v8 w' => ∃ (x8_2 : Int) (x224002_2 : List Int) (u224002 : Value), v8 = .int .i64 x8_2 ∧ Aside0 (recoupref03_Pick.l1 kq l1 x8_2 a0_0 a0_1 l0_2 (l1.length : Int) a0_1 x224002_2 = some (r1, r2, r3, r4)) ∧ Aside0 (kq ≤ k1) ∧ Aside0 (Kd.R (Kd.int .u8) 5 w' w.heap.size (fun _ => True) u224002 x224002_2) ∧ Aside0 (w'.heap[gb218]? = some (.cells #[.int .i64 a0_0, .int .i64 a0_1, (.slice A0_2 l0_2.length c0_2)] 24 (0, 0))) ∧ Aside0 (w'.heap[gb219]? = some (.cells #[.int .i64 x220000_1, .int .i64 x220001_1, (.slice none 0 0)] 24 (0, 0))) ∧ Aside0 (w'.heap[gb223]? = some (.cells #[.int .i64 (l1.length : Int), .int .i64 a0_1, u224002] 24 (0, 0))) ∧ Aside0 (Below w.heap.size w w'))
            case atStart => exact ⟨(0), (([] : List Int)), (.slice none 0 0), rsE, H', ⟨Nat.le_refl _⟩, ⟨nilE⟩, ⟨by refine bkR ?_; refine blk_far ?_ NB218_223.out _; refine bkR ?_; refine blk_far ?_ NB218_223.out _; refine bkR ?_; refine blk_far ?_ NB218_223.out _; refine bkR ?_; exact BK218.out⟩, ⟨by refine bkR ?_; refine blk_far ?_ NB219_223.out _; refine bkR ?_; refine blk_far ?_ NB219_223.out _; refine bkR ?_; refine blk_far ?_ NB219_223.out _; refine bkR ?_; exact BK219.out⟩, ⟨by refine bkR ?_; refine blk_put (cs := #[.int .i64 (l1.length : Int), .int .i64 a0_1, .slice none 0 0]) ?_ 2 _ rfl; refine bkR ?_; refine blk_put (cs := #[.int .i64 (l1.length : Int), .int .i64 0, .slice none 0 0]) ?_ 1 _ rfl; refine bkR ?_; refine blk_put (cs := #[.int .i64 0, .int .i64 0, .slice none 0 0]) ?_ 0 _ rfl; refine bkR ?_; exact BK223.out⟩, ⟨hbA HB.out⟩⟩
            case round =>
              clear H'
              (try clear c1); (try clear c2); (try clear p2 p2); (try clear q2); (try clear hx2); (try clear c4); (try clear p6); (try clear c7); (try clear c10); (try clear c10b0); (try clear c11); (try clear c11b0); (try clear c12); (try clear c12b0); (try clear c14); (try clear c16); (try clear c16b0); (try clear c18); (try clear c21); (try clear c21b0); (try clear c21b1); (try clear c22); (try clear p22); (try clear q22); (try clear hx22); (try clear c24); (try clear c27); (try clear c28); (try clear hcz15_0 hcz15_1 hcz15_2 hfz15_0 hfz15_1 hfz15_2); (try clear hcz19_0 hcz19_1 hcz19_2 hfz19_0 hfz19_1 hfz19_2); (try clear hcz23_0 hcz23_1 hcz23_2 hfz23_0 hfz23_1 hfz23_2); (try clear hcz25_0 hcz25_1 hcz25_2 hfz25_0 hfz25_1 hfz25_2); (try clear hcz29_0 hcz29_1 hcz29_2 hfz29_0 hfz29_1 hfz29_2); (try clear hcz8_0 hcz8_1 hcz8_2 hfz8_0 hfz8_1 hfz8_2); (try clear hx221_0); (try clear hx222_0); (try clear p221); (try clear p222); (try clear q221); (try clear q222)
              obtain ⟨x8_2, x224002_2, u224002, rfl, HA, HK2, HO_224002, BK218, BK219, BK223, HB⟩ := hrel
              cases gk with
              | zero => exact absurd HA.out (by simp [recoupref03_Pick.l1])
              | succ k2 =>
                have H := HA.out
                clear HA
                simp only [recoupref03_Pick.l1] at H
                by_cases c30 : x8_2 < (l1.length : Int)
                · rw [if_pos c30] at H
                  have c30b0 : decide (x8_2 < (l1.length : Int)) = true := decide_eq_true c30
                  clear c30
                  by_cases c31 : 0 ≤ x8_2
                  · rw [if_pos c31] at H
                    have c31b0 : decide (0 ≤ x8_2) = true := decide_eq_true c31
                    clear c31
                    obtain ⟨⟨t225, t228⟩, A32, H⟩ := bindO H
                    (try dsimp only at H)
                    by_cases c33 : x224002_2.length + t225.length < 140737488355328
                    · rw [if_pos c33] at H
                      have LMc33 := Aside0.mk c33
                      clear c33
                      obtain ⟨y229, hy229⟩ : ∃ y_ : List Int, y_ = (x224002_2 ++ t225) := ⟨_, rfl⟩
                      replace H : (recoupref03_Pick.l1 k2 l1 (wrap64 (x8_2 + 1)) a0_0 a0_1 l0_2 (l1.length : Int) a0_1 y229) = some (r1, r2, r3, r4) := by first | (rw [hy229]; with_reducible exact H) | (have H2_ := (Option.bind_some _ _).symm.trans H; rw [hy229]; with_reducible exact H2_) | (have H2_ := (Option.bind_some _ _).symm.trans H; with_reducible exact H2_) | with_reducible exact H | (rw [hy229]; exact H) | exact H
                      have Ny229 := Aside0.mk hy229
                      clear hy229
                      have H' := Aside0.mk H
                      clear H
                      try go_wp2
                      replace HO_224002 := Aside0.mk (Kd.R_drew HO_224002.out)
                      replace BK218 := Aside0.mk (blk_drew BK218.out)
                      replace BK219 := Aside0.mk (blk_drew BK219.out)
                      replace BK223 := Aside0.mk (blk_drew BK223.out)
                      replace HB := Aside0.mk (below_drew1 HB.out)
                      have p224 : 0 ≤ (x8_2 : Int) := of_decide_eq_true asE
                      have q224 : x8_2 < (l1.length : Int) := of_decide_eq_true asE
                      obtain ⟨ad224, e224, hx224_0⟩ := Kd.at_int HR1.out x8_2 p224 q224
                      have hw224_0 := hx224_0
                      cases e224
                      replace hx224_0 := (HB.out.cell (World.block_lt_of_cell? w _ hx224_0)).trans hx224_0
                      replace p224 := eq_true p224
                      replace q224 := eq_true q224
                      refine start_ (n := 11) (S := fun w' => w'.cell? ⟨gb218, 0, none⟩ = some (.int .i64 a0_0) ∧ w'.cell? ⟨gb218, 1, none⟩ = some (.int .i64 a0_1) ∧ w'.cell? ⟨gb218, 2, none⟩ = some (.slice A0_2 l0_2.length c0_2) ∧ w'.cell? (ad224.add (x8_2).toNat) = some (.int .i64 (rd l1 x8_2))) (ds := []) (.replicate 11 false) (by kernel_rfl) rfl rfl ⟨(blk_cell BK218.out 0).trans rfl, (blk_cell BK218.out 1).trans rfl, (blk_cell BK218.out 2).trans rfl, ((HB.out.cell (World.block_lt_of_cell? w _ hw224_0)).trans hw224_0)⟩ (fun hHeld => ?_); refine with_tabW recoupref03_Pick.tab14 recoupref03_Pick.bits14 (fun HT_ HW_ => ?_)
                      generalize wr.drew = w34 at HO_224002 BK218 BK219 BK223 HB hx224_0 hHeld ⊢
                      refine pu 1 (some 53) (mB 11 2) HT_ ?_
                      refine pu 2 (some 54) (mB 11 6) HT_ ?_
                      refine pu 3 (some 55) (mB 11 14) HT_ ?_
                      refine tk4 0 (some 52) (mB 11 15) HT_ HW_ hHeld ?_
                      refine tk4 4 (some 56) (mB 11 31) HT_ HW_ hHeld ?_
                      refine one_ (i := 5) (N := some 57) (mB 11 63) rfl rfl (one_of HT_.out (by kernel_rfl)) (by decide) (fun K hK => ?_)
                      refine goes_ Tryd.func21 (by kernel_rfl) rfl #[.agg #[.int .i64 a0_0, .int .i64 a0_1, .slice A0_2 l0_2.length c0_2], .int .i64 (rd l1 x8_2)] (by rfl) rfl rfl (by (try simp only [List.map_toArray, List.map_cons, List.map_nil]); first | done | rfl | (simp only [List.length_drop, List.length_take]; rfl)) ?_
                      with_reducible refine (recoupref03_Row.calls k2 a0_0 a0_1 _ _ l0_2 (rd l1 x8_2) t225 t228 _ ?side1 ?side2 A32.out).mono ?_
                      (case side1 => exact kcB HR0_2 HB)
                      (case side2 => exact HC0_2.out)
                      rintro e w35 ⟨v226, rfl, ho0, hb⟩
                      refine ⟨_, rfl, ?_⟩
                      have HO227 := Aside0.mk (Kd.R_lower (Kd.R_new' ho0 (Kd.R_lt (kdA HO_224002.out))) (below_size (hbA HB.out)))
                      replace HO_224002 := Aside0.mk (Kd.R_elder' (kdA HO_224002.out) (Kd.R_base ho0) hb)
                      replace BK218 := bkB BK218 hb
                      replace BK219 := bkB BK219 hb
                      replace BK223 := bkB BK223 hb
                      replace HB := hbB HB hb
                      (try clear hb)
                      (try clear hb2)
                      (try clear hk)
                      (try clear hi)
                      (try clear ho0)
                      refine hK.out _ _ ⟨(blk_cell BK218.out 0).trans rfl, (blk_cell BK218.out 1).trans rfl, (blk_cell BK218.out 2).trans rfl, ((HB.out.cell (World.block_lt_of_cell? w _ hw224_0)).trans hw224_0)⟩ (fun hHeld => ?_)
                      clear hK K
                      refine norm_ (a' := ?_) ?_ ?_
                      rotate_left
                      · show Act.put _ (some 57) _ = _
                        simp only [Act.put, List.setIfInBounds_toArray, List.set_cons_zero, List.set_cons_succ, i64_w, i32_w]
                        rfl
                      refine pu 6 (some 51) (mB 11 127) HT_ ?_
                      refine pu 7 (some 58) (mB 11 255) HT_ ?_
                      refine pu 8 (some 59) (mB 11 511) HT_ ?_
                      refine pu 9 (some 9) (mB 11 1023) HT_ ?_
                      refine pu 10 (some 10) (mB 11 2047) HT_ ?_
                      refine done_ (done_of HT_.out (by kernel_rfl)) ?_
                      have hnb36 := NB223_218.out
                      have hnc36 := NB218_223.out
                      have hnb37 := NB223_219.out
                      have hnc37 := NB219_223.out
                      obtain ⟨hcz38_0, hcz38_1, hcz38_2, hfz38_0, hfz38_1, hfz38_2⟩ := cell3 BK223
                      obtain ⟨Ao40, co40, eo40⟩ := Kd.R_slice HO227.out
                      subst eo40
                      try go_wp2_with (first | ((with_reducible refine gate_builtin (b := .append) (xs := #[.tmp 61, .tmp 62]) rfl ?_); at_builtin; refine Kd.R_append_rows (Kd.int .u8) (w0 := w) w.heap.size rfl (.tmp 61) (.tmp 62) 22 5 (.int .u8 0) 1 rfl Tryd.underlying22 info5 rfl (by decide) (by omega) u224002 x224002_2 t225 _ _ _ (fun k_ => some k_ ≠ (.slice Ao40 t225.length co40 : Value).ownBlock) (fun _ => False) rfl rfl ?aO ?aR (fun _ _ h => h) (fun _ h => h.elim) ?aF ?aB ?aS ?aL ?_; (case aR => exact kcA (Kd.R_reads' HO227.out).2.2); (case aB => exact (hbA HB.out)); (case aF => exact (fun k_ hk => Kd.fresh' (Kd.R_lt (kdA HO227.out)) k_ hk)); (case aO => exact (by (with_reducible repeat (first | apply Kd.R_alloc | apply Kd.R_drewN | apply Kd.R_drew)); exact Kd.R_mono HO_224002.out (fun _ hk => hk.2))); (case aS => exact (below_size (hbA HB.out))); (case aL => have := LMc33.out; omega); intro v230 w39 ho hb hg hat; rw [← Ny229.out] at ho; have n0_ := Aside0.mk (blk_grown (g := gb218) (o := .cells #[.int .i64 a0_0, .int .i64 a0_1, .slice A0_2 l0_2.length c0_2] 24 (0, 0)) (bkA BK218.out) hg (Kd.R_ne HO_224002.out BK218.out (by decide))); have n1_ := Aside0.mk (blk_grown (g := gb219) (o := .cells #[.int .i64 x220000_1, .int .i64 x220001_1, .slice none 0 0] 24 (0, 0)) (bkA BK219.out) hg (Kd.R_ne HO_224002.out BK219.out (by decide))); have n2_ := Aside0.mk (blk_grown (g := gb223) (o := .cells #[.int .i64 (l1.length : Int), .int .i64 a0_1, u224002] 24 (0, 0)) (bkA BK223.out) hg (Kd.R_ne HO_224002.out BK223.out (by decide))); have n3_ := Aside0.mk (Kd.R_after (ok := (fun _ => True)) (kdA HO227.out) hg hat); have n4_ := Aside0.mk (hb); have n5_ := Aside0.mk (ho); clear BK218; clear BK219; clear BK223; clear HO227; clear HB; clear HO_224002; have BK218 := n0_; have BK219 := n1_; have BK223 := n2_; have HO227 := n3_; have HB := n4_; have HO231 := n5_; clear n0_ n1_ n2_ n3_ n4_ n5_; clear ho hb hg hat; obtain ⟨Ao41, co41, eo41⟩ := Kd.R_slice HO231.out; subst eo41; obtain ⟨hcz42_0, hcz42_1, hcz42_2, hfz42_0, hfz42_1, hfz42_2⟩ := cell3 BK223))
                      go_roundg k2
                      case measure => have := HK1.out; have := HK2.out; omega
                      case rel => exact ⟨(wrap64 (x8_2 + 1)), (y229), (.slice Ao41 y229.length co41), rsE, H', ⟨by have := HK1.out; have := HK2.out; omega⟩, ⟨by (with_reducible repeat (first | apply Kd.R_alloc | apply Kd.R_drewN | apply Kd.R_drew)); exact Kd.R_mono (Kd.R_far (p := ⟨gb223, 2, none⟩) (Kd.R_types HO231.out BK223.out (by decide)) (fun _ hk => hk.2) (.slice Ao41 y229.length co41)) (fun _ hk => trivial)⟩, ⟨by refine bkR ?_; refine blk_far ?_ NB218_223.out _; refine bkR ?_; exact BK218.out⟩, ⟨by refine bkR ?_; refine blk_far ?_ NB219_223.out _; refine bkR ?_; exact BK219.out⟩, ⟨by refine bkR ?_; refine blk_put (cs := #[.int .i64 (l1.length : Int), .int .i64 a0_1, u224002]) ?_ 2 _ rfl; refine bkR ?_; exact BK223.out⟩, ⟨hbA HB.out⟩⟩
                    · rw [if_neg c33] at H
                      exact absurd H (by simp)
                  · rw [if_neg c31] at H
                    exact absurd H (by simp)
                · rw [if_neg c30] at H
                  have c30b0 : decide (x8_2 < (l1.length : Int)) = false := decide_eq_false c30
                  clear c30
                  simp only [Option.some.injEq, Prod.mk.injEq] at H
                  obtain ⟨rfl, rfl, rfl, rfl⟩ := H
                  have hnb43 := NB223_218.out
                  have hnc43 := NB218_223.out
                  have hnb44 := NB223_219.out
                  have hnc44 := NB219_223.out
                  obtain ⟨hcz45_0, hcz45_1, hcz45_2, hfz45_0, hfz45_1, hfz45_2⟩ := cell3 BK223
                  have hnb46 := NB219_218.out
                  have hnc46 := NB218_219.out
                  obtain ⟨hcz47_0, hcz47_1, hcz47_2, hfz47_0, hfz47_1, hfz47_2⟩ := cell3 BK219
                  obtain ⟨Ao48, co48, eo48⟩ := Kd.R_slice HO_224002.out
                  subst eo48
                  go_wp2
                  refine bodyPost_ret (results_ct rfl _ _ gb219 24 #[.int .i64 (l1.length : Int), .int .i64 a0_1, .slice Ao48 x224002_2.length co48] (0, 0) _ rfl (by refine bkR ?_; refine blk_put (cs := #[.int .i64 (l1.length : Int), .int .i64 a0_1, .slice none 0 0]) ?_ 2 _ rfl; refine bkR ?_; refine blk_put (cs := #[.int .i64 (l1.length : Int), .int .i64 x220001_1, .slice none 0 0]) ?_ 1 _ rfl; refine bkR ?_; refine blk_put (cs := #[.int .i64 x220000_1, .int .i64 x220001_1, .slice none 0 0]) ?_ 0 _ rfl; refine bkR ?_; exact BK219.out) Tryd.underlying24 rfl (by kernel_rfl)) rfl ?_
                  exact ⟨_, rfE, by (with_reducible repeat (first | apply Kd.R_alloc | apply Kd.R_drewN | apply Kd.R_drew)); exact Kd.R_mono (Kd.R_far (p := ⟨gb219, 2, none⟩) (Kd.R_far (p := ⟨gb219, 1, none⟩) (Kd.R_far (p := ⟨gb219, 0, none⟩) (Kd.R_types HO_224002.out BK219.out (by decide)) (fun _ hk => hk.2) (.int .i64 (l1.length : Int))) (fun _ hk => hk.2) (.int .i64 a0_1)) (fun _ hk => hk.2) (.slice Ao48 x224002_2.length co48)) (fun _ hk => trivial), hbA HB.out⟩
  · replace c4 := Bool.eq_false_iff.mpr c4
    subst c4
    rw [if_neg nofT] at H
    simp only [Option.some.injEq, Prod.mk.injEq] at H
    obtain ⟨rfl, rfl, rfl, rfl⟩ := H
    go_enter Tryd.func43, Tryd.ntmps43
    go_wp2_with (first | ((with_reducible refine gD 2 rfl ?_); refine bE 2 #[.int .i64 a0_0, .int .i64 a0_1, .slice A0_2 l0_2.length c0_2] 24 ?_; intro gb218 hg w49 hbox hb; have BK218 := Aside0.mk (hbox); have GW218 := hbS HB hg; have GE218 := hbS HB hg; replace HB := hbB HB hb; clear hb hbox hg) | ((with_reducible refine gD 4 rfl ?_); refine bE 4 #[.int .i64 0, .int .i64 0, .slice none 0 0] 24 ?_; intro gb219 hg w50 hbox hb; have BK219 := Aside0.mk (hbox); have GW219 := hbS HB hg; have GE219 := hbS HB hg; replace HB := hbB HB hb; have NB218_219 := neL BK218 hg; have NB219_218 := neG BK218 hg; replace BK218 := bkB BK218 hb; clear hb hbox hg; have hnb51 := NB218_219.out; have hnc51 := NB219_218.out; obtain ⟨hcz52_0, hcz52_1, hcz52_2, hfz52_0, hfz52_1, hfz52_2⟩ := cell3 BK218) | ((with_reducible refine gC 45 rfl ?_); refine cG (some 12) Tryd.func45 #[.agg #[.int .i64 a0_0, .int .i64 a0_1, .slice A0_2 l0_2.length c0_2]] ?_; (with_reducible refine (recoupref03_Right.calls a0_0 a0_1 _ _ l0_2 false _ ?side1 ?side2 A3.out).mono ?_); (case side1 => exact kcB HR0_2 HB); (case side2 => exact HC0_2.out); rintro e w53 ⟨rfl, hb⟩; refine ⟨_, rfl, ?_⟩; replace BK218 := bkB BK218 hb; replace BK219 := bkB BK219 hb; replace HB := hbB HB hb; (try clear hb); (try clear hb2); (try clear hk); (try clear hi); obtain ⟨hcz54_0, hcz54_1, hcz54_2, hfz54_0, hfz54_1, hfz54_2⟩ := cell3 BK219))
    refine bodyPost_ret (results_ct rfl _ _ gb219 24 #[.int .i64 0, .int .i64 0, .slice none 0 0] (0, 0) _ rfl (by refine bkR ?_; refine blk_put (cs := #[.int .i64 0, .int .i64 0, .slice none 0 0]) ?_ 2 _ rfl; refine bkR ?_; refine blk_put (cs := #[.int .i64 0, .int .i64 0, .slice none 0 0]) ?_ 1 _ rfl; refine bkR ?_; refine blk_put (cs := #[.int .i64 0, .int .i64 0, .slice none 0 0]) ?_ 0 _ rfl; refine bkR ?_; exact BK219.out) Tryd.underlying24 rfl (by kernel_rfl)) rfl ?_
    exact ⟨_, rfE, nilE, hbA HB.out⟩

end Go.Proofs.YtjgcocfnilhggaaDoor.Q
