/- Written by drive.py (a program of this repo, over the kit's print): each Go function named here answers what the Lean function beside it answers, wherever that one answers, in every world that meets the stated premises. -/
import Derived.Test.YtkagobkedifhkaaDoorQx0
import Derived.Test.YtkagobkedifhkaaDoorQx115
import Derived.Test.YtkagobkedifhkaaDoorQx138
namespace Go.Proofs.YtkagobkedifhkaaDoor.Q
open Go.RowKit Go.Proofs.YtkagobkedifhkaaDoorW.PrintWords Go.Proofs.YtkagobkedifhkaaDoorW.PrintLast Go.Proofs.YtkagobkedifhkaaDoorW.PrintMore
attribute [local go_sem] max2_int min2_int max_two min_two max_three min_three max_four min_four   -- for this text's walks alone
set_option linter.unusedVariables false
set_option linter.unusedSimpArgs false
mutual
def recoupref03_Pick.l0 : Nat → List Int → Int → Int → Int → List Int → Option (Int × Int × List Int × Int)
  | 0, _, _, _, _, _ => none
  | k + 1, x1, x6, x190000, x190001, x190002 => if x6 < (x1.length : Int) then (if 0 ≤ x6 then (if (rd x1 x6) < 0 then (some (0, 0, ([] : List Int), 2)) else (if (rd x1 x6) ≥ x190000 then (some (0, 0, ([] : List Int), 2)) else (recoupref03_Pick.l0 k x1 (wrap64 (x6 + 1)) x190000 x190001 x190002))) else (none)) else (if (x1.length : Int) > 64 then (some (0, 0, ([] : List Int), 4)) else (recoupref03_Pick.l1 k x1 0 x190000 x190001 x190002 (x1.length : Int) x190001 ([] : List Int)))
def recoupref03_Pick.l1 : Nat → List Int → Int → Int → Int → List Int → Int → Int → List Int → Option (Int × Int × List Int × Int)
  | 0, _, _, _, _, _, _, _, _ => none
  | k + 1, x1, x8, x190000, x190001, x190002, x195000, x195001, x195002 => if x8 < (x1.length : Int) then (if 0 ≤ x8 then ((recoupref03_Row.f k x190000 x190001 x190002 (rd x1 x8)).bind fun bt196 => (if x195002.length + bt196.1.length < 140737488355328 then (recoupref03_Pick.l1 k x1 (wrap64 (x8 + 1)) x190000 x190001 x190002 x195000 x195001 (x195002 ++ bt196.1)) else (none))) else (none)) else (some (x195000, x195001, x195002, 0))
end
def recoupref03_Pick.f (k : Nat) (a0_0 : Int) (a0_1 : Int) (l0_2 : List Int) (l1 : List Int) : Option (Int × Int × List Int × Int) := (recoupref03_Right.f a0_0 a0_1 l0_2).bind fun t191 => (if t191 = true then (recoupref03_Pick.l0 k l1 0 a0_0 a0_1 l0_2) else (some (0, 0, ([] : List Int), 3)))
def recoupref03_Pick.T6 : Bool × List (List Nat × List Nat) := (true, [([], []), ([], []), ([0, 1], [0, 1]), ([2], [2]), ([3], [3]), ([4], [4]), ([5], [5]), ([5], [5]), ([6, 7, 5], [5, 6, 7]), ([8, 5], [5, 8]), ([5], [5]), ([10, 5], [5, 10]), ([9, 11, 5], [5, 9, 11]), ([5, 12], [5, 12])])
def recoupref03_Pick.B6 : List Nat := [0, 0, 3, 7, 15, 31, 63, 63, 255, 511, 63, 1087, 4095, 8191]
theorem recoupref03_Pick.tab6 : rtab .any (opsOf Tryd.f16 6) = recoupref03_Pick.T6 := by kernel_rfl
theorem recoupref03_Pick.bits6 : waitsOk recoupref03_Pick.T6.2 recoupref03_Pick.B6 = true := by kernel_rfl
def recoupref03_Pick.T14 : Bool × List (List Nat × List Nat) := (true, [([], []), ([], []), ([], []), ([1, 2], [1, 2]), ([3], [3]), ([0, 4], [0, 4]), ([5], [5]), ([6], [6]), ([6], [6]), ([7, 5, 0, 1, 2, 3, 4, 5, 6, 7], [7]), ([8, 9, 0, 1, 2, 3, 4, 5, 6, 7, 8, 9], [8])])
def recoupref03_Pick.B14 : List Nat := [0, 0, 0, 6, 14, 31, 63, 127, 127, 255, 1023]
theorem recoupref03_Pick.tab14 : rtab .any (opsOf Tryd.f16 14) = recoupref03_Pick.T14 := by kernel_rfl
theorem recoupref03_Pick.bits14 : waitsOk recoupref03_Pick.T14.2 recoupref03_Pick.B14 = true := by kernel_rfl
set_option maxHeartbeats 8000000 in
set_option maxRecDepth 100000 in
theorem recoupref03_Pick.calls (k : Nat) (a0_0 : Int) (a0_1 : Int) (A0_2 : Option Addr) (c0_2 : Nat) (l0_2 : List Int) (A1 : Option Addr) (c1 : Nat) (l1 : List Int) (r1 : Int) (r2 : Int) (r3 : List Int) (r4 : Int) (w : World) (hr0_2 : Kd.C (Kd.int .u8) w A0_2 l0_2.length l0_2) (hc0_2 : l0_2.length ≤ c0_2) (hr1 : Kd.C (Kd.int .i64) w A1 l1.length l1) (hc1 : l1.length ≤ c1) (h : recoupref03_Pick.f k a0_0 a0_1 l0_2 l1 = some (r1, r2, r3, r4)) :
    Calls Tryd.prog 16 #[.agg #[.int .i64 a0_0, .int .i64 a0_1, .slice A0_2 l0_2.length c0_2], .slice A1 l1.length c1] w fun e w' => ∃ v2_ : Value, e = .returned (.tuple #[.agg #[.int .i64 r1, .int .i64 r2, v2_], .int .i64 r4]) ∧ Kd.R (Kd.int .u8) 5 w' w.heap.size (fun _ => True) v2_ r3 ∧ Below w.heap.size w w' := by
  have hu24 := Tryd.underlying24
  have HR0_2 := Aside0.mk hr0_2
  have HC0_2 := Aside0.mk hc0_2
  clear hr0_2 hc0_2
  have HR1 := Aside0.mk hr1
  have HC1 := Aside0.mk hc1
  clear hr1 hc1
  have HB := Aside0.mk (Below.refl w.heap.size w)
  have H : ((recoupref03_Right.f a0_0 a0_1 l0_2).bind fun t191 => (if t191 = true then (recoupref03_Pick.l0 k l1 0 a0_0 a0_1 l0_2) else (some (0, 0, ([] : List Int), 3)))) = some (r1, r2, r3, r4) := h
  clear h
  obtain ⟨t191, A3, H⟩ := bindO H
  (try dsimp only at H)
  by_cases c4 : t191 = true
  · subst c4
    rw [if_pos rfl] at H
    have H' := Aside0.mk H
    clear H
    go_enter Tryd.func16, Tryd.ntmps16
    go_wp2_with (first | ((with_reducible refine gD 2 rfl ?_); refine bE 2 #[.int .i64 a0_0, .int .i64 a0_1, .slice A0_2 l0_2.length c0_2] 24 ?_; intro gb189 hg w5 hbox hb; have BK189 := Aside0.mk (hbox); have GW189 := hbS HB hg; have GE189 := hbS HB hg; replace HB := hbB HB hb; clear hb hbox hg) | ((with_reducible refine gD 4 rfl ?_); refine bE 4 #[.int .i64 0, .int .i64 0, .slice none 0 0] 24 ?_; intro gb190 hg w6 hbox hb; have BK190 := Aside0.mk (hbox); have GW190 := hbS HB hg; have GE190 := hbS HB hg; replace HB := hbB HB hb; have NB189_190 := neL BK189 hg; have NB190_189 := neG BK189 hg; replace BK189 := bkB BK189 hb; clear hb hbox hg; have hnb7 := NB189_190.out; have hnc7 := NB190_189.out; obtain ⟨hcz8_0, hcz8_1, hcz8_2, hfz8_0, hfz8_1, hfz8_2⟩ := cell3 BK189) | ((with_reducible refine gC 37 rfl ?_); refine cG (some 12) Tryd.func37 #[.agg #[.int .i64 a0_0, .int .i64 a0_1, .slice A0_2 l0_2.length c0_2]] ?_; (with_reducible refine (recoupref03_Right.calls a0_0 a0_1 _ _ l0_2 true _ ?side1 ?side2 A3.out).mono ?_); (case side1 => exact kcB HR0_2 HB); (case side2 => exact HC0_2.out); rintro e w9 ⟨rfl, hb⟩; refine ⟨_, rfl, ?_⟩; replace BK189 := bkB BK189 hb; replace BK190 := bkB BK190 hb; replace HB := hbB HB hb; (try clear hb); (try clear hb2); (try clear hk); (try clear hi)))
    go_loopg [6] k (fun kq v6 w' => ∃ (x6_1 : Int) (x191000_1 : Int) (x191001_1 : Int), v6 = .int .i64 x6_1 ∧ Aside0 (recoupref03_Pick.l0 kq l1 x6_1 a0_0 a0_1 l0_2 = some (r1, r2, r3, r4)) ∧ Aside0 (kq ≤ k) ∧ Aside0 (w'.heap[gb189]? = some (.cells #[.int .i64 a0_0, .int .i64 a0_1, (.slice A0_2 l0_2.length c0_2)] 24 (0, 0))) ∧ Aside0 (w'.heap[gb190]? = some (.cells #[.int .i64 x191000_1, .int .i64 x191001_1, (.slice none 0 0)] 24 (0, 0))) ∧ Aside0 (Below w.heap.size w w'))
    case atStart => exact ⟨(0), (0), (0), rsE, H', ⟨Nat.le_refl _⟩, ⟨bkA BK189.out⟩, ⟨bkA BK190.out⟩, ⟨hbA HB.out⟩⟩
    case round =>
      clear H'
      (try clear c1); (try clear p2); (try clear c3); (try clear c4); (try clear c7); (try clear hcz8_0 hcz8_1 hcz8_2 hfz8_0 hfz8_1 hfz8_2)
      obtain ⟨x6_1, x191000_1, x191001_1, rfl, HA, HK1, BK189, BK190, HB⟩ := hrel
      cases gk with
      | zero => exact absurd HA.out (by simp [recoupref03_Pick.l0])
      | succ k1 =>
        have H := HA.out
        clear HA
        simp only [recoupref03_Pick.l0] at H
        by_cases c10 : x6_1 < (l1.length : Int)
        · rw [if_pos c10] at H
          have c10b0 : decide (x6_1 < (l1.length : Int)) = true := decide_eq_true c10
          clear c10
          by_cases c11 : 0 ≤ x6_1
          · rw [if_pos c11] at H
            have c11b0 : decide (0 ≤ x6_1) = true := decide_eq_true c11
            clear c11
            by_cases c12 : (rd l1 x6_1) < 0
            · rw [if_pos c12] at H
              have c12b0 : decide ((rd l1 x6_1) < 0) = true := decide_eq_true c12
              clear c12
              simp only [Option.some.injEq, Prod.mk.injEq] at H
              obtain ⟨rfl, rfl, rfl, rfl⟩ := H
              try go_wp2
              replace BK189 := Aside0.mk (blk_drew BK189.out)
              replace BK190 := Aside0.mk (blk_drew BK190.out)
              replace HB := Aside0.mk (below_drew1 HB.out)
              have p192 : 0 ≤ (x6_1 : Int) := of_decide_eq_true asE
              have q192 : x6_1 < (l1.length : Int) := of_decide_eq_true asE
              obtain ⟨ad192, e192, hx192_0⟩ := Kd.at_int HR1.out x6_1 p192 q192
              have hw192_0 := hx192_0
              cases e192
              replace hx192_0 := (HB.out.cell (World.block_lt_of_cell? w _ hx192_0)).trans hx192_0
              replace p192 := eq_true p192
              replace q192 := eq_true q192
              refine start_ (n := 14) (S := fun w' => w'.cell? (ad192.add (x6_1).toNat) = some (.int .i64 (rd l1 x6_1))) (ds := []) (.replicate 14 false) (by kernel_rfl) rfl rfl (((HB.out.cell (World.block_lt_of_cell? w _ hw192_0)).trans hw192_0)) (fun hHeld => ?_); refine with_tabW recoupref03_Pick.tab6 recoupref03_Pick.bits6 (fun HT_ HW_ => ?_)
              generalize wr.drew = w13 at BK189 BK190 HB hx192_0 hHeld ⊢
              refine pu 0 (some 21) (mB 14 1) HT_ ?_
              refine pu 1 (some 22) (mB 14 3) HT_ ?_
              refine pu 2 (some 23) (mB 14 7) HT_ ?_
              refine tk1 3 (some 24) (mB 14 15) HT_ HW_ hHeld ?_
              refine pu 4 (some 25) (mB 14 31) HT_ ?_
              refine pu 5 (some 26) (mB 14 63) HT_ ?_
              refine pure_ (i := 6) (N := some 27) (v := undef) (a' := ?_) (mB 14 127) rfl rfl (any_of HT_.out (by kernel_rfl)) (fun _ _ _ h => h) (Or.inr ⟨by rfl, rfl⟩) ?_ ?_
              rotate_left
              · simp only [Act.put, List.setIfInBounds_toArray, List.set_cons_zero, List.set_cons_succ, i64_w, i32_w]
                rfl
              refine pure_ (i := 7) (N := some 28) (v := undef) (a' := ?_) (mB 14 255) rfl rfl (any_of HT_.out (by kernel_rfl)) (fun _ _ _ h => h) (Or.inr ⟨by rfl, rfl⟩) ?_ ?_
              rotate_left
              · simp only [Act.put, List.setIfInBounds_toArray, List.set_cons_zero, List.set_cons_succ, i64_w, i32_w]
                rfl
              refine pure_ (i := 8) (N := some 29) (v := undef) (a' := ?_) (mB 14 511) rfl rfl (any_of HT_.out (by kernel_rfl)) (fun _ _ _ h => h) (Or.inr ⟨by rfl, rfl⟩) ?_ ?_
              rotate_left
              · simp only [Act.put, List.setIfInBounds_toArray, List.set_cons_zero, List.set_cons_succ, i64_w, i32_w]
                rfl
              refine pure_ (i := 9) (N := some 30) (v := undef) (a' := ?_) (mB 14 1023) rfl rfl (any_of HT_.out (by kernel_rfl)) (fun _ _ _ h => h) (Or.inr ⟨by rfl, rfl⟩) ?_ ?_
              rotate_left
              · simp only [Act.put, List.setIfInBounds_toArray, List.set_cons_zero, List.set_cons_succ, i64_w, i32_w]
                rfl
              refine pure_ (i := 10) (N := some 31) (v := undef) (a' := ?_) (mB 14 2047) rfl rfl (any_of HT_.out (by kernel_rfl)) (fun _ _ _ h => h) (Or.inr ⟨by rfl, rfl⟩) ?_ ?_
              rotate_left
              · simp only [Act.put, List.setIfInBounds_toArray, List.set_cons_zero, List.set_cons_succ, i64_w, i32_w]
                rfl
              refine pure_ (i := 11) (N := some 32) (v := undef) (a' := ?_) (mB 14 4095) rfl rfl (any_of HT_.out (by kernel_rfl)) (fun _ _ _ h => h) (Or.inr ⟨by rfl, rfl⟩) ?_ ?_
              rotate_left
              · simp only [Act.put, List.setIfInBounds_toArray, List.set_cons_zero, List.set_cons_succ, i64_w, i32_w]
                rfl
              refine pure_ (i := 12) (N := some 33) (v := undef) (a' := ?_) (mB 14 8191) rfl rfl (any_of HT_.out (by kernel_rfl)) (fun _ _ _ h => h) (Or.inr ⟨by rfl, rfl⟩) ?_ ?_
              rotate_left
              · simp only [Act.put, List.setIfInBounds_toArray, List.set_cons_zero, List.set_cons_succ, i64_w, i32_w]
                rfl
              refine pu 13 (some 34) (mB 14 16383) HT_ ?_
              refine done_ (done_of HT_.out (by kernel_rfl)) ?_
              have hnb14 := NB190_189.out
              have hnc14 := NB189_190.out
              obtain ⟨hcz15_0, hcz15_1, hcz15_2, hfz15_0, hfz15_1, hfz15_2⟩ := cell3 BK190
              try go_wp2
              refine bodyPost_ret (results_ct rfl _ _ gb190 24 #[.int .i64 0, .int .i64 0, .slice none 0 0] (0, 0) _ rfl (by refine bkR ?_; refine blk_put (cs := #[.int .i64 0, .int .i64 0, .slice none 0 0]) ?_ 2 _ rfl; refine bkR ?_; refine blk_put (cs := #[.int .i64 0, .int .i64 x191001_1, .slice none 0 0]) ?_ 1 _ rfl; refine bkR ?_; refine blk_put (cs := #[.int .i64 x191000_1, .int .i64 x191001_1, .slice none 0 0]) ?_ 0 _ rfl; refine bkR ?_; exact BK190.out) Tryd.underlying24 rfl (by kernel_rfl)) rfl ?_
              exact ⟨_, rfE, nilE, hbA HB.out⟩
            · rw [if_neg c12] at H
              have c12b0 : decide ((rd l1 x6_1) < 0) = false := decide_eq_false c12
              clear c12
              by_cases c16 : (rd l1 x6_1) ≥ a0_0
              · rw [if_pos c16] at H
                have c16b0 : decide (a0_0 ≤ (rd l1 x6_1)) = true := decide_eq_true c16
                clear c16
                simp only [Option.some.injEq, Prod.mk.injEq] at H
                obtain ⟨rfl, rfl, rfl, rfl⟩ := H
                try go_wp2
                replace BK189 := Aside0.mk (blk_drew BK189.out)
                replace BK190 := Aside0.mk (blk_drew BK190.out)
                replace HB := Aside0.mk (below_drew1 HB.out)
                have p192 : 0 ≤ (x6_1 : Int) := of_decide_eq_true asE
                have q192 : x6_1 < (l1.length : Int) := of_decide_eq_true asE
                obtain ⟨ad192, e192, hx192_0⟩ := Kd.at_int HR1.out x6_1 p192 q192
                have hw192_0 := hx192_0
                cases e192
                replace hx192_0 := (HB.out.cell (World.block_lt_of_cell? w _ hx192_0)).trans hx192_0
                replace p192 := eq_true p192
                replace q192 := eq_true q192
                have p193 : 0 ≤ (x6_1 : Int) := of_decide_eq_true asE
                have q193 : x6_1 < (l1.length : Int) := of_decide_eq_true asE
                obtain ⟨ad193, e193, hx193_0⟩ := Kd.at_int HR1.out x6_1 p193 q193
                have hw193_0 := hx193_0
                obtain rfl : ad192 = ad193 := (by injection e193)
                replace hx193_0 := (HB.out.cell (World.block_lt_of_cell? w _ hx193_0)).trans hx193_0
                replace p193 := eq_true p193
                replace q193 := eq_true q193
                refine start_ (n := 14) (S := fun w' => w'.cell? ⟨gb189, 0, none⟩ = some (.int .i64 a0_0) ∧ w'.cell? ⟨gb189, 1, none⟩ = some (.int .i64 a0_1) ∧ w'.cell? ⟨gb189, 2, none⟩ = some (.slice A0_2 l0_2.length c0_2) ∧ w'.cell? (ad192.add (x6_1).toNat) = some (.int .i64 (rd l1 x6_1)) ∧ w'.cell? (ad192.add (x6_1).toNat) = some (.int .i64 (rd l1 x6_1))) (ds := []) (.replicate 14 false) (by kernel_rfl) rfl rfl ⟨(blk_cell BK189.out 0).trans rfl, (blk_cell BK189.out 1).trans rfl, (blk_cell BK189.out 2).trans rfl, ((HB.out.cell (World.block_lt_of_cell? w _ hw192_0)).trans hw192_0), ((HB.out.cell (World.block_lt_of_cell? w _ hw193_0)).trans hw193_0)⟩ (fun hHeld => ?_); refine with_tabW recoupref03_Pick.tab6 recoupref03_Pick.bits6 (fun HT_ HW_ => ?_)
                generalize wr.drew = w17 at BK189 BK190 HB hx192_0 hx193_0 hHeld ⊢
                refine pu 0 (some 21) (mB 14 1) HT_ ?_
                refine pu 1 (some 22) (mB 14 3) HT_ ?_
                refine pu 2 (some 23) (mB 14 7) HT_ ?_
                refine tk5 3 (some 24) (mB 14 15) HT_ HW_ hHeld ?_
                refine pu 4 (some 25) (mB 14 31) HT_ ?_
                refine pu 5 (some 26) (mB 14 63) HT_ ?_
                refine pu 6 (some 27) (mB 14 127) HT_ ?_
                refine pu 7 (some 28) (mB 14 255) HT_ ?_
                refine pu 8 (some 29) (mB 14 511) HT_ ?_
                refine pu 10 (some 31) (mB 14 1535) HT_ ?_
                refine tk5 9 (some 30) (mB 14 2047) HT_ HW_ hHeld ?_
                refine tk5 11 (some 32) (mB 14 4095) HT_ HW_ hHeld ?_
                refine pu 12 (some 33) (mB 14 8191) HT_ ?_
                refine pu 13 (some 34) (mB 14 16383) HT_ ?_
                refine done_ (done_of HT_.out (by kernel_rfl)) ?_
                have hnb18 := NB190_189.out
                have hnc18 := NB189_190.out
                obtain ⟨hcz19_0, hcz19_1, hcz19_2, hfz19_0, hfz19_1, hfz19_2⟩ := cell3 BK190
                try go_wp2
                refine bodyPost_ret (results_ct rfl _ _ gb190 24 #[.int .i64 0, .int .i64 0, .slice none 0 0] (0, 0) _ rfl (by refine bkR ?_; refine blk_put (cs := #[.int .i64 0, .int .i64 0, .slice none 0 0]) ?_ 2 _ rfl; refine bkR ?_; refine blk_put (cs := #[.int .i64 0, .int .i64 x191001_1, .slice none 0 0]) ?_ 1 _ rfl; refine bkR ?_; refine blk_put (cs := #[.int .i64 x191000_1, .int .i64 x191001_1, .slice none 0 0]) ?_ 0 _ rfl; refine bkR ?_; exact BK190.out) Tryd.underlying24 rfl (by kernel_rfl)) rfl ?_
                exact ⟨_, rfE, nilE, hbA HB.out⟩
              · rw [if_neg c16] at H
                have c16b0 : decide (a0_0 ≤ (rd l1 x6_1)) = false := decide_eq_false c16
                clear c16
                have H' := Aside0.mk H
                clear H
                try go_wp2
                replace BK189 := Aside0.mk (blk_drew BK189.out)
                replace BK190 := Aside0.mk (blk_drew BK190.out)
                replace HB := Aside0.mk (below_drew1 HB.out)
                have p192 : 0 ≤ (x6_1 : Int) := of_decide_eq_true asE
                have q192 : x6_1 < (l1.length : Int) := of_decide_eq_true asE
                obtain ⟨ad192, e192, hx192_0⟩ := Kd.at_int HR1.out x6_1 p192 q192
                have hw192_0 := hx192_0
                cases e192
                replace hx192_0 := (HB.out.cell (World.block_lt_of_cell? w _ hx192_0)).trans hx192_0
                replace p192 := eq_true p192
                replace q192 := eq_true q192
                have p193 : 0 ≤ (x6_1 : Int) := of_decide_eq_true asE
                have q193 : x6_1 < (l1.length : Int) := of_decide_eq_true asE
                obtain ⟨ad193, e193, hx193_0⟩ := Kd.at_int HR1.out x6_1 p193 q193
                have hw193_0 := hx193_0
                obtain rfl : ad192 = ad193 := (by injection e193)
                replace hx193_0 := (HB.out.cell (World.block_lt_of_cell? w _ hx193_0)).trans hx193_0
                replace p193 := eq_true p193
                replace q193 := eq_true q193
                refine start_ (n := 14) (S := fun w' => w'.cell? ⟨gb189, 0, none⟩ = some (.int .i64 a0_0) ∧ w'.cell? ⟨gb189, 1, none⟩ = some (.int .i64 a0_1) ∧ w'.cell? ⟨gb189, 2, none⟩ = some (.slice A0_2 l0_2.length c0_2) ∧ w'.cell? (ad192.add (x6_1).toNat) = some (.int .i64 (rd l1 x6_1)) ∧ w'.cell? (ad192.add (x6_1).toNat) = some (.int .i64 (rd l1 x6_1))) (ds := []) (.replicate 14 false) (by kernel_rfl) rfl rfl ⟨(blk_cell BK189.out 0).trans rfl, (blk_cell BK189.out 1).trans rfl, (blk_cell BK189.out 2).trans rfl, ((HB.out.cell (World.block_lt_of_cell? w _ hw192_0)).trans hw192_0), ((HB.out.cell (World.block_lt_of_cell? w _ hw193_0)).trans hw193_0)⟩ (fun hHeld => ?_); refine with_tabW recoupref03_Pick.tab6 recoupref03_Pick.bits6 (fun HT_ HW_ => ?_)
                generalize wr.drew = w20 at BK189 BK190 HB hx192_0 hx193_0 hHeld ⊢
                refine pu 0 (some 21) (mB 14 1) HT_ ?_
                refine pu 1 (some 22) (mB 14 3) HT_ ?_
                refine pu 2 (some 23) (mB 14 7) HT_ ?_
                refine tk5 3 (some 24) (mB 14 15) HT_ HW_ hHeld ?_
                refine pu 4 (some 25) (mB 14 31) HT_ ?_
                refine pu 5 (some 26) (mB 14 63) HT_ ?_
                refine pu 6 (some 27) (mB 14 127) HT_ ?_
                refine pu 7 (some 28) (mB 14 255) HT_ ?_
                refine pu 8 (some 29) (mB 14 511) HT_ ?_
                refine pu 10 (some 31) (mB 14 1535) HT_ ?_
                refine tk5 9 (some 30) (mB 14 2047) HT_ HW_ hHeld ?_
                refine tk5 11 (some 32) (mB 14 4095) HT_ HW_ hHeld ?_
                refine pu 12 (some 33) (mB 14 8191) HT_ ?_
                refine pu 13 (some 34) (mB 14 16383) HT_ ?_
                refine done_ (done_of HT_.out (by kernel_rfl)) ?_
                try go_wp2
                go_roundg k1
                case measure => have := HK1.out; omega
                case rel => exact ⟨(wrap64 (x6_1 + 1)), (x191000_1), (x191001_1), rsE, H', ⟨by have := HK1.out; omega⟩, ⟨bkA BK189.out⟩, ⟨bkA BK190.out⟩, ⟨hbA HB.out⟩⟩
          · rw [if_neg c11] at H
            exact absurd H (by simp)
        · rw [if_neg c10] at H
          have c10b0 : decide (x6_1 < (l1.length : Int)) = false := decide_eq_false c10
          clear c10
          by_cases c21 : (l1.length : Int) > 64
          · rw [if_pos c21] at H
            have c21b0 : decide (64 < (l1.length : Int)) = true := decide_eq_true c21
            have c21b1 : decide (64 < l1.length) = true := decide_eq_true (by omega)
            clear c21
            simp only [Option.some.injEq, Prod.mk.injEq] at H
            obtain ⟨rfl, rfl, rfl, rfl⟩ := H
            have hnb22 := NB190_189.out
            have hnc22 := NB189_190.out
            obtain ⟨hcz23_0, hcz23_1, hcz23_2, hfz23_0, hfz23_1, hfz23_2⟩ := cell3 BK190
            go_wp2
            refine bodyPost_ret (results_ct rfl _ _ gb190 24 #[.int .i64 0, .int .i64 0, .slice none 0 0] (0, 0) _ rfl (by refine bkR ?_; refine blk_put (cs := #[.int .i64 0, .int .i64 0, .slice none 0 0]) ?_ 2 _ rfl; refine bkR ?_; refine blk_put (cs := #[.int .i64 0, .int .i64 x191001_1, .slice none 0 0]) ?_ 1 _ rfl; refine bkR ?_; refine blk_put (cs := #[.int .i64 x191000_1, .int .i64 x191001_1, .slice none 0 0]) ?_ 0 _ rfl; refine bkR ?_; exact BK190.out) Tryd.underlying24 rfl (by kernel_rfl)) rfl ?_
            exact ⟨_, rfE, nilE, hbA HB.out⟩
          · rw [if_neg c21] at H
            have c21b0 : decide (64 < (l1.length : Int)) = false := decide_eq_false c21
            have c21b1 : decide (64 < l1.length) = false := decide_eq_false (by omega)
            clear c21
            have H' := Aside0.mk H
            clear H
            have hnb24 := NB189_190.out
            have hnc24 := NB190_189.out
            obtain ⟨hcz25_0, hcz25_1, hcz25_2, hfz25_0, hfz25_1, hfz25_2⟩ := cell3 BK189
            go_wp2_with (first | ((with_reducible refine gD 7 rfl ?_); refine bE 7 #[.int .i64 0, .int .i64 0, .slice none 0 0] 24 ?_; intro gb194 hg w26 hbox hb; have BK194 := Aside0.mk (hbox); have GW194 := hbS HB hg; have GE194 := hbS HB hg; replace HB := hbB HB hb; have NB189_194 := neL BK189 hg; have NB194_189 := neG BK189 hg; replace BK189 := bkB BK189 hb; have NB190_194 := neL BK190 hg; have NB194_190 := neG BK190 hg; replace BK190 := bkB BK190 hb; clear hb hbox hg; have hnb27 := NB194_189.out; have hnc27 := NB189_194.out; have hnb28 := NB194_190.out; have hnc28 := NB190_194.out; obtain ⟨hcz29_0, hcz29_1, hcz29_2, hfz29_0, hfz29_1, hfz29_2⟩ := cell3 BK194))
            go_loopg [8] k1 (fun kq v8 w' => ∃ (x8_2 : Int) (x195002_2 : List Int) (u195002 : Value), v8 = .int .i64 x8_2 ∧ Aside0 (recoupref03_Pick.l1 kq l1 x8_2 a0_0 a0_1 l0_2 (l1.length : Int) a0_1 x195002_2 = some (r1, r2, r3, r4)) ∧ Aside0 (kq ≤ k1) ∧ Aside0 (Kd.R (Kd.int .u8) 5 w' w.heap.size (fun _ => True) u195002 x195002_2) ∧ Aside0 (w'.heap[gb189]? = some (.cells #[.int .i64 a0_0, .int .i64 a0_1, (.slice A0_2 l0_2.length c0_2)] 24 (0, 0))) ∧ Aside0 (w'.heap[gb190]? = some (.cells #[.int .i64 x191000_1, .int .i64 x191001_1, (.slice none 0 0)] 24 (0, 0))) ∧ Aside0 (w'.heap[gb194]? = some (.cells #[.int .i64 (l1.length : Int), .int .i64 a0_1, u195002] 24 (0, 0))) ∧ Aside0 (Below w.heap.size w w'))
            case atStart => exact ⟨(0), (([] : List Int)), (.slice none 0 0), rsE, H', ⟨Nat.le_refl _⟩, ⟨nilE⟩, ⟨by refine bkR ?_; refine blk_far ?_ NB189_194.out _; refine bkR ?_; refine blk_far ?_ NB189_194.out _; refine bkR ?_; refine blk_far ?_ NB189_194.out _; refine bkR ?_; exact BK189.out⟩, ⟨by refine bkR ?_; refine blk_far ?_ NB190_194.out _; refine bkR ?_; refine blk_far ?_ NB190_194.out _; refine bkR ?_; refine blk_far ?_ NB190_194.out _; refine bkR ?_; exact BK190.out⟩, ⟨by refine bkR ?_; refine blk_put (cs := #[.int .i64 (l1.length : Int), .int .i64 a0_1, .slice none 0 0]) ?_ 2 _ rfl; refine bkR ?_; refine blk_put (cs := #[.int .i64 (l1.length : Int), .int .i64 0, .slice none 0 0]) ?_ 1 _ rfl; refine bkR ?_; refine blk_put (cs := #[.int .i64 0, .int .i64 0, .slice none 0 0]) ?_ 0 _ rfl; refine bkR ?_; exact BK194.out⟩, ⟨hbA HB.out⟩⟩
            case round =>
              clear H'
              (try clear c1); (try clear p1); (try clear q1); (try clear hx1); (try clear c2); (try clear p2 p2); (try clear c3); (try clear c4); (try clear p6); (try clear c7); (try clear c10); (try clear c10b0); (try clear c11); (try clear c11b0); (try clear c12); (try clear c12b0); (try clear c14); (try clear c16); (try clear c16b0); (try clear c18); (try clear p19); (try clear q19); (try clear hx19); (try clear c21); (try clear c21b0); (try clear c21b1); (try clear c22); (try clear c24); (try clear c27); (try clear c28); (try clear hcz15_0 hcz15_1 hcz15_2 hfz15_0 hfz15_1 hfz15_2); (try clear hcz19_0 hcz19_1 hcz19_2 hfz19_0 hfz19_1 hfz19_2); (try clear hcz23_0 hcz23_1 hcz23_2 hfz23_0 hfz23_1 hfz23_2); (try clear hcz25_0 hcz25_1 hcz25_2 hfz25_0 hfz25_1 hfz25_2); (try clear hcz29_0 hcz29_1 hcz29_2 hfz29_0 hfz29_1 hfz29_2); (try clear hcz8_0 hcz8_1 hcz8_2 hfz8_0 hfz8_1 hfz8_2); (try clear hx192_0); (try clear hx193_0); (try clear p192); (try clear p193); (try clear q192); (try clear q193)
              obtain ⟨x8_2, x195002_2, u195002, rfl, HA, HK2, HO_195002, BK189, BK190, BK194, HB⟩ := hrel
              cases gk with
              | zero => exact absurd HA.out (by simp [recoupref03_Pick.l1])
              | succ k2 =>
                have H := HA.out
                clear HA
                simp only [recoupref03_Pick.l1] at H
                by_cases c30 : x8_2 < (l1.length : Int)
                · rw [if_pos c30] at H
                  have c30b0 : decide (x8_2 < (l1.length : Int)) = true := decide_eq_true c30
                  clear c30
                  by_cases c31 : 0 ≤ x8_2
                  · rw [if_pos c31] at H
                    have c31b0 : decide (0 ≤ x8_2) = true := decide_eq_true c31
                    clear c31
                    obtain ⟨⟨t196, t199⟩, A32, H⟩ := bindO H
                    (try dsimp only at H)
                    by_cases c33 : x195002_2.length + t196.length < 140737488355328
                    · rw [if_pos c33] at H
                      have LMc33 := Aside0.mk c33
                      clear c33
                      obtain ⟨y200, hy200⟩ : ∃ y_ : List Int, y_ = (x195002_2 ++ t196) := ⟨_, rfl⟩
                      replace H : (recoupref03_Pick.l1 k2 l1 (wrap64 (x8_2 + 1)) a0_0 a0_1 l0_2 (l1.length : Int) a0_1 y200) = some (r1, r2, r3, r4) := by first | (rw [hy200]; with_reducible exact H) | (have H2_ := (Option.bind_some _ _).symm.trans H; rw [hy200]; with_reducible exact H2_) | (have H2_ := (Option.bind_some _ _).symm.trans H; with_reducible exact H2_) | with_reducible exact H | (rw [hy200]; exact H) | exact H
                      have Ny200 := Aside0.mk hy200
                      clear hy200
                      have H' := Aside0.mk H
                      clear H
                      try go_wp2
                      replace HO_195002 := Aside0.mk (Kd.R_drew HO_195002.out)
                      replace BK189 := Aside0.mk (blk_drew BK189.out)
                      replace BK190 := Aside0.mk (blk_drew BK190.out)
                      replace BK194 := Aside0.mk (blk_drew BK194.out)
                      replace HB := Aside0.mk (below_drew1 HB.out)
                      have p195 : 0 ≤ (x8_2 : Int) := of_decide_eq_true asE
                      have q195 : x8_2 < (l1.length : Int) := of_decide_eq_true asE
                      obtain ⟨ad195, e195, hx195_0⟩ := Kd.at_int HR1.out x8_2 p195 q195
                      have hw195_0 := hx195_0
                      cases e195
                      replace hx195_0 := (HB.out.cell (World.block_lt_of_cell? w _ hx195_0)).trans hx195_0
                      replace p195 := eq_true p195
                      replace q195 := eq_true q195
                      refine start_ (n := 11) (S := fun w' => w'.cell? ⟨gb189, 0, none⟩ = some (.int .i64 a0_0) ∧ w'.cell? ⟨gb189, 1, none⟩ = some (.int .i64 a0_1) ∧ w'.cell? ⟨gb189, 2, none⟩ = some (.slice A0_2 l0_2.length c0_2) ∧ w'.cell? (ad195.add (x8_2).toNat) = some (.int .i64 (rd l1 x8_2))) (ds := []) (.replicate 11 false) (by kernel_rfl) rfl rfl ⟨(blk_cell BK189.out 0).trans rfl, (blk_cell BK189.out 1).trans rfl, (blk_cell BK189.out 2).trans rfl, ((HB.out.cell (World.block_lt_of_cell? w _ hw195_0)).trans hw195_0)⟩ (fun hHeld => ?_); refine with_tabW recoupref03_Pick.tab14 recoupref03_Pick.bits14 (fun HT_ HW_ => ?_)
                      generalize wr.drew = w34 at HO_195002 BK189 BK190 BK194 HB hx195_0 hHeld ⊢
                      refine pu 1 (some 53) (mB 11 2) HT_ ?_
                      refine pu 2 (some 54) (mB 11 6) HT_ ?_
                      refine pu 3 (some 55) (mB 11 14) HT_ ?_
                      refine tk4 0 (some 52) (mB 11 15) HT_ HW_ hHeld ?_
                      refine tk4 4 (some 56) (mB 11 31) HT_ HW_ hHeld ?_
                      refine one_ (i := 5) (N := some 57) (mB 11 63) rfl rfl (one_of HT_.out (by kernel_rfl)) (by decide) (fun K hK => ?_)
                      refine goes_ Tryd.func38 (by kernel_rfl) rfl #[.agg #[.int .i64 a0_0, .int .i64 a0_1, .slice A0_2 l0_2.length c0_2], .int .i64 (rd l1 x8_2)] (by rfl) rfl rfl (by (try simp only [List.map_toArray, List.map_cons, List.map_nil]); first | done | rfl | (simp only [List.length_drop, List.length_take]; rfl)) ?_
                      with_reducible refine (recoupref03_Row.calls k2 a0_0 a0_1 _ _ l0_2 (rd l1 x8_2) t196 t199 _ ?side1 ?side2 A32.out).mono ?_
                      (case side1 => exact kcB HR0_2 HB)
                      (case side2 => exact HC0_2.out)
                      rintro e w35 ⟨v197, rfl, ho0, hb⟩
                      refine ⟨_, rfl, ?_⟩
                      have HO198 := Aside0.mk (Kd.R_lower (Kd.R_new' ho0 (Kd.R_lt (kdA HO_195002.out))) (below_size (hbA HB.out)))
                      replace HO_195002 := Aside0.mk (Kd.R_elder' (kdA HO_195002.out) (Kd.R_base ho0) hb)
                      replace BK189 := bkB BK189 hb
                      replace BK190 := bkB BK190 hb
                      replace BK194 := bkB BK194 hb
                      replace HB := hbB HB hb
                      (try clear hb)
                      (try clear hb2)
                      (try clear hk)
                      (try clear hi)
                      (try clear ho0)
                      refine hK.out _ _ ⟨(blk_cell BK189.out 0).trans rfl, (blk_cell BK189.out 1).trans rfl, (blk_cell BK189.out 2).trans rfl, ((HB.out.cell (World.block_lt_of_cell? w _ hw195_0)).trans hw195_0)⟩ (fun hHeld => ?_)
                      clear hK K
                      refine norm_ (a' := ?_) ?_ ?_
                      rotate_left
                      · show Act.put _ (some 57) _ = _
                        simp only [Act.put, List.setIfInBounds_toArray, List.set_cons_zero, List.set_cons_succ, i64_w, i32_w]
                        rfl
                      refine pu 6 (some 51) (mB 11 127) HT_ ?_
                      refine pu 7 (some 58) (mB 11 255) HT_ ?_
                      refine pu 8 (some 59) (mB 11 511) HT_ ?_
                      refine pu 9 (some 9) (mB 11 1023) HT_ ?_
                      refine pu 10 (some 10) (mB 11 2047) HT_ ?_
                      refine done_ (done_of HT_.out (by kernel_rfl)) ?_
                      have hnb36 := NB194_189.out
                      have hnc36 := NB189_194.out
                      have hnb37 := NB194_190.out
                      have hnc37 := NB190_194.out
                      obtain ⟨hcz38_0, hcz38_1, hcz38_2, hfz38_0, hfz38_1, hfz38_2⟩ := cell3 BK194
                      obtain ⟨Ao40, co40, eo40⟩ := Kd.R_slice HO198.out
                      subst eo40
                      try go_wp2_with (first | ((with_reducible refine gate_builtin (b := .append) (xs := #[.tmp 61, .tmp 62]) rfl ?_); at_builtin; refine Kd.R_append_rows (Kd.int .u8) (w0 := w) w.heap.size rfl (.tmp 61) (.tmp 62) 22 5 (.int .u8 0) 1 rfl Tryd.underlying22 info5 rfl (by decide) (by omega) u195002 x195002_2 t196 _ _ _ (fun k_ => some k_ ≠ (.slice Ao40 t196.length co40 : Value).ownBlock) (fun _ => False) rfl rfl ?aO ?aR (fun _ _ h => h) (fun _ h => h.elim) ?aF ?aB ?aS ?aL ?_; (case aR => exact kcA (Kd.R_reads' HO198.out).2.2); (case aB => exact (hbA HB.out)); (case aF => exact (fun k_ hk => Kd.fresh' (Kd.R_lt (kdA HO198.out)) k_ hk)); (case aO => exact (by (with_reducible repeat (first | apply Kd.R_alloc | apply Kd.R_drewN | apply Kd.R_drew)); exact Kd.R_mono HO_195002.out (fun _ hk => hk.2))); (case aS => exact (below_size (hbA HB.out))); (case aL => have := LMc33.out; omega); intro v201 w39 ho hb hg hat; rw [← Ny200.out] at ho; have n0_ := Aside0.mk (blk_grown (g := gb189) (o := .cells #[.int .i64 a0_0, .int .i64 a0_1, .slice A0_2 l0_2.length c0_2] 24 (0, 0)) (bkA BK189.out) hg (Kd.R_ne HO_195002.out BK189.out (by decide))); have n1_ := Aside0.mk (blk_grown (g := gb190) (o := .cells #[.int .i64 x191000_1, .int .i64 x191001_1, .slice none 0 0] 24 (0, 0)) (bkA BK190.out) hg (Kd.R_ne HO_195002.out BK190.out (by decide))); have n2_ := Aside0.mk (blk_grown (g := gb194) (o := .cells #[.int .i64 (l1.length : Int), .int .i64 a0_1, u195002] 24 (0, 0)) (bkA BK194.out) hg (Kd.R_ne HO_195002.out BK194.out (by decide))); have n3_ := Aside0.mk (Kd.R_after (ok := (fun _ => True)) (kdA HO198.out) hg hat); have n4_ := Aside0.mk (hb); have n5_ := Aside0.mk (ho); clear BK189; clear BK190; clear BK194; clear HO198; clear HB; clear HO_195002; have BK189 := n0_; have BK190 := n1_; have BK194 := n2_; have HO198 := n3_; have HB := n4_; have HO202 := n5_; clear n0_ n1_ n2_ n3_ n4_ n5_; clear ho hb hg hat; obtain ⟨Ao41, co41, eo41⟩ := Kd.R_slice HO202.out; subst eo41; obtain ⟨hcz42_0, hcz42_1, hcz42_2, hfz42_0, hfz42_1, hfz42_2⟩ := cell3 BK194))
                      go_roundg k2
                      case measure => have := HK1.out; have := HK2.out; omega
                      case rel => exact ⟨(wrap64 (x8_2 + 1)), (y200), (.slice Ao41 y200.length co41), rsE, H', ⟨by have := HK1.out; have := HK2.out; omega⟩, ⟨by (with_reducible repeat (first | apply Kd.R_alloc | apply Kd.R_drewN | apply Kd.R_drew)); exact Kd.R_mono (Kd.R_far (p := ⟨gb194, 2, none⟩) (Kd.R_types HO202.out BK194.out (by decide)) (fun _ hk => hk.2) (.slice Ao41 y200.length co41)) (fun _ hk => trivial)⟩, ⟨by refine bkR ?_; refine blk_far ?_ NB189_194.out _; refine bkR ?_; exact BK189.out⟩, ⟨by refine bkR ?_; refine blk_far ?_ NB190_194.out _; refine bkR ?_; exact BK190.out⟩, ⟨by refine bkR ?_; refine blk_put (cs := #[.int .i64 (l1.length : Int), .int .i64 a0_1, u195002]) ?_ 2 _ rfl; refine bkR ?_; exact BK194.out⟩, ⟨hbA HB.out⟩⟩
                    · rw [if_neg c33] at H
                      exact absurd H (by simp)
                  · rw [if_neg c31] at H
                    exact absurd H (by simp)
                · rw [if_neg c30] at H
                  have c30b0 : decide (x8_2 < (l1.length : Int)) = false := decide_eq_false c30
                  clear c30
                  simp only [Option.some.injEq, Prod.mk.injEq] at H
                  obtain ⟨rfl, rfl, rfl, rfl⟩ := H
                  have hnb43 := NB194_189.out
                  have hnc43 := NB189_194.out
                  have hnb44 := NB194_190.out
                  have hnc44 := NB190_194.out
                  obtain ⟨hcz45_0, hcz45_1, hcz45_2, hfz45_0, hfz45_1, hfz45_2⟩ := cell3 BK194
                  have hnb46 := NB190_189.out
                  have hnc46 := NB189_190.out
                  obtain ⟨hcz47_0, hcz47_1, hcz47_2, hfz47_0, hfz47_1, hfz47_2⟩ := cell3 BK190
                  obtain ⟨Ao48, co48, eo48⟩ := Kd.R_slice HO_195002.out
                  subst eo48
                  go_wp2
                  refine bodyPost_ret (results_ct rfl _ _ gb190 24 #[.int .i64 (l1.length : Int), .int .i64 a0_1, .slice Ao48 x195002_2.length co48] (0, 0) _ rfl (by refine bkR ?_; refine blk_put (cs := #[.int .i64 (l1.length : Int), .int .i64 a0_1, .slice none 0 0]) ?_ 2 _ rfl; refine bkR ?_; refine blk_put (cs := #[.int .i64 (l1.length : Int), .int .i64 x191001_1, .slice none 0 0]) ?_ 1 _ rfl; refine bkR ?_; refine blk_put (cs := #[.int .i64 x191000_1, .int .i64 x191001_1, .slice none 0 0]) ?_ 0 _ rfl; refine bkR ?_; exact BK190.out) Tryd.underlying24 rfl (by kernel_rfl)) rfl ?_
                  exact ⟨_, rfE, by (with_reducible repeat (first | apply Kd.R_alloc | apply Kd.R_drewN | apply Kd.R_drew)); exact Kd.R_mono (Kd.R_far (p := ⟨gb190, 2, none⟩) (Kd.R_far (p := ⟨gb190, 1, none⟩) (Kd.R_far (p := ⟨gb190, 0, none⟩) (Kd.R_types HO_195002.out BK190.out (by decide)) (fun _ hk => hk.2) (.int .i64 (l1.length : Int))) (fun _ hk => hk.2) (.int .i64 a0_1)) (fun _ hk => hk.2) (.slice Ao48 x195002_2.length co48)) (fun _ hk => trivial), hbA HB.out⟩
  · replace c4 := Bool.eq_false_iff.mpr c4
    subst c4
    rw [if_neg nofT] at H
    simp only [Option.some.injEq, Prod.mk.injEq] at H
    obtain ⟨rfl, rfl, rfl, rfl⟩ := H
    go_enter Tryd.func16, Tryd.ntmps16
    go_wp2_with (first | ((with_reducible refine gD 2 rfl ?_); refine bE 2 #[.int .i64 a0_0, .int .i64 a0_1, .slice A0_2 l0_2.length c0_2] 24 ?_; intro gb189 hg w49 hbox hb; have BK189 := Aside0.mk (hbox); have GW189 := hbS HB hg; have GE189 := hbS HB hg; replace HB := hbB HB hb; clear hb hbox hg) | ((with_reducible refine gD 4 rfl ?_); refine bE 4 #[.int .i64 0, .int .i64 0, .slice none 0 0] 24 ?_; intro gb190 hg w50 hbox hb; have BK190 := Aside0.mk (hbox); have GW190 := hbS HB hg; have GE190 := hbS HB hg; replace HB := hbB HB hb; have NB189_190 := neL BK189 hg; have NB190_189 := neG BK189 hg; replace BK189 := bkB BK189 hb; clear hb hbox hg; have hnb51 := NB189_190.out; have hnc51 := NB190_189.out; obtain ⟨hcz52_0, hcz52_1, hcz52_2, hfz52_0, hfz52_1, hfz52_2⟩ := cell3 BK189) | ((with_reducible refine gC 37 rfl ?_); refine cG (some 12) Tryd.func37 #[.agg #[.int .i64 a0_0, .int .i64 a0_1, .slice A0_2 l0_2.length c0_2]] ?_; (with_reducible refine (recoupref03_Right.calls a0_0 a0_1 _ _ l0_2 false _ ?side1 ?side2 A3.out).mono ?_); (case side1 => exact kcB HR0_2 HB); (case side2 => exact HC0_2.out); rintro e w53 ⟨rfl, hb⟩; refine ⟨_, rfl, ?_⟩; replace BK189 := bkB BK189 hb; replace BK190 := bkB BK190 hb; replace HB := hbB HB hb; (try clear hb); (try clear hb2); (try clear hk); (try clear hi); obtain ⟨hcz54_0, hcz54_1, hcz54_2, hfz54_0, hfz54_1, hfz54_2⟩ := cell3 BK190))
    refine bodyPost_ret (results_ct rfl _ _ gb190 24 #[.int .i64 0, .int .i64 0, .slice none 0 0] (0, 0) _ rfl (by refine bkR ?_; refine blk_put (cs := #[.int .i64 0, .int .i64 0, .slice none 0 0]) ?_ 2 _ rfl; refine bkR ?_; refine blk_put (cs := #[.int .i64 0, .int .i64 0, .slice none 0 0]) ?_ 1 _ rfl; refine bkR ?_; refine blk_put (cs := #[.int .i64 0, .int .i64 0, .slice none 0 0]) ?_ 0 _ rfl; refine bkR ?_; exact BK190.out) Tryd.underlying24 rfl (by kernel_rfl)) rfl ?_
    exact ⟨_, rfE, nilE, hbA HB.out⟩
end Go.Proofs.YtkagobkedifhkaaDoor.Q
