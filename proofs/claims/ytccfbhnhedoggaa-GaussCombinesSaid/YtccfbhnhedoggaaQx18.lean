/- Written by drive.py (a program of this repo, over the kit's print): each Go function named here answers what the Lean function beside it answers, wherever that one answers, in every world that meets the stated premises. -/
import Derived.Test.YtccfbhnhedoggaaQx0
import Derived.Test.YtccfbhnhedoggaaQx7
import Derived.Test.YtccfbhnhedoggaaQx9
import Derived.Test.YtccfbhnhedoggaaQx17
namespace Go.Proofs.Ytccfbhnhedoggaa.Q
open Go.RowKit Go.Proofs.YtccfbhnhedoggaaW.PrintWords Go.Proofs.YtccfbhnhedoggaaW.PrintLast Go.Proofs.YtccfbhnhedoggaaW.PrintMore
attribute [local go_sem] max2_int min2_int max_two min_two max_three min_three max_four min_four   -- for this text's walks alone
set_option linter.unusedVariables false
set_option linter.unusedSimpArgs false

/-! ### recoupref04_Solve: function 31 -/
mutual
def recoupref04_Solve.j0 : Nat → List Int → Bool → Int → Int → List Int → Option (List Int × Bool × Int)
 | 0, _, _, _, _, _ => none
 | k + 1, x1, x24, x253000, x253001, x253002 => if x24 = true then (some (([] : List Int), false, 3)) else (recoupref04_Solve.l0 k x1 0 x253000 x253001 x253002 x253000 (wrap64 (x253001 + 1)) ([] : List Int))
def recoupref04_Solve.l0 : Nat → List Int → Int → Int → Int → List Int → Int → Int → List Int → Option (List Int × Bool × Int)
 | 0, _, _, _, _, _, _, _, _ => none
 | k + 1, x1, x8, x253000, x253001, x253002, x255000, x255001, x255002 => if x8 < x253000 then ((recoupref03_Row.f k x253000 x253001 x253002 x8).bind fun bt255 => (if x255002.length + bt255.1.length < 140737488355328 then ((some (x255002 ++ bt255.1 : List Int)).bind fun y259 => (if 0 ≤ x8 then (if x8 < (x1.length : Int) then ((some (([rd x1 x8] : List Int) : List Int)).bind fun y263 => (if y259.length + y263.length < 140737488355328 then (recoupref04_Solve.l0 k x1 (wrap64 (x8 + 1)) x253000 x253001 x253002 x255000 x255001 (y259 ++ y263)) else (none))) else (none)) else (none))) else (none))) else ((recoupref04_wide.f k x255000 x255001 x255002).bind fun bt269 => (if 0 ≤ x253001 then (if (x253001 : Int).toNat ≤ 281474976710656 then (recoupref04_Solve.l1 k bt269.2.2.2 (List.replicate (x253001 : Int).toNat 0) 0 x253000 x253001 x253002 bt269.1 bt269.2.1 bt269.2.2.1) else (none)) else (none)))
def recoupref04_Solve.l1 : Nat → List Int → List Int → Int → Int → Int → List Int → Int → Int → List Int → Option (List Int × Bool × Int)
 | 0, _, _, _, _, _, _, _, _, _ => none
 | k + 1, x12, x13, x14, x253000, x253001, x253002, x278000, x278001, x278002 => if x14 < (x12.length : Int) then (if 0 ≤ x14 then (if (rd x12 x14) = x253001 then (some (([] : List Int), false, 0)) else ((recoupref03_At.f x278000 x278001 x278002 x14 x253001).bind fun t283 => (if 0 ≤ (rd x12 x14) then (if (rd x12 x14) < (x13.length : Int) then (recoupref04_Solve.l1 k x12 (x13.set ((rd x12 x14) : Int).toNat t283) (wrap64 (x14 + 1)) x253000 x253001 x253002 x278000 x278001 x278002) else (none)) else (none)))) else (none)) else (some (x13, true, 0))
end
def recoupref04_Solve.f (k : Nat) (a0_0 : Int) (a0_1 : Int) (l0_2 : List Int) (l1 : List Int) : Option (List Int × Bool × Int) := (recoupref03_Right.f a0_0 a0_1 l0_2).bind fun t253 => (if t253 = true then (recoupref04_Solve.j0 k l1 ((l1.length : Int) != a0_0) a0_0 a0_1 l0_2) else (recoupref04_Solve.j0 k l1 true a0_0 a0_1 l0_2))
theorem recoupref04_Solve.mono_l : ∀ k, (∀ y0 y1 y2 y3 y4, LeO (recoupref04_Solve.j0 k y0 y1 y2 y3 y4) (recoupref04_Solve.j0 (k + 1) y0 y1 y2 y3 y4)) ∧ (∀ y0 y1 y2 y3 y4 y5 y6 y7, LeO (recoupref04_Solve.l0 k y0 y1 y2 y3 y4 y5 y6 y7) (recoupref04_Solve.l0 (k + 1) y0 y1 y2 y3 y4 y5 y6 y7)) ∧ (∀ y0 y1 y2 y3 y4 y5 y6 y7 y8, LeO (recoupref04_Solve.l1 k y0 y1 y2 y3 y4 y5 y6 y7 y8) (recoupref04_Solve.l1 (k + 1) y0 y1 y2 y3 y4 y5 y6 y7 y8))
 | 0 => ⟨fun _ _ _ _ _ r h => by simp [recoupref04_Solve.j0] at h, fun _ _ _ _ _ _ _ _ r h => by simp [recoupref04_Solve.l0] at h, fun _ _ _ _ _ _ _ _ _ r h => by simp [recoupref04_Solve.l1] at h⟩
 | k + 1 => by
  obtain ⟨ih0, ih1, ih2⟩ := recoupref04_Solve.mono_l k
  refine ⟨?_, ?_, ?_⟩
  all_goals (intros; first | unfold recoupref04_Solve.j0 | unfold recoupref04_Solve.l0 | unfold recoupref04_Solve.l1)
  all_goals repeat' first | (with_reducible exact ih0 _ _ _ _ _) | (with_reducible exact ih1 _ _ _ _ _ _ _ _) | (with_reducible exact ih2 _ _ _ _ _ _ _ _ _) | (with_reducible exact recoupref03_Row.mono _ _ _ _ _) | (with_reducible exact recoupref04_wide.mono _ _ _ _) | (with_reducible exact LeO.refl _) | (with_reducible exact LeO.none _) | (with_reducible refine LeO.ite ?_ ?_) | (with_reducible refine LeO.bind ?_ (fun _ => ?_)) | exact ih0 _ _ _ _ _ | exact ih1 _ _ _ _ _ _ _ _ | exact ih2 _ _ _ _ _ _ _ _ _ | exact recoupref03_Row.mono _ _ _ _ _ | exact recoupref04_wide.mono _ _ _ _ | exact LeO.none _ | refine LeO.ite ?_ ?_ | refine LeO.bind ?_ (fun _ => ?_)
theorem recoupref04_Solve.mono : ∀ a0 a1 a2 a3 k, LeO (recoupref04_Solve.f k a0 a1 a2 a3) (recoupref04_Solve.f (k + 1) a0 a1 a2 a3) := by
 intro a0 a1 a2 a3 k
 obtain ⟨ih0, ih1, ih2⟩ := recoupref04_Solve.mono_l k
 unfold recoupref04_Solve.f
 repeat' first
   | (with_reducible exact ih0 _ _ _ _ _)
   | (with_reducible exact ih1 _ _ _ _ _ _ _ _)
   | (with_reducible exact ih2 _ _ _ _ _ _ _ _ _)
   | (with_reducible exact recoupref03_Row.mono _ _ _ _ _)
   | (with_reducible exact recoupref04_wide.mono _ _ _ _)
   | (with_reducible exact LeO.refl _)
   | (with_reducible exact LeO.none _)
   | (with_reducible refine LeO.ite ?_ ?_)
   | (with_reducible refine LeO.bind ?_ (fun _ => ?_))
   | exact ih0 _ _ _ _ _
   | exact ih1 _ _ _ _ _ _ _ _
   | exact ih2 _ _ _ _ _ _ _ _ _
   | exact recoupref03_Row.mono _ _ _ _ _
   | exact recoupref04_wide.mono _ _ _ _
   | exact LeO.none _
   | refine LeO.ite ?_ ?_
   | refine LeO.bind ?_ (fun _ => ?_)
def recoupref04_Solve.T8 : Bool × List (List Nat × List Nat) := (true, [([], []), ([0], [0]), ([], []), ([1, 2], [1, 2]), ([], []), ([], []), ([4, 5], [4, 5]), ([6], [6]), ([7], [7]), ([3, 8, 3], [3, 8]), ([0, 1, 2, 3, 4, 5, 6, 7, 8, 9], []), ([10, 9, 9, 0, 1, 2, 3, 4, 5, 6, 7, 8, 9], [9, 10])])
def recoupref04_Solve.B8 : List Nat := [0, 1, 0, 7, 0, 0, 48, 112, 240, 511, 1023, 2047]
theorem recoupref04_Solve.tab8 : rtab .any (opsOf Try.f31 8) = recoupref04_Solve.T8 := by kernel_rfl
theorem recoupref04_Solve.bits8 : waitsOk recoupref04_Solve.T8.2 recoupref04_Solve.B8 = true := by kernel_rfl
def recoupref04_Solve.T16 : Bool × List (List Nat × List Nat) := (true, [([], []), ([], []), ([], []), ([1, 2], [1, 2]), ([3], [3]), ([], []), ([], []), ([], []), ([7], [7]), ([5, 6, 8], [5, 6, 8]), ([0, 4, 0, 1, 2, 3, 4, 5, 6, 7, 8, 9], [0, 4]), ([10, 9, 9, 0, 1, 2, 3, 4, 5, 6, 7, 8, 9], [9, 10])])
def recoupref04_Solve.B16 : List Nat := [0, 0, 0, 6, 14, 0, 0, 0, 128, 480, 1023, 2047]
theorem recoupref04_Solve.tab16 : rtab .any (opsOf Try.f31 16) = recoupref04_Solve.T16 := by kernel_rfl
theorem recoupref04_Solve.bits16 : waitsOk recoupref04_Solve.T16.2 recoupref04_Solve.B16 = true := by kernel_rfl
set_option maxHeartbeats 8000000 in
set_option maxRecDepth 100000 in
theorem recoupref04_Solve.calls (k : Nat) (a0_0 : Int) (a0_1 : Int) (A0_2 : Option Addr) (c0_2 : Nat) (l0_2 : List Int) (A1 : Option Addr) (c1 : Nat) (l1 : List Int) (r1 : List Int) (r2 : Bool) (r3 : Int) (w : World) (hr0_2 : Kd.C (Kd.int .u8) w A0_2 l0_2.length l0_2) (hc0_2 : l0_2.length ≤ c0_2) (hr1 : Kd.C (Kd.int .u8) w A1 l1.length l1) (hc1 : l1.length ≤ c1) (h : recoupref04_Solve.f k a0_0 a0_1 l0_2 l1 = some (r1, r2, r3)) :
  Calls Try.prog 31 #[.agg #[.int .i64 a0_0, .int .i64 a0_1, .slice A0_2 l0_2.length c0_2], .slice A1 l1.length c1] w fun e w' => ∃ v0_ : Value, e = .returned (.tuple #[v0_, .bool r2, .int .i64 r3]) ∧ Kd.R (Kd.int .u8) 5 w' w.heap.size (fun _ => True) v0_ r1 ∧ Below w.heap.size w w' := by
 have hu24 := Try.underlying24
 have HR0_2 := Aside0.mk hr0_2
 have HC0_2 := Aside0.mk hc0_2
 clear hr0_2 hc0_2
 have HR1 := Aside0.mk hr1
 have HC1 := Aside0.mk hc1
 clear hr1 hc1
 have HB := Aside0.mk (Below.refl w.heap.size w)
 have H : ((recoupref03_Right.f a0_0 a0_1 l0_2).bind fun t253 => (if t253 = true then (recoupref04_Solve.j0 k l1 ((l1.length : Int) != a0_0) a0_0 a0_1 l0_2) else (recoupref04_Solve.j0 k l1 true a0_0 a0_1 l0_2))) = some (r1, r2, r3) := h
 clear h
 have HC3 := Aside0.mk H
 clear H
 go_enter Try.func31, Try.ntmps31
 go_upto_region 1 with (first | ((with_reducible refine gD 2 rfl ?_); (try (refine gate_guard (by rfl) ?_; dsimp only)); refine bE 2 #[.int .i64 a0_0, .int .i64 a0_1, .slice A0_2 l0_2.length c0_2] 24 ?_; intro gb252 hg w4 hbox hb; have BK252 := Aside0.mk (hbox); have GW252 := hbS HB hg; have GE252 := hbS HB hg; replace HB := hbB HB hb; clear hb hbox hg))
 (try simp only [Act.put, List.setIfInBounds_toArray, List.set_cons_zero, List.set_cons_succ])
 go_cut [24] (fun v24 wc => ∃ (kq : Nat) (x24_2 : Bool), v24 = .bool x24_2 ∧ Aside0 (recoupref04_Solve.j0 kq l1 x24_2 a0_0 a0_1 l0_2 = some (r1, r2, r3)) ∧ Aside0 (kq ≤ k) ∧ Aside0 (wc.heap[gb252]? = some (.cells #[.int .i64 a0_0, .int .i64 a0_1, (.slice A0_2 l0_2.length c0_2)] 24 (0, 0))) ∧ Aside0 (Below w.heap.size w wc))
 case first =>
  have H := HC3.out
  clear HC3
  obtain ⟨t253, A5, H⟩ := bindO H
  (try dsimp only at H)
  by_cases c6 : t253 = true
  ·subst c6
   rw [if_pos rfl] at H
   have H' := Aside0.mk H
   clear H
   obtain ⟨hcz7_0, hcz7_1, hcz7_2, hfz7_0, hfz7_1, hfz7_2⟩ := cell3 BK252
   go_wp2_with (first | ((with_reducible refine gC 21 rfl ?_); refine cG (some 16) Try.func21 #[.agg #[.int .i64 a0_0, .int .i64 a0_1, .slice A0_2 l0_2.length c0_2]] ?_; (with_reducible refine (recoupref03_Right.calls a0_0 a0_1 _ _ l0_2 true _ ?side1 ?side2 A5.out).mono ?_); (case side1 => exact kcB HR0_2 HB); (case side2 => exact HC0_2.out); rintro e w8 ⟨rfl, hb⟩; refine ⟨_, rfl, ?_⟩; replace BK252 := bkB BK252 hb; replace HB := hbB HB hb; (try clear hb); (try clear hb2); (try clear hk); (try clear hi); obtain ⟨hcz9_0, hcz9_1, hcz9_2, hfz9_0, hfz9_1, hfz9_2⟩ := cell3 BK252))
   go_meet
   case rel => exact ⟨_, (((l1.length : Int) != a0_0)), rsE, H', ⟨leE⟩, ⟨bkA BK252.out⟩, ⟨hbA HB.out⟩⟩
  ·replace c6 := Bool.eq_false_iff.mpr c6
   subst c6
   rw [if_neg nofT] at H
   have H' := Aside0.mk H
   clear H
   obtain ⟨hcz10_0, hcz10_1, hcz10_2, hfz10_0, hfz10_1, hfz10_2⟩ := cell3 BK252
   go_wp2_with (first | ((with_reducible refine gC 21 rfl ?_); refine cG (some 16) Try.func21 #[.agg #[.int .i64 a0_0, .int .i64 a0_1, .slice A0_2 l0_2.length c0_2]] ?_; (with_reducible refine (recoupref03_Right.calls a0_0 a0_1 _ _ l0_2 false _ ?side1 ?side2 A5.out).mono ?_); (case side1 => exact kcB HR0_2 HB); (case side2 => exact HC0_2.out); rintro e w11 ⟨rfl, hb⟩; refine ⟨_, rfl, ?_⟩; replace BK252 := bkB BK252 hb; replace HB := hbB HB hb; (try clear hb); (try clear hb2); (try clear hk); (try clear hi)))
   go_meet
   case rel => exact ⟨_, (true), rsE, H', ⟨leE⟩, ⟨bkA BK252.out⟩, ⟨hbA HB.out⟩⟩
 case rest =>
  clear HC3
  (try clear c1); (try clear c2); (try clear p2); (try clear c3); (try clear c6); (try clear hcz10_0 hcz10_1 hcz10_2 hfz10_0 hfz10_1 hfz10_2); (try clear hcz7_0 hcz7_1 hcz7_2 hfz7_0 hfz7_1 hfz7_2); (try clear hcz9_0 hcz9_1 hcz9_2 hfz9_0 hfz9_1 hfz9_2)
  obtain ⟨kq, x24_2, rfl, HA, HJ2, BK252, HB⟩ := hcut
  cases kq with
  | zero => exact absurd HA.out (by simp [recoupref04_Solve.j0])
  | succ kj2 =>
   have H := HA.out
   clear HA
   simp only [recoupref04_Solve.j0] at H
   by_cases c12 : x24_2 = true
   ·subst c12
    rw [if_pos rfl] at H
    simp only [Option.some.injEq, Prod.mk.injEq] at H
    obtain ⟨rfl, rfl, rfl⟩ := H
    go_wp2
    go_ret3
    exact ⟨_, rfE, nilE, hbA HB.out⟩
   ·replace c12 := Bool.eq_false_iff.mpr c12
    subst c12
    rw [if_neg nofT] at H
    have H' := Aside0.mk H
    clear H
    obtain ⟨hcz13_0, hcz13_1, hcz13_2, hfz13_0, hfz13_1, hfz13_2⟩ := cell3 BK252
    go_wp2_with (first | ((with_reducible refine gD 7 rfl ?_); (try (refine gate_guard (by rfl) ?_; dsimp only)); refine bE 7 #[.int .i64 0, .int .i64 0, .slice none 0 0] 24 ?_; intro gb254 hg w14 hbox hb; have BK254 := Aside0.mk (hbox); have GW254 := hbS HB hg; have GE254 := hbS HB hg; replace HB := hbB HB hb; have NB252_254 := neL BK252 hg; have NB254_252 := neG BK252 hg; replace BK252 := bkB BK252 hb; clear hb hbox hg; have hnb15 := NB254_252.out; have hnc15 := NB252_254.out; obtain ⟨hcz16_0, hcz16_1, hcz16_2, hfz16_0, hfz16_1, hfz16_2⟩ := cell3 BK254))
    go_loopg [8] kj2 (fun kq v8 w' => ∃ (x8_2 : Int) (x255002_2 : List Int) (u255002 : Value), v8 = .int .i64 x8_2 ∧ Aside0 (recoupref04_Solve.l0 kq l1 x8_2 a0_0 a0_1 l0_2 a0_0 (wrap64 (a0_1 + 1)) x255002_2 = some (r1, r2, r3)) ∧ Aside0 (kq ≤ kj2) ∧ Aside0 (Kd.R (Kd.int .u8) 5 w' w.heap.size (fun _ => True) u255002 x255002_2) ∧ Aside0 (w'.heap[gb252]? = some (.cells #[.int .i64 a0_0, .int .i64 a0_1, (.slice A0_2 l0_2.length c0_2)] 24 (0, 0))) ∧ Aside0 (w'.heap[gb254]? = some (.cells #[.int .i64 a0_0, .int .i64 (wrap64 (a0_1 + 1)), u255002] 24 (0, 0))) ∧ Aside0 (Below w.heap.size w w'))
    case atStart => exact ⟨(0), (([] : List Int)), (.slice none 0 0), rsE, H', ⟨Nat.le_refl _⟩, ⟨nilE⟩, ⟨by refine bkR ?_; refine blk_far ?_ NB252_254.out _; refine bkR ?_; refine blk_far ?_ NB252_254.out _; refine bkR ?_; refine blk_far ?_ NB252_254.out _; refine bkR ?_; exact BK252.out⟩, ⟨by refine bkR ?_; refine blk_put (cs := #[.int .i64 a0_0, .int .i64 (wrap64 (a0_1 + 1)), .slice none 0 0]) ?_ 2 _ rfl; refine bkR ?_; refine blk_put (cs := #[.int .i64 a0_0, .int .i64 0, .slice none 0 0]) ?_ 1 _ rfl; refine bkR ?_; refine blk_put (cs := #[.int .i64 0, .int .i64 0, .slice none 0 0]) ?_ 0 _ rfl; refine bkR ?_; exact BK254.out⟩, ⟨hbA HB.out⟩⟩
    case round =>
     clear H'
     (try clear c1); (try clear c2); (try clear p2 p2); (try clear c3); (try clear c6); (try clear p6); (try clear c12); (try clear c15); (try clear hcz10_0 hcz10_1 hcz10_2 hfz10_0 hfz10_1 hfz10_2); (try clear hcz13_0 hcz13_1 hcz13_2 hfz13_0 hfz13_1 hfz13_2); (try clear hcz16_0 hcz16_1 hcz16_2 hfz16_0 hfz16_1 hfz16_2); (try clear hcz7_0 hcz7_1 hcz7_2 hfz7_0 hfz7_1 hfz7_2); (try clear hcz9_0 hcz9_1 hcz9_2 hfz9_0 hfz9_1 hfz9_2)
     obtain ⟨x8_2, x255002_2, u255002, rfl, HA, HK2, HO_255002, BK252, BK254, HB⟩ := hrel
     cases gk with
     | zero => exact absurd HA.out (by simp [recoupref04_Solve.l0])
     | succ k2 =>
      have H := HA.out
      clear HA
      simp only [recoupref04_Solve.l0] at H
      by_cases c17 : x8_2 < a0_0
      ·rw [if_pos c17] at H
       have c17b0 : decide (x8_2 < a0_0) = true := decide_eq_true c17
       clear c17
       obtain ⟨⟨t255, t258⟩, A18, H⟩ := bindO H
       (try dsimp only at H)
       by_cases c19 : x255002_2.length + t255.length < 140737488355328
       ·rw [if_pos c19] at H
        have LMc19 := Aside0.mk c19
        clear c19
        obtain ⟨y259, hy259⟩ : ∃ y_ : List Int, y_ = (x255002_2 ++ t255) := ⟨_, rfl⟩
        replace H : (if 0 ≤ x8_2 then (if x8_2 < (l1.length : Int) then ((some (([rd l1 x8_2] : List Int) : List Int)).bind fun y263 => (if y259.length + y263.length < 140737488355328 then (recoupref04_Solve.l0 k2 l1 (wrap64 (x8_2 + 1)) a0_0 a0_1 l0_2 a0_0 (wrap64 (a0_1 + 1)) (y259 ++ y263)) else (none))) else (none)) else (none)) = some (r1, r2, r3) := by first | (rw [hy259]; with_reducible exact H) | (have H2_ := (Option.bind_some _ _).symm.trans H; rw [hy259]; with_reducible exact H2_) | (have H2_ := (Option.bind_some _ _).symm.trans H; with_reducible exact H2_) | with_reducible exact H | (rw [hy259]; exact H) | exact H
        have Ny259 := Aside0.mk hy259
        clear hy259
        by_cases c20 : 0 ≤ x8_2
        ·rw [if_pos c20] at H
         have c20b0 : decide (0 ≤ x8_2) = true := decide_eq_true c20
         clear c20
         by_cases c21 : x8_2 < (l1.length : Int)
         ·rw [if_pos c21] at H
          have c21b0 : decide (x8_2 < (l1.length : Int)) = true := decide_eq_true c21
          clear c21
          obtain ⟨y263, hy263⟩ : ∃ y_ : List Int, y_ = (([rd l1 x8_2] : List Int)) := ⟨_, rfl⟩
          replace H : (if y259.length + y263.length < 140737488355328 then (recoupref04_Solve.l0 k2 l1 (wrap64 (x8_2 + 1)) a0_0 a0_1 l0_2 a0_0 (wrap64 (a0_1 + 1)) (y259 ++ y263)) else (none)) = some (r1, r2, r3) := by first | (rw [hy263]; with_reducible exact H) | (have H2_ := (Option.bind_some _ _).symm.trans H; rw [hy263]; with_reducible exact H2_) | (have H2_ := (Option.bind_some _ _).symm.trans H; with_reducible exact H2_) | with_reducible exact H | (rw [hy263]; exact H) | exact H
          have Ny263 := Aside0.mk hy263
          clear hy263
          by_cases c22 : y259.length + y263.length < 140737488355328
          ·rw [if_pos c22] at H
           have LMc22 := Aside0.mk c22
           clear c22
           obtain ⟨y266, hy266⟩ : ∃ y_ : List Int, y_ = (y259 ++ y263) := ⟨_, rfl⟩
           replace H : (recoupref04_Solve.l0 k2 l1 (wrap64 (x8_2 + 1)) a0_0 a0_1 l0_2 a0_0 (wrap64 (a0_1 + 1)) y266) = some (r1, r2, r3) := by first | (rw [hy266]; with_reducible exact H) | (have H2_ := (Option.bind_some _ _).symm.trans H; rw [hy266]; with_reducible exact H2_) | (have H2_ := (Option.bind_some _ _).symm.trans H; with_reducible exact H2_) | with_reducible exact H | (rw [hy266]; exact H) | exact H
           have Ny266 := Aside0.mk hy266
           clear hy266
           have H' := Aside0.mk H
           clear H
           have hnb23 := NB252_254.out
           have hnc23 := NB254_252.out
           obtain ⟨hcz24_0, hcz24_1, hcz24_2, hfz24_0, hfz24_1, hfz24_2⟩ := cell3 BK252
           try go_wp2_with (first | ((with_reducible refine gC 34 rfl ?_); refine cG (some 40) Try.func34 #[.agg #[.int .i64 a0_0, .int .i64 a0_1, .slice A0_2 l0_2.length c0_2], .int .i64 x8_2] ?_; (with_reducible refine (recoupref03_Row.calls k2 a0_0 a0_1 _ _ l0_2 x8_2 t255 t258 _ ?side1 ?side2 A18.out).mono ?_); (case side1 => exact kcB HR0_2 HB); (case side2 => exact HC0_2.out); rintro e w25 ⟨v256, rfl, ho0, hb⟩; refine ⟨_, rfl, ?_⟩; have HO257 := Aside0.mk (Kd.R_lower (Kd.R_new' ho0 (Kd.R_lt (kdA HO_255002.out))) (below_size (hbA HB.out))); replace HO_255002 := Aside0.mk (Kd.R_elder' (kdA HO_255002.out) (Kd.R_base ho0) hb); replace BK252 := bkB BK252 hb; replace BK254 := bkB BK254 hb; replace HB := hbB HB hb; (try clear hb); (try clear hb2); (try clear hk); (try clear hi); (try clear ho0); obtain ⟨Ao26, co26, eo26⟩ := Kd.R_slice HO_255002.out; subst eo26; obtain ⟨Ao27, co27, eo27⟩ := Kd.R_slice HO257.out; subst eo27))
           replace HO_255002 := Aside0.mk (Kd.R_drew HO_255002.out)
           replace HO257 := Aside0.mk (Kd.R_drew HO257.out)
           replace BK252 := Aside0.mk (blk_drew BK252.out)
           replace BK254 := Aside0.mk (blk_drew BK254.out)
           replace HB := Aside0.mk (below_drew1 HB.out)
           have p262 : 0 ≤ (x8_2 : Int) := of_decide_eq_true asE
           have q262 : x8_2 < (l1.length : Int) := of_decide_eq_true asE
           obtain ⟨ad262, e262, hx262_0⟩ := Kd.at_int HR1.out x8_2 p262 q262
           have hw262_0 := hx262_0
           cases e262
           replace hx262_0 := (HB.out.cell (World.block_lt_of_cell? w _ hx262_0)).trans hx262_0
           replace p262 := eq_true p262
           replace q262 := eq_true q262
           refine start_ (n := 12) (S := fun w' => w'.cell? ⟨gb254, 0, none⟩ = some (.int .i64 a0_0) ∧ w'.cell? ⟨gb254, 1, none⟩ = some (.int .i64 (wrap64 (a0_1 + 1))) ∧ w'.cell? ⟨gb254, 2, none⟩ = some (.slice Ao26 x255002_2.length co26) ∧ w'.cell? (ad262.add (x8_2).toNat) = some (.int .u8 (rd l1 x8_2))) (ds := [11]) (.replicate 12 false) (by kernel_rfl) rfl rfl ⟨(blk_cell BK254.out 0).trans rfl, (blk_cell BK254.out 1).trans rfl, (blk_cell BK254.out 2).trans rfl, ((HB.out.cell (World.block_lt_of_cell? w _ hw262_0)).trans hw262_0)⟩ (fun hHeld => ?_); refine with_tabW recoupref04_Solve.tab8 recoupref04_Solve.bits8 (fun HT_ HW_ => ?_)
           generalize w25.drew = w28 at HO_255002 HO257 BK252 BK254 HB hx262_0 hHeld ⊢
           refine pu 0 (some 43) (mB 12 1) HT_ ?_
           refine pu 2 (some 45) (mB 12 5) HT_ ?_
           refine pu 4 (some 47) (mB 12 21) HT_ ?_
           refine pu 5 (some 48) (mB 12 53) HT_ ?_
           refine pu 6 (some 49) (mB 12 117) HT_ ?_
           refine tk4 1 (some 44) (mB 12 119) HT_ HW_ hHeld ?_
           refine tk4 7 (some 50) (mB 12 247) HT_ HW_ hHeld ?_
           refine join_ (σ := Value × Value) 3 (mB 12 511) (fun s_ => [(46, s_.1), (51, s_.2)]) (fun s_ w' => (w'.cell? ⟨gb254, 0, none⟩ = some (.int .i64 a0_0) ∧ w'.cell? ⟨gb254, 1, none⟩ = some (.int .i64 (wrap64 (a0_1 + 1))) ∧ w'.cell? ⟨gb254, 2, none⟩ = some (.slice Ao26 x255002_2.length co26) ∧ w'.cell? (ad262.add (x8_2).toNat) = some (.int .u8 (rd l1 x8_2))) ∧ (Kd.R (Kd.int .u8) 5 w' w.heap.size (fun k_ => some k_ ≠ (s_.1 : Value).ownBlock ∧ some k_ ≠ (s_.2 : Value).ownBlock) (.slice Ao27 t255.length co27) t255) ∧ (Kd.R (Kd.int .u8) 5 w' w.heap.size (fun k_ => some k_ ≠ (.slice Ao27 t255.length co27 : Value).ownBlock ∧ some k_ ≠ (s_.2 : Value).ownBlock) s_.1 y259) ∧ (Kd.R (Kd.int .u8) 5 w' w.heap.size (fun k_ => some k_ ≠ (.slice Ao27 t255.length co27 : Value).ownBlock ∧ some k_ ≠ (s_.1 : Value).ownBlock) s_.2 y263) ∧ (w'.heap[gb252]? = some (.cells #[.int .i64 a0_0, .int .i64 a0_1, .slice A0_2 l0_2.length c0_2] 24 (0, 0))) ∧ (w'.heap[gb254]? = some (.cells #[.int .i64 a0_0, .int .i64 (wrap64 (a0_1 + 1)), .slice Ao26 x255002_2.length co26] 24 (0, 0))) ∧ (Below w.heap.size w w')) ?_ ?_
           rotate_left
           ·intro hCont
            refine two_ (i := 3) (j := 8) (Ni := some 46) (Nj := some 51) (mB 12 255) (mB 12 503) rfl rfl rfl rfl (two_of HT_.out (by kernel_rfl)) (by decide) (by decide) (fun K hK => ?_) (fun K hK => ?_)
            ·skip
             refine Kd.R_append_rows_step (Kd.int .u8) (w0 := w) w.heap.size (by rfl) (.tmp 44) (.tmp 45) 22 5 (.int .u8 0) 1 rfl Try.underlying22 info5 rfl (by decide) (by omega) (.slice Ao26 x255002_2.length co26) x255002_2 t255 _ _ _ (fun k_ => some k_ ≠ (.slice Ao27 t255.length co27 : Value).ownBlock) (fun _ => False) rfl rfl ?aO ?aR (fun _ _ h => h) (fun _ h => h.elim) ?aF ?aB ?aS ?aL ?_
             (case aR => exact kcA (Kd.R_reads' HO257.out).2.2)
             (case aB => exact (hbA HB.out))
             (case aF => exact (fun k_ hk => Kd.fresh' (Kd.R_lt (kdA HO257.out)) k_ hk))
             (case aO => exact (by (with_reducible repeat (first | apply Kd.R_alloc | apply Kd.R_drewN | apply Kd.R_drew)); exact Kd.R_mono HO_255002.out (fun _ hk => hk.2)))
             (case aS => exact (below_size (hbA HB.out)))
             (case aL => have := LMc19.out; omega)
             intro v260 w29 ho hb hg hat
             rw [← Ny259.out] at ho
             have n0_ := Aside0.mk (blk_grown (g := gb252) (o := .cells #[.int .i64 a0_0, .int .i64 a0_1, .slice A0_2 l0_2.length c0_2] 24 (0, 0)) (bkA BK252.out) hg (Kd.R_ne HO_255002.out BK252.out (by decide)))
             have n1_ := Aside0.mk (blk_grown (g := gb254) (o := .cells #[.int .i64 a0_0, .int .i64 (wrap64 (a0_1 + 1)), .slice Ao26 x255002_2.length co26] 24 (0, 0)) (bkA BK254.out) hg (Kd.R_ne HO_255002.out BK254.out (by decide)))
             have n2_ := Aside0.mk (Kd.R_after (ok := (fun _ => True)) (kdA HO257.out) hg hat)
             have n3_ := Aside0.mk (hb)
             have n4_ := Aside0.mk (ho)
             clear BK252
             clear BK254
             clear HO257
             clear HB
             clear HO_255002
             have BK252 := n0_
             have BK254 := n1_
             have HO257 := n2_
             have HB := n3_
             have HO261 := n4_
             clear n0_ n1_ n2_ n3_ n4_
             clear ho hb hg hat
             refine hK.out _ _ ⟨(blk_cell BK254.out 0).trans rfl, (blk_cell BK254.out 1).trans rfl, (blk_cell BK254.out 2).trans rfl, ((HB.out.cell (World.block_lt_of_cell? w _ hw262_0)).trans hw262_0)⟩ (fun hHeld => ?_)
             clear hK K
             refine norm_ (a' := ?_) ?_ ?_
             rotate_left
             ·show Act.put _ (some 46) _ = _
              simp only [Act.put, List.setIfInBounds_toArray, List.set_cons_zero, List.set_cons_succ, i64_w, i32_w]
              rfl
             refine one_ (i := 8) (N := some 51) (mB 12 511) rfl rfl (one_of HT_.out (by kernel_rfl)) (by decide) (fun K hK => ?_)
             refine Kd.R_lit_step (Kd.int .u8) _ 5 ?hg (N := 51) ?hd (xs := ([rd l1 x8_2] : List Int)) (inner := [.int .u8 (rd l1 x8_2)]) (ok := fun _ => True) (okp := fun _ => True) ?hr ?hp (fun _ hk => hk) trivial (Below.refl _ _) (Nat.le_refl _) (by simp) ?_; (case hd => rfl); (case hg => rfl); (case hr => first | (go_simp; done) | (go_simp; rfl)); (case hp => exact (Reps.one (show Kd.M (Kd.int .u8) _ _ _ (rd l1 x8_2) [.int .u8 (rd l1 x8_2)] from rfl) (Reps.none _ _)))
             intro v264 w30 ho31 hb hg_ hnew_
             clear hg_ hnew_
             (first | rw [← Ny263.out] at ho31 | (simp only [Int.reduceToNat] at ho31; rw [← Ny263.out] at ho31))
             have HO265 := Aside0.mk (Kd.R_lower (Kd.R_new' (Kd.R_new' ho31 (Kd.R_lt (kdA HO257.out))) (Kd.R_lt (kdA HO261.out))) (below_size (hbA HB.out)))
             replace HO257 := Aside0.mk (Kd.R_elder' (kdA HO257.out) (Kd.R_base ho31) hb)
             replace HO261 := Aside0.mk (Kd.R_elder' (kdA HO261.out) (Kd.R_base ho31) hb)
             replace BK252 := bkB BK252 hb
             replace BK254 := bkB BK254 hb
             replace HB := hbB HB hb
             clear hb ho31
             refine hK.out _ _ ⟨(blk_cell BK254.out 0).trans rfl, (blk_cell BK254.out 1).trans rfl, (blk_cell BK254.out 2).trans rfl, ((HB.out.cell (World.block_lt_of_cell? w _ hw262_0)).trans hw262_0)⟩ (fun hHeld => ?_)
             clear hK K
             refine norm_ (a' := ?_) ?_ ?_
             rotate_left
             ·show Act.put _ (some 51) _ = _
              simp only [Act.put, List.setIfInBounds_toArray, List.set_cons_zero, List.set_cons_succ, i64_w, i32_w]
              rfl
             exact norm_ (by simp only [putAll, Act.put, List.setIfInBounds_toArray, List.set_cons_zero, List.set_cons_succ]) (hCont (v260, v264) _ ⟨hHeld, (by (with_reducible repeat (first | apply Kd.R_alloc | apply Kd.R_drewN | apply Kd.R_drew)); exact Kd.R_mono HO257.out (fun _ hk => ⟨hk.1.2, hk.2⟩)), (kdA HO261.out), (by (with_reducible repeat (first | apply Kd.R_alloc | apply Kd.R_drewN | apply Kd.R_drew)); exact Kd.R_mono HO265.out (fun _ hk => ⟨hk.1.2, hk.2⟩)), (bkA BK252.out), (bkA BK254.out), (hbA HB.out)⟩)
            ·skip
             refine Kd.R_lit_step (Kd.int .u8) _ 5 ?hg (N := 51) ?hd (xs := ([rd l1 x8_2] : List Int)) (inner := [.int .u8 (rd l1 x8_2)]) (ok := fun _ => True) (okp := fun _ => True) ?hr ?hp (fun _ hk => hk) trivial (Below.refl _ _) (Nat.le_refl _) (by simp) ?_; (case hd => rfl); (case hg => rfl); (case hr => first | (go_simp; done) | (go_simp; rfl)); (case hp => exact (Reps.one (show Kd.M (Kd.int .u8) _ _ _ (rd l1 x8_2) [.int .u8 (rd l1 x8_2)] from rfl) (Reps.none _ _)))
             intro v264 w29 ho30 hb hg_ hnew_
             clear hg_ hnew_
             (first | rw [← Ny263.out] at ho30 | (simp only [Int.reduceToNat] at ho30; rw [← Ny263.out] at ho30))
             have HO265 := Aside0.mk (Kd.R_lower (Kd.R_new' (Kd.R_new' ho30 (Kd.R_lt (kdA HO_255002.out))) (Kd.R_lt (kdA HO257.out))) (below_size (hbA HB.out)))
             replace HO_255002 := Aside0.mk (Kd.R_elder' (kdA HO_255002.out) (Kd.R_base ho30) hb)
             replace HO257 := Aside0.mk (Kd.R_elder' (kdA HO257.out) (Kd.R_base ho30) hb)
             replace BK252 := bkB BK252 hb
             replace BK254 := bkB BK254 hb
             replace HB := hbB HB hb
             clear hb ho30
             refine hK.out _ _ ⟨(blk_cell BK254.out 0).trans rfl, (blk_cell BK254.out 1).trans rfl, (blk_cell BK254.out 2).trans rfl, ((HB.out.cell (World.block_lt_of_cell? w _ hw262_0)).trans hw262_0)⟩ (fun hHeld => ?_)
             clear hK K
             refine norm_ (a' := ?_) ?_ ?_
             rotate_left
             ·show Act.put _ (some 51) _ = _
              simp only [Act.put, List.setIfInBounds_toArray, List.set_cons_zero, List.set_cons_succ, i64_w, i32_w]
              rfl
             refine one_ (i := 3) (N := some 46) (mB 12 511) rfl rfl (one_of HT_.out (by kernel_rfl)) (by decide) (fun K hK => ?_)
             refine Kd.R_append_rows_step (Kd.int .u8) (w0 := w) w.heap.size (by rfl) (.tmp 44) (.tmp 45) 22 5 (.int .u8 0) 1 rfl Try.underlying22 info5 rfl (by decide) (by omega) (.slice Ao26 x255002_2.length co26) x255002_2 t255 _ _ _ (fun k_ => some k_ ≠ (.slice Ao27 t255.length co27 : Value).ownBlock ∧ some k_ ≠ (v264 : Value).ownBlock) (fun _ => False) rfl rfl ?aO ?aR (fun _ _ h => h) (fun _ h => h.elim) ?aF ?aB ?aS ?aL ?_
             (case aR => exact kcA (Kd.R_reads' HO257.out).2.2)
             (case aB => exact (hbA HB.out))
             (case aF => exact (fun k_ hk => ⟨Kd.fresh' (Kd.R_lt (kdA HO257.out)) k_ hk, Kd.fresh' (Kd.R_lt (kdA HO265.out)) k_ hk⟩))
             (case aO => exact (by (with_reducible repeat (first | apply Kd.R_alloc | apply Kd.R_drewN | apply Kd.R_drew)); exact Kd.R_mono HO_255002.out (fun _ hk => ⟨hk.1.2, hk.2⟩)))
             (case aS => exact (below_size (hbA HB.out)))
             (case aL => have := LMc19.out; omega)
             intro v260 w31 ho hb hg hat
             rw [← Ny259.out] at ho
             have n0_ := Aside0.mk (blk_grown (g := gb252) (o := .cells #[.int .i64 a0_0, .int .i64 a0_1, .slice A0_2 l0_2.length c0_2] 24 (0, 0)) (bkA BK252.out) hg (Kd.R_ne HO_255002.out BK252.out (by decide)))
             have n1_ := Aside0.mk (blk_grown (g := gb254) (o := .cells #[.int .i64 a0_0, .int .i64 (wrap64 (a0_1 + 1)), .slice Ao26 x255002_2.length co26] 24 (0, 0)) (bkA BK254.out) hg (Kd.R_ne HO_255002.out BK254.out (by decide)))
             have n2_ := Aside0.mk (Kd.R_after (ok := (fun k_ => some k_ ≠ (v264 : Value).ownBlock)) (by (with_reducible repeat (first | apply Kd.R_alloc | apply Kd.R_drewN | apply Kd.R_drew)); exact Kd.R_mono HO257.out (fun _ hk => ⟨hk.2, hk.1.2⟩)) hg hat)
             have n3_ := Aside0.mk (Kd.R_after (ok := (fun k_ => some k_ ≠ (.slice Ao27 t255.length co27 : Value).ownBlock)) (by (with_reducible repeat (first | apply Kd.R_alloc | apply Kd.R_drewN | apply Kd.R_drew)); exact Kd.R_mono HO265.out (fun _ hk => ⟨hk.2, hk.1.2⟩)) hg hat)
             have n4_ := Aside0.mk (hb)
             have n5_ := Aside0.mk (ho)
             clear BK252
             clear BK254
             clear HO257
             clear HO265
             clear HB
             clear HO_255002
             have BK252 := n0_
             have BK254 := n1_
             have HO257 := n2_
             have HO265 := n3_
             have HB := n4_
             have HO261 := n5_
             clear n0_ n1_ n2_ n3_ n4_ n5_
             clear ho hb hg hat
             refine hK.out _ _ ⟨(blk_cell BK254.out 0).trans rfl, (blk_cell BK254.out 1).trans rfl, (blk_cell BK254.out 2).trans rfl, ((HB.out.cell (World.block_lt_of_cell? w _ hw262_0)).trans hw262_0)⟩ (fun hHeld => ?_)
             clear hK K
             refine norm_ (a' := ?_) ?_ ?_
             rotate_left
             ·show Act.put _ (some 46) _ = _
              simp only [Act.put, List.setIfInBounds_toArray, List.set_cons_zero, List.set_cons_succ, i64_w, i32_w]
              rfl
             exact norm_ (by simp only [putAll, Act.put, List.setIfInBounds_toArray, List.set_cons_zero, List.set_cons_succ]) (hCont (v260, v264) _ ⟨hHeld, (by (with_reducible repeat (first | apply Kd.R_alloc | apply Kd.R_drewN | apply Kd.R_drew)); exact Kd.R_mono HO257.out (fun _ hk => ⟨hk.2, hk.1⟩)), (kdA HO261.out), (kdA HO265.out), (bkA BK252.out), (bkA BK254.out), (hbA HB.out)⟩)
           rintro ⟨v260, v264⟩ w32 ⟨hS_, h0_, h1_, h2_, h3_, h4_, h5_⟩
           have n0_ : Aside0 (Kd.R (Kd.int .u8) 5 w32 w.heap.size (fun k_ => some k_ ≠ (v260 : Value).ownBlock ∧ some k_ ≠ (v264 : Value).ownBlock) (.slice Ao27 t255.length co27) t255) := ⟨h0_⟩
           have n1_ : Aside0 (Kd.R (Kd.int .u8) 5 w32 w.heap.size (fun k_ => some k_ ≠ (.slice Ao27 t255.length co27 : Value).ownBlock ∧ some k_ ≠ (v264 : Value).ownBlock) v260 y259) := ⟨h1_⟩
           have n2_ : Aside0 (Kd.R (Kd.int .u8) 5 w32 w.heap.size (fun k_ => some k_ ≠ (.slice Ao27 t255.length co27 : Value).ownBlock ∧ some k_ ≠ (v260 : Value).ownBlock) v264 y263) := ⟨h2_⟩
           have n3_ : Aside0 (w32.heap[gb252]? = some (.cells #[.int .i64 a0_0, .int .i64 a0_1, .slice A0_2 l0_2.length c0_2] 24 (0, 0))) := ⟨h3_⟩
           have n4_ : Aside0 (w32.heap[gb254]? = some (.cells #[.int .i64 a0_0, .int .i64 (wrap64 (a0_1 + 1)), .slice Ao26 x255002_2.length co26] 24 (0, 0))) := ⟨h4_⟩
           have n5_ : Aside0 (Below w.heap.size w w32) := ⟨h5_⟩
           clear HO_255002
           clear HO257
           clear BK252
           clear BK254
           clear HB
           clear h0_ h1_ h2_ h3_ h4_ h5_
           have HO257 := n0_
           have HO261 := n1_
           have HO265 := n2_
           have BK252 := n3_
           have BK254 := n4_
           have HB := n5_
           clear n0_ n1_ n2_ n3_ n4_ n5_
           have hHeld : w32.cell? ⟨gb254, 0, none⟩ = some (.int .i64 a0_0) ∧ w32.cell? ⟨gb254, 1, none⟩ = some (.int .i64 (wrap64 (a0_1 + 1))) ∧ w32.cell? ⟨gb254, 2, none⟩ = some (.slice Ao26 x255002_2.length co26) ∧ w32.cell? (ad262.add (x8_2).toNat) = some (.int .u8 (rd l1 x8_2)) := hS_
           obtain ⟨Ao34, co34, eo34⟩ := Kd.R_slice HO265.out
           (first | subst eo34 | (injection eo34 with f1_ f2_ f3_; have f4_ := f1_.symm; have f5_ := f3_.symm; clear f1_ f2_ f3_; subst f4_; subst f5_))
           refine norm_ (a' := ?_) ?_ ?_
           rotate_left
           ·simp only [putAll, Act.put, List.setIfInBounds_toArray, List.set_cons_zero, List.set_cons_succ]
            rfl
           refine one_ (i := 9) (N := some 52) (mB 12 1023) rfl rfl (one_of HT_.out (by kernel_rfl)) (by decide) (fun K hK => ?_)
           refine Kd.R_append_rows_step (Kd.int .u8) (w0 := w) w.heap.size (by rfl) (.tmp 46) (.tmp 51) 22 5 (.int .u8 0) 1 rfl Try.underlying22 info5 rfl (by decide) (by omega) v260 y259 y263 _ _ _ (fun k_ => some k_ ≠ (.slice Ao27 t255.length co27 : Value).ownBlock ∧ some k_ ≠ (.slice Ao34 y263.length co34 : Value).ownBlock) (fun _ => False) rfl rfl ?aO ?aR (fun _ _ h => h) (fun _ h => h.elim) ?aF ?aB ?aS ?aL ?_
           (case aR => exact kcA (Kd.R_reads' HO265.out).2.2)
           (case aB => exact (hbA HB.out))
           (case aF => exact (fun k_ hk => ⟨Kd.fresh' (Kd.R_lt (kdA HO257.out)) k_ hk, Kd.fresh' (Kd.R_lt (kdA HO265.out)) k_ hk⟩))
           (case aO => exact (kdA HO261.out))
           (case aS => exact (below_size (hbA HB.out)))
           (case aL => have := LMc22.out; omega)
           intro v267 w33 ho hb hg hat
           rw [← Ny266.out] at ho
           have n0_ := Aside0.mk (blk_grown (g := gb252) (o := .cells #[.int .i64 a0_0, .int .i64 a0_1, .slice A0_2 l0_2.length c0_2] 24 (0, 0)) (bkA BK252.out) hg (Kd.R_ne HO261.out BK252.out (by decide)))
           have n1_ := Aside0.mk (blk_grown (g := gb254) (o := .cells #[.int .i64 a0_0, .int .i64 (wrap64 (a0_1 + 1)), .slice Ao26 x255002_2.length co26] 24 (0, 0)) (bkA BK254.out) hg (Kd.R_ne HO261.out BK254.out (by decide)))
           have n2_ := Aside0.mk (Kd.R_after (ok := (fun k_ => some k_ ≠ (.slice Ao34 y263.length co34 : Value).ownBlock)) (by (with_reducible repeat (first | apply Kd.R_alloc | apply Kd.R_drewN | apply Kd.R_drew)); exact Kd.R_mono HO257.out (fun _ hk => ⟨hk.2, hk.1⟩)) hg hat)
           have n3_ := Aside0.mk (Kd.R_after (ok := (fun k_ => some k_ ≠ (.slice Ao27 t255.length co27 : Value).ownBlock)) (kdA HO265.out) hg hat)
           have n4_ := Aside0.mk (hb)
           have n5_ := Aside0.mk (ho)
           clear BK252
           clear BK254
           clear HO257
           clear HO265
           clear HB
           clear HO261
           have BK252 := n0_
           have BK254 := n1_
           have HO257 := n2_
           have HO265 := n3_
           have HB := n4_
           have HO268 := n5_
           clear n0_ n1_ n2_ n3_ n4_ n5_
           clear ho hb hg hat
           obtain ⟨Ao35, co35, eo35⟩ := Kd.R_slice HO268.out
           (first | subst eo35 | (injection eo35 with f1_ f2_ f3_; have f4_ := f1_.symm; have f5_ := f3_.symm; clear f1_ f2_ f3_; subst f4_; subst f5_))
           refine hK.out _ _ ⟨(blk_cell BK254.out 0).trans rfl, (blk_cell BK254.out 1).trans rfl, (blk_cell BK254.out 2).trans rfl, ((HB.out.cell (World.block_lt_of_cell? w _ hw262_0)).trans hw262_0)⟩ (fun hHeld => ?_)
           clear hK K
           refine norm_ (a' := ?_) ?_ ?_
           rotate_left
           ·show Act.put _ (some 52) _ = _
            simp only [Act.put, List.setIfInBounds_toArray, List.set_cons_zero, List.set_cons_succ, i64_w, i32_w]
            rfl
           refine pu 10 (some 53) (mB 12 2047) HT_ ?_
           refine last_ (i := 11) (N := none) (mB 12 4095) rfl rfl (one_of HT_.out (by kernel_rfl)) (by decide) (fun K hK => ?_)
           have hs36 : w33.cell? ⟨gb254, 2, none⟩ = some (.slice Ao26 x255002_2.length co26) := (blk_cell BK254.out 2).trans rfl
           have hfs36 := blk_frozen BK254.out 2
           have hns36_0 := NB252_254.out
           have hms36_0 := NB254_252.out
           refine skip_ (w1 := ?_) (by rfl) rfl ?_ ?_
           rotate_left
           ·go_simp
            rfl
           refine hK.out _ _ ?_
           clear hK K
           refine done_ (done_of HT_.out (by kernel_rfl)) ?_
           try go_wp2
           go_roundg k2
           case measure => have := HJ2.out; have := HK2.out; omega
           case rel => exact ⟨(wrap64 (x8_2 + 1)), (y266), (.slice Ao35 y266.length co35), rsE, H', ⟨by have := HJ2.out; have := HK2.out; omega⟩, ⟨by (with_reducible repeat (first | apply Kd.R_alloc | apply Kd.R_drewN | apply Kd.R_drew)); exact Kd.R_mono (Kd.R_far (p := ⟨gb254, 2, none⟩) (Kd.R_types HO268.out BK254.out (by decide)) (fun _ hk => hk.2) (.slice Ao35 y266.length co35)) (fun _ hk => trivial)⟩, ⟨by refine bkR ?_; refine blk_far ?_ NB252_254.out _; refine bkR ?_; exact BK252.out⟩, ⟨by refine bkR ?_; refine blk_put (cs := #[.int .i64 a0_0, .int .i64 (wrap64 (a0_1 + 1)), .slice Ao26 x255002_2.length co26]) ?_ 2 _ rfl; refine bkR ?_; exact BK254.out⟩, ⟨hbA HB.out⟩⟩
          ·rw [if_neg c22] at H
           exact absurd H (by simp)
         ·rw [if_neg c21] at H
          exact absurd H (by simp)
        ·rw [if_neg c20] at H
         exact absurd H (by simp)
       ·rw [if_neg c19] at H
        exact absurd H (by simp)
      ·rw [if_neg c17] at H
       have c17b0 : decide (x8_2 < a0_0) = false := decide_eq_false c17
       clear c17
       obtain ⟨⟨t269, t270, t271, t274⟩, A37, H⟩ := bindO H
       (try dsimp only at H)
       by_cases c38 : 0 ≤ a0_1
       ·rw [if_pos c38] at H
        have c38b0 := eq_true c38
        have c38b1 : decide (0 ≤ a0_1) = true := decide_eq_true c38
        clear c38
        by_cases c39 : (a0_1 : Int).toNat ≤ 281474976710656
        ·rw [if_pos c39] at H
         have c39b0 := eq_true c39
         have c39b1 : decide ((a0_1 : Int).toNat ≤ 281474976710656) = true := decide_eq_true c39
         clear c39
         obtain ⟨y278, hy278⟩ : ∃ y_ : List Int, y_ = (List.replicate (a0_1 : Int).toNat 0) := ⟨_, rfl⟩
         replace H : (recoupref04_Solve.l1 k2 t274 y278 0 a0_0 a0_1 l0_2 t269 t270 t271) = some (r1, r2, r3) := by first | (rw [hy278]; with_reducible exact H) | (have H2_ := (Option.bind_some _ _).symm.trans H; rw [hy278]; with_reducible exact H2_) | (have H2_ := (Option.bind_some _ _).symm.trans H; with_reducible exact H2_) | with_reducible exact H | (rw [hy278]; exact H) | exact H
         have Ny278 := Aside0.mk hy278
         clear hy278
         have H' := Aside0.mk H
         clear H
         have hnb40 := NB252_254.out
         have hnc40 := NB254_252.out
         obtain ⟨hcz41_0, hcz41_1, hcz41_2, hfz41_0, hfz41_1, hfz41_2⟩ := cell3 BK252
         obtain ⟨hcz42_0, hcz42_1, hcz42_2, hfz42_0, hfz42_1, hfz42_2⟩ := cell3 BK254
         obtain ⟨Ao43, co43, eo43⟩ := Kd.R_slice HO_255002.out
         subst eo43
         go_wp2_with (first | ((with_reducible refine gC 52 rfl ?_); refine cG (some 56) Try.func52 #[.agg #[.int .i64 a0_0, .int .i64 (wrap64 (a0_1 + 1)), .slice Ao43 x255002_2.length co43]] ?_; (with_reducible refine (recoupref04_wide.calls k2 a0_0 (wrap64 (a0_1 + 1)) (fun k_ => some k_ = (.slice Ao43 x255002_2.length co43 : Value).ownBlock) (.slice Ao43 x255002_2.length co43) x255002_2 t269 t270 t271 t274 w _ ?side1 ?side2 A37.out).mono ?_); (case side1 => repeat (first | (with_reducible first | exact HB.out | apply below_alloc | apply pw_below_drewN | apply below_drew1 | refine below_set ?_ GE252.out | refine below_set ?_ GE254.out) | exact HB.out)); (case side2 => exact Kd.R_tight rfl HO_255002.out); rintro e w44 ⟨v272, v275, rfl, ho0, ho1, hb, hkp⟩; refine ⟨_, rfl, ?_⟩; have n0_ := Aside0.mk (blk_kept (bkA BK252.out) hkp (fun hs_ => (fun e_ => (Kd.R_ne HO_255002.out BK252.out (by decide)) e_) hs_)); have n1_ := Aside0.mk (blk_kept (bkA BK254.out) hkp (fun hs_ => (fun e_ => (Kd.R_ne HO_255002.out BK254.out (by decide)) e_) hs_)); have n2_ := Aside0.mk (Kd.R_mono (ok' := fun k_ => True) ho0 (fun k_ hk_ => trivial)); have n3_ := Aside0.mk (Kd.R_mono (ok' := fun k_ => True) ho1 (fun k_ hk_ => trivial)); have n4_ := Aside0.mk (hb); clear BK252; clear BK254; clear HB; clear HO_255002; have BK252 := n0_; have BK254 := n1_; have HO273 := n2_; have HO276 := n3_; have HB := n4_; clear n0_ n1_ n2_ n3_ n4_; (try clear hb); (try clear hkp); (try clear ho0); (try clear ho1)) | ((with_reducible refine gD 11 rfl ?_); (try (refine gate_guard (by rfl) ?_; dsimp only)); refine bE 11 #[.int .i64 0, .int .i64 0, .slice none 0 0] 24 ?_; intro gb277 hg w45 hbox hb; replace HO273 := kdB HO273 hb; replace HO276 := kdB HO276 hb; have BK277 := Aside0.mk (hbox); have GW277 := hbS HB hg; have GE277 := hbS HB hg; replace HB := hbB HB hb; have NB252_277 := neL BK252 hg; have NB277_252 := neG BK252 hg; replace BK252 := bkB BK252 hb; have NB254_277 := neL BK254 hg; have NB277_254 := neG BK254 hg; replace BK254 := bkB BK254 hb; clear hb hbox hg; have hnb46 := NB277_252.out; have hnc46 := NB252_277.out; have hnb47 := NB277_254.out; have hnc47 := NB254_277.out; obtain ⟨hcz48_0, hcz48_1, hcz48_2, hfz48_0, hfz48_1, hfz48_2⟩ := cell3 BK277; obtain ⟨Ao49, co49, eo49⟩ := Kd.R_slice HO273.out; subst eo49; obtain ⟨hcz50_0, hcz50_1, hcz50_2, hfz50_0, hfz50_1, hfz50_2⟩ := cell3 BK252) | ((with_reducible refine gate_dst (N := 61) rfl ?_); (try (refine gate_guard (by rfl) ?_; dsimp only)); refine Kd.R_make (Kd.int .u8) _ 5 rfl (N := 61) rfl 22 _ _ rfl a0_1 rfl rfl Try.underlying22 (.int .u8 0) 1 info5 rfl (by decide) (by omega) 0 (ok := fun _ => True) (okp := fun _ => True) rfl (fun _ hk => hk) trivial (of_decide_eq_true asE) (Nat.le_trans (Nat.mul_le_mul_right _ (of_decide_eq_true asE : a0_1.toNat ≤ 281474976710656)) (by omega)) (Below.refl _ _) (Nat.le_refl _) ?_; intro v279 w51 ho52 hb hg_ hnew_; clear hg_ hnew_; (first | rw [← Ny278.out] at ho52 | (simp only [Int.reduceToNat] at ho52; rw [← Ny278.out] at ho52)); replace HO276 := Aside0.mk (Kd.R_below (by (with_reducible repeat (first | apply Kd.R_alloc | apply Kd.R_drewN | apply Kd.R_drew)); exact (Kd.R_mono (Kd.R_far (p := ⟨gb277, 2, none⟩) (Kd.R_far (p := ⟨gb277, 1, none⟩) (Kd.R_far (p := ⟨gb277, 0, none⟩) (Kd.R_types HO276.out BK277.out (by decide)) (fun _ hk => hk.2) (.int .i64 t269)) (fun _ hk => hk.2) (.int .i64 t270)) (fun _ hk => hk.2) (.slice Ao49 t271.length co49)) (fun _ h_ => h_.1))) hb); have HO280 := Aside0.mk (Kd.R_lower (Kd.R_new' ho52 (Kd.R_lt (by (with_reducible repeat (first | apply Kd.R_alloc | apply Kd.R_drewN | apply Kd.R_drew)); exact (Kd.R_mono (Kd.R_far (p := ⟨gb277, 2, none⟩) (Kd.R_far (p := ⟨gb277, 1, none⟩) (Kd.R_far (p := ⟨gb277, 0, none⟩) (Kd.R_types HO273.out BK277.out (by decide)) (fun _ hk => hk.2) (.int .i64 t269)) (fun _ hk => hk.2) (.int .i64 t270)) (fun _ hk => hk.2) (.slice Ao49 t271.length co49)) (fun _ h_ => h_.1))))) (below_size (hbA HB.out))); replace HO273 := Aside0.mk (Kd.R_elder' (by (with_reducible repeat (first | apply Kd.R_alloc | apply Kd.R_drewN | apply Kd.R_drew)); exact (Kd.R_mono (Kd.R_far (p := ⟨gb277, 2, none⟩) (Kd.R_far (p := ⟨gb277, 1, none⟩) (Kd.R_far (p := ⟨gb277, 0, none⟩) (Kd.R_types HO273.out BK277.out (by decide)) (fun _ hk => hk.2) (.int .i64 t269)) (fun _ hk => hk.2) (.int .i64 t270)) (fun _ hk => hk.2) (.slice Ao49 t271.length co49)) (fun _ h_ => h_.1))) (Kd.R_base ho52) hb); replace BK252 := Aside0.mk (blk_below (g := gb252) (o := .cells #[.int .i64 a0_0, .int .i64 a0_1, .slice A0_2 l0_2.length c0_2] 24 (0, 0)) (by refine bkR ?_; refine blk_far ?_ NB252_277.out _; refine bkR ?_; refine blk_far ?_ NB252_277.out _; refine bkR ?_; refine blk_far ?_ NB252_277.out _; refine bkR ?_; exact BK252.out) hb); replace BK254 := Aside0.mk (blk_below (g := gb254) (o := .cells #[.int .i64 a0_0, .int .i64 (wrap64 (a0_1 + 1)), .slice Ao43 x255002_2.length co43] 24 (0, 0)) (by refine bkR ?_; refine blk_far ?_ NB254_277.out _; refine bkR ?_; refine blk_far ?_ NB254_277.out _; refine bkR ?_; refine blk_far ?_ NB254_277.out _; refine bkR ?_; exact BK254.out) hb); replace BK277 := Aside0.mk (blk_below (g := gb277) (o := .cells #[.int .i64 t269, .int .i64 t270, .slice Ao49 t271.length co49] 24 (0, 0)) (by refine bkR ?_; refine blk_put (cs := #[.int .i64 t269, .int .i64 t270, .slice none 0 0]) ?_ 2 _ rfl; refine bkR ?_; refine blk_put (cs := #[.int .i64 t269, .int .i64 0, .slice none 0 0]) ?_ 1 _ rfl; refine bkR ?_; refine blk_put (cs := #[.int .i64 0, .int .i64 0, .slice none 0 0]) ?_ 0 _ rfl; refine bkR ?_; exact BK277.out) hb); replace HB := hbB HB hb; clear hb ho52))
         go_loopg [14] k2 (fun kq v14 w' => ∃ (x13_3 : List Int) (x14_3 : Int), v14 = .int .i64 x14_3 ∧ Aside0 (recoupref04_Solve.l1 kq t274 x13_3 x14_3 a0_0 a0_1 l0_2 t269 t270 t271 = some (r1, r2, r3)) ∧ Aside0 (kq ≤ k2) ∧ Aside0 (Kd.R (Kd.int .i64) 3 w' w.heap.size (fun _ => True) v275 t274) ∧ Aside0 (Kd.R (Kd.int .u8) 5 w' w.heap.size (fun k_ => some k_ ≠ ((.slice Ao49 t271.length co49) : Value).ownBlock) v279 x13_3) ∧ Aside0 (Kd.R (Kd.int .u8) 5 w' w.heap.size (fun k_ => some k_ ≠ (v279 : Value).ownBlock) (.slice Ao49 t271.length co49) t271) ∧ Aside0 (w'.heap[gb252]? = some (.cells #[.int .i64 a0_0, .int .i64 a0_1, (.slice A0_2 l0_2.length c0_2)] 24 (0, 0))) ∧ Aside0 (w'.heap[gb254]? = some (.cells #[.int .i64 a0_0, .int .i64 (wrap64 (a0_1 + 1)), (.slice Ao43 x255002_2.length co43)] 24 (0, 0))) ∧ Aside0 (w'.heap[gb277]? = some (.cells #[.int .i64 t269, .int .i64 t270, (.slice Ao49 t271.length co49)] 24 (0, 0))) ∧ Aside0 (Below w.heap.size w w'))
         case atStart => exact ⟨(y278), (0), rsE, H', ⟨Nat.le_refl _⟩, ⟨kdA HO276.out⟩, ⟨by (with_reducible repeat (first | apply Kd.R_alloc | apply Kd.R_drewN | apply Kd.R_drew)); exact Kd.R_mono HO280.out (fun _ hk => hk.2)⟩, ⟨by (with_reducible repeat (first | apply Kd.R_alloc | apply Kd.R_drewN | apply Kd.R_drew)); exact Kd.R_mono HO273.out (fun _ hk => hk.2)⟩, ⟨bkA BK252.out⟩, ⟨bkA BK254.out⟩, ⟨bkA BK277.out⟩, ⟨hbA HB.out⟩⟩
         case round =>
          clear H'
          (try clear c1); (try clear c2); (try clear p2 p2); (try clear q2); (try clear hx2); (try clear c3); (try clear c4); (try clear c5); (try clear c6); (try clear p6 p6); (try clear c12); (try clear c15); (try clear c17); (try clear c17b0); (try clear c19); (try clear c20); (try clear c20b0); (try clear c21); (try clear c21b0); (try clear c22); (try clear c23); (try clear p26); (try clear q26); (try clear hx26); (try clear c31); (try clear c34); (try clear c38); (try clear c38b0); (try clear c38b1); (try clear c39); (try clear c39b0); (try clear c39b1); (try clear c40); (try clear c46); (try clear c47); (try clear c52); (try clear hcz10_0 hcz10_1 hcz10_2 hfz10_0 hfz10_1 hfz10_2); (try clear hcz13_0 hcz13_1 hcz13_2 hfz13_0 hfz13_1 hfz13_2); (try clear hcz16_0 hcz16_1 hcz16_2 hfz16_0 hfz16_1 hfz16_2); (try clear hcz24_0 hcz24_1 hcz24_2 hfz24_0 hfz24_1 hfz24_2); (try clear hcz41_0 hcz41_1 hcz41_2 hfz41_0 hfz41_1 hfz41_2); (try clear hcz42_0 hcz42_1 hcz42_2 hfz42_0 hfz42_1 hfz42_2); (try clear hcz48_0 hcz48_1 hcz48_2 hfz48_0 hfz48_1 hfz48_2); (try clear hcz50_0 hcz50_1 hcz50_2 hfz50_0 hfz50_1 hfz50_2); (try clear hcz7_0 hcz7_1 hcz7_2 hfz7_0 hfz7_1 hfz7_2); (try clear hcz9_0 hcz9_1 hcz9_2 hfz9_0 hfz9_1 hfz9_2); (try clear hx262_0); (try clear p262); (try clear q262)
          obtain ⟨x13_3, x14_3, rfl, HA, HK3, HO_12, HO_13, HO_278002, BK252, BK254, BK277, HB⟩ := hrel
          cases gk with
          | zero => exact absurd HA.out (by simp [recoupref04_Solve.l1])
          | succ k3 =>
           have H := HA.out
           clear HA
           simp only [recoupref04_Solve.l1] at H
           by_cases c53 : x14_3 < (t274.length : Int)
           ·rw [if_pos c53] at H
            have c53b0 : decide (x14_3 < (t274.length : Int)) = true := decide_eq_true c53
            clear c53
            by_cases c54 : 0 ≤ x14_3
            ·rw [if_pos c54] at H
             have c54b0 : decide (0 ≤ x14_3) = true := decide_eq_true c54
             clear c54
             by_cases c55 : (rd t274 x14_3) = a0_1
             ·rw [if_pos c55] at H
              have c55b0 : ((rd t274 x14_3) == a0_1) = true := beq_iff_eq.mpr c55
              have c55b1 : ((rd t274 x14_3) != a0_1) = false := bne_eq_false_iff_eq.mpr c55
              clear c55
              simp only [Option.some.injEq, Prod.mk.injEq] at H
              obtain ⟨rfl, rfl, rfl⟩ := H
              obtain ⟨Ao56, co56, eo56⟩ := Kd.R_slice HO_12.out
              subst eo56
              try go_wp2
              replace HO_12 := Aside0.mk (Kd.R_drew HO_12.out)
              replace HO_13 := Aside0.mk (Kd.R_drew HO_13.out)
              replace HO_278002 := Aside0.mk (Kd.R_drew HO_278002.out)
              replace BK252 := Aside0.mk (blk_drew BK252.out)
              replace BK254 := Aside0.mk (blk_drew BK254.out)
              replace BK277 := Aside0.mk (blk_drew BK277.out)
              replace HB := Aside0.mk (below_drew1 HB.out)
              have p281 : 0 ≤ (x14_3 : Int) := of_decide_eq_true asE
              have q281 : x14_3 < (t274.length : Int) := of_decide_eq_true asE
              obtain ⟨ad281, e281, hx281_0⟩ := Kd.at_int (Kd.R_reads' HO_12.out).2.2 x14_3 p281 q281
              cases e281
              replace p281 := eq_true p281
              replace q281 := eq_true q281
              refine start_ (n := 7) (S := fun w' => w'.cell? ⟨gb252, 0, none⟩ = some (.int .i64 a0_0) ∧ w'.cell? ⟨gb252, 1, none⟩ = some (.int .i64 a0_1) ∧ w'.cell? ⟨gb252, 2, none⟩ = some (.slice A0_2 l0_2.length c0_2) ∧ w'.cell? (ad281.add (x14_3).toNat) = some (.int .i64 (rd t274 x14_3))) (ds := []) (.replicate 7 false) (by kernel_rfl) rfl rfl ⟨(blk_cell BK252.out 0).trans rfl, (blk_cell BK252.out 1).trans rfl, (blk_cell BK252.out 2).trans rfl, hx281_0⟩ (fun hHeld => ?_)
              generalize wr.drew = w57 at HO_12 HO_13 HO_278002 BK252 BK254 BK277 HB hx281_0 hHeld ⊢
              refine pure_ (i := 0) (N := some 68) (v := ?_) (a' := ?_) (mB 7 1) rfl rfl (by kernel_rfl) (fun _ _ _ h => h) (Or.inl ⟨by rfl, ?_⟩) ?_ ?_
              rotate_left
              ·intro w'
               go_simp
               with_reducible rfl
              rotate_left
              ·simp only [Act.put, List.setIfInBounds_toArray, List.set_cons_zero, List.set_cons_succ, i64_w, i32_w]
               rfl
              refine pure_ (i := 1) (N := some 69) (v := ?_) (a' := ?_) (mB 7 3) rfl rfl (by kernel_rfl) (fun _ _ _ h => h) (Or.inl ⟨by rfl, ?_⟩) ?_ ?_
              rotate_left
              ·intro w'
               go_simp
               with_reducible rfl
              rotate_left
              ·simp only [Act.put, List.setIfInBounds_toArray, List.set_cons_zero, List.set_cons_succ, i64_w, i32_w]
               rfl
              refine pure_ (i := 2) (N := some 70) (v := ?_) (a' := ?_) (mB 7 7) rfl rfl (by kernel_rfl) (fun _ _ _ h => h) (Or.inl ⟨by rfl, ?_⟩) ?_ ?_
              rotate_left
              ·intro w'
               go_simp
               with_reducible rfl
              rotate_left
              ·simp only [Act.put, List.setIfInBounds_toArray, List.set_cons_zero, List.set_cons_succ, i64_w, i32_w]
               rfl
              refine pure_ (i := 4) (N := some 72) (v := ?_) (a' := ?_) (mB 7 23) rfl rfl (by kernel_rfl) (fun _ _ _ h => h) (Or.inl ⟨by rfl, ?_⟩) ?_ ?_
              rotate_left
              ·intro w'
               go_simp
               with_reducible rfl
              rotate_left
              ·simp only [Act.put, List.setIfInBounds_toArray, List.set_cons_zero, List.set_cons_succ, i64_w, i32_w]
               rfl
              refine take_ (i := 3) (N := some 71) (v := ?_) (a' := ?_) (mB 7 31) rfl rfl (by kernel_rfl) (fun _ _ _ h => h) (Or.inl ⟨by rfl, ?_⟩) hHeld ?_ ?_
              rotate_left
              ·rintro w' ⟨s0, s1, s2, s3⟩
               go_simp
               with_reducible rfl
              rotate_left
              ·simp only [Act.put, List.setIfInBounds_toArray, List.set_cons_zero, List.set_cons_succ, i64_w, i32_w]
               rfl
              refine take_ (i := 5) (N := some 73) (v := ?_) (a' := ?_) (mB 7 63) rfl rfl (by kernel_rfl) (fun _ _ _ h => h) (Or.inl ⟨by rfl, ?_⟩) hHeld ?_ ?_
              rotate_left
              ·rintro w' ⟨s0, s1, s2, s3⟩
               go_simp
               with_reducible rfl
              rotate_left
              ·simp only [Act.put, List.setIfInBounds_toArray, List.set_cons_zero, List.set_cons_succ, i64_w, i32_w]
               rfl
              refine pure_ (i := 6) (N := some 74) (v := ?_) (a' := ?_) (mB 7 127) rfl rfl (by kernel_rfl) (fun _ _ _ h => h) (Or.inl ⟨by rfl, ?_⟩) ?_ ?_
              rotate_left
              ·intro w'
               go_simp
               with_reducible rfl
              rotate_left
              ·simp only [Act.put, List.setIfInBounds_toArray, List.set_cons_zero, List.set_cons_succ, i64_w, i32_w]
               rfl
              refine done_ (by kernel_rfl) ?_
              try go_wp2
              go_ret3
              exact ⟨_, rfE, nilE, hbA HB.out⟩
             ·rw [if_neg c55] at H
              have c55b0 : ((rd t274 x14_3) == a0_1) = false := beq_eq_false_iff_ne.mpr c55
              have c55b1 : ((rd t274 x14_3) != a0_1) = true := bne_iff_ne.mpr c55
              obtain ⟨t283, A58, H⟩ := bindO H
              (try dsimp only at H)
              by_cases c59 : 0 ≤ (rd t274 x14_3)
              ·rw [if_pos c59] at H
               have c59b0 : decide (0 ≤ (rd t274 x14_3)) = true := decide_eq_true c59
               clear c59
               by_cases c60 : (rd t274 x14_3) < (x13_3.length : Int)
               ·rw [if_pos c60] at H
                have c60b0 : decide ((rd t274 x14_3) < (x13_3.length : Int)) = true := decide_eq_true c60
                clear c60
                obtain ⟨y284, hy284⟩ : ∃ y_ : List Int, y_ = (x13_3.set ((rd t274 x14_3) : Int).toNat t283) := ⟨_, rfl⟩
                replace H : (recoupref04_Solve.l1 k3 t274 y284 (wrap64 (x14_3 + 1)) a0_0 a0_1 l0_2 t269 t270 t271) = some (r1, r2, r3) := by first | (rw [hy284]; with_reducible exact H) | (have H2_ := (Option.bind_some _ _).symm.trans H; rw [hy284]; with_reducible exact H2_) | (have H2_ := (Option.bind_some _ _).symm.trans H; with_reducible exact H2_) | with_reducible exact H | (rw [hy284]; exact H) | exact H
                have Ny284 := Aside0.mk hy284
                clear hy284
                have H' := Aside0.mk H
                clear H
                obtain ⟨Ao62, co62, eo62⟩ := Kd.R_slice HO_12.out
                subst eo62
                try go_wp2
                replace HO_12 := Aside0.mk (Kd.R_drew HO_12.out)
                replace HO_13 := Aside0.mk (Kd.R_drew HO_13.out)
                replace HO_278002 := Aside0.mk (Kd.R_drew HO_278002.out)
                replace BK252 := Aside0.mk (blk_drew BK252.out)
                replace BK254 := Aside0.mk (blk_drew BK254.out)
                replace BK277 := Aside0.mk (blk_drew BK277.out)
                replace HB := Aside0.mk (below_drew1 HB.out)
                have p281 : 0 ≤ (x14_3 : Int) := of_decide_eq_true asE
                have q281 : x14_3 < (t274.length : Int) := of_decide_eq_true asE
                obtain ⟨ad281, e281, hx281_0⟩ := Kd.at_int (Kd.R_reads' HO_12.out).2.2 x14_3 p281 q281
                cases e281
                replace p281 := eq_true p281
                replace q281 := eq_true q281
                refine start_ (n := 7) (S := fun w' => w'.cell? ⟨gb252, 0, none⟩ = some (.int .i64 a0_0) ∧ w'.cell? ⟨gb252, 1, none⟩ = some (.int .i64 a0_1) ∧ w'.cell? ⟨gb252, 2, none⟩ = some (.slice A0_2 l0_2.length c0_2) ∧ w'.cell? (ad281.add (x14_3).toNat) = some (.int .i64 (rd t274 x14_3))) (ds := []) (.replicate 7 false) (by kernel_rfl) rfl rfl ⟨(blk_cell BK252.out 0).trans rfl, (blk_cell BK252.out 1).trans rfl, (blk_cell BK252.out 2).trans rfl, hx281_0⟩ (fun hHeld => ?_)
                generalize wr.drew = w63 at HO_12 HO_13 HO_278002 BK252 BK254 BK277 HB hx281_0 hHeld ⊢
                refine pure_ (i := 0) (N := some 68) (v := ?_) (a' := ?_) (mB 7 1) rfl rfl (by kernel_rfl) (fun _ _ _ h => h) (Or.inl ⟨by rfl, ?_⟩) ?_ ?_
                rotate_left
                ·intro w'
                 go_simp
                 with_reducible rfl
                rotate_left
                ·simp only [Act.put, List.setIfInBounds_toArray, List.set_cons_zero, List.set_cons_succ, i64_w, i32_w]
                 rfl
                refine pure_ (i := 1) (N := some 69) (v := ?_) (a' := ?_) (mB 7 3) rfl rfl (by kernel_rfl) (fun _ _ _ h => h) (Or.inl ⟨by rfl, ?_⟩) ?_ ?_
                rotate_left
                ·intro w'
                 go_simp
                 with_reducible rfl
                rotate_left
                ·simp only [Act.put, List.setIfInBounds_toArray, List.set_cons_zero, List.set_cons_succ, i64_w, i32_w]
                 rfl
                refine pure_ (i := 2) (N := some 70) (v := ?_) (a' := ?_) (mB 7 7) rfl rfl (by kernel_rfl) (fun _ _ _ h => h) (Or.inl ⟨by rfl, ?_⟩) ?_ ?_
                rotate_left
                ·intro w'
                 go_simp
                 with_reducible rfl
                rotate_left
                ·simp only [Act.put, List.setIfInBounds_toArray, List.set_cons_zero, List.set_cons_succ, i64_w, i32_w]
                 rfl
                refine pure_ (i := 4) (N := some 72) (v := ?_) (a' := ?_) (mB 7 23) rfl rfl (by kernel_rfl) (fun _ _ _ h => h) (Or.inl ⟨by rfl, ?_⟩) ?_ ?_
                rotate_left
                ·intro w'
                 go_simp
                 with_reducible rfl
                rotate_left
                ·simp only [Act.put, List.setIfInBounds_toArray, List.set_cons_zero, List.set_cons_succ, i64_w, i32_w]
                 rfl
                refine take_ (i := 3) (N := some 71) (v := ?_) (a' := ?_) (mB 7 31) rfl rfl (by kernel_rfl) (fun _ _ _ h => h) (Or.inl ⟨by rfl, ?_⟩) hHeld ?_ ?_
                rotate_left
                ·rintro w' ⟨s0, s1, s2, s3⟩
                 go_simp
                 with_reducible rfl
                rotate_left
                ·simp only [Act.put, List.setIfInBounds_toArray, List.set_cons_zero, List.set_cons_succ, i64_w, i32_w]
                 rfl
                refine take_ (i := 5) (N := some 73) (v := ?_) (a' := ?_) (mB 7 63) rfl rfl (by kernel_rfl) (fun _ _ _ h => h) (Or.inl ⟨by rfl, ?_⟩) hHeld ?_ ?_
                rotate_left
                ·rintro w' ⟨s0, s1, s2, s3⟩
                 go_simp
                 with_reducible rfl
                rotate_left
                ·simp only [Act.put, List.setIfInBounds_toArray, List.set_cons_zero, List.set_cons_succ, i64_w, i32_w]
                 rfl
                refine pure_ (i := 6) (N := some 74) (v := ?_) (a' := ?_) (mB 7 127) rfl rfl (by kernel_rfl) (fun _ _ _ h => h) (Or.inl ⟨by rfl, ?_⟩) ?_ ?_
                rotate_left
                ·intro w'
                 go_simp
                 with_reducible rfl
                rotate_left
                ·simp only [Act.put, List.setIfInBounds_toArray, List.set_cons_zero, List.set_cons_succ, i64_w, i32_w]
                 rfl
                refine done_ (by kernel_rfl) ?_
                try go_wp2
                replace HO_12 := Aside0.mk (Kd.R_drew HO_12.out)
                replace HO_13 := Aside0.mk (Kd.R_drew HO_13.out)
                replace HO_278002 := Aside0.mk (Kd.R_drew HO_278002.out)
                replace BK252 := Aside0.mk (blk_drew BK252.out)
                replace BK254 := Aside0.mk (blk_drew BK254.out)
                replace BK277 := Aside0.mk (blk_drew BK277.out)
                replace HB := Aside0.mk (below_drew1 HB.out)
                have p282 : 0 ≤ (x14_3 : Int) := of_decide_eq_true asE
                have q282 : x14_3 < (t274.length : Int) := of_decide_eq_true asE
                obtain ⟨ad282, e282, hx282_0⟩ := Kd.at_int (Kd.R_reads' HO_12.out).2.2 x14_3 p282 q282
                obtain rfl : ad281 = ad282 := (by injection e282)
                replace p282 := eq_true p282
                replace q282 := eq_true q282
                refine start_ (n := 12) (S := fun w' => w'.cell? ⟨gb277, 0, none⟩ = some (.int .i64 t269) ∧ w'.cell? ⟨gb277, 1, none⟩ = some (.int .i64 t270) ∧ w'.cell? ⟨gb277, 2, none⟩ = some (.slice Ao49 t271.length co49) ∧ w'.cell? ⟨gb252, 0, none⟩ = some (.int .i64 a0_0) ∧ w'.cell? ⟨gb252, 1, none⟩ = some (.int .i64 a0_1) ∧ w'.cell? ⟨gb252, 2, none⟩ = some (.slice A0_2 l0_2.length c0_2) ∧ w'.cell? (ad281.add (x14_3).toNat) = some (.int .i64 (rd t274 x14_3))) (ds := [11]) (.replicate 12 false) (by kernel_rfl) rfl rfl ⟨(blk_cell BK277.out 0).trans rfl, (blk_cell BK277.out 1).trans rfl, (blk_cell BK277.out 2).trans rfl, (blk_cell BK252.out 0).trans rfl, (blk_cell BK252.out 1).trans rfl, (blk_cell BK252.out 2).trans rfl, hx282_0⟩ (fun hHeld => ?_); refine with_tabW recoupref04_Solve.tab16 recoupref04_Solve.bits16 (fun HT_ HW_ => ?_)
                generalize w63.drew = w64 at HO_12 HO_13 HO_278002 BK252 BK254 BK277 HB hx282_0 hHeld ⊢
                refine pu 0 (some 75) (mB 12 1) HT_ ?_
                refine pu 1 (some 76) (mB 12 3) HT_ ?_
                refine pu 2 (some 77) (mB 12 7) HT_ ?_
                refine pu 3 (some 78) (mB 12 15) HT_ ?_
                refine pu 6 (some 81) (mB 12 79) HT_ ?_
                refine pu 7 (some 82) (mB 12 207) HT_ ?_
                refine tk7 4 (some 79) (mB 12 223) HT_ HW_ hHeld ?_
                refine tk7 5 (some 80) (mB 12 255) HT_ HW_ hHeld ?_
                refine tk7 8 (some 83) (mB 12 511) HT_ HW_ hHeld ?_
                refine one_ (i := 9) (N := some 84) (mB 12 1023) rfl rfl (one_of HT_.out (by kernel_rfl)) (by decide) (fun K hK => ?_)
                refine goes_ Try.func24 (by kernel_rfl) rfl #[.agg #[.int .i64 t269, .int .i64 t270, .slice Ao49 t271.length co49], .int .i64 x14_3, .int .i64 a0_1] (by rfl) rfl rfl (by (try simp only [List.map_toArray, List.map_cons, List.map_nil]); first | done | rfl | (simp only [List.length_drop, List.length_take]; rfl)) ?_
                with_reducible refine (recoupref03_At.calls t269 t270 _ _ t271 x14_3 a0_1 t283 _ ?side1 ?side2 A58.out).mono ?_
                (case side1 => exact kcA (Kd.R_reads' HO_278002.out).2.2)
                (case side2 => exact (Kd.R_reads' HO_278002.out).2.1)
                rintro e w65 ⟨rfl, hb⟩
                have HS6_ := (hb.cell (World.block_lt_of_cell? _ _ (hHeld.2.2.2.2.2.2))).trans (hHeld.2.2.2.2.2.2)
                refine ⟨_, rfl, ?_⟩
                replace HO_12 := kdB HO_12 hb
                replace HO_13 := kdB HO_13 hb
                replace HO_278002 := kdB HO_278002 hb
                replace BK252 := bkB BK252 hb
                replace BK254 := bkB BK254 hb
                replace BK277 := bkB BK277 hb
                replace HB := hbB HB hb
                (try clear hb)
                (try clear hb2)
                (try clear hk)
                (try clear hi)
                have p61 : 0 ≤ ((rd t274 x14_3) : Int) := of_decide_eq_true asE
                have q61 : ((rd t274 x14_3) : Int) < ((x13_3.length : Int) : Int) := of_decide_eq_true asE
                obtain ⟨go61, co61, eo61, gb61, gl61, cl61, HG61⟩ := Kd.R_form HO_13.out (by omega)
                (first | cases eo61 | (injection eo61 with ea_ en_ ec_; (first | subst ea_ | (injection ea_ with ea_; subst ea_)); subst ec_; clear en_))
                have GB61 := Aside0.mk gb61
                have GG61 := Aside0.mk HG61
                clear gb61 gl61 HG61
                obtain ⟨hx61_0, hf61_0⟩ := Kd.R_celln 0 HO_13.out ((rd t274 x14_3) : Int) p61 q61
                replace p61 := eq_true p61
                replace q61 := eq_true q61
                have HP66 := Kd.R_putn HO_13.out ((rd t274 x14_3) : Int) t283
                rw [← Ny284.out] at HP66
                have HQ66 := Aside0.mk HP66
                clear HP66
                refine hK.out _ _ ⟨(blk_cell BK277.out 0).trans rfl, (blk_cell BK277.out 1).trans rfl, (blk_cell BK277.out 2).trans rfl, (blk_cell BK252.out 0).trans rfl, (blk_cell BK252.out 1).trans rfl, (blk_cell BK252.out 2).trans rfl, HS6_⟩ (fun hHeld => ?_)
                clear hK K
                refine norm_ (a' := ?_) ?_ ?_
                rotate_left
                ·show Act.put _ (some 84) _ = _
                 simp only [Act.put, List.setIfInBounds_toArray, List.set_cons_zero, List.set_cons_succ, i64_w, i32_w]
                 rfl
                refine pu 10 (some 85) (mB 12 2047) HT_ ?_
                refine last_ (i := 11) (N := none) (mB 12 4095) rfl rfl (one_of HT_.out (by kernel_rfl)) (by decide) (fun K hK => ?_)
                refine skip_ (w1 := ?_) (by rfl) rfl ?_ ?_
                rotate_left
                ·go_simp
                 rfl
                refine hK.out _ _ ?_
                clear hK K
                refine done_ (done_of HT_.out (by kernel_rfl)) ?_
                try go_wp2
                go_roundg k3
                case measure => have := HJ2.out; have := HK2.out; have := HK3.out; omega
                case rel => exact ⟨(y284), (wrap64 (x14_3 + 1)), rsE, H', ⟨by have := HJ2.out; have := HK2.out; have := HK3.out; omega⟩, ⟨by (with_reducible repeat (first | apply Kd.R_alloc | apply Kd.R_drewN | apply Kd.R_drew)); exact Kd.R_mono (Kd.R_far (p := ⟨go61, ((rd t274 x14_3) : Int).toNat, none⟩) (Kd.R_types HO_12.out GG61.out (by decide)) (fun _ hk => hk.2) (.int .u8 t283)) (fun _ hk => trivial)⟩, ⟨kdA HQ66.out⟩, ⟨by (with_reducible repeat (first | apply Kd.R_alloc | apply Kd.R_drewN | apply Kd.R_drew)); exact Kd.R_mono (Kd.R_far (p := ⟨go61, ((rd t274 x14_3) : Int).toNat, none⟩) (Kd.R_mono HO_278002.out (fun k_ hk => (⟨hk, fun e_ => hk (by rw [e_]; rfl)⟩ : _ ∧ k_ ≠ go61))) (fun _ hk => hk.2) (.int .u8 t283)) (fun _ hk => hk.1)⟩, ⟨by refine bkR ?_; refine blk_far ?_ (by have h_ := Kd.R_ne HO_13.out BK252.out (by decide); intro e_; exact h_ (by rw [e_]; rfl)) _; refine bkR ?_; exact BK252.out⟩, ⟨by refine bkR ?_; refine blk_far ?_ (by have h_ := Kd.R_ne HO_13.out BK254.out (by decide); intro e_; exact h_ (by rw [e_]; rfl)) _; refine bkR ?_; exact BK254.out⟩, ⟨by refine bkR ?_; refine blk_far ?_ (by have h_ := Kd.R_ne HO_13.out BK277.out (by decide); intro e_; exact h_ (by rw [e_]; rfl)) _; refine bkR ?_; exact BK277.out⟩, ⟨hbA HB.out⟩⟩
               ·rw [if_neg c60] at H
                exact absurd H (by simp)
              ·rw [if_neg c59] at H
               exact absurd H (by simp)
            ·rw [if_neg c54] at H
             exact absurd H (by simp)
           ·rw [if_neg c53] at H
            have c53b0 : decide (x14_3 < (t274.length : Int)) = false := decide_eq_false c53
            clear c53
            simp only [Option.some.injEq, Prod.mk.injEq] at H
            obtain ⟨rfl, rfl, rfl⟩ := H
            obtain ⟨Ao67, co67, eo67⟩ := Kd.R_slice HO_12.out
            subst eo67
            go_wp2
            go_ret3
            exact ⟨_, rfE, by (with_reducible repeat (first | apply Kd.R_alloc | apply Kd.R_drewN | apply Kd.R_drew)); exact Kd.R_mono HO_13.out (fun _ hk => trivial), hbA HB.out⟩
        ·rw [if_neg c39] at H
         exact absurd H (by simp)
       ·rw [if_neg c38] at H
        exact absurd H (by simp)

end Go.Proofs.Ytccfbhnhedoggaa.Q
