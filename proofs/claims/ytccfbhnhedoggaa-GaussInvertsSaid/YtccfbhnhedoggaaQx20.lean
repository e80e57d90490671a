/- Written by drive.py (a program of this repo, over the kit's print): each Go function named here answers what the Lean function beside it answers, wherever that one answers, in every world that meets the stated premises. -/
import Derived.Test.YtccfbhnhedoggaaQx0
import Derived.Test.YtccfbhnhedoggaaQx7
import Derived.Test.YtccfbhnhedoggaaQx18
import Derived.Test.YtccfbhnhedoggaaQx19
namespace Go.Proofs.Ytccfbhnhedoggaa.Q
open Go.RowKit Go.Proofs.YtccfbhnhedoggaaW.PrintWords Go.Proofs.YtccfbhnhedoggaaW.PrintLast Go.Proofs.YtccfbhnhedoggaaW.PrintMore
attribute [local go_sem] max2_int min2_int max_two min_two max_three min_three max_four min_four   -- for this text's walks alone
set_option linter.unusedVariables false
set_option linter.unusedSimpArgs false

/-! ### recoupref04_Inverse: function 20 -/
mutual
def recoupref04_Inverse.j0 : Nat → Bool → Int → Int → List Int → Option (Int × Int × List Int × Int)
 | 0, _, _, _, _ => none
 | k + 1, x22, x301000, x301001, x301002 => if x22 = true then (some (0, 0, ([] : List Int), 3)) else ((recoupref04_Rank.f k x301000 x301001 x301002).bind fun bt303 => (if bt303.1 < x301000 then (some (0, 0, ([] : List Int), 6)) else ((recoupref03_Zero.f x301000 x301000).bind fun bt305 => (recoupref04_Inverse.l0 k 0 x301000 x301001 x301002 bt305.1 bt305.2.1 bt305.2.2))))
def recoupref04_Inverse.l0 : Nat → Int → Int → Int → List Int → Int → Int → List Int → Option (Int × Int × List Int × Int)
 | 0, _, _, _, _, _, _, _ => none
 | k + 1, x7, x301000, x301001, x301002, x311000, x311001, x311002 => if x7 < x301000 then (if 0 ≤ x301000 then (if (x301000 : Int).toNat ≤ 281474976710656 then ((some (List.replicate (x301000 : Int).toNat 0 : List Int)).bind fun y311 => (if 0 ≤ x7 then (if x7 < (y311.length : Int) then ((recoupref04_Solve.f k x301000 x301001 x301002 (y311.set (x7 : Int).toNat 1)).bind fun bt315 => (recoupref04_Inverse.l1 k x7 bt315.1 0 x301000 x301001 x301002 x311000 x311001 x311002)) else (none)) else (none))) else (none)) else (none)) else (some (x311000, x311001, x311002, 0))
def recoupref04_Inverse.l1 : Nat → Int → List Int → Int → Int → Int → List Int → Int → Int → List Int → Option (Int × Int × List Int × Int)
 | 0, _, _, _, _, _, _, _, _, _ => none
 | k + 1, x7, x9, x12, x301000, x301001, x301002, x311000, x311001, x311002 => if x12 < x301000 then (if 0 ≤ x12 then (if x12 < (x9.length : Int) then (if 0 ≤ (wrap64 ((wrap64 (x12 * x301000)) + x7)) then (if (wrap64 ((wrap64 (x12 * x301000)) + x7)) < (x311002.length : Int) then (recoupref04_Inverse.l1 k x7 x9 (wrap64 (x12 + 1)) x301000 x301001 x301002 x311000 x311001 (x311002.set ((wrap64 ((wrap64 (x12 * x301000)) + x7)) : Int).toNat (rd x9 x12))) else (none)) else (none)) else (none)) else (none)) else (recoupref04_Inverse.l0 k (wrap64 (x7 + 1)) x301000 x301001 x301002 x311000 x311001 x311002)
end
def recoupref04_Inverse.f (k : Nat) (a0_0 : Int) (a0_1 : Int) (l0_2 : List Int) : Option (Int × Int × List Int × Int) := (recoupref03_Right.f a0_0 a0_1 l0_2).bind fun t302 => (if t302 = true then (recoupref04_Inverse.j0 k (a0_0 != a0_1) a0_0 a0_1 l0_2) else (recoupref04_Inverse.j0 k true a0_0 a0_1 l0_2))
theorem recoupref04_Inverse.mono_l : ∀ k, (∀ y0 y1 y2 y3, LeO (recoupref04_Inverse.j0 k y0 y1 y2 y3) (recoupref04_Inverse.j0 (k + 1) y0 y1 y2 y3)) ∧ (∀ y0 y1 y2 y3 y4 y5 y6, LeO (recoupref04_Inverse.l0 k y0 y1 y2 y3 y4 y5 y6) (recoupref04_Inverse.l0 (k + 1) y0 y1 y2 y3 y4 y5 y6)) ∧ (∀ y0 y1 y2 y3 y4 y5 y6 y7 y8, LeO (recoupref04_Inverse.l1 k y0 y1 y2 y3 y4 y5 y6 y7 y8) (recoupref04_Inverse.l1 (k + 1) y0 y1 y2 y3 y4 y5 y6 y7 y8))
 | 0 => ⟨fun _ _ _ _ r h => by simp [recoupref04_Inverse.j0] at h, fun _ _ _ _ _ _ _ r h => by simp [recoupref04_Inverse.l0] at h, fun _ _ _ _ _ _ _ _ _ r h => by simp [recoupref04_Inverse.l1] at h⟩
 | k + 1 => by
  obtain ⟨ih0, ih1, ih2⟩ := recoupref04_Inverse.mono_l k
  refine ⟨?_, ?_, ?_⟩
  ·intro y0 y1 y2 y3
   unfold recoupref04_Inverse.j0
   repeat' first
   | (with_reducible exact ih0 _ _ _ _)
   | (with_reducible exact ih1 _ _ _ _ _ _ _)
   | (with_reducible exact ih2 _ _ _ _ _ _ _ _ _)
   | (with_reducible exact recoupref04_Rank.mono _ _ _ _)
   | (with_reducible exact recoupref04_Solve.mono _ _ _ _ _)
   | (with_reducible exact LeO.refl _)
   | (with_reducible exact LeO.none _)
   | (with_reducible refine LeO.ite ?_ ?_)
   | (with_reducible refine LeO.bind ?_ (fun _ => ?_))
   | exact ih0 _ _ _ _
   | exact ih1 _ _ _ _ _ _ _
   | exact ih2 _ _ _ _ _ _ _ _ _
   | exact recoupref04_Rank.mono _ _ _ _
   | exact recoupref04_Solve.mono _ _ _ _ _
   | exact LeO.none _
   | refine LeO.ite ?_ ?_
   | refine LeO.bind ?_ (fun _ => ?_)
  ·intro y0 y1 y2 y3 y4 y5 y6
   unfold recoupref04_Inverse.l0
   repeat' first
   | (with_reducible exact ih0 _ _ _ _)
   | (with_reducible exact ih1 _ _ _ _ _ _ _)
   | (with_reducible exact ih2 _ _ _ _ _ _ _ _ _)
   | (with_reducible exact recoupref04_Rank.mono _ _ _ _)
   | (with_reducible exact recoupref04_Solve.mono _ _ _ _ _)
   | (with_reducible exact LeO.refl _)
   | (with_reducible exact LeO.none _)
   | (with_reducible refine LeO.ite ?_ ?_)
   | (with_reducible refine LeO.bind ?_ (fun _ => ?_))
   | exact ih0 _ _ _ _
   | exact ih1 _ _ _ _ _ _ _
   | exact ih2 _ _ _ _ _ _ _ _ _
   | exact recoupref04_Rank.mono _ _ _ _
   | exact recoupref04_Solve.mono _ _ _ _ _
   | exact LeO.none _
   | refine LeO.ite ?_ ?_
   | refine LeO.bind ?_ (fun _ => ?_)
  ·intro y0 y1 y2 y3 y4 y5 y6 y7 y8
   unfold recoupref04_Inverse.l1
   repeat' first
   | (with_reducible exact ih0 _ _ _ _)
   | (with_reducible exact ih1 _ _ _ _ _ _ _)
   | (with_reducible exact ih2 _ _ _ _ _ _ _ _ _)
   | (with_reducible exact recoupref04_Rank.mono _ _ _ _)
   | (with_reducible exact recoupref04_Solve.mono _ _ _ _ _)
   | (with_reducible exact LeO.refl _)
   | (with_reducible exact LeO.none _)
   | (with_reducible refine LeO.ite ?_ ?_)
   | (with_reducible refine LeO.bind ?_ (fun _ => ?_))
   | exact ih0 _ _ _ _
   | exact ih1 _ _ _ _ _ _ _
   | exact ih2 _ _ _ _ _ _ _ _ _
   | exact recoupref04_Rank.mono _ _ _ _
   | exact recoupref04_Solve.mono _ _ _ _ _
   | exact LeO.none _
   | refine LeO.ite ?_ ?_
   | refine LeO.bind ?_ (fun _ => ?_)
theorem recoupref04_Inverse.mono : ∀ a0 a1 a2 k, LeO (recoupref04_Inverse.f k a0 a1 a2) (recoupref04_Inverse.f (k + 1) a0 a1 a2) := by
 intro a0 a1 a2 k
 obtain ⟨ih0, ih1, ih2⟩ := recoupref04_Inverse.mono_l k
 unfold recoupref04_Inverse.f
 repeat' first
   | (with_reducible exact ih0 _ _ _ _)
   | (with_reducible exact ih1 _ _ _ _ _ _ _)
   | (with_reducible exact ih2 _ _ _ _ _ _ _ _ _)
   | (with_reducible exact recoupref04_Rank.mono _ _ _ _)
   | (with_reducible exact recoupref04_Solve.mono _ _ _ _ _)
   | (with_reducible exact LeO.refl _)
   | (with_reducible exact LeO.none _)
   | (with_reducible refine LeO.ite ?_ ?_)
   | (with_reducible refine LeO.bind ?_ (fun _ => ?_))
   | exact ih0 _ _ _ _
   | exact ih1 _ _ _ _ _ _ _
   | exact ih2 _ _ _ _ _ _ _ _ _
   | exact recoupref04_Rank.mono _ _ _ _
   | exact recoupref04_Solve.mono _ _ _ _ _
   | exact LeO.none _
   | refine LeO.ite ?_ ?_
   | refine LeO.bind ?_ (fun _ => ?_)
def recoupref04_Inverse.T16 : Bool × List (List Nat × List Nat) := (true, [([], []), ([0], [0]), ([], []), ([], []), ([3], [3]), ([2, 4], [2, 4]), ([], []), ([5, 6], [5, 6]), ([], []), ([], []), ([8, 9], [8, 9]), ([10], [10]), ([1, 7, 0, 1, 2, 3, 4, 5, 6, 7, 8, 9, 10, 11], [1, 7]), ([12, 11, 0, 1, 2, 3, 4, 5, 6, 7, 8, 9, 10, 11], [11, 12])])
def recoupref04_Inverse.B16 : List Nat := [0, 1, 0, 0, 8, 28, 0, 124, 0, 0, 768, 1792, 4095, 8191]
theorem recoupref04_Inverse.tab16 : rtab .any (opsOf Try.f20 16) = recoupref04_Inverse.T16 := by kernel_rfl
theorem recoupref04_Inverse.bits16 : waitsOk recoupref04_Inverse.T16.2 recoupref04_Inverse.B16 = true := by kernel_rfl
set_option maxHeartbeats 8000000 in
set_option maxRecDepth 100000 in
theorem recoupref04_Inverse.calls (k : Nat) (a0_0 : Int) (a0_1 : Int) (A0_2 : Option Addr) (c0_2 : Nat) (l0_2 : List Int) (r1 : Int) (r2 : Int) (r3 : List Int) (r4 : Int) (w : World) (hr0_2 : Kd.C (Kd.int .u8) w A0_2 l0_2.length l0_2) (hc0_2 : l0_2.length ≤ c0_2) (h : recoupref04_Inverse.f k a0_0 a0_1 l0_2 = some (r1, r2, r3, r4)) :
  Calls Try.prog 20 #[.agg #[.int .i64 a0_0, .int .i64 a0_1, .slice A0_2 l0_2.length c0_2]] w fun e w' => ∃ v2_ : Value, e = .returned (.tuple #[.agg #[.int .i64 r1, .int .i64 r2, v2_], .int .i64 r4]) ∧ Kd.R (Kd.int .u8) 5 w' w.heap.size (fun _ => True) v2_ r3 ∧ Below w.heap.size w w' := by
 have hu24 := Try.underlying24
 have HR0_2 := Aside0.mk hr0_2
 have HC0_2 := Aside0.mk hc0_2
 clear hr0_2 hc0_2
 have HB := Aside0.mk (Below.refl w.heap.size w)
 have H : ((recoupref03_Right.f a0_0 a0_1 l0_2).bind fun t302 => (if t302 = true then (recoupref04_Inverse.j0 k (a0_0 != a0_1) a0_0 a0_1 l0_2) else (recoupref04_Inverse.j0 k true a0_0 a0_1 l0_2))) = some (r1, r2, r3, r4) := h
 clear h
 have HC2 := Aside0.mk H
 clear H
 go_enter Try.func20, Try.ntmps20
 go_upto_region 1 with (first | ((with_reducible refine gate_dst (N := 1) rfl ?_); refine box_event ?hg (N := 1) ?hd (cs := #[.int .i64 a0_0, .int .i64 a0_1, .slice A0_2 l0_2.length c0_2]) (t := 24) ?hr ?_; (case hd => rfl); (case hg => rfl); (case hr => first | (go_simp; done) | (go_simp; rfl)); intro gb300 hg w3 hbox hb; have n0_ := Aside0.mk (below_step (hbA HB.out) hb); have n1_ := Aside0.mk (hbox); have n2_ := Aside0.mk ((by rw [hg]; exact (below_size (hbA HB.out)) : w.heap.size ≤ gb300)); have n3_ := Aside0.mk ((by rw [hg]; exact (below_size (hbA HB.out)) : w.heap.size ≤ gb300)); clear HB; have HB := n0_; have BK300 := n1_; have GW300 := n2_; have GE300 := n3_; clear n0_ n1_ n2_ n3_; clear hb hbox hg) | ((with_reducible refine gate_dst (N := 2) rfl ?_); refine box_event ?hg (N := 2) ?hd (cs := #[.int .i64 0, .int .i64 0, .slice none 0 0]) (t := 24) ?hr ?_; (case hd => rfl); (case hg => rfl); (case hr => first | (go_simp; done) | (go_simp; rfl)); intro gb301 hg w4 hbox hb; have n0_ := Aside0.mk (blk_below (g := gb300) (o := .cells #[.int .i64 a0_0, .int .i64 a0_1, .slice A0_2 l0_2.length c0_2] 24 (0, 0)) (bkA BK300.out) hb); have n1_ := Aside0.mk (below_step (hbA HB.out) hb); have n2_ := Aside0.mk (hbox); have n3_ := Aside0.mk ((by rw [hg]; exact (below_size (hbA HB.out)) : w.heap.size ≤ gb301)); have n4_ := Aside0.mk ((by rw [hg]; exact (below_size (hbA HB.out)) : w.heap.size ≤ gb301)); have n5_ := Aside0.mk ((by rw [hg]; exact Nat.ne_of_lt (blk_lt (g := gb300) (o := .cells #[.int .i64 a0_0, .int .i64 a0_1, .slice A0_2 l0_2.length c0_2] 24 (0, 0)) (bkA BK300.out)) : gb300 ≠ gb301)); have n6_ := Aside0.mk ((by rw [hg]; exact Nat.ne_of_gt (blk_lt (g := gb300) (o := .cells #[.int .i64 a0_0, .int .i64 a0_1, .slice A0_2 l0_2.length c0_2] 24 (0, 0)) (bkA BK300.out)) : gb301 ≠ gb300)); clear BK300; clear HB; have BK300 := n0_; have HB := n1_; have BK301 := n2_; have GW301 := n3_; have GE301 := n4_; have NB300_301 := n5_; have NB301_300 := n6_; clear n0_ n1_ n2_ n3_ n4_ n5_ n6_; clear hb hbox hg))
 (try simp only [Act.put, List.setIfInBounds_toArray, List.set_cons_zero, List.set_cons_succ])
 go_cut [22] (fun v22 wc => ∃ (kq : Nat) (x22_1 : Bool), v22 = .bool x22_1 ∧ Aside0 (recoupref04_Inverse.j0 kq x22_1 a0_0 a0_1 l0_2 = some (r1, r2, r3, r4)) ∧ Aside0 (kq ≤ k) ∧ Aside0 (wc.heap[gb300]? = some (.cells #[.int .i64 a0_0, .int .i64 a0_1, (.slice A0_2 l0_2.length c0_2)] 24 (0, 0))) ∧ Aside0 (wc.heap[gb301]? = some (.cells #[.int .i64 0, .int .i64 0, (.slice none 0 0)] 24 (0, 0))) ∧ Aside0 (Below w.heap.size w wc))
 case first =>
  have H := HC2.out
  clear HC2
  replace H := Option.bind_eq_some_iff.mp H
  obtain ⟨t302, A50, H⟩ := H
  replace H : (if t302 = true then (recoupref04_Inverse.j0 k (a0_0 != a0_1) a0_0 a0_1 l0_2) else (recoupref04_Inverse.j0 k true a0_0 a0_1 l0_2)) = some (r1, r2, r3, r4) := H
  have A5 := Aside0.mk A50
  clear A50
  by_cases c6 : t302 = true
  ·subst c6
   have H1 : (recoupref04_Inverse.j0 k (a0_0 != a0_1) a0_0 a0_1 l0_2) = some (r1, r2, r3, r4) := by rw [if_pos rfl] at H; exact H
   clear H
   have H := H1
   clear H1
   have H' := Aside0.mk H
   clear H
   have hnb7 := NB300_301.out
   have hnc7 := NB301_300.out
   obtain ⟨hcz8_0, hcz8_1, hcz8_2, hfz8_0, hfz8_1, hfz8_2⟩ := cell3 BK300
   go_wp2_with (first | ((with_reducible refine gC 21 rfl ?_); refine cG (some 14) Try.func21 #[.agg #[.int .i64 a0_0, .int .i64 a0_1, .slice A0_2 l0_2.length c0_2]] ?_; (with_reducible refine (recoupref03_Right.calls a0_0 a0_1 _ _ l0_2 true _ ?side1 ?side2 A5.out).mono ?_); (case side1 => exact kcB HR0_2 HB); (case side2 => exact HC0_2.out); rintro e w9 ⟨rfl, hb⟩; refine ⟨_, rfl, ?_⟩; replace BK300 := bkB BK300 hb; replace BK301 := bkB BK301 hb; replace HB := hbB HB hb; (try clear hb); (try clear hb2); (try clear hk); (try clear hi); obtain ⟨hcz10_0, hcz10_1, hcz10_2, hfz10_0, hfz10_1, hfz10_2⟩ := cell3 BK300))
   go_meet
   case rel => exact ⟨_, ((a0_0 != a0_1)), rsE, H', ⟨leE⟩, ⟨bkA BK300.out⟩, ⟨bkA BK301.out⟩, ⟨hbA HB.out⟩⟩
  ·replace c6 := Bool.eq_false_iff.mpr c6
   subst c6
   have H1 : (recoupref04_Inverse.j0 k true a0_0 a0_1 l0_2) = some (r1, r2, r3, r4) := by rw [if_neg (show ¬ (false = true) by decide)] at H; exact H
   clear H
   have H := H1
   clear H1
   have H' := Aside0.mk H
   clear H
   have hnb11 := NB300_301.out
   have hnc11 := NB301_300.out
   obtain ⟨hcz12_0, hcz12_1, hcz12_2, hfz12_0, hfz12_1, hfz12_2⟩ := cell3 BK300
   go_wp2_with (first | ((with_reducible refine gC 21 rfl ?_); refine cG (some 14) Try.func21 #[.agg #[.int .i64 a0_0, .int .i64 a0_1, .slice A0_2 l0_2.length c0_2]] ?_; (with_reducible refine (recoupref03_Right.calls a0_0 a0_1 _ _ l0_2 false _ ?side1 ?side2 A5.out).mono ?_); (case side1 => exact kcB HR0_2 HB); (case side2 => exact HC0_2.out); rintro e w13 ⟨rfl, hb⟩; refine ⟨_, rfl, ?_⟩; replace BK300 := bkB BK300 hb; replace BK301 := bkB BK301 hb; replace HB := hbB HB hb; (try clear hb); (try clear hb2); (try clear hk); (try clear hi)))
   go_meet
   case rel => exact ⟨_, (true), rsE, H', ⟨leE⟩, ⟨bkA BK300.out⟩, ⟨bkA BK301.out⟩, ⟨hbA HB.out⟩⟩
 case rest =>
  clear HC2
  (try clear c1); (try clear c2); (try clear p2); (try clear c6); (try clear c7); (try clear c11); (try clear hcz10_0); (try clear hcz10_1); (try clear hcz10_2); (try clear hcz12_0); (try clear hcz12_1); (try clear hcz12_2); (try clear hcz8_0); (try clear hcz8_1); (try clear hcz8_2); (try clear hfz10_0); (try clear hfz10_1); (try clear hfz10_2); (try clear hfz12_0); (try clear hfz12_1); (try clear hfz12_2); (try clear hfz8_0); (try clear hfz8_1); (try clear hfz8_2)
  obtain ⟨kq, x22_1, rfl, HA, HJ1, BK300, BK301, HB⟩ := hcut
  cases kq with
  | zero => exact absurd HA.out (by simp [recoupref04_Inverse.j0])
  | succ kj1 =>
   have H := HA.out
   clear HA
   simp only [recoupref04_Inverse.j0] at H
   by_cases c14 : x22_1 = true
   ·subst c14
    have H1 : (some (0, 0, ([] : List Int), 3)) = some (r1, r2, r3, r4) := by rw [if_pos rfl] at H; exact H
    clear H
    have H := H1
    clear H1
    simp only [Option.some.injEq, Prod.mk.injEq] at H
    obtain ⟨rfl, rfl, rfl, rfl⟩ := H
    have hnb15 := NB301_300.out
    have hnc15 := NB300_301.out
    obtain ⟨hcz16_0, hcz16_1, hcz16_2, hfz16_0, hfz16_1, hfz16_2⟩ := cell3 BK301
    go_wp2
    refine bodyPost_ret (results_ct rfl _ _ gb301 24 #[.int .i64 0, .int .i64 0, .slice none 0 0] (0, 0) _ rfl (by (with_reducible repeat (first | refine blk_drewN ?_ _ | refine blk_drew ?_ | refine blk_alloc ?_ _)); refine blk_put (cs := #[.int .i64 0, .int .i64 0, .slice none 0 0]) ?_ 2 _ rfl; (with_reducible repeat (first | refine blk_drewN ?_ _ | refine blk_drew ?_ | refine blk_alloc ?_ _)); refine blk_put (cs := #[.int .i64 0, .int .i64 0, .slice none 0 0]) ?_ 1 _ rfl; (with_reducible repeat (first | refine blk_drewN ?_ _ | refine blk_drew ?_ | refine blk_alloc ?_ _)); refine blk_put (cs := #[.int .i64 0, .int .i64 0, .slice none 0 0]) ?_ 0 _ rfl; (with_reducible repeat (first | refine blk_drewN ?_ _ | refine blk_drew ?_ | refine blk_alloc ?_ _)); exact BK301.out) Try.underlying24 rfl (by kernel_rfl)) rfl ?_
    exact ⟨_, by first | rfl | (simp [errW_none, errW_some] <;> rfl) | (simp [*, errW_none, errW_some] <;> rfl), by first | exact Kd.R_nil _ _ _ _ _ | exact Kd.N_nil _ _ _ _ _ | exact Kd.V_nil _ _ _ _ _ | exact Kd.Q_nil _ _ _ _ _ | exact Kd.S_nil _ _ _ _ _, by repeat (first | (with_reducible first | exact HB.out | apply below_alloc | apply pw_below_drewN | apply below_drew1 | refine below_set ?_ GE300.out | refine below_set ?_ GE301.out) | exact HB.out)⟩
   ·replace c14 := Bool.eq_false_iff.mpr c14
    subst c14
    have H1 : ((recoupref04_Rank.f kj1 a0_0 a0_1 l0_2).bind fun bt303 => (if bt303.1 < a0_0 then (some (0, 0, ([] : List Int), 6)) else ((recoupref03_Zero.f a0_0 a0_0).bind fun bt305 => (recoupref04_Inverse.l0 kj1 0 a0_0 a0_1 l0_2 bt305.1 bt305.2.1 bt305.2.2)))) = some (r1, r2, r3, r4) := by rw [if_neg (show ¬ (false = true) by decide)] at H; exact H
    clear H
    have H := H1
    clear H1
    replace H := Option.bind_eq_some_iff.mp H
    obtain ⟨⟨t303, t304⟩, A170, H⟩ := H
    replace H : (if t303 < a0_0 then (some (0, 0, ([] : List Int), 6)) else ((recoupref03_Zero.f a0_0 a0_0).bind fun bt305 => (recoupref04_Inverse.l0 kj1 0 a0_0 a0_1 l0_2 bt305.1 bt305.2.1 bt305.2.2))) = some (r1, r2, r3, r4) := H
    have A17 := Aside0.mk A170
    clear A170
    by_cases c18 : t303 < a0_0
    ·rw [if_pos c18] at H
     have c18b0 : decide (t303 < a0_0) = true := decide_eq_true c18
     clear c18
     simp only [Option.some.injEq, Prod.mk.injEq] at H
     obtain ⟨rfl, rfl, rfl, rfl⟩ := H
     have hnb19 := NB300_301.out
     have hnc19 := NB301_300.out
     obtain ⟨hcz20_0, hcz20_1, hcz20_2, hfz20_0, hfz20_1, hfz20_2⟩ := cell3 BK300
     go_wp2_with (first | ((with_reducible refine gC 49 rfl ?_); refine cG (some 26) Try.func49 #[.agg #[.int .i64 a0_0, .int .i64 a0_1, .slice A0_2 l0_2.length c0_2]] ?_; (with_reducible refine (recoupref04_Rank.calls kj1 a0_0 a0_1 _ _ l0_2 t303 t304 _ ?side1 ?side2 A17.out).mono ?_); (case side1 => exact kcB HR0_2 HB); (case side2 => exact HC0_2.out); rintro e w21 ⟨rfl, hb⟩; refine ⟨_, rfl, ?_⟩; replace BK300 := bkB BK300 hb; replace BK301 := bkB BK301 hb; replace HB := hbB HB hb; (try clear hb); (try clear hb2); (try clear hk); (try clear hi); obtain ⟨hcz22_0, hcz22_1, hcz22_2, hfz22_0, hfz22_1, hfz22_2⟩ := cell3 BK300; obtain ⟨hcz23_0, hcz23_1, hcz23_2, hfz23_0, hfz23_1, hfz23_2⟩ := cell3 BK301))
     refine bodyPost_ret (results_ct rfl _ _ gb301 24 #[.int .i64 0, .int .i64 0, .slice none 0 0] (0, 0) _ rfl (by (with_reducible repeat (first | refine blk_drewN ?_ _ | refine blk_drew ?_ | refine blk_alloc ?_ _)); refine blk_put (cs := #[.int .i64 0, .int .i64 0, .slice none 0 0]) ?_ 2 _ rfl; (with_reducible repeat (first | refine blk_drewN ?_ _ | refine blk_drew ?_ | refine blk_alloc ?_ _)); refine blk_put (cs := #[.int .i64 0, .int .i64 0, .slice none 0 0]) ?_ 1 _ rfl; (with_reducible repeat (first | refine blk_drewN ?_ _ | refine blk_drew ?_ | refine blk_alloc ?_ _)); refine blk_put (cs := #[.int .i64 0, .int .i64 0, .slice none 0 0]) ?_ 0 _ rfl; (with_reducible repeat (first | refine blk_drewN ?_ _ | refine blk_drew ?_ | refine blk_alloc ?_ _)); exact BK301.out) Try.underlying24 rfl (by kernel_rfl)) rfl ?_
     exact ⟨_, by first | rfl | (simp [errW_none, errW_some] <;> rfl) | (simp [*, errW_none, errW_some] <;> rfl), by first | exact Kd.R_nil _ _ _ _ _ | exact Kd.N_nil _ _ _ _ _ | exact Kd.V_nil _ _ _ _ _ | exact Kd.Q_nil _ _ _ _ _ | exact Kd.S_nil _ _ _ _ _, by repeat (first | (with_reducible first | exact HB.out | apply below_alloc | apply pw_below_drewN | apply below_drew1 | refine below_set ?_ GE300.out | refine below_set ?_ GE301.out) | exact HB.out)⟩
    ·rw [if_neg c18] at H
     have c18b0 : decide (t303 < a0_0) = false := decide_eq_false c18
     clear c18
     replace H := Option.bind_eq_some_iff.mp H
     obtain ⟨⟨t305, t306, t307⟩, A240, H⟩ := H
     replace H : (recoupref04_Inverse.l0 kj1 0 a0_0 a0_1 l0_2 t305 t306 t307) = some (r1, r2, r3, r4) := H
     have A24 := Aside0.mk A240
     clear A240
     have H' := Aside0.mk H
     clear H
     have hnb25 := NB300_301.out
     have hnc25 := NB301_300.out
     obtain ⟨hcz26_0, hcz26_1, hcz26_2, hfz26_0, hfz26_1, hfz26_2⟩ := cell3 BK300
     go_wp2_with (first | ((with_reducible refine gC 49 rfl ?_); refine cG (some 26) Try.func49 #[.agg #[.int .i64 a0_0, .int .i64 a0_1, .slice A0_2 l0_2.length c0_2]] ?_; (with_reducible refine (recoupref04_Rank.calls kj1 a0_0 a0_1 _ _ l0_2 t303 t304 _ ?side1 ?side2 A17.out).mono ?_); (case side1 => exact kcB HR0_2 HB); (case side2 => exact HC0_2.out); rintro e w27 ⟨rfl, hb⟩; refine ⟨_, rfl, ?_⟩; replace BK300 := bkB BK300 hb; replace BK301 := bkB BK301 hb; replace HB := hbB HB hb; (try clear hb); (try clear hb2); (try clear hk); (try clear hi); obtain ⟨hcz28_0, hcz28_1, hcz28_2, hfz28_0, hfz28_1, hfz28_2⟩ := cell3 BK300) | ((with_reducible refine gC 50 rfl ?_); refine cG (some 38) Try.func50 #[.int .i64 a0_0, .int .i64 a0_0] ?_; (with_reducible refine (recoupref03_Zero.calls a0_0 a0_0 t305 t306 t307 _ A24.out).mono ?_); rintro e w29 ⟨v308, rfl, ho0, hb⟩; refine ⟨_, rfl, ?_⟩; have HO309 := Aside0.mk (Kd.R_lower ho0 (below_size (hbA HB.out))); replace BK300 := bkB BK300 hb; replace BK301 := bkB BK301 hb; replace HB := hbB HB hb; (try clear hb); (try clear hb2); (try clear hk); (try clear hi); (try clear ho0)) | ((with_reducible refine gD 6 rfl ?_); refine bE 6 #[.int .i64 0, .int .i64 0, .slice none 0 0] 24 ?_; intro gb310 hg w30 hbox hb; replace HO309 := kdB HO309 hb; have BK310 := Aside0.mk (hbox); have GW310 := hbS HB hg; have GE310 := hbS HB hg; replace HB := hbB HB hb; have NB300_310 := Aside0.mk ((by rw [hg]; exact Nat.ne_of_lt (blk_lt (g := gb300) (o := .cells #[.int .i64 a0_0, .int .i64 a0_1, .slice A0_2 l0_2.length c0_2] 24 (0, 0)) (bkA BK300.out)) : gb300 ≠ gb310)); have NB310_300 := Aside0.mk ((by rw [hg]; exact Nat.ne_of_gt (blk_lt (g := gb300) (o := .cells #[.int .i64 a0_0, .int .i64 a0_1, .slice A0_2 l0_2.length c0_2] 24 (0, 0)) (bkA BK300.out)) : gb310 ≠ gb300)); replace BK300 := bkB BK300 hb; have NB301_310 := Aside0.mk ((by rw [hg]; exact Nat.ne_of_lt (blk_lt (g := gb301) (o := .cells #[.int .i64 0, .int .i64 0, .slice none 0 0] 24 (0, 0)) (bkA BK301.out)) : gb301 ≠ gb310)); have NB310_301 := Aside0.mk ((by rw [hg]; exact Nat.ne_of_gt (blk_lt (g := gb301) (o := .cells #[.int .i64 0, .int .i64 0, .slice none 0 0] 24 (0, 0)) (bkA BK301.out)) : gb310 ≠ gb301)); replace BK301 := bkB BK301 hb; clear hb hbox hg; have hnb31 := NB310_300.out; have hnc31 := NB300_310.out; have hnb32 := NB310_301.out; have hnc32 := NB301_310.out; obtain ⟨hcz33_0, hcz33_1, hcz33_2, hfz33_0, hfz33_1, hfz33_2⟩ := cell3 BK310; obtain ⟨Ao34, co34, eo34⟩ := Kd.R_slice HO309.out; subst eo34))
     go_loopg [7] kj1 (fun kq v7 w' => ∃ (x7_2 : Int) (x311002_2 : List Int) (u311002 : Value), v7 = .int .i64 x7_2 ∧ Aside0 (recoupref04_Inverse.l0 kq x7_2 a0_0 a0_1 l0_2 t305 t306 x311002_2 = some (r1, r2, r3, r4)) ∧ Aside0 (kq ≤ kj1) ∧ Aside0 (Kd.R (Kd.int .u8) 5 w' w.heap.size (fun _ => True) u311002 x311002_2) ∧ Aside0 (w'.heap[gb300]? = some (.cells #[.int .i64 a0_0, .int .i64 a0_1, (.slice A0_2 l0_2.length c0_2)] 24 (0, 0))) ∧ Aside0 (w'.heap[gb301]? = some (.cells #[.int .i64 0, .int .i64 0, (.slice none 0 0)] 24 (0, 0))) ∧ Aside0 (w'.heap[gb310]? = some (.cells #[.int .i64 t305, .int .i64 t306, u311002] 24 (0, 0))) ∧ Aside0 (Below w.heap.size w w'))
     case atStart => exact ⟨(0), (t307), (.slice Ao34 t307.length co34), rsE, H', ⟨Nat.le_refl _⟩, ⟨by (with_reducible repeat (first | apply Kd.R_alloc | apply Kd.R_drewN | apply Kd.R_drew)); exact Kd.R_mono (Kd.R_far (p := ⟨gb310, 2, none⟩) (Kd.R_far (p := ⟨gb310, 1, none⟩) (Kd.R_far (p := ⟨gb310, 0, none⟩) (Kd.R_types HO309.out BK310.out (by decide)) (fun _ hk => hk.2) (.int .i64 t305)) (fun _ hk => hk.2) (.int .i64 t306)) (fun _ hk => hk.2) (.slice Ao34 t307.length co34)) (fun _ hk => trivial)⟩, ⟨by (with_reducible repeat (first | refine blk_drewN ?_ _ | refine blk_drew ?_ | refine blk_alloc ?_ _)); refine blk_far ?_ NB300_310.out _; (with_reducible repeat (first | refine blk_drewN ?_ _ | refine blk_drew ?_ | refine blk_alloc ?_ _)); refine blk_far ?_ NB300_310.out _; (with_reducible repeat (first | refine blk_drewN ?_ _ | refine blk_drew ?_ | refine blk_alloc ?_ _)); refine blk_far ?_ NB300_310.out _; (with_reducible repeat (first | refine blk_drewN ?_ _ | refine blk_drew ?_ | refine blk_alloc ?_ _)); exact BK300.out⟩, ⟨by (with_reducible repeat (first | refine blk_drewN ?_ _ | refine blk_drew ?_ | refine blk_alloc ?_ _)); refine blk_far ?_ NB301_310.out _; (with_reducible repeat (first | refine blk_drewN ?_ _ | refine blk_drew ?_ | refine blk_alloc ?_ _)); refine blk_far ?_ NB301_310.out _; (with_reducible repeat (first | refine blk_drewN ?_ _ | refine blk_drew ?_ | refine blk_alloc ?_ _)); refine blk_far ?_ NB301_310.out _; (with_reducible repeat (first | refine blk_drewN ?_ _ | refine blk_drew ?_ | refine blk_alloc ?_ _)); exact BK301.out⟩, ⟨by (with_reducible repeat (first | refine blk_drewN ?_ _ | refine blk_drew ?_ | refine blk_alloc ?_ _)); refine blk_put (cs := #[.int .i64 t305, .int .i64 t306, .slice none 0 0]) ?_ 2 _ rfl; (with_reducible repeat (first | refine blk_drewN ?_ _ | refine blk_drew ?_ | refine blk_alloc ?_ _)); refine blk_put (cs := #[.int .i64 t305, .int .i64 0, .slice none 0 0]) ?_ 1 _ rfl; (with_reducible repeat (first | refine blk_drewN ?_ _ | refine blk_drew ?_ | refine blk_alloc ?_ _)); refine blk_put (cs := #[.int .i64 0, .int .i64 0, .slice none 0 0]) ?_ 0 _ rfl; (with_reducible repeat (first | refine blk_drewN ?_ _ | refine blk_drew ?_ | refine blk_alloc ?_ _)); exact BK310.out⟩, ⟨hbA HB.out⟩⟩
     case round =>
      clear H'
      (try clear c1); (try clear c2); (try clear p2); (try clear c3); (try clear c4); (try clear c5); (try clear c6); (try clear c7); (try clear c11); (try clear c14); (try clear c15); (try clear c18); (try clear c18b0); (try clear c19); (try clear c20); (try clear c21); (try clear c25); (try clear c31); (try clear c32); (try clear hcz10_0); (try clear hcz10_1); (try clear hcz10_2); (try clear hcz12_0); (try clear hcz12_1); (try clear hcz12_2); (try clear hcz16_0); (try clear hcz16_1); (try clear hcz16_2); (try clear hcz20_0); (try clear hcz20_1); (try clear hcz20_2); (try clear hcz22_0); (try clear hcz22_1); (try clear hcz22_2); (try clear hcz23_0); (try clear hcz23_1); (try clear hcz23_2); (try clear hcz26_0); (try clear hcz26_1); (try clear hcz26_2); (try clear hcz28_0); (try clear hcz28_1); (try clear hcz28_2); (try clear hcz33_0); (try clear hcz33_1); (try clear hcz33_2); (try clear hcz8_0); (try clear hcz8_1); (try clear hcz8_2); (try clear hfz10_0); (try clear hfz10_1); (try clear hfz10_2); (try clear hfz12_0); (try clear hfz12_1); (try clear hfz12_2); (try clear hfz16_0); (try clear hfz16_1); (try clear hfz16_2); (try clear hfz20_0); (try clear hfz20_1); (try clear hfz20_2); (try clear hfz22_0); (try clear hfz22_1); (try clear hfz22_2); (try clear hfz23_0); (try clear hfz23_1); (try clear hfz23_2); (try clear hfz26_0); (try clear hfz26_1); (try clear hfz26_2); (try clear hfz28_0); (try clear hfz28_1); (try clear hfz28_2); (try clear hfz33_0); (try clear hfz33_1); (try clear hfz33_2); (try clear hfz8_0); (try clear hfz8_1); (try clear hfz8_2); (try clear p2)
      obtain ⟨x7_2, x311002_2, u311002, rfl, HA, HK2, HO_311002, BK300, BK301, BK310, HB⟩ := hrel
      cases gk with
      | zero => exact absurd HA.out (by simp [recoupref04_Inverse.l0])
      | succ k2 =>
       have H := HA.out
       clear HA
       simp only [recoupref04_Inverse.l0] at H
       by_cases c35 : x7_2 < a0_0
       ·rw [if_pos c35] at H
        have c35b0 : decide (x7_2 < a0_0) = true := decide_eq_true c35
        clear c35
        by_cases c36 : 0 ≤ a0_0
        ·rw [if_pos c36] at H
         have c36b0 := eq_true c36
         have c36b1 : decide (0 ≤ a0_0) = true := decide_eq_true c36
         clear c36
         by_cases c37 : (a0_0 : Int).toNat ≤ 281474976710656
         ·rw [if_pos c37] at H
          have c37b0 := eq_true c37
          have c37b1 : decide ((a0_0 : Int).toNat ≤ 281474976710656) = true := decide_eq_true c37
          clear c37
          obtain ⟨y311, hy311⟩ : ∃ y_ : List Int, y_ = (List.replicate (a0_0 : Int).toNat 0) := ⟨_, rfl⟩
          replace H : (if 0 ≤ x7_2 then (if x7_2 < (y311.length : Int) then ((recoupref04_Solve.f k2 a0_0 a0_1 l0_2 (y311.set (x7_2 : Int).toNat 1)).bind fun bt315 => (recoupref04_Inverse.l1 k2 x7_2 bt315.1 0 a0_0 a0_1 l0_2 t305 t306 x311002_2)) else (none)) else (none)) = some (r1, r2, r3, r4) := by first | (rw [hy311]; with_reducible exact H) | (have H2_ := (Option.bind_some _ _).symm.trans H; rw [hy311]; with_reducible exact H2_) | (have H2_ := (Option.bind_some _ _).symm.trans H; with_reducible exact H2_) | with_reducible exact H | (rw [hy311]; exact H) | exact H
          have Ny311 := Aside0.mk hy311
          clear hy311
          by_cases c38 : 0 ≤ x7_2
          ·rw [if_pos c38] at H
           have c38b0 : decide (0 ≤ x7_2) = true := decide_eq_true c38
           clear c38
           by_cases c39 : x7_2 < (y311.length : Int)
           ·rw [if_pos c39] at H
            have c39b0 : decide (x7_2 < (y311.length : Int)) = true := decide_eq_true c39
            clear c39
            obtain ⟨y314, hy314⟩ : ∃ y_ : List Int, y_ = (y311.set (x7_2 : Int).toNat 1) := ⟨_, rfl⟩
            replace H : ((recoupref04_Solve.f k2 a0_0 a0_1 l0_2 y314).bind fun bt315 => (recoupref04_Inverse.l1 k2 x7_2 bt315.1 0 a0_0 a0_1 l0_2 t305 t306 x311002_2)) = some (r1, r2, r3, r4) := by first | (rw [hy314]; with_reducible exact H) | (have H2_ := (Option.bind_some _ _).symm.trans H; rw [hy314]; with_reducible exact H2_) | (have H2_ := (Option.bind_some _ _).symm.trans H; with_reducible exact H2_) | with_reducible exact H | (rw [hy314]; exact H) | exact H
            have Ny314 := Aside0.mk hy314
            clear hy314
            replace H := Option.bind_eq_some_iff.mp H
            obtain ⟨⟨t315, t318, t319⟩, A410, H⟩ := H
            replace H : (recoupref04_Inverse.l1 k2 x7_2 t315 0 a0_0 a0_1 l0_2 t305 t306 x311002_2) = some (r1, r2, r3, r4) := H
            have A41 := Aside0.mk A410
            clear A410
            have H' := Aside0.mk H
            clear H
            have hnb42 := NB300_301.out
            have hnc42 := NB301_300.out
            have hnb43 := NB300_310.out
            have hnc43 := NB310_300.out
            obtain ⟨hcz44_0, hcz44_1, hcz44_2, hfz44_0, hfz44_1, hfz44_2⟩ := cell3 BK300
            go_wp2_with (first | ((with_reducible refine gate_dst (N := 47) rfl ?_); refine Kd.R_make (Kd.int .u8) _ 5 rfl (N := 47) rfl 22 _ _ rfl a0_0 rfl rfl Try.underlying22 (.int .u8 0) 1 info5 rfl (by decide) (by omega) 0 (ok := fun _ => True) (okp := fun _ => True) rfl (fun _ hk => hk) trivial (of_decide_eq_true (by first | (with_reducible assumption) | assumption)) (Nat.le_trans (Nat.mul_le_mul_right _ (of_decide_eq_true (by first | (with_reducible assumption) | assumption) : a0_0.toNat ≤ 281474976710656)) (by omega)) (Below.refl _ _) (Nat.le_refl _) ?_; intro v312 w45 ho46 hb hg_ hnew_; clear hg_ hnew_; (first | rw [← Ny311.out] at ho46 | (simp only [Int.reduceToNat] at ho46; rw [← Ny311.out] at ho46)); have HO313 := Aside0.mk (Kd.R_lower (Kd.R_new' ho46 (Kd.R_lt (kdA HO_311002.out))) (below_size (hbA HB.out))); replace HO_311002 := Aside0.mk (Kd.R_elder' (kdA HO_311002.out) (Kd.R_base ho46) hb); replace BK300 := bkB BK300 hb; replace BK301 := bkB BK301 hb; replace BK310 := bkB BK310 hb; replace HB := hbB HB hb; clear hb ho46; have p40 : 0 ≤ (x7_2 : Int) := of_decide_eq_true (by first | (with_reducible assumption) | assumption); have q40 : (x7_2 : Int) < ((y311.length : Int) : Int) := of_decide_eq_true (by first | (with_reducible assumption) | assumption); obtain ⟨go40, co40, eo40, gb40, gl40, cl40, HG40⟩ := Kd.R_form HO313.out (by omega); (first | cases eo40 | (injection eo40 with ea_ en_ ec_; (first | subst ea_ | (injection ea_ with ea_; subst ea_)); subst ec_; clear en_)); have GB40 := Aside0.mk gb40; have GG40 := Aside0.mk HG40; clear gb40 gl40 HG40; obtain ⟨hx40_0, hf40_0⟩ := Kd.R_celln 0 HO313.out (x7_2 : Int) p40 q40; replace p40 := eq_true p40; replace q40 := eq_true q40; have n_ := Aside0.mk (Kd.R_mono (ok' := (fun k_ => some k_ ≠ (u311002 : Value).ownBlock)) HO313.out (fun k_ hk => hk.2)); clear HO313; have HO313 := n_; clear n_; obtain ⟨hy47_, hz47_⟩ := Kd.R_celln 0 HO313.out (x7_2 : Int) (of_decide_eq_true (by first | (with_reducible assumption) | assumption)) (of_decide_eq_true (by first | (with_reducible assumption) | assumption)); have HP47 := Kd.R_putg HO313.out (x7_2 : Int) 1) | ((with_reducible refine gate_store (t := 5) (p := 50) rfl ?_); refine store_event (t := 5) (p := 50) (v := ?vo_w48) (w1 := (w45.setCell ⟨go40, (x7_2 : Int).toNat, none⟩ (.int .u8 1))) ?hg ?ho ?hn ?hr ?_; (case ho => rfl); (case hg => rfl); (case hn => rfl); (case hr => first | (go_simp; done) | (go_simp; rfl)); intro w48 hw; have hg : w45.grownBy w48 (some go40) := (by rw [hw]; exact HP47.2); have hp_ : Kd.R (Kd.int .u8) 5 w48 w.heap.size (fun k_ => some k_ ≠ (u311002 : Value).ownBlock) (.slice (some ⟨go40, 0, none⟩) y311.length co40) y314 := (by rw [hw, Ny314.out]; exact HP47.1); clear HP47; replace HO_311002 := Aside0.mk (Kd.R_after (v := (.slice (some ⟨go40, 0, none⟩) y311.length co40)) (v1 := (.slice (some ⟨go40, 0, none⟩) y311.length co40)) (ok := (fun _ => True)) (kdA HO_311002.out) hg (.inl rfl)); replace BK300 := bkG BK300 hg (Kd.R_ne HO313.out BK300.out (by decide)); replace BK301 := bkG BK301 hg (Kd.R_ne HO313.out BK301.out (by decide)); replace BK310 := bkG BK310 hg (Kd.R_ne HO313.out BK310.out (by decide)); replace HO313 := Aside0.mk (hp_); replace HB := Aside0.mk ((by rw [hw]; exact below_set (HB.out) GB40.out : Below w.heap.size w w48)); clear hg hw hp_; obtain ⟨hcz49_0, hcz49_1, hcz49_2, hfz49_0, hfz49_1, hfz49_2⟩ := cell3 BK300) | ((with_reducible refine gC 31 rfl ?_); refine goesL_ (some 54) rfl rfl Try.func31 (by kernel_rfl) rfl #[.agg #[.int .i64 a0_0, .int .i64 a0_1, .slice A0_2 l0_2.length c0_2], .slice (some ⟨go40, 0, none⟩) y314.length co40] rfl (by (try simp only [List.map_toArray, List.map_cons, List.map_nil]); first | done | (rw [show y314.length = y311.length from (Kd.R_reads' HO313.out).1.symm] <;> rfl) | rfl | (simp only [List.length_drop, List.length_take]; rfl)) ?_; (with_reducible refine (recoupref04_Solve.calls k2 a0_0 a0_1 _ _ l0_2 _ _ y314 t315 t318 t319 _ ?side1 ?side2 ?side3 ?side4 A41.out).mono ?_); (case side1 => exact kcB HR0_2 HB); (case side2 => exact HC0_2.out); (case side3 => exact kcA (Kd.R_reads' HO313.out).2.2); (case side4 => rw [show y314.length = y311.length from (Kd.R_reads' HO313.out).1.symm]; exact (Kd.R_reads' HO313.out).2.1); rintro e w50 ⟨v316, rfl, ho0, hb⟩; refine ⟨_, rfl, ?_⟩; have HO317 := Aside0.mk (Kd.R_lower (Kd.R_new' (Kd.R_new' ho0 (Kd.R_lt (kdA HO_311002.out))) (Kd.R_lt (kdA HO313.out))) (below_size (hbA HB.out))); replace HO_311002 := Aside0.mk (Kd.R_elder' (kdA HO_311002.out) (Kd.R_base ho0) hb); replace HO313 := Aside0.mk (Kd.R_elder' (kdA HO313.out) (Kd.R_base ho0) hb); replace BK300 := bkB BK300 hb; replace BK301 := bkB BK301 hb; replace BK310 := bkB BK310 hb; replace HB := hbB HB hb; (try clear hb); (try clear hb2); (try clear hk); (try clear hi); (try clear ho0)))
            go_loopg [12] k2 (fun kq v12 w' => ∃ (x9_3 : List Int) (x12_3 : Int) (x311002_3 : List Int) (u311002 : Value), v12 = .int .i64 x12_3 ∧ Aside0 (recoupref04_Inverse.l1 kq x7_2 x9_3 x12_3 a0_0 a0_1 l0_2 t305 t306 x311002_3 = some (r1, r2, r3, r4)) ∧ Aside0 (kq ≤ k2) ∧ Aside0 (Kd.R (Kd.int .u8) 5 w' w.heap.size (fun k_ => some k_ ≠ (u311002 : Value).ownBlock) v316 x9_3) ∧ Aside0 (Kd.R (Kd.int .u8) 5 w' w.heap.size (fun k_ => some k_ ≠ (v316 : Value).ownBlock) u311002 x311002_3) ∧ Aside0 (w'.heap[gb300]? = some (.cells #[.int .i64 a0_0, .int .i64 a0_1, (.slice A0_2 l0_2.length c0_2)] 24 (0, 0))) ∧ Aside0 (w'.heap[gb301]? = some (.cells #[.int .i64 0, .int .i64 0, (.slice none 0 0)] 24 (0, 0))) ∧ Aside0 (w'.heap[gb310]? = some (.cells #[.int .i64 t305, .int .i64 t306, u311002] 24 (0, 0))) ∧ Aside0 (Below w.heap.size w w'))
            case atStart => exact ⟨(t315), (0), (x311002_2), (u311002), rsE, H', ⟨Nat.le_refl _⟩, ⟨by (with_reducible repeat (first | apply Kd.R_alloc | apply Kd.R_drewN | apply Kd.R_drew)); exact Kd.R_mono HO317.out (fun _ hk => hk.1.2)⟩, ⟨by (with_reducible repeat (first | apply Kd.R_alloc | apply Kd.R_drewN | apply Kd.R_drew)); exact Kd.R_mono HO_311002.out (fun _ hk => hk.2)⟩, ⟨bkA BK300.out⟩, ⟨bkA BK301.out⟩, ⟨bkA BK310.out⟩, ⟨hbA HB.out⟩⟩
            case round =>
             clear H'
             (try clear c1); (try clear c2); (try clear p2); (try clear c3); (try clear c4); (try clear p4); (try clear q4); (try clear hx4); (try clear hf4); (try clear c5); (try clear c6); (try clear c7); (try clear c11); (try clear c14); (try clear c15); (try clear c18); (try clear c18b0); (try clear c19); (try clear c20); (try clear c21); (try clear c25); (try clear c31); (try clear c32); (try clear c35); (try clear c35b0); (try clear c36); (try clear c36b0); (try clear c36b1); (try clear c37); (try clear c37b0); (try clear c37b1); (try clear c38); (try clear c38b0); (try clear c39); (try clear c39b0); (try clear p40); (try clear q40); (try clear hx40); (try clear hf40); (try clear c42); (try clear c43); (try clear c49); (try clear c50); (try clear hcz10_0); (try clear hcz10_1); (try clear hcz10_2); (try clear hcz12_0); (try clear hcz12_1); (try clear hcz12_2); (try clear hcz16_0); (try clear hcz16_1); (try clear hcz16_2); (try clear hcz20_0); (try clear hcz20_1); (try clear hcz20_2); (try clear hcz22_0); (try clear hcz22_1); (try clear hcz22_2); (try clear hcz23_0); (try clear hcz23_1); (try clear hcz23_2); (try clear hcz26_0); (try clear hcz26_1); (try clear hcz26_2); (try clear hcz28_0); (try clear hcz28_1); (try clear hcz28_2); (try clear hcz33_0); (try clear hcz33_1); (try clear hcz33_2); (try clear hcz44_0); (try clear hcz44_1); (try clear hcz44_2); (try clear hcz49_0); (try clear hcz49_1); (try clear hcz49_2); (try clear hcz8_0); (try clear hcz8_1); (try clear hcz8_2); (try clear hfz10_0); (try clear hfz10_1); (try clear hfz10_2); (try clear hfz12_0); (try clear hfz12_1); (try clear hfz12_2); (try clear hfz16_0); (try clear hfz16_1); (try clear hfz16_2); (try clear hfz20_0); (try clear hfz20_1); (try clear hfz20_2); (try clear hfz22_0); (try clear hfz22_1); (try clear hfz22_2); (try clear hfz23_0); (try clear hfz23_1); (try clear hfz23_2); (try clear hfz26_0); (try clear hfz26_1); (try clear hfz26_2); (try clear hfz28_0); (try clear hfz28_1); (try clear hfz28_2); (try clear hfz33_0); (try clear hfz33_1); (try clear hfz33_2); (try clear hfz44_0); (try clear hfz44_1); (try clear hfz44_2); (try clear hfz49_0); (try clear hfz49_1); (try clear hfz49_2); (try clear hfz8_0); (try clear hfz8_1); (try clear hfz8_2); (try clear hx40_0); (try clear p2); (try clear p40); (try clear q40)
             obtain ⟨x9_3, x12_3, x311002_3, u311002, rfl, HA, HK3, HO_9, HO_311002, BK300, BK301, BK310, HB⟩ := hrel
             cases gk with
             | zero => exact absurd HA.out (by simp [recoupref04_Inverse.l1])
             | succ k3 =>
              have H := HA.out
              clear HA
              simp only [recoupref04_Inverse.l1] at H
              by_cases c51 : x12_3 < a0_0
              ·rw [if_pos c51] at H
               have c51b0 : decide (x12_3 < a0_0) = true := decide_eq_true c51
               clear c51
               by_cases c52 : 0 ≤ x12_3
               ·rw [if_pos c52] at H
                have c52b0 : decide (0 ≤ x12_3) = true := decide_eq_true c52
                clear c52
                by_cases c53 : x12_3 < (x9_3.length : Int)
                ·rw [if_pos c53] at H
                 have c53b0 : decide (x12_3 < (x9_3.length : Int)) = true := decide_eq_true c53
                 clear c53
                 obtain ⟨ji54, hji54⟩ : ∃ j_ : Int, (wrap64 ((wrap64 (x12_3 * a0_0)) + x7_2)) = j_ := ⟨_, rfl⟩
                 replace H : (if 0 ≤ (ji54) then (if (ji54) < (x311002_3.length : Int) then (recoupref04_Inverse.l1 k3 x7_2 x9_3 (wrap64 (x12_3 + 1)) a0_0 a0_1 l0_2 t305 t306 (x311002_3.set ((ji54) : Int).toNat (rd x9_3 x12_3))) else (none)) else (none)) = some (r1, r2, r3, r4) := by first | (rw [hji54] at H; exact H) | (simp only [hji54] at H ⊢; exact H)
                 have hji54w : (IntKind.i64.wrap ((wrap64 (x12_3 * a0_0)) + x7_2)) = ji54 := (i64_w _).trans hji54
                 by_cases c55 : 0 ≤ (ji54)
                 ·rw [if_pos c55] at H
                  have c55b0 : decide (0 ≤ (ji54)) = true := decide_eq_true c55
                  clear c55
                  by_cases c56 : (ji54) < (x311002_3.length : Int)
                  ·rw [if_pos c56] at H
                   have c56b0 : decide ((ji54) < (x311002_3.length : Int)) = true := decide_eq_true c56
                   clear c56
                   obtain ⟨y321, hy321⟩ : ∃ y_ : List Int, y_ = (x311002_3.set ((ji54) : Int).toNat (rd x9_3 x12_3)) := ⟨_, rfl⟩
                   replace H : (recoupref04_Inverse.l1 k3 x7_2 x9_3 (wrap64 (x12_3 + 1)) a0_0 a0_1 l0_2 t305 t306 y321) = some (r1, r2, r3, r4) := by first | (rw [hy321]; with_reducible exact H) | (have H2_ := (Option.bind_some _ _).symm.trans H; rw [hy321]; with_reducible exact H2_) | (have H2_ := (Option.bind_some _ _).symm.trans H; with_reducible exact H2_) | with_reducible exact H | (rw [hy321]; exact H) | exact H
                   have Ny321 := Aside0.mk hy321
                   clear hy321
                   have H' := Aside0.mk H
                   clear H
                   have hnb58 := NB300_301.out
                   have hnc58 := NB301_300.out
                   have hnb59 := NB300_310.out
                   have hnc59 := NB310_300.out
                   obtain ⟨hcz60_0, hcz60_1, hcz60_2, hfz60_0, hfz60_1, hfz60_2⟩ := cell3 BK300
                   try go_wp2
                   replace HO_9 := Aside0.mk (Kd.R_drew HO_9.out)
                   replace HO_311002 := Aside0.mk (Kd.R_drew HO_311002.out)
                   replace BK300 := Aside0.mk (blk_drew BK300.out)
                   replace BK301 := Aside0.mk (blk_drew BK301.out)
                   replace BK310 := Aside0.mk (blk_drew BK310.out)
                   replace HB := Aside0.mk (below_drew1 HB.out)
                   obtain ⟨Ao62, co62, eo62⟩ := Kd.R_slice HO_9.out
                   (first | subst eo62 | (injection eo62 with f1_ f2_ f3_; have f4_ := f1_.symm; have f5_ := f3_.symm; clear f1_ f2_ f3_; subst f4_; subst f5_))
                   have p320 : 0 ≤ (x12_3 : Int) := of_decide_eq_true (by first | (with_reducible assumption) | assumption)
                   have q320 : x12_3 < (x9_3.length : Int) := of_decide_eq_true (by first | (with_reducible assumption) | assumption)
                   obtain ⟨ad320, e320, hx320_0⟩ := Kd.at_int (Kd.R_reads' HO_9.out).2.2 x12_3 p320 q320
                   cases e320
                   replace p320 := eq_true p320
                   replace q320 := eq_true q320
                   have p57 : 0 ≤ ((ji54) : Int) := of_decide_eq_true (by first | (with_reducible assumption) | assumption)
                   have q57 : ((ji54) : Int) < ((x311002_3.length : Int) : Int) := of_decide_eq_true (by first | (with_reducible assumption) | assumption)
                   obtain ⟨go57, co57, eo57, gb57, gl57, cl57, HG57⟩ := Kd.R_form HO_311002.out (by omega)
                   (first | cases eo57 | (injection eo57 with ea_ en_ ec_; (first | subst ea_ | (injection ea_ with ea_; subst ea_)); subst ec_; clear en_))
                   have GB57 := Aside0.mk gb57
                   have GG57 := Aside0.mk HG57
                   clear gb57 gl57 HG57
                   obtain ⟨hx57_0, hf57_0⟩ := Kd.R_celln 0 HO_311002.out ((ji54) : Int) p57 q57
                   replace p57 := eq_true p57
                   replace q57 := eq_true q57
                   have HP63 := Kd.R_putn HO_311002.out ((ji54) : Int) (rd x9_3 x12_3)
                   rw [← Ny321.out] at HP63
                   have HQ63 := Aside0.mk HP63
                   clear HP63
                   refine start_ (n := 14) (S := fun w' => w'.cell? ⟨gb310, 0, none⟩ = some (.int .i64 t305) ∧ w'.cell? ⟨gb310, 1, none⟩ = some (.int .i64 t306) ∧ w'.cell? ⟨gb310, 2, none⟩ = some (.slice (some ⟨go57, 0, none⟩) x311002_3.length co57) ∧ w'.cell? ⟨gb300, 0, none⟩ = some (.int .i64 a0_0) ∧ w'.cell? ⟨gb300, 1, none⟩ = some (.int .i64 a0_1) ∧ w'.cell? ⟨gb300, 2, none⟩ = some (.slice A0_2 l0_2.length c0_2) ∧ w'.cell? (ad320.add (x12_3).toNat) = some (.int .u8 (rd x9_3 x12_3))) (ds := [13]) (.replicate 14 false) (by kernel_rfl) rfl rfl ⟨(blk_cell BK310.out 0).trans rfl, (blk_cell BK310.out 1).trans rfl, (blk_cell BK310.out 2).trans rfl, (blk_cell BK300.out 0).trans rfl, (blk_cell BK300.out 1).trans rfl, (blk_cell BK300.out 2).trans rfl, hx320_0⟩ (fun hHeld => ?_); refine with_tabW recoupref04_Inverse.tab16 recoupref04_Inverse.bits16 (fun HT_ HW_ => ?_)
                   generalize wr.drew = w61 at HO_9 HO_311002 BK300 BK301 BK310 HB GG57 HQ63 hf57_0 hx320_0 hx57_0 hHeld ⊢
                   refine pu 0 (some 64) (mB 14 1) HT_ ?_
                   refine pu 2 (some 66) (mB 14 5) HT_ ?_
                   refine pu 3 (some 67) (mB 14 13) HT_ ?_
                   refine pu 6 (some 70) (mB 14 77) HT_ ?_
                   refine pu 8 (some 72) (mB 14 333) HT_ ?_
                   refine pu 9 (some 73) (mB 14 845) HT_ ?_
                   refine pu 10 (some 74) (mB 14 1869) HT_ ?_
                   refine tk7 1 (some 65) (mB 14 1871) HT_ HW_ hHeld ?_
                   refine tk7 4 (some 68) (mB 14 1887) HT_ HW_ hHeld ?_
                   refine pu 5 (some 69) (mB 14 1919) HT_ ?_
                   refine pu 7 (some 71) (mB 14 2047) HT_ ?_
                   refine tk7 11 (some 75) (mB 14 4095) HT_ HW_ hHeld ?_
                   refine pu 12 (some 76) (mB 14 8191) HT_ ?_
                   refine last_ (i := 13) (N := none) (mB 14 16383) rfl rfl (one_of HT_.out (by kernel_rfl)) (by decide) (fun K hK => ?_)
                   refine skip_ (w1 := ?_) (by rfl) rfl ?_ ?_
                   rotate_left
                   ·go_simp
                    rfl
                   refine hK.out _ _ ?_
                   clear hK K
                   refine done_ (done_of HT_.out (by kernel_rfl)) ?_
                   try go_wp2
                   go_roundg k3
                   case measure => have := HJ1.out; have := HK2.out; have := HK3.out; omega
                   case rel => exact ⟨(x9_3), (wrap64 (x12_3 + 1)), (y321), (.slice (some ⟨go57, 0, none⟩) x311002_3.length co57), rsE, H', ⟨by have := HJ1.out; have := HK2.out; have := HK3.out; omega⟩, ⟨by (with_reducible repeat (first | apply Kd.R_alloc | apply Kd.R_drewN | apply Kd.R_drew)); exact Kd.R_mono (Kd.R_far (p := ⟨go57, ((ji54) : Int).toNat, none⟩) (Kd.R_mono HO_9.out (fun k_ hk => (⟨hk, fun e_ => hk (by rw [e_]; rfl)⟩ : _ ∧ k_ ≠ go57))) (fun _ hk => hk.2) (.int .u8 (rd x9_3 x12_3))) (fun _ hk => hk.1)⟩, ⟨kdA HQ63.out⟩, ⟨by (with_reducible repeat (first | refine blk_drewN ?_ _ | refine blk_drew ?_ | refine blk_alloc ?_ _)); refine blk_far ?_ (by have h_ := Kd.R_ne HO_311002.out BK300.out (by decide); intro e_; exact h_ (by rw [e_]; rfl)) _; (with_reducible repeat (first | refine blk_drewN ?_ _ | refine blk_drew ?_ | refine blk_alloc ?_ _)); exact BK300.out⟩, ⟨by (with_reducible repeat (first | refine blk_drewN ?_ _ | refine blk_drew ?_ | refine blk_alloc ?_ _)); refine blk_far ?_ (by have h_ := Kd.R_ne HO_311002.out BK301.out (by decide); intro e_; exact h_ (by rw [e_]; rfl)) _; (with_reducible repeat (first | refine blk_drewN ?_ _ | refine blk_drew ?_ | refine blk_alloc ?_ _)); exact BK301.out⟩, ⟨by (with_reducible repeat (first | refine blk_drewN ?_ _ | refine blk_drew ?_ | refine blk_alloc ?_ _)); refine blk_far ?_ (by have h_ := Kd.R_ne HO_311002.out BK310.out (by decide); intro e_; exact h_ (by rw [e_]; rfl)) _; (with_reducible repeat (first | refine blk_drewN ?_ _ | refine blk_drew ?_ | refine blk_alloc ?_ _)); exact BK310.out⟩, ⟨hbA HB.out⟩⟩
                  ·rw [if_neg c56] at H
                   exact absurd H (by simp)
                 ·rw [if_neg c55] at H
                  exact absurd H (by simp)
                ·rw [if_neg c53] at H
                 exact absurd H (by simp)
               ·rw [if_neg c52] at H
                exact absurd H (by simp)
              ·rw [if_neg c51] at H
               have c51b0 : decide (x12_3 < a0_0) = false := decide_eq_false c51
               clear c51
               have H' := Aside0.mk H
               clear H
               have hnb64 := NB300_301.out
               have hnc64 := NB301_300.out
               have hnb65 := NB300_310.out
               have hnc65 := NB310_300.out
               obtain ⟨hcz66_0, hcz66_1, hcz66_2, hfz66_0, hfz66_1, hfz66_2⟩ := cell3 BK300
               go_wp2
               go_roundg k3
               case measure => have := HJ1.out; have := HK2.out; have := HK3.out; omega
               case rel => exact ⟨(wrap64 (x7_2 + 1)), (x311002_3), (u311002), rsE, H', ⟨by have := HJ1.out; have := HK2.out; have := HK3.out; omega⟩, ⟨by (with_reducible repeat (first | apply Kd.R_alloc | apply Kd.R_drewN | apply Kd.R_drew)); exact Kd.R_mono HO_311002.out (fun _ hk => trivial)⟩, ⟨bkA BK300.out⟩, ⟨bkA BK301.out⟩, ⟨bkA BK310.out⟩, ⟨hbA HB.out⟩⟩
           ·rw [if_neg c39] at H
            exact absurd H (by simp)
          ·rw [if_neg c38] at H
           exact absurd H (by simp)
         ·rw [if_neg c37] at H
          exact absurd H (by simp)
        ·rw [if_neg c36] at H
         exact absurd H (by simp)
       ·rw [if_neg c35] at H
        have c35b0 : decide (x7_2 < a0_0) = false := decide_eq_false c35
        clear c35
        simp only [Option.some.injEq, Prod.mk.injEq] at H
        obtain ⟨rfl, rfl, rfl, rfl⟩ := H
        have hnb67 := NB300_301.out
        have hnc67 := NB301_300.out
        have hnb68 := NB300_310.out
        have hnc68 := NB310_300.out
        obtain ⟨hcz69_0, hcz69_1, hcz69_2, hfz69_0, hfz69_1, hfz69_2⟩ := cell3 BK300
        have hnb70 := NB310_301.out
        have hnc70 := NB301_310.out
        obtain ⟨hcz71_0, hcz71_1, hcz71_2, hfz71_0, hfz71_1, hfz71_2⟩ := cell3 BK310
        obtain ⟨hcz72_0, hcz72_1, hcz72_2, hfz72_0, hfz72_1, hfz72_2⟩ := cell3 BK301
        obtain ⟨Ao73, co73, eo73⟩ := Kd.R_slice HO_311002.out
        subst eo73
        go_wp2
        refine bodyPost_ret (results_ct rfl _ _ gb301 24 #[.int .i64 t305, .int .i64 t306, .slice Ao73 x311002_2.length co73] (0, 0) _ rfl (by (with_reducible repeat (first | refine blk_drewN ?_ _ | refine blk_drew ?_ | refine blk_alloc ?_ _)); refine blk_put (cs := #[.int .i64 t305, .int .i64 t306, .slice none 0 0]) ?_ 2 _ rfl; (with_reducible repeat (first | refine blk_drewN ?_ _ | refine blk_drew ?_ | refine blk_alloc ?_ _)); refine blk_put (cs := #[.int .i64 t305, .int .i64 0, .slice none 0 0]) ?_ 1 _ rfl; (with_reducible repeat (first | refine blk_drewN ?_ _ | refine blk_drew ?_ | refine blk_alloc ?_ _)); refine blk_put (cs := #[.int .i64 0, .int .i64 0, .slice none 0 0]) ?_ 0 _ rfl; (with_reducible repeat (first | refine blk_drewN ?_ _ | refine blk_drew ?_ | refine blk_alloc ?_ _)); exact BK301.out) Try.underlying24 rfl (by kernel_rfl)) rfl ?_
        exact ⟨_, by first | rfl | (simp [errW_none, errW_some] <;> rfl) | (simp [*, errW_none, errW_some] <;> rfl), by (with_reducible repeat (first | apply Kd.R_alloc | apply Kd.R_drewN | apply Kd.R_drew)); exact Kd.R_mono (Kd.R_far (p := ⟨gb301, 2, none⟩) (Kd.R_far (p := ⟨gb301, 1, none⟩) (Kd.R_far (p := ⟨gb301, 0, none⟩) (Kd.R_types HO_311002.out BK301.out (by decide)) (fun _ hk => hk.2) (.int .i64 t305)) (fun _ hk => hk.2) (.int .i64 t306)) (fun _ hk => hk.2) (.slice Ao73 x311002_2.length co73)) (fun _ hk => trivial), by repeat (first | (with_reducible first | exact HB.out | apply below_alloc | apply pw_below_drewN | apply below_drew1 | refine below_set ?_ GE300.out | refine below_set ?_ GE301.out | refine below_set ?_ GE310.out) | exact HB.out)⟩

end Go.Proofs.Ytccfbhnhedoggaa.Q
