/- Written by drive.py (a program of this repo, over the kit's print): each Go function named here answers what the Lean function beside it answers, wherever that one answers, in every world that meets the stated premises. -/
import Derived.Test.YtccfbhnhedoggaaQx0
import Derived.Test.YtccfbhnhedoggaaQx7
import Derived.Test.YtccfbhnhedoggaaQx10
import Derived.Test.YtccfbhnhedoggaaQx18
import Derived.Test.YtccfbhnhedoggaaQx35
import Derived.Test.YtccfbhnhedoggaaQx40
namespace Go.Proofs.Ytccfbhnhedoggaa.Q
open Go.RowKit Go.Proofs.YtccfbhnhedoggaaW.PrintWords Go.Proofs.YtccfbhnhedoggaaW.PrintLast Go.Proofs.YtccfbhnhedoggaaW.PrintMore
attribute [local go_sem] max2_int min2_int max_two min_two max_three min_three max_four min_four   -- for this text's walks alone
set_option linter.unusedVariables false
set_option linter.unusedSimpArgs false

/-! ### recoupref04_Combine: function 39 -/
mutual
def recoupref04_Combine.j0 : Nat → List Int → Bool → Int → Int → List Int → Option (List Int × Bool × Int)
 | 0, _, _, _, _, _ => none
 | k + 1, x1, x27, x680000, x680001, x680002 => if x27 = true then (some (([] : List Int), false, 3)) else ((recoupref04_First.f k x680000 x680001 x680002).bind fun bt681 => ((recoupref03_Pick.f k x680000 x680001 x680002 bt681.1).bind fun bt685 => ((recoupref03_Transpose.f k bt685.1 bt685.2.1 bt685.2.2.1).bind fun bt692 => ((recoupref04_Solve.f k bt692.1 bt692.2.1 bt692.2.2.1 x1).bind fun bt699 => (if bt699.2.1 = true then (if 0 ≤ x680000 then (if (x680000 : Int).toNat ≤ 281474976710656 then (recoupref04_Combine.l0 k bt681.1 bt699.1 (List.replicate (x680000 : Int).toNat 0) 0) else (none)) else (none)) else (some (([] : List Int), false, 0)))))))
def recoupref04_Combine.l0 : Nat → List Int → List Int → List Int → Int → Option (List Int × Bool × Int)
 | 0, _, _, _, _ => none
 | k + 1, x7, x13, x16, x17 => if x17 < (x7.length : Int) then (if 0 ≤ x17 then (if x17 < (x13.length : Int) then (if 0 ≤ (rd x7 x17) then (if (rd x7 x17) < (x16.length : Int) then (recoupref04_Combine.l0 k x7 x13 (x16.set ((rd x7 x17) : Int).toNat (rd x13 x17)) (wrap64 (x17 + 1))) else (none)) else (none)) else (none)) else (none)) else (some (x16, true, 0))
end
def recoupref04_Combine.f (k : Nat) (a0_0 : Int) (a0_1 : Int) (l0_2 : List Int) (l1 : List Int) : Option (List Int × Bool × Int) := (recoupref03_Right.f a0_0 a0_1 l0_2).bind fun t680 => (if t680 = true then (recoupref04_Combine.j0 k l1 ((l1.length : Int) != a0_1) a0_0 a0_1 l0_2) else (recoupref04_Combine.j0 k l1 true a0_0 a0_1 l0_2))
theorem recoupref04_Combine.mono_l : ∀ k, (∀ y0 y1 y2 y3 y4, LeO (recoupref04_Combine.j0 k y0 y1 y2 y3 y4) (recoupref04_Combine.j0 (k + 1) y0 y1 y2 y3 y4)) ∧ (∀ y0 y1 y2 y3, LeO (recoupref04_Combine.l0 k y0 y1 y2 y3) (recoupref04_Combine.l0 (k + 1) y0 y1 y2 y3))
 | 0 => ⟨fun _ _ _ _ _ r h => by simp [recoupref04_Combine.j0] at h, fun _ _ _ _ r h => by simp [recoupref04_Combine.l0] at h⟩
 | k + 1 => by
  obtain ⟨ih0, ih1⟩ := recoupref04_Combine.mono_l k
  refine ⟨?_, ?_⟩
  all_goals (intros; first | unfold recoupref04_Combine.j0 | unfold recoupref04_Combine.l0)
  all_goals repeat' first | (with_reducible exact ih0 _ _ _ _ _) | (with_reducible exact ih1 _ _ _ _) | (with_reducible exact recoupref03_Pick.mono _ _ _ _ _) | (with_reducible exact recoupref03_Transpose.mono _ _ _ _) | (with_reducible exact recoupref04_First.mono _ _ _ _) | (with_reducible exact recoupref04_Solve.mono _ _ _ _ _) | (with_reducible exact LeO.refl _) | (with_reducible exact LeO.none _) | (with_reducible refine LeO.ite ?_ ?_) | (with_reducible refine LeO.bind ?_ (fun _ => ?_)) | exact ih0 _ _ _ _ _ | exact ih1 _ _ _ _ | exact recoupref03_Pick.mono _ _ _ _ _ | exact recoupref03_Transpose.mono _ _ _ _ | exact recoupref04_First.mono _ _ _ _ | exact recoupref04_Solve.mono _ _ _ _ _ | exact LeO.none _ | refine LeO.ite ?_ ?_ | refine LeO.bind ?_ (fun _ => ?_)
theorem recoupref04_Combine.mono : ∀ a0 a1 a2 a3 k, LeO (recoupref04_Combine.f k a0 a1 a2 a3) (recoupref04_Combine.f (k + 1) a0 a1 a2 a3) := by
 intro a0 a1 a2 a3 k
 obtain ⟨ih0, ih1⟩ := recoupref04_Combine.mono_l k
 unfold recoupref04_Combine.f
 repeat' first
   | (with_reducible exact ih0 _ _ _ _ _)
   | (with_reducible exact ih1 _ _ _ _)
   | (with_reducible exact recoupref03_Pick.mono _ _ _ _ _)
   | (with_reducible exact recoupref03_Transpose.mono _ _ _ _)
   | (with_reducible exact recoupref04_First.mono _ _ _ _)
   | (with_reducible exact recoupref04_Solve.mono _ _ _ _ _)
   | (with_reducible exact LeO.refl _)
   | (with_reducible exact LeO.none _)
   | (with_reducible refine LeO.ite ?_ ?_)
   | (with_reducible refine LeO.bind ?_ (fun _ => ?_))
   | exact ih0 _ _ _ _ _
   | exact ih1 _ _ _ _
   | exact recoupref03_Pick.mono _ _ _ _ _
   | exact recoupref03_Transpose.mono _ _ _ _
   | exact recoupref04_First.mono _ _ _ _
   | exact recoupref04_Solve.mono _ _ _ _ _
   | exact LeO.none _
   | refine LeO.ite ?_ ?_
   | refine LeO.bind ?_ (fun _ => ?_)
def recoupref04_Combine.T13 : Bool × List (List Nat × List Nat) := (true, [([], []), ([], []), ([], []), ([1, 2], [1, 2]), ([3], [3]), ([], []), ([], []), ([5, 6], [5, 6]), ([7], [7]), ([0, 4, 0, 1, 2, 3, 4, 5, 6, 7, 8], [0, 4]), ([9, 8, 0, 1, 2, 3, 4, 5, 6, 7, 8], [8, 9])])
def recoupref04_Combine.B13 : List Nat := [0, 0, 0, 6, 14, 0, 0, 96, 224, 511, 1023]
theorem recoupref04_Combine.tab13 : rtab .any (opsOf Try.f39 13) = recoupref04_Combine.T13 := by kernel_rfl
theorem recoupref04_Combine.bits13 : waitsOk recoupref04_Combine.T13.2 recoupref04_Combine.B13 = true := by kernel_rfl
set_option maxHeartbeats 8000000 in
set_option maxRecDepth 100000 in
theorem recoupref04_Combine.calls (k : Nat) (a0_0 : Int) (a0_1 : Int) (A0_2 : Option Addr) (c0_2 : Nat) (l0_2 : List Int) (A1 : Option Addr) (c1 : Nat) (l1 : List Int) (r1 : List Int) (r2 : Bool) (r3 : Int) (w : World) (hr0_2 : Kd.C (Kd.int .u8) w A0_2 l0_2.length l0_2) (hc0_2 : l0_2.length ≤ c0_2) (hr1 : Kd.C (Kd.int .u8) w A1 l1.length l1) (hc1 : l1.length ≤ c1) (h : recoupref04_Combine.f k a0_0 a0_1 l0_2 l1 = some (r1, r2, r3)) :
  Calls Try.prog 39 #[.agg #[.int .i64 a0_0, .int .i64 a0_1, .slice A0_2 l0_2.length c0_2], .slice A1 l1.length c1] w fun e w' => ∃ v0_ : Value, e = .returned (.tuple #[v0_, .bool r2, .int .i64 r3]) ∧ Kd.R (Kd.int .u8) 5 w' w.heap.size (fun _ => True) v0_ r1 ∧ Below w.heap.size w w' := by
 have hu24 := Try.underlying24
 have HR0_2 := Aside0.mk hr0_2
 have HC0_2 := Aside0.mk hc0_2
 clear hr0_2 hc0_2
 have HR1 := Aside0.mk hr1
 have HC1 := Aside0.mk hc1
 clear hr1 hc1
 have HB := Aside0.mk (Below.refl w.heap.size w)
 have H : ((recoupref03_Right.f a0_0 a0_1 l0_2).bind fun t680 => (if t680 = true then (recoupref04_Combine.j0 k l1 ((l1.length : Int) != a0_1) a0_0 a0_1 l0_2) else (recoupref04_Combine.j0 k l1 true a0_0 a0_1 l0_2))) = some (r1, r2, r3) := h
 clear h
 have HC3 := Aside0.mk H
 clear H
 go_enter Try.func39, Try.ntmps39
 go_upto_region 1 with (first | ((with_reducible refine gD 2 rfl ?_); (try (refine gate_guard (by rfl) ?_; dsimp only)); refine bE 2 #[.int .i64 a0_0, .int .i64 a0_1, .slice A0_2 l0_2.length c0_2] 24 ?_; intro gb679 hg w4 hbox hb; have BK679 := Aside0.mk (hbox); have GW679 := hbS HB hg; have GE679 := hbS HB hg; replace HB := hbB HB hb; clear hb hbox hg))
 (try simp only [Act.put, List.setIfInBounds_toArray, List.set_cons_zero, List.set_cons_succ])
 go_cut [27] (fun v27 wc => ∃ (kq : Nat) (x27_2 : Bool), v27 = .bool x27_2 ∧ Aside0 (recoupref04_Combine.j0 kq l1 x27_2 a0_0 a0_1 l0_2 = some (r1, r2, r3)) ∧ Aside0 (kq ≤ k) ∧ Aside0 (wc.heap[gb679]? = some (.cells #[.int .i64 a0_0, .int .i64 a0_1, (.slice A0_2 l0_2.length c0_2)] 24 (0, 0))) ∧ Aside0 (Below w.heap.size w wc))
 case first =>
  have H := HC3.out
  clear HC3
  obtain ⟨t680, A5, H⟩ := bindO H
  (try dsimp only at H)
  by_cases c6 : t680 = true
  ·subst c6
   rw [if_pos rfl] at H
   have H' := Aside0.mk H
   clear H
   obtain ⟨hcz7_0, hcz7_1, hcz7_2, hfz7_0, hfz7_1, hfz7_2⟩ := cell3 BK679
   go_wp2_with (first | ((with_reducible refine gC 21 rfl ?_); refine cG (some 19) Try.func21 #[.agg #[.int .i64 a0_0, .int .i64 a0_1, .slice A0_2 l0_2.length c0_2]] ?_; (with_reducible refine (recoupref03_Right.calls a0_0 a0_1 _ _ l0_2 true _ ?side1 ?side2 A5.out).mono ?_); (case side1 => exact kcB HR0_2 HB); (case side2 => exact HC0_2.out); rintro e w8 ⟨rfl, hb⟩; refine ⟨_, rfl, ?_⟩; replace BK679 := bkB BK679 hb; replace HB := hbB HB hb; (try clear hb); (try clear hb2); (try clear hk); (try clear hi); obtain ⟨hcz9_0, hcz9_1, hcz9_2, hfz9_0, hfz9_1, hfz9_2⟩ := cell3 BK679))
   go_meet
   case rel => exact ⟨_, (((l1.length : Int) != a0_1)), rsE, H', ⟨leE⟩, ⟨bkA BK679.out⟩, ⟨hbA HB.out⟩⟩
  ·replace c6 := Bool.eq_false_iff.mpr c6
   subst c6
   rw [if_neg nofT] at H
   have H' := Aside0.mk H
   clear H
   obtain ⟨hcz10_0, hcz10_1, hcz10_2, hfz10_0, hfz10_1, hfz10_2⟩ := cell3 BK679
   go_wp2_with (first | ((with_reducible refine gC 21 rfl ?_); refine cG (some 19) Try.func21 #[.agg #[.int .i64 a0_0, .int .i64 a0_1, .slice A0_2 l0_2.length c0_2]] ?_; (with_reducible refine (recoupref03_Right.calls a0_0 a0_1 _ _ l0_2 false _ ?side1 ?side2 A5.out).mono ?_); (case side1 => exact kcB HR0_2 HB); (case side2 => exact HC0_2.out); rintro e w11 ⟨rfl, hb⟩; refine ⟨_, rfl, ?_⟩; replace BK679 := bkB BK679 hb; replace HB := hbB HB hb; (try clear hb); (try clear hb2); (try clear hk); (try clear hi)))
   go_meet
   case rel => exact ⟨_, (true), rsE, H', ⟨leE⟩, ⟨bkA BK679.out⟩, ⟨hbA HB.out⟩⟩
 case rest =>
  clear HC3
  (try clear c1); (try clear c2); (try clear p2); (try clear c3); (try clear c6); (try clear hcz10_0 hcz10_1 hcz10_2 hfz10_0 hfz10_1 hfz10_2); (try clear hcz7_0 hcz7_1 hcz7_2 hfz7_0 hfz7_1 hfz7_2); (try clear hcz9_0 hcz9_1 hcz9_2 hfz9_0 hfz9_1 hfz9_2)
  obtain ⟨kq, x27_2, rfl, HA, HJ2, BK679, HB⟩ := hcut
  cases kq with
  | zero => exact absurd HA.out (by simp [recoupref04_Combine.j0])
  | succ kj2 =>
   have H := HA.out
   clear HA
   simp only [recoupref04_Combine.j0] at H
   by_cases c12 : x27_2 = true
   ·subst c12
    rw [if_pos rfl] at H
    simp only [Option.some.injEq, Prod.mk.injEq] at H
    obtain ⟨rfl, rfl, rfl⟩ := H
    go_wp2
    go_ret3
    exact ⟨_, rfE, nilE, hbA HB.out⟩
   ·replace c12 := Bool.eq_false_iff.mpr c12
    subst c12
    rw [if_neg nofT] at H
    obtain ⟨⟨t681, t684⟩, A13, H⟩ := bindO H
    (try dsimp only at H)
    obtain ⟨⟨t685, t686, t687, t690⟩, A14, H⟩ := bindO H
    (try dsimp only at H)
    obtain ⟨⟨t692, t693, t694, t697⟩, A15, H⟩ := bindO H
    (try dsimp only at H)
    obtain ⟨⟨t699, t702, t703⟩, A16, H⟩ := bindO H
    (try dsimp only at H)
    by_cases c17 : t702 = true
    ·subst c17
     rw [if_pos rfl] at H
     by_cases c18 : 0 ≤ a0_0
     ·rw [if_pos c18] at H
      have c18b0 := eq_true c18
      have c18b1 : decide (0 ≤ a0_0) = true := decide_eq_true c18
      clear c18
      by_cases c19 : (a0_0 : Int).toNat ≤ 281474976710656
      ·rw [if_pos c19] at H
       have c19b0 := eq_true c19
       have c19b1 : decide ((a0_0 : Int).toNat ≤ 281474976710656) = true := decide_eq_true c19
       clear c19
       obtain ⟨y704, hy704⟩ : ∃ y_ : List Int, y_ = (List.replicate (a0_0 : Int).toNat 0) := ⟨_, rfl⟩
       replace H : (recoupref04_Combine.l0 kj2 t681 t699 y704 0) = some (r1, r2, r3) := by first | (rw [hy704]; with_reducible exact H) | (have H2_ := (Option.bind_some _ _).symm.trans H; rw [hy704]; with_reducible exact H2_) | (have H2_ := (Option.bind_some _ _).symm.trans H; with_reducible exact H2_) | with_reducible exact H | (rw [hy704]; exact H) | exact H
       have Ny704 := Aside0.mk hy704
       clear hy704
       have H' := Aside0.mk H
       clear H
       obtain ⟨hcz20_0, hcz20_1, hcz20_2, hfz20_0, hfz20_1, hfz20_2⟩ := cell3 BK679
       go_wp2_with (first | ((with_reducible refine gC 37 rfl ?_); refine cG (some 30) Try.func37 #[.agg #[.int .i64 a0_0, .int .i64 a0_1, .slice A0_2 l0_2.length c0_2]] ?_; (with_reducible refine (recoupref04_First.calls kj2 a0_0 a0_1 _ _ l0_2 t681 t684 _ ?side1 ?side2 A13.out).mono ?_); (case side1 => exact kcB HR0_2 HB); (case side2 => exact HC0_2.out); rintro e w21 ⟨v682, rfl, ho0, hb⟩; refine ⟨_, rfl, ?_⟩; have HO683 := Aside0.mk (Kd.R_lower ho0 (below_size (hbA HB.out))); replace BK679 := bkB BK679 hb; replace HB := hbB HB hb; (try clear hb); (try clear hb2); (try clear hk); (try clear hi); (try clear ho0); obtain ⟨hcz22_0, hcz22_1, hcz22_2, hfz22_0, hfz22_1, hfz22_2⟩ := cell3 BK679; obtain ⟨Ao23, co23, eo23⟩ := Kd.R_slice HO683.out; subst eo23) | ((with_reducible refine gC 46 rfl ?_); refine cG (some 36) Try.func46 #[.agg #[.int .i64 a0_0, .int .i64 a0_1, .slice A0_2 l0_2.length c0_2], .slice Ao23 t681.length co23] ?_; (with_reducible refine (recoupref03_Pick.calls kj2 a0_0 a0_1 _ _ l0_2 _ _ t681 t685 t686 t687 t690 _ ?side1 ?side2 ?side3 ?side4 A14.out).mono ?_); (case side1 => exact kcB HR0_2 HB); (case side2 => exact HC0_2.out); (case side3 => exact kcA (Kd.R_reads' HO683.out).2.2); (case side4 => exact (Kd.R_reads' HO683.out).2.1); rintro e w24 ⟨v688, rfl, ho0, hb⟩; refine ⟨_, rfl, ?_⟩; replace HO683 := kdB HO683 hb; have HO689 := Aside0.mk (Kd.R_lower ho0 (below_size (hbA HB.out))); replace BK679 := bkB BK679 hb; replace HB := hbB HB hb; (try clear hb); (try clear hb2); (try clear hk); (try clear hi); (try clear ho0)) | ((with_reducible refine gD 9 rfl ?_); (try (refine gate_guard (by rfl) ?_; dsimp only)); refine bE 9 #[.int .i64 0, .int .i64 0, .slice none 0 0] 24 ?_; intro gb691 hg w25 hbox hb; replace HO683 := kdB HO683 hb; replace HO689 := kdB HO689 hb; have BK691 := Aside0.mk (hbox); have GW691 := hbS HB hg; have GE691 := hbS HB hg; replace HB := hbB HB hb; have NB679_691 := neL BK679 hg; have NB691_679 := neG BK679 hg; replace BK679 := bkB BK679 hb; clear hb hbox hg; have hnb26 := NB691_679.out; have hnc26 := NB679_691.out; obtain ⟨hcz27_0, hcz27_1, hcz27_2, hfz27_0, hfz27_1, hfz27_2⟩ := cell3 BK691; obtain ⟨Ao28, co28, eo28⟩ := Kd.R_slice HO689.out; subst eo28) | ((with_reducible refine gC 35 rfl ?_); refine cG (some 41) Try.func35 #[.agg #[.int .i64 t685, .int .i64 t686, .slice Ao28 t687.length co28]] ?_; (with_reducible refine (recoupref03_Transpose.calls kj2 t685 t686 _ _ t687 t692 t693 t694 t697 _ ?side1 ?side2 A15.out).mono ?_); (case side1 => refine (Kd.R_reads' (e := 5) (base := w.heap.size) (ok := fun k_ => True) (n := t687.length) (c := co28) ?_).2.2; exact (by (with_reducible repeat (first | apply Kd.R_alloc | apply Kd.R_drewN | apply Kd.R_drew)); exact (Kd.R_mono (Kd.R_far (p := ⟨gb691, 2, none⟩) (Kd.R_far (p := ⟨gb691, 1, none⟩) (Kd.R_far (p := ⟨gb691, 0, none⟩) (Kd.R_types HO689.out BK691.out (by decide)) (fun _ hk => hk.2) (.int .i64 t685)) (fun _ hk => hk.2) (.int .i64 t686)) (fun _ hk => hk.2) (.slice Ao28 t687.length co28)) (fun _ h_ => h_.1)))); (case side2 => exact (Kd.R_reads' HO689.out).2.1); rintro e w29 ⟨v695, rfl, ho0, hb⟩; refine ⟨_, rfl, ?_⟩; replace HO683 := Aside0.mk (Kd.R_below (by (with_reducible repeat (first | apply Kd.R_alloc | apply Kd.R_drewN | apply Kd.R_drew)); exact (Kd.R_mono (Kd.R_far (p := ⟨gb691, 2, none⟩) (Kd.R_far (p := ⟨gb691, 1, none⟩) (Kd.R_far (p := ⟨gb691, 0, none⟩) (Kd.R_types HO683.out BK691.out (by decide)) (fun _ hk => hk.2) (.int .i64 t685)) (fun _ hk => hk.2) (.int .i64 t686)) (fun _ hk => hk.2) (.slice Ao28 t687.length co28)) (fun _ h_ => h_.1))) hb); have HO696 := Aside0.mk (Kd.R_lower (Kd.R_new' ho0 (Kd.R_lt (by (with_reducible repeat (first | apply Kd.R_alloc | apply Kd.R_drewN | apply Kd.R_drew)); exact (Kd.R_mono (Kd.R_far (p := ⟨gb691, 2, none⟩) (Kd.R_far (p := ⟨gb691, 1, none⟩) (Kd.R_far (p := ⟨gb691, 0, none⟩) (Kd.R_types HO689.out BK691.out (by decide)) (fun _ hk => hk.2) (.int .i64 t685)) (fun _ hk => hk.2) (.int .i64 t686)) (fun _ hk => hk.2) (.slice Ao28 t687.length co28)) (fun _ h_ => h_.1))))) (below_size (hbA HB.out))); replace HO689 := Aside0.mk (Kd.R_elder' (by (with_reducible repeat (first | apply Kd.R_alloc | apply Kd.R_drewN | apply Kd.R_drew)); exact (Kd.R_mono (Kd.R_far (p := ⟨gb691, 2, none⟩) (Kd.R_far (p := ⟨gb691, 1, none⟩) (Kd.R_far (p := ⟨gb691, 0, none⟩) (Kd.R_types HO689.out BK691.out (by decide)) (fun _ hk => hk.2) (.int .i64 t685)) (fun _ hk => hk.2) (.int .i64 t686)) (fun _ hk => hk.2) (.slice Ao28 t687.length co28)) (fun _ h_ => h_.1))) (Kd.R_base ho0) hb); replace BK679 := Aside0.mk (blk_below (g := gb679) (o := .cells #[.int .i64 a0_0, .int .i64 a0_1, .slice A0_2 l0_2.length c0_2] 24 (0, 0)) (by refine bkR ?_; refine blk_far ?_ NB679_691.out _; refine bkR ?_; refine blk_far ?_ NB679_691.out _; refine bkR ?_; refine blk_far ?_ NB679_691.out _; refine bkR ?_; exact BK679.out) hb); replace BK691 := Aside0.mk (blk_below (g := gb691) (o := .cells #[.int .i64 t685, .int .i64 t686, .slice Ao28 t687.length co28] 24 (0, 0)) (by refine bkR ?_; refine blk_put (cs := #[.int .i64 t685, .int .i64 t686, .slice none 0 0]) ?_ 2 _ rfl; refine bkR ?_; refine blk_put (cs := #[.int .i64 t685, .int .i64 0, .slice none 0 0]) ?_ 1 _ rfl; refine bkR ?_; refine blk_put (cs := #[.int .i64 0, .int .i64 0, .slice none 0 0]) ?_ 0 _ rfl; refine bkR ?_; exact BK691.out) hb); replace HB := hbB HB hb; (try clear hb); (try clear hb2); (try clear hk); (try clear hi); (try clear ho0)) | ((with_reducible refine gD 11 rfl ?_); (try (refine gate_guard (by rfl) ?_; dsimp only)); refine bE 11 #[.int .i64 0, .int .i64 0, .slice none 0 0] 24 ?_; intro gb698 hg w30 hbox hb; replace HO683 := kdB HO683 hb; replace HO689 := kdB HO689 hb; replace HO696 := kdB HO696 hb; have BK698 := Aside0.mk (hbox); have GW698 := hbS HB hg; have GE698 := hbS HB hg; replace HB := hbB HB hb; have NB679_698 := neL BK679 hg; have NB698_679 := neG BK679 hg; replace BK679 := bkB BK679 hb; have NB691_698 := neL BK691 hg; have NB698_691 := neG BK691 hg; replace BK691 := bkB BK691 hb; clear hb hbox hg; have hnb31 := NB698_679.out; have hnc31 := NB679_698.out; have hnb32 := NB698_691.out; have hnc32 := NB691_698.out; obtain ⟨hcz33_0, hcz33_1, hcz33_2, hfz33_0, hfz33_1, hfz33_2⟩ := cell3 BK698; obtain ⟨Ao34, co34, eo34⟩ := Kd.R_slice HO696.out; subst eo34) | ((with_reducible refine gC 31 rfl ?_); refine cG (some 47) Try.func31 #[.agg #[.int .i64 t692, .int .i64 t693, .slice Ao34 t694.length co34], .slice A1 l1.length c1] ?_; (with_reducible refine (recoupref04_Solve.calls kj2 t692 t693 _ _ t694 _ _ l1 t699 true t703 _ ?side1 ?side2 ?side3 ?side4 A16.out).mono ?_); (case side1 => refine (Kd.R_reads' (e := 5) (base := w.heap.size) (ok := fun k_ => (True ∧ some k_ ≠ (.slice Ao28 t687.length co28 : Value).ownBlock)) (n := t694.length) (c := co34) ?_).2.2; exact (by (with_reducible repeat (first | apply Kd.R_alloc | apply Kd.R_drewN | apply Kd.R_drew)); exact (Kd.R_mono (Kd.R_far (p := ⟨gb698, 2, none⟩) (Kd.R_far (p := ⟨gb698, 1, none⟩) (Kd.R_far (p := ⟨gb698, 0, none⟩) (Kd.R_types HO696.out BK698.out (by decide)) (fun _ hk => hk.2) (.int .i64 t692)) (fun _ hk => hk.2) (.int .i64 t693)) (fun _ hk => hk.2) (.slice Ao34 t694.length co34)) (fun _ h_ => h_.1)))); (case side2 => exact (Kd.R_reads' HO696.out).2.1); (case side3 => exact Kd.C_below HR1.out (hbA HB.out)); (case side4 => exact HC1.out); rintro e w35 ⟨v700, rfl, ho0, hb⟩; refine ⟨_, rfl, ?_⟩; replace HO683 := Aside0.mk (Kd.R_below (by (with_reducible repeat (first | apply Kd.R_alloc | apply Kd.R_drewN | apply Kd.R_drew)); exact (Kd.R_mono (Kd.R_far (p := ⟨gb698, 2, none⟩) (Kd.R_far (p := ⟨gb698, 1, none⟩) (Kd.R_far (p := ⟨gb698, 0, none⟩) (Kd.R_types HO683.out BK698.out (by decide)) (fun _ hk => hk.2) (.int .i64 t692)) (fun _ hk => hk.2) (.int .i64 t693)) (fun _ hk => hk.2) (.slice Ao34 t694.length co34)) (fun _ h_ => h_.1))) hb); have HO701 := Aside0.mk (Kd.R_lower (Kd.R_new' (Kd.R_new' ho0 (Kd.R_lt (by (with_reducible repeat (first | apply Kd.R_alloc | apply Kd.R_drewN | apply Kd.R_drew)); exact (Kd.R_mono (Kd.R_far (p := ⟨gb698, 2, none⟩) (Kd.R_far (p := ⟨gb698, 1, none⟩) (Kd.R_far (p := ⟨gb698, 0, none⟩) (Kd.R_types HO689.out BK698.out (by decide)) (fun _ hk => hk.2) (.int .i64 t692)) (fun _ hk => hk.2) (.int .i64 t693)) (fun _ hk => hk.2) (.slice Ao34 t694.length co34)) (fun _ h_ => h_.1))))) (Kd.R_lt (by (with_reducible repeat (first | apply Kd.R_alloc | apply Kd.R_drewN | apply Kd.R_drew)); exact (Kd.R_mono (Kd.R_far (p := ⟨gb698, 2, none⟩) (Kd.R_far (p := ⟨gb698, 1, none⟩) (Kd.R_far (p := ⟨gb698, 0, none⟩) (Kd.R_types HO696.out BK698.out (by decide)) (fun _ hk => hk.2) (.int .i64 t692)) (fun _ hk => hk.2) (.int .i64 t693)) (fun _ hk => hk.2) (.slice Ao34 t694.length co34)) (fun _ h_ => h_.1))))) (below_size (hbA HB.out))); replace HO689 := Aside0.mk (Kd.R_elder' (by (with_reducible repeat (first | apply Kd.R_alloc | apply Kd.R_drewN | apply Kd.R_drew)); exact (Kd.R_mono (Kd.R_far (p := ⟨gb698, 2, none⟩) (Kd.R_far (p := ⟨gb698, 1, none⟩) (Kd.R_far (p := ⟨gb698, 0, none⟩) (Kd.R_types HO689.out BK698.out (by decide)) (fun _ hk => hk.2) (.int .i64 t692)) (fun _ hk => hk.2) (.int .i64 t693)) (fun _ hk => hk.2) (.slice Ao34 t694.length co34)) (fun _ h_ => h_.1))) (Kd.R_base ho0) hb); replace HO696 := Aside0.mk (Kd.R_elder' (by (with_reducible repeat (first | apply Kd.R_alloc | apply Kd.R_drewN | apply Kd.R_drew)); exact (Kd.R_mono (Kd.R_far (p := ⟨gb698, 2, none⟩) (Kd.R_far (p := ⟨gb698, 1, none⟩) (Kd.R_far (p := ⟨gb698, 0, none⟩) (Kd.R_types HO696.out BK698.out (by decide)) (fun _ hk => hk.2) (.int .i64 t692)) (fun _ hk => hk.2) (.int .i64 t693)) (fun _ hk => hk.2) (.slice Ao34 t694.length co34)) (fun _ h_ => h_.1))) (Kd.R_base ho0) hb); replace BK679 := Aside0.mk (blk_below (g := gb679) (o := .cells #[.int .i64 a0_0, .int .i64 a0_1, .slice A0_2 l0_2.length c0_2] 24 (0, 0)) (by refine bkR ?_; refine blk_far ?_ NB679_698.out _; refine bkR ?_; refine blk_far ?_ NB679_698.out _; refine bkR ?_; refine blk_far ?_ NB679_698.out _; refine bkR ?_; exact BK679.out) hb); replace BK691 := Aside0.mk (blk_below (g := gb691) (o := .cells #[.int .i64 t685, .int .i64 t686, .slice Ao28 t687.length co28] 24 (0, 0)) (by refine bkR ?_; refine blk_far ?_ NB691_698.out _; refine bkR ?_; refine blk_far ?_ NB691_698.out _; refine bkR ?_; refine blk_far ?_ NB691_698.out _; refine bkR ?_; exact BK691.out) hb); replace BK698 := Aside0.mk (blk_below (g := gb698) (o := .cells #[.int .i64 t692, .int .i64 t693, .slice Ao34 t694.length co34] 24 (0, 0)) (by refine bkR ?_; refine blk_put (cs := #[.int .i64 t692, .int .i64 t693, .slice none 0 0]) ?_ 2 _ rfl; refine bkR ?_; refine blk_put (cs := #[.int .i64 t692, .int .i64 0, .slice none 0 0]) ?_ 1 _ rfl; refine bkR ?_; refine blk_put (cs := #[.int .i64 0, .int .i64 0, .slice none 0 0]) ?_ 0 _ rfl; refine bkR ?_; exact BK698.out) hb); replace HB := hbB HB hb; (try clear hb); (try clear hb2); (try clear hk); (try clear hi); (try clear ho0); obtain ⟨hcz36_0, hcz36_1, hcz36_2, hfz36_0, hfz36_1, hfz36_2⟩ := cell3 BK679) | ((with_reducible refine gate_dst (N := 55) rfl ?_); (try (refine gate_guard (by rfl) ?_; dsimp only)); refine Kd.R_make (Kd.int .u8) _ 5 rfl (N := 55) rfl 22 _ _ rfl a0_0 rfl rfl Try.underlying22 (.int .u8 0) 1 info5 rfl (by decide) (by omega) 0 (ok := fun _ => True) (okp := fun _ => True) rfl (fun _ hk => hk) trivial (of_decide_eq_true asE) (Nat.le_trans (Nat.mul_le_mul_right _ (of_decide_eq_true asE : a0_0.toNat ≤ 281474976710656)) (by omega)) (Below.refl _ _) (Nat.le_refl _) ?_; intro v705 w37 ho38 hb hg_ hnew_; clear hg_ hnew_; (first | rw [← Ny704.out] at ho38 | (simp only [Int.reduceToNat] at ho38; rw [← Ny704.out] at ho38)); replace HO683 := kdB HO683 hb; have HO706 := Aside0.mk (Kd.R_lower (Kd.R_new' (Kd.R_new' (Kd.R_new' ho38 (Kd.R_lt (kdA HO689.out))) (Kd.R_lt (kdA HO696.out))) (Kd.R_lt (kdA HO701.out))) (below_size (hbA HB.out))); replace HO689 := Aside0.mk (Kd.R_elder' (kdA HO689.out) (Kd.R_base ho38) hb); replace HO696 := Aside0.mk (Kd.R_elder' (kdA HO696.out) (Kd.R_base ho38) hb); replace HO701 := Aside0.mk (Kd.R_elder' (kdA HO701.out) (Kd.R_base ho38) hb); replace BK679 := bkB BK679 hb; replace BK691 := bkB BK691 hb; replace BK698 := bkB BK698 hb; replace HB := hbB HB hb; clear hb ho38))
       go_loopg [17] kj2 (fun kq v17 w' => ∃ (x16_2 : List Int) (x17_2 : Int), v17 = .int .i64 x17_2 ∧ Aside0 (recoupref04_Combine.l0 kq t681 t699 x16_2 x17_2 = some (r1, r2, r3)) ∧ Aside0 (kq ≤ kj2) ∧ Aside0 (Kd.R (Kd.int .i64) 3 w' w.heap.size (fun _ => True) (.slice Ao23 t681.length co23) t681) ∧ Aside0 (Kd.R (Kd.int .u8) 5 w' w.heap.size (fun k_ => some k_ ≠ (v705 : Value).ownBlock ∧ some k_ ≠ ((.slice Ao28 t687.length co28) : Value).ownBlock ∧ some k_ ≠ ((.slice Ao34 t694.length co34) : Value).ownBlock) v700 t699) ∧ Aside0 (Kd.R (Kd.int .u8) 5 w' w.heap.size (fun k_ => some k_ ≠ (v700 : Value).ownBlock ∧ some k_ ≠ ((.slice Ao28 t687.length co28) : Value).ownBlock ∧ some k_ ≠ ((.slice Ao34 t694.length co34) : Value).ownBlock) v705 x16_2) ∧ Aside0 (Kd.R (Kd.int .u8) 5 w' w.heap.size (fun k_ => some k_ ≠ (v700 : Value).ownBlock ∧ some k_ ≠ (v705 : Value).ownBlock ∧ some k_ ≠ ((.slice Ao34 t694.length co34) : Value).ownBlock) (.slice Ao28 t687.length co28) t687) ∧ Aside0 (Kd.R (Kd.int .u8) 5 w' w.heap.size (fun k_ => some k_ ≠ (v700 : Value).ownBlock ∧ some k_ ≠ (v705 : Value).ownBlock ∧ some k_ ≠ ((.slice Ao28 t687.length co28) : Value).ownBlock) (.slice Ao34 t694.length co34) t694) ∧ Aside0 (w'.heap[gb679]? = some (.cells #[.int .i64 a0_0, .int .i64 a0_1, (.slice A0_2 l0_2.length c0_2)] 24 (0, 0))) ∧ Aside0 (w'.heap[gb691]? = some (.cells #[.int .i64 t685, .int .i64 t686, (.slice Ao28 t687.length co28)] 24 (0, 0))) ∧ Aside0 (w'.heap[gb698]? = some (.cells #[.int .i64 t692, .int .i64 t693, (.slice Ao34 t694.length co34)] 24 (0, 0))) ∧ Aside0 (Below w.heap.size w w'))
       case atStart => exact ⟨(y704), (0), rsE, H', ⟨Nat.le_refl _⟩, ⟨kdA HO683.out⟩, ⟨by (with_reducible repeat (first | apply Kd.R_alloc | apply Kd.R_drewN | apply Kd.R_drew)); exact Kd.R_mono HO701.out (fun _ hk => ⟨hk.2, ⟨hk.1.1.2, hk.1.2⟩⟩)⟩, ⟨by (with_reducible repeat (first | apply Kd.R_alloc | apply Kd.R_drewN | apply Kd.R_drew)); exact Kd.R_mono HO706.out (fun _ hk => ⟨hk.2, ⟨hk.1.1.2, hk.1.2⟩⟩)⟩, ⟨by (with_reducible repeat (first | apply Kd.R_alloc | apply Kd.R_drewN | apply Kd.R_drew)); exact Kd.R_mono HO689.out (fun _ hk => ⟨hk.1.2, ⟨hk.2, hk.1.1.2⟩⟩)⟩, ⟨by (with_reducible repeat (first | apply Kd.R_alloc | apply Kd.R_drewN | apply Kd.R_drew)); exact Kd.R_mono HO696.out (fun _ hk => ⟨hk.1.2, ⟨hk.2, hk.1.1.2⟩⟩)⟩, ⟨bkA BK679.out⟩, ⟨bkA BK691.out⟩, ⟨bkA BK698.out⟩, ⟨hbA HB.out⟩⟩
       case round =>
        clear H'
        (try clear c1); (try clear c2); (try clear p2 p2); (try clear c3); (try clear c4); (try clear c6); (try clear c12); (try clear c17); (try clear c18); (try clear c18b0); (try clear c18b1); (try clear c19); (try clear c19b0); (try clear c19b1); (try clear c21); (try clear c26); (try clear c31); (try clear c32); (try clear c35); (try clear c37); (try clear hcz10_0 hcz10_1 hcz10_2 hfz10_0 hfz10_1 hfz10_2); (try clear hcz20_0 hcz20_1 hcz20_2 hfz20_0 hfz20_1 hfz20_2); (try clear hcz22_0 hcz22_1 hcz22_2 hfz22_0 hfz22_1 hfz22_2); (try clear hcz27_0 hcz27_1 hcz27_2 hfz27_0 hfz27_1 hfz27_2); (try clear hcz33_0 hcz33_1 hcz33_2 hfz33_0 hfz33_1 hfz33_2); (try clear hcz36_0 hcz36_1 hcz36_2 hfz36_0 hfz36_1 hfz36_2); (try clear hcz7_0 hcz7_1 hcz7_2 hfz7_0 hfz7_1 hfz7_2); (try clear hcz9_0 hcz9_1 hcz9_2 hfz9_0 hfz9_1 hfz9_2)
        obtain ⟨x16_2, x17_2, rfl, HA, HK2, HO_7, HO_13, HO_16, HO_692002, HO_699002, BK679, BK691, BK698, HB⟩ := hrel
        cases gk with
        | zero => exact absurd HA.out (by simp [recoupref04_Combine.l0])
        | succ k2 =>
         have H := HA.out
         clear HA
         simp only [recoupref04_Combine.l0] at H
         by_cases c39 : x17_2 < (t681.length : Int)
         ·rw [if_pos c39] at H
          have c39b0 : decide (x17_2 < (t681.length : Int)) = true := decide_eq_true c39
          clear c39
          by_cases c40 : 0 ≤ x17_2
          ·rw [if_pos c40] at H
           have c40b0 : decide (0 ≤ x17_2) = true := decide_eq_true c40
           clear c40
           by_cases c41 : x17_2 < (t699.length : Int)
           ·rw [if_pos c41] at H
            have c41b0 : decide (x17_2 < (t699.length : Int)) = true := decide_eq_true c41
            clear c41
            by_cases c42 : 0 ≤ (rd t681 x17_2)
            ·rw [if_pos c42] at H
             have c42b0 : decide (0 ≤ (rd t681 x17_2)) = true := decide_eq_true c42
             clear c42
             by_cases c43 : (rd t681 x17_2) < (x16_2.length : Int)
             ·rw [if_pos c43] at H
              have c43b0 : decide ((rd t681 x17_2) < (x16_2.length : Int)) = true := decide_eq_true c43
              clear c43
              obtain ⟨y709, hy709⟩ : ∃ y_ : List Int, y_ = (x16_2.set ((rd t681 x17_2) : Int).toNat (rd t699 x17_2)) := ⟨_, rfl⟩
              replace H : (recoupref04_Combine.l0 k2 t681 t699 y709 (wrap64 (x17_2 + 1))) = some (r1, r2, r3) := by first | (rw [hy709]; with_reducible exact H) | (have H2_ := (Option.bind_some _ _).symm.trans H; rw [hy709]; with_reducible exact H2_) | (have H2_ := (Option.bind_some _ _).symm.trans H; with_reducible exact H2_) | with_reducible exact H | (rw [hy709]; exact H) | exact H
              have Ny709 := Aside0.mk hy709
              clear hy709
              have H' := Aside0.mk H
              clear H
              try go_wp2
              replace HO_7 := Aside0.mk (Kd.R_drew HO_7.out)
              replace HO_13 := Aside0.mk (Kd.R_drew HO_13.out)
              replace HO_16 := Aside0.mk (Kd.R_drew HO_16.out)
              replace HO_692002 := Aside0.mk (Kd.R_drew HO_692002.out)
              replace HO_699002 := Aside0.mk (Kd.R_drew HO_699002.out)
              replace BK679 := Aside0.mk (blk_drew BK679.out)
              replace BK691 := Aside0.mk (blk_drew BK691.out)
              replace BK698 := Aside0.mk (blk_drew BK698.out)
              replace HB := Aside0.mk (below_drew1 HB.out)
              have p707 : 0 ≤ (x17_2 : Int) := of_decide_eq_true asE
              have q707 : x17_2 < (t681.length : Int) := of_decide_eq_true asE
              obtain ⟨ad707, e707, hx707_0⟩ := Kd.at_int (Kd.R_reads' HO_7.out).2.2 x17_2 p707 q707
              cases e707
              replace p707 := eq_true p707
              replace q707 := eq_true q707
              obtain ⟨Ao46, co46, eo46⟩ := Kd.R_slice HO_13.out
              (first | subst eo46 | (injection eo46 with f1_ f2_ f3_; have f4_ := f1_.symm; have f5_ := f3_.symm; clear f1_ f2_ f3_; subst f4_; subst f5_))
              have p708 : 0 ≤ (x17_2 : Int) := of_decide_eq_true asE
              have q708 : x17_2 < (t699.length : Int) := of_decide_eq_true asE
              obtain ⟨ad708, e708, hx708_0⟩ := Kd.at_int (Kd.R_reads' HO_13.out).2.2 x17_2 p708 q708
              cases e708
              replace p708 := eq_true p708
              replace q708 := eq_true q708
              have p44 : 0 ≤ ((rd t681 x17_2) : Int) := of_decide_eq_true asE
              have q44 : ((rd t681 x17_2) : Int) < ((x16_2.length : Int) : Int) := of_decide_eq_true asE
              obtain ⟨go44, co44, eo44, gb44, gl44, cl44, HG44⟩ := Kd.R_form HO_16.out (by omega)
              (first | cases eo44 | (injection eo44 with ea_ en_ ec_; (first | subst ea_ | (injection ea_ with ea_; subst ea_)); subst ec_; clear en_))
              have GB44 := Aside0.mk gb44
              have GG44 := Aside0.mk HG44
              clear gb44 gl44 HG44
              obtain ⟨hx44_0, hf44_0⟩ := Kd.R_celln 0 HO_16.out ((rd t681 x17_2) : Int) p44 q44
              replace p44 := eq_true p44
              replace q44 := eq_true q44
              have HP47 := Kd.R_putn HO_16.out ((rd t681 x17_2) : Int) (rd t699 x17_2)
              rw [← Ny709.out] at HP47
              have HQ47 := Aside0.mk HP47
              clear HP47
              refine start_ (n := 11) (S := fun w' => w'.cell? (ad707.add (x17_2).toNat) = some (.int .i64 (rd t681 x17_2)) ∧ w'.cell? (ad708.add (x17_2).toNat) = some (.int .u8 (rd t699 x17_2))) (ds := [10]) (.replicate 11 false) (by kernel_rfl) rfl rfl ⟨hx707_0, hx708_0⟩ (fun hHeld => ?_); refine with_tabW recoupref04_Combine.tab13 recoupref04_Combine.bits13 (fun HT_ HW_ => ?_)
              generalize wr.drew = w45 at HO_7 HO_13 HO_16 HO_692002 HO_699002 BK679 BK691 BK698 HB GG44 HQ47 hf44_0 hx44_0 hx707_0 hx708_0 hHeld ⊢
              refine pu 0 (some 62) (mB 11 1) HT_ ?_
              refine pu 1 (some 63) (mB 11 3) HT_ ?_
              refine pu 2 (some 64) (mB 11 7) HT_ ?_
              refine pu 3 (some 65) (mB 11 15) HT_ ?_
              refine pu 5 (some 67) (mB 11 47) HT_ ?_
              refine pu 6 (some 68) (mB 11 111) HT_ ?_
              refine pu 7 (some 69) (mB 11 239) HT_ ?_
              refine tk2 4 (some 66) (mB 11 255) HT_ HW_ hHeld ?_
              refine tk2 8 (some 70) (mB 11 511) HT_ HW_ hHeld ?_
              refine pu 9 (some 71) (mB 11 1023) HT_ ?_
              refine last_ (i := 10) (N := none) (mB 11 2047) rfl rfl (one_of HT_.out (by kernel_rfl)) (by decide) (fun K hK => ?_)
              refine skip_ (w1 := ?_) (by rfl) rfl ?_ ?_
              rotate_left
              ·go_simp
               rfl
              refine hK.out _ _ ?_
              clear hK K
              refine done_ (done_of HT_.out (by kernel_rfl)) ?_
              try go_wp2
              go_roundg k2
              case measure => have := HJ2.out; have := HK2.out; omega
              case rel => exact ⟨(y709), (wrap64 (x17_2 + 1)), rsE, H', ⟨by have := HJ2.out; have := HK2.out; omega⟩, ⟨by (with_reducible repeat (first | apply Kd.R_alloc | apply Kd.R_drewN | apply Kd.R_drew)); exact Kd.R_mono (Kd.R_far (p := ⟨go44, ((rd t681 x17_2) : Int).toNat, none⟩) (Kd.R_types HO_7.out GG44.out (by decide)) (fun _ hk => hk.2) (.int .u8 (rd t699 x17_2))) (fun _ hk => trivial)⟩, ⟨by (with_reducible repeat (first | apply Kd.R_alloc | apply Kd.R_drewN | apply Kd.R_drew)); exact Kd.R_mono (Kd.R_far (p := ⟨go44, ((rd t681 x17_2) : Int).toNat, none⟩) (Kd.R_mono HO_13.out (fun k_ hk => (⟨hk, fun e_ => hk.1 (by rw [e_]; rfl)⟩ : _ ∧ k_ ≠ go44))) (fun _ hk => hk.2) (.int .u8 (rd t699 x17_2))) (fun _ hk => ⟨hk.1.1, ⟨hk.1.2.1, hk.1.2.2⟩⟩)⟩, ⟨kdA HQ47.out⟩, ⟨by (with_reducible repeat (first | apply Kd.R_alloc | apply Kd.R_drewN | apply Kd.R_drew)); exact Kd.R_mono (Kd.R_far (p := ⟨go44, ((rd t681 x17_2) : Int).toNat, none⟩) (Kd.R_mono HO_692002.out (fun k_ hk => (⟨hk, fun e_ => hk.2.1 (by rw [e_]; rfl)⟩ : _ ∧ k_ ≠ go44))) (fun _ hk => hk.2) (.int .u8 (rd t699 x17_2))) (fun _ hk => ⟨hk.1.1, ⟨hk.1.2.1, hk.1.2.2⟩⟩)⟩, ⟨by (with_reducible repeat (first | apply Kd.R_alloc | apply Kd.R_drewN | apply Kd.R_drew)); exact Kd.R_mono (Kd.R_far (p := ⟨go44, ((rd t681 x17_2) : Int).toNat, none⟩) (Kd.R_mono HO_699002.out (fun k_ hk => (⟨hk, fun e_ => hk.2.1 (by rw [e_]; rfl)⟩ : _ ∧ k_ ≠ go44))) (fun _ hk => hk.2) (.int .u8 (rd t699 x17_2))) (fun _ hk => ⟨hk.1.1, ⟨hk.1.2.1, hk.1.2.2⟩⟩)⟩, ⟨by refine bkR ?_; refine blk_far ?_ (by have h_ := Kd.R_ne HO_16.out BK679.out (by decide); intro e_; exact h_ (by rw [e_]; rfl)) _; refine bkR ?_; exact BK679.out⟩, ⟨by refine bkR ?_; refine blk_far ?_ (by have h_ := Kd.R_ne HO_16.out BK691.out (by decide); intro e_; exact h_ (by rw [e_]; rfl)) _; refine bkR ?_; exact BK691.out⟩, ⟨by refine bkR ?_; refine blk_far ?_ (by have h_ := Kd.R_ne HO_16.out BK698.out (by decide); intro e_; exact h_ (by rw [e_]; rfl)) _; refine bkR ?_; exact BK698.out⟩, ⟨hbA HB.out⟩⟩
             ·rw [if_neg c43] at H
              exact absurd H (by simp)
            ·rw [if_neg c42] at H
             exact absurd H (by simp)
           ·rw [if_neg c41] at H
            exact absurd H (by simp)
          ·rw [if_neg c40] at H
           exact absurd H (by simp)
         ·rw [if_neg c39] at H
          have c39b0 : decide (x17_2 < (t681.length : Int)) = false := decide_eq_false c39
          clear c39
          simp only [Option.some.injEq, Prod.mk.injEq] at H
          obtain ⟨rfl, rfl, rfl⟩ := H
          go_wp2
          go_ret3
          exact ⟨_, rfE, by (with_reducible repeat (first | apply Kd.R_alloc | apply Kd.R_drewN | apply Kd.R_drew)); exact Kd.R_mono HO_16.out (fun _ hk => trivial), hbA HB.out⟩
      ·rw [if_neg c19] at H
       exact absurd H (by simp)
     ·rw [if_neg c18] at H
      exact absurd H (by simp)
    ·replace c17 := Bool.eq_false_iff.mpr c17
     subst c17
     rw [if_neg nofT] at H
     simp only [Option.some.injEq, Prod.mk.injEq] at H
     obtain ⟨rfl, rfl, rfl⟩ := H
     obtain ⟨hcz48_0, hcz48_1, hcz48_2, hfz48_0, hfz48_1, hfz48_2⟩ := cell3 BK679
     go_wp2_with (first | ((with_reducible refine gC 37 rfl ?_); refine cG (some 30) Try.func37 #[.agg #[.int .i64 a0_0, .int .i64 a0_1, .slice A0_2 l0_2.length c0_2]] ?_; (with_reducible refine (recoupref04_First.calls kj2 a0_0 a0_1 _ _ l0_2 t681 t684 _ ?side1 ?side2 A13.out).mono ?_); (case side1 => exact kcB HR0_2 HB); (case side2 => exact HC0_2.out); rintro e w49 ⟨v682, rfl, ho0, hb⟩; refine ⟨_, rfl, ?_⟩; have HO683 := Aside0.mk (Kd.R_lower ho0 (below_size (hbA HB.out))); replace BK679 := bkB BK679 hb; replace HB := hbB HB hb; (try clear hb); (try clear hb2); (try clear hk); (try clear hi); (try clear ho0); obtain ⟨hcz50_0, hcz50_1, hcz50_2, hfz50_0, hfz50_1, hfz50_2⟩ := cell3 BK679; obtain ⟨Ao51, co51, eo51⟩ := Kd.R_slice HO683.out; subst eo51) | ((with_reducible refine gC 46 rfl ?_); refine cG (some 36) Try.func46 #[.agg #[.int .i64 a0_0, .int .i64 a0_1, .slice A0_2 l0_2.length c0_2], .slice Ao51 t681.length co51] ?_; (with_reducible refine (recoupref03_Pick.calls kj2 a0_0 a0_1 _ _ l0_2 _ _ t681 t685 t686 t687 t690 _ ?side1 ?side2 ?side3 ?side4 A14.out).mono ?_); (case side1 => exact kcB HR0_2 HB); (case side2 => exact HC0_2.out); (case side3 => exact kcA (Kd.R_reads' HO683.out).2.2); (case side4 => exact (Kd.R_reads' HO683.out).2.1); rintro e w52 ⟨v688, rfl, ho0, hb⟩; refine ⟨_, rfl, ?_⟩; replace HO683 := kdB HO683 hb; have HO689 := Aside0.mk (Kd.R_lower ho0 (below_size (hbA HB.out))); replace BK679 := bkB BK679 hb; replace HB := hbB HB hb; (try clear hb); (try clear hb2); (try clear hk); (try clear hi); (try clear ho0)) | ((with_reducible refine gD 9 rfl ?_); (try (refine gate_guard (by rfl) ?_; dsimp only)); refine bE 9 #[.int .i64 0, .int .i64 0, .slice none 0 0] 24 ?_; intro gb691 hg w53 hbox hb; replace HO683 := kdB HO683 hb; replace HO689 := kdB HO689 hb; have BK691 := Aside0.mk (hbox); have GW691 := hbS HB hg; have GE691 := hbS HB hg; replace HB := hbB HB hb; have NB679_691 := neL BK679 hg; have NB691_679 := neG BK679 hg; replace BK679 := bkB BK679 hb; clear hb hbox hg; have hnb54 := NB691_679.out; have hnc54 := NB679_691.out; obtain ⟨hcz55_0, hcz55_1, hcz55_2, hfz55_0, hfz55_1, hfz55_2⟩ := cell3 BK691; obtain ⟨Ao56, co56, eo56⟩ := Kd.R_slice HO689.out; subst eo56) | ((with_reducible refine gC 35 rfl ?_); refine cG (some 41) Try.func35 #[.agg #[.int .i64 t685, .int .i64 t686, .slice Ao56 t687.length co56]] ?_; (with_reducible refine (recoupref03_Transpose.calls kj2 t685 t686 _ _ t687 t692 t693 t694 t697 _ ?side1 ?side2 A15.out).mono ?_); (case side1 => refine (Kd.R_reads' (e := 5) (base := w.heap.size) (ok := fun k_ => True) (n := t687.length) (c := co56) ?_).2.2; exact (by (with_reducible repeat (first | apply Kd.R_alloc | apply Kd.R_drewN | apply Kd.R_drew)); exact (Kd.R_mono (Kd.R_far (p := ⟨gb691, 2, none⟩) (Kd.R_far (p := ⟨gb691, 1, none⟩) (Kd.R_far (p := ⟨gb691, 0, none⟩) (Kd.R_types HO689.out BK691.out (by decide)) (fun _ hk => hk.2) (.int .i64 t685)) (fun _ hk => hk.2) (.int .i64 t686)) (fun _ hk => hk.2) (.slice Ao56 t687.length co56)) (fun _ h_ => h_.1)))); (case side2 => exact (Kd.R_reads' HO689.out).2.1); rintro e w57 ⟨v695, rfl, ho0, hb⟩; refine ⟨_, rfl, ?_⟩; replace HO683 := Aside0.mk (Kd.R_below (by (with_reducible repeat (first | apply Kd.R_alloc | apply Kd.R_drewN | apply Kd.R_drew)); exact (Kd.R_mono (Kd.R_far (p := ⟨gb691, 2, none⟩) (Kd.R_far (p := ⟨gb691, 1, none⟩) (Kd.R_far (p := ⟨gb691, 0, none⟩) (Kd.R_types HO683.out BK691.out (by decide)) (fun _ hk => hk.2) (.int .i64 t685)) (fun _ hk => hk.2) (.int .i64 t686)) (fun _ hk => hk.2) (.slice Ao56 t687.length co56)) (fun _ h_ => h_.1))) hb); have HO696 := Aside0.mk (Kd.R_lower (Kd.R_new' ho0 (Kd.R_lt (by (with_reducible repeat (first | apply Kd.R_alloc | apply Kd.R_drewN | apply Kd.R_drew)); exact (Kd.R_mono (Kd.R_far (p := ⟨gb691, 2, none⟩) (Kd.R_far (p := ⟨gb691, 1, none⟩) (Kd.R_far (p := ⟨gb691, 0, none⟩) (Kd.R_types HO689.out BK691.out (by decide)) (fun _ hk => hk.2) (.int .i64 t685)) (fun _ hk => hk.2) (.int .i64 t686)) (fun _ hk => hk.2) (.slice Ao56 t687.length co56)) (fun _ h_ => h_.1))))) (below_size (hbA HB.out))); replace HO689 := Aside0.mk (Kd.R_elder' (by (with_reducible repeat (first | apply Kd.R_alloc | apply Kd.R_drewN | apply Kd.R_drew)); exact (Kd.R_mono (Kd.R_far (p := ⟨gb691, 2, none⟩) (Kd.R_far (p := ⟨gb691, 1, none⟩) (Kd.R_far (p := ⟨gb691, 0, none⟩) (Kd.R_types HO689.out BK691.out (by decide)) (fun _ hk => hk.2) (.int .i64 t685)) (fun _ hk => hk.2) (.int .i64 t686)) (fun _ hk => hk.2) (.slice Ao56 t687.length co56)) (fun _ h_ => h_.1))) (Kd.R_base ho0) hb); replace BK679 := Aside0.mk (blk_below (g := gb679) (o := .cells #[.int .i64 a0_0, .int .i64 a0_1, .slice A0_2 l0_2.length c0_2] 24 (0, 0)) (by refine bkR ?_; refine blk_far ?_ NB679_691.out _; refine bkR ?_; refine blk_far ?_ NB679_691.out _; refine bkR ?_; refine blk_far ?_ NB679_691.out _; refine bkR ?_; exact BK679.out) hb); replace BK691 := Aside0.mk (blk_below (g := gb691) (o := .cells #[.int .i64 t685, .int .i64 t686, .slice Ao56 t687.length co56] 24 (0, 0)) (by refine bkR ?_; refine blk_put (cs := #[.int .i64 t685, .int .i64 t686, .slice none 0 0]) ?_ 2 _ rfl; refine bkR ?_; refine blk_put (cs := #[.int .i64 t685, .int .i64 0, .slice none 0 0]) ?_ 1 _ rfl; refine bkR ?_; refine blk_put (cs := #[.int .i64 0, .int .i64 0, .slice none 0 0]) ?_ 0 _ rfl; refine bkR ?_; exact BK691.out) hb); replace HB := hbB HB hb; (try clear hb); (try clear hb2); (try clear hk); (try clear hi); (try clear ho0)) | ((with_reducible refine gD 11 rfl ?_); (try (refine gate_guard (by rfl) ?_; dsimp only)); refine bE 11 #[.int .i64 0, .int .i64 0, .slice none 0 0] 24 ?_; intro gb698 hg w58 hbox hb; replace HO683 := kdB HO683 hb; replace HO689 := kdB HO689 hb; replace HO696 := kdB HO696 hb; have BK698 := Aside0.mk (hbox); have GW698 := hbS HB hg; have GE698 := hbS HB hg; replace HB := hbB HB hb; have NB679_698 := neL BK679 hg; have NB698_679 := neG BK679 hg; replace BK679 := bkB BK679 hb; have NB691_698 := neL BK691 hg; have NB698_691 := neG BK691 hg; replace BK691 := bkB BK691 hb; clear hb hbox hg; have hnb59 := NB698_679.out; have hnc59 := NB679_698.out; have hnb60 := NB698_691.out; have hnc60 := NB691_698.out; obtain ⟨hcz61_0, hcz61_1, hcz61_2, hfz61_0, hfz61_1, hfz61_2⟩ := cell3 BK698; obtain ⟨Ao62, co62, eo62⟩ := Kd.R_slice HO696.out; subst eo62) | ((with_reducible refine gC 31 rfl ?_); refine cG (some 47) Try.func31 #[.agg #[.int .i64 t692, .int .i64 t693, .slice Ao62 t694.length co62], .slice A1 l1.length c1] ?_; (with_reducible refine (recoupref04_Solve.calls kj2 t692 t693 _ _ t694 _ _ l1 t699 false t703 _ ?side1 ?side2 ?side3 ?side4 A16.out).mono ?_); (case side1 => refine (Kd.R_reads' (e := 5) (base := w.heap.size) (ok := fun k_ => (True ∧ some k_ ≠ (.slice Ao56 t687.length co56 : Value).ownBlock)) (n := t694.length) (c := co62) ?_).2.2; exact (by (with_reducible repeat (first | apply Kd.R_alloc | apply Kd.R_drewN | apply Kd.R_drew)); exact (Kd.R_mono (Kd.R_far (p := ⟨gb698, 2, none⟩) (Kd.R_far (p := ⟨gb698, 1, none⟩) (Kd.R_far (p := ⟨gb698, 0, none⟩) (Kd.R_types HO696.out BK698.out (by decide)) (fun _ hk => hk.2) (.int .i64 t692)) (fun _ hk => hk.2) (.int .i64 t693)) (fun _ hk => hk.2) (.slice Ao62 t694.length co62)) (fun _ h_ => h_.1)))); (case side2 => exact (Kd.R_reads' HO696.out).2.1); (case side3 => exact Kd.C_below HR1.out (hbA HB.out)); (case side4 => exact HC1.out); rintro e w63 ⟨v700, rfl, ho0, hb⟩; refine ⟨_, rfl, ?_⟩; replace HO683 := Aside0.mk (Kd.R_below (by (with_reducible repeat (first | apply Kd.R_alloc | apply Kd.R_drewN | apply Kd.R_drew)); exact (Kd.R_mono (Kd.R_far (p := ⟨gb698, 2, none⟩) (Kd.R_far (p := ⟨gb698, 1, none⟩) (Kd.R_far (p := ⟨gb698, 0, none⟩) (Kd.R_types HO683.out BK698.out (by decide)) (fun _ hk => hk.2) (.int .i64 t692)) (fun _ hk => hk.2) (.int .i64 t693)) (fun _ hk => hk.2) (.slice Ao62 t694.length co62)) (fun _ h_ => h_.1))) hb); have HO701 := Aside0.mk (Kd.R_lower (Kd.R_new' (Kd.R_new' ho0 (Kd.R_lt (by (with_reducible repeat (first | apply Kd.R_alloc | apply Kd.R_drewN | apply Kd.R_drew)); exact (Kd.R_mono (Kd.R_far (p := ⟨gb698, 2, none⟩) (Kd.R_far (p := ⟨gb698, 1, none⟩) (Kd.R_far (p := ⟨gb698, 0, none⟩) (Kd.R_types HO689.out BK698.out (by decide)) (fun _ hk => hk.2) (.int .i64 t692)) (fun _ hk => hk.2) (.int .i64 t693)) (fun _ hk => hk.2) (.slice Ao62 t694.length co62)) (fun _ h_ => h_.1))))) (Kd.R_lt (by (with_reducible repeat (first | apply Kd.R_alloc | apply Kd.R_drewN | apply Kd.R_drew)); exact (Kd.R_mono (Kd.R_far (p := ⟨gb698, 2, none⟩) (Kd.R_far (p := ⟨gb698, 1, none⟩) (Kd.R_far (p := ⟨gb698, 0, none⟩) (Kd.R_types HO696.out BK698.out (by decide)) (fun _ hk => hk.2) (.int .i64 t692)) (fun _ hk => hk.2) (.int .i64 t693)) (fun _ hk => hk.2) (.slice Ao62 t694.length co62)) (fun _ h_ => h_.1))))) (below_size (hbA HB.out))); replace HO689 := Aside0.mk (Kd.R_elder' (by (with_reducible repeat (first | apply Kd.R_alloc | apply Kd.R_drewN | apply Kd.R_drew)); exact (Kd.R_mono (Kd.R_far (p := ⟨gb698, 2, none⟩) (Kd.R_far (p := ⟨gb698, 1, none⟩) (Kd.R_far (p := ⟨gb698, 0, none⟩) (Kd.R_types HO689.out BK698.out (by decide)) (fun _ hk => hk.2) (.int .i64 t692)) (fun _ hk => hk.2) (.int .i64 t693)) (fun _ hk => hk.2) (.slice Ao62 t694.length co62)) (fun _ h_ => h_.1))) (Kd.R_base ho0) hb); replace HO696 := Aside0.mk (Kd.R_elder' (by (with_reducible repeat (first | apply Kd.R_alloc | apply Kd.R_drewN | apply Kd.R_drew)); exact (Kd.R_mono (Kd.R_far (p := ⟨gb698, 2, none⟩) (Kd.R_far (p := ⟨gb698, 1, none⟩) (Kd.R_far (p := ⟨gb698, 0, none⟩) (Kd.R_types HO696.out BK698.out (by decide)) (fun _ hk => hk.2) (.int .i64 t692)) (fun _ hk => hk.2) (.int .i64 t693)) (fun _ hk => hk.2) (.slice Ao62 t694.length co62)) (fun _ h_ => h_.1))) (Kd.R_base ho0) hb); replace BK679 := Aside0.mk (blk_below (g := gb679) (o := .cells #[.int .i64 a0_0, .int .i64 a0_1, .slice A0_2 l0_2.length c0_2] 24 (0, 0)) (by refine bkR ?_; refine blk_far ?_ NB679_698.out _; refine bkR ?_; refine blk_far ?_ NB679_698.out _; refine bkR ?_; refine blk_far ?_ NB679_698.out _; refine bkR ?_; exact BK679.out) hb); replace BK691 := Aside0.mk (blk_below (g := gb691) (o := .cells #[.int .i64 t685, .int .i64 t686, .slice Ao56 t687.length co56] 24 (0, 0)) (by refine bkR ?_; refine blk_far ?_ NB691_698.out _; refine bkR ?_; refine blk_far ?_ NB691_698.out _; refine bkR ?_; refine blk_far ?_ NB691_698.out _; refine bkR ?_; exact BK691.out) hb); replace BK698 := Aside0.mk (blk_below (g := gb698) (o := .cells #[.int .i64 t692, .int .i64 t693, .slice Ao62 t694.length co62] 24 (0, 0)) (by refine bkR ?_; refine blk_put (cs := #[.int .i64 t692, .int .i64 t693, .slice none 0 0]) ?_ 2 _ rfl; refine bkR ?_; refine blk_put (cs := #[.int .i64 t692, .int .i64 0, .slice none 0 0]) ?_ 1 _ rfl; refine bkR ?_; refine blk_put (cs := #[.int .i64 0, .int .i64 0, .slice none 0 0]) ?_ 0 _ rfl; refine bkR ?_; exact BK698.out) hb); replace HB := hbB HB hb; (try clear hb); (try clear hb2); (try clear hk); (try clear hi); (try clear ho0)))
     go_ret3
     exact ⟨_, rfE, nilE, hbA HB.out⟩

end Go.Proofs.Ytccfbhnhedoggaa.Q
