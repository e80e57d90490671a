/- Written by drive.py (a program of this repo, over the kit's print): each Go function named here answers what the Lean function beside it answers, wherever that one answers, in every world that meets the stated premises. -/
import Derived.Test.YtccfbhnhedoggaaQx0
import Derived.Test.YtccfbhnhedoggaaQx114
import Derived.Test.YtccfbhnhedoggaaQx116
import Derived.Test.YtccfbhnhedoggaaQx121
import Derived.Test.YtccfbhnhedoggaaQx122
import Derived.Test.YtccfbhnhedoggaaQx125
namespace Go.Proofs.Ytccfbhnhedoggaa.Q
open Go.RowKit Go.Proofs.YtccfbhnhedoggaaW.PrintWords Go.Proofs.YtccfbhnhedoggaaW.PrintLast Go.Proofs.YtccfbhnhedoggaaW.PrintMore
attribute [local go_sem] max2_int min2_int max_two min_two max_three min_three max_four min_four   -- for this text's walks alone
set_option linter.unusedVariables false
set_option linter.unusedSimpArgs false

/-! ### recouplaw04_GaussStays: function 5 -/
mutual
def recouplaw04_GaussStays.j0 : Nat → Int → Int → Int → Bool → Int → Int → List Int → Int → Int → List Int → Option (Bool)
  | 0, _, _, _, _, _, _, _, _, _, _ => none
  | k + 1, x2, x7, x8, x57, x358000, x358001, x358002, x369000, x369001, x369002 => if x57 = true then (some false) else (if x7 < 0 then (recouplaw04_GaussStays.j1 k x2 x7 x8 true x358000 x358001 x358002 x369000 x369001 x369002) else (if x8 < 0 then (recouplaw04_GaussStays.j1 k x2 x7 x8 true x358000 x358001 x358002 x369000 x369001 x369002) else (if x7 ≥ x358000 then (recouplaw04_GaussStays.j1 k x2 x7 x8 true x358000 x358001 x358002 x369000 x369001 x369002) else (if x8 ≥ x358000 then (recouplaw04_GaussStays.j1 k x2 x7 x8 true x358000 x358001 x358002 x369000 x369001 x369002) else (if x7 = x8 then (recouplaw04_GaussStays.j1 k x2 x7 x8 true x358000 x358001 x358002 x369000 x369001 x369002) else (recouplaw04_GaussStays.j1 k x2 x7 x8 (x2 == 0) x358000 x358001 x358002 x369000 x369001 x369002))))))
def recouplaw04_GaussStays.j1 : Nat → Int → Int → Int → Bool → Int → Int → List Int → Int → Int → List Int → Option (Bool)
  | 0, _, _, _, _, _, _, _, _, _, _ => none
  | k + 1, x2, x7, x8, x84, x358000, x358001, x358002, x369000, x369001, x369002 => if x84 = true then ((recouplaw04_anchored.f).bind fun t382 => (some t382)) else ((recoupref03_Copy.f x358000 x358001 x358002).bind fun bt383 => (recouplaw04_GaussStays.l0 k x2 x7 x8 0 x358000 x358001 x358002 x369000 x369001 x369002 bt383.1 bt383.2.1 bt383.2.2))
def recouplaw04_GaussStays.l0 : Nat → Int → Int → Int → Int → Int → Int → List Int → Int → Int → List Int → Int → Int → List Int → Option (Bool)
  | 0, _, _, _, _, _, _, _, _, _, _, _, _, _ => none
  | k + 1, x2, x7, x8, x16, x358000, x358001, x358002, x369000, x369001, x369002, x389000, x389001, x389002 => if x16 < x358001 then ((recoupref03_At.f x358000 x358001 x358002 x7 x16).bind fun t389 => ((recoupref03_At.f x358000 x358001 x358002 x8 x16).bind fun t390 => ((recoupref01_Mul.f k x2 t389).bind fun t391 => (if 0 ≤ (wrap64 ((wrap64 (x8 * x358001)) + x16)) then (if (wrap64 ((wrap64 (x8 * x358001)) + x16)) < (x389002.length : Int) then (recouplaw04_GaussStays.l0 k x2 x7 x8 (wrap64 (x16 + 1)) x358000 x358001 x358002 x369000 x369001 x369002 x389000 x389001 (x389002.set ((wrap64 ((wrap64 (x8 * x358001)) + x16)) : Int).toNat (Go.bits .xor .u8 t391 t390))) else (none)) else (none))))) else ((gauss_Reduce.f x389000 x389001 x389002).bind fun bt393 => ((recouplaw04_anchored.f).bind fun t403 => (if t403 = true then (if bt393.2.2.2.2 = 0 then ((recoupref03_Like.f bt393.1 bt393.2.1 bt393.2.2.1 x369000 x369001 x369002).bind fun t404 => (some t404)) else (some false)) else (some false))))
end
def recouplaw04_GaussStays.f (k : Nat) (a0_0 : Int) (a0_1 : Int) (l0_2 : List Int) (a1_0 : Int) (a1_1 : Int) (a2 : Int) : Option (Bool) := (gauss_Reduce.f a0_0 a0_1 l0_2).bind fun bt359 => ((recoupref03_Right.f a0_0 a0_1 l0_2).bind fun t369 => (if t369 = true then ((gauss_Reduce.f bt359.1 bt359.2.1 bt359.2.2.1).bind fun bt371 => (if bt359.2.2.2.2 = 0 then (if bt371.2.2.2.2 = 0 then ((recoupref03_Like.f bt359.1 bt359.2.1 bt359.2.2.1 bt371.1 bt371.2.1 bt371.2.2.1).bind fun t381 => (recouplaw04_GaussStays.j0 k a2 a1_0 a1_1 (!t381) a0_0 a0_1 l0_2 bt359.1 bt359.2.1 bt359.2.2.1)) else (recouplaw04_GaussStays.j0 k a2 a1_0 a1_1 true a0_0 a0_1 l0_2 bt359.1 bt359.2.1 bt359.2.2.1)) else (recouplaw04_GaussStays.j0 k a2 a1_0 a1_1 true a0_0 a0_1 l0_2 bt359.1 bt359.2.1 bt359.2.2.1))) else ((recouplaw04_anchored.f).bind fun t370 => (if t370 = true then (some (bt359.2.2.2.2 != 0)) else (some false)))))
theorem recouplaw04_GaussStays.mono_l : ∀ k, (∀ y0 y1 y2 y3 y4 y5 y6 y7 y8 y9, LeO (recouplaw04_GaussStays.j0 k y0 y1 y2 y3 y4 y5 y6 y7 y8 y9) (recouplaw04_GaussStays.j0 (k + 1) y0 y1 y2 y3 y4 y5 y6 y7 y8 y9)) ∧ (∀ y0 y1 y2 y3 y4 y5 y6 y7 y8 y9, LeO (recouplaw04_GaussStays.j1 k y0 y1 y2 y3 y4 y5 y6 y7 y8 y9) (recouplaw04_GaussStays.j1 (k + 1) y0 y1 y2 y3 y4 y5 y6 y7 y8 y9)) ∧ (∀ y0 y1 y2 y3 y4 y5 y6 y7 y8 y9 y10 y11 y12, LeO (recouplaw04_GaussStays.l0 k y0 y1 y2 y3 y4 y5 y6 y7 y8 y9 y10 y11 y12) (recouplaw04_GaussStays.l0 (k + 1) y0 y1 y2 y3 y4 y5 y6 y7 y8 y9 y10 y11 y12))
  | 0 => ⟨fun _ _ _ _ _ _ _ _ _ _ r h => by simp [recouplaw04_GaussStays.j0] at h, fun _ _ _ _ _ _ _ _ _ _ r h => by simp [recouplaw04_GaussStays.j1] at h, fun _ _ _ _ _ _ _ _ _ _ _ _ _ r h => by simp [recouplaw04_GaussStays.l0] at h⟩
  | k + 1 => by
    obtain ⟨ih0, ih1, ih2⟩ := recouplaw04_GaussStays.mono_l k
    refine ⟨?_, ?_, ?_⟩
    all_goals (intros; first | unfold recouplaw04_GaussStays.j0 | unfold recouplaw04_GaussStays.j1 | unfold recouplaw04_GaussStays.l0)
    all_goals repeat' first | (with_reducible exact ih0 _ _ _ _ _ _ _ _ _ _) | (with_reducible exact ih1 _ _ _ _ _ _ _ _ _ _) | (with_reducible exact ih2 _ _ _ _ _ _ _ _ _ _ _ _ _) | (with_reducible exact recoupref01_Mul.mono _ _ _) | (with_reducible exact LeO.refl _) | (with_reducible exact LeO.none _) | (with_reducible refine LeO.ite ?_ ?_) | (with_reducible refine LeO.bind ?_ (fun _ => ?_)) | exact ih0 _ _ _ _ _ _ _ _ _ _ | exact ih1 _ _ _ _ _ _ _ _ _ _ | exact ih2 _ _ _ _ _ _ _ _ _ _ _ _ _ | exact recoupref01_Mul.mono _ _ _ | exact LeO.none _ | refine LeO.ite ?_ ?_ | refine LeO.bind ?_ (fun _ => ?_)
theorem recouplaw04_GaussStays.mono : ∀ a0 a1 a2 a3 a4 a5 k, LeO (recouplaw04_GaussStays.f k a0 a1 a2 a3 a4 a5) (recouplaw04_GaussStays.f (k + 1) a0 a1 a2 a3 a4 a5) := by
  intro a0 a1 a2 a3 a4 a5 k
  obtain ⟨ih0, ih1, ih2⟩ := recouplaw04_GaussStays.mono_l k
  unfold recouplaw04_GaussStays.f
  repeat' first
      | (with_reducible exact ih0 _ _ _ _ _ _ _ _ _ _)
      | (with_reducible exact ih1 _ _ _ _ _ _ _ _ _ _)
      | (with_reducible exact ih2 _ _ _ _ _ _ _ _ _ _ _ _ _)
      | (with_reducible exact recoupref01_Mul.mono _ _ _)
      | (with_reducible exact LeO.refl _)
      | (with_reducible exact LeO.none _)
      | (with_reducible refine LeO.ite ?_ ?_)
      | (with_reducible refine LeO.bind ?_ (fun _ => ?_))
      | exact ih0 _ _ _ _ _ _ _ _ _ _
      | exact ih1 _ _ _ _ _ _ _ _ _ _
      | exact ih2 _ _ _ _ _ _ _ _ _ _ _ _ _
      | exact recoupref01_Mul.mono _ _ _
      | exact LeO.none _
      | refine LeO.ite ?_ ?_
      | refine LeO.bind ?_ (fun _ => ?_)
def recouplaw04_GaussStays.T14 : Bool × List (List Nat × List Nat) := (true, [([], []), ([], []), ([], []), ([0, 1, 2], [0, 1, 2]), ([], []), ([], []), ([], []), ([4, 5, 6, 3], [4, 5, 6]), ([3, 7, 0, 1, 2, 3], [3]), ([7, 8, 0, 1, 2, 3, 4, 5, 6, 7, 8], [7])])
def recouplaw04_GaussStays.B14 : List Nat := [0, 0, 0, 7, 0, 0, 0, 127, 255, 511]
theorem recouplaw04_GaussStays.tab14 : rtab .any (opsOf Try.f5 14) = recouplaw04_GaussStays.T14 := by kernel_rfl
theorem recouplaw04_GaussStays.bits14 : waitsOk recouplaw04_GaussStays.T14.2 recouplaw04_GaussStays.B14 = true := by kernel_rfl
def recouplaw04_GaussStays.T15 : Bool × List (List Nat × List Nat) := (true, [([], []), ([0], [0]), ([], []), ([], []), ([3], [3]), ([2, 4], [2, 4]), ([], []), ([5, 6], [5, 6]), ([], []), ([], []), ([8, 9], [8, 9]), ([], []), ([10, 11], [10, 11]), ([1, 7, 0, 1, 2, 3, 4, 5, 6, 7, 8, 9, 10, 11, 12], [1, 7]), ([13, 12, 10, 0, 1, 2, 3, 4, 5, 6, 7, 8, 9, 10, 11, 12], [12, 13])])
def recouplaw04_GaussStays.B15 : List Nat := [0, 1, 0, 0, 8, 28, 0, 124, 0, 0, 768, 0, 3840, 8191, 16383]
theorem recouplaw04_GaussStays.tab15 : rtab .any (opsOf Try.f5 15) = recouplaw04_GaussStays.T15 := by kernel_rfl
theorem recouplaw04_GaussStays.bits15 : waitsOk recouplaw04_GaussStays.T15.2 recouplaw04_GaussStays.B15 = true := by kernel_rfl
set_option maxHeartbeats 8000000 in
set_option maxRecDepth 100000 in
theorem recouplaw04_GaussStays.calls (k : Nat) (a0_0 : Int) (a0_1 : Int) (A0_2 : Option Addr) (c0_2 : Nat) (l0_2 : List Int) (a1_0 : Int) (a1_1 : Int) (a2 : Int) (r : Bool) (w : World) (hr0_2 : Kd.C (Kd.int .u8) w A0_2 l0_2.length l0_2) (hc0_2 : l0_2.length ≤ c0_2) (h : recouplaw04_GaussStays.f k a0_0 a0_1 l0_2 a1_0 a1_1 a2 = some r) :
    Calls Try.prog 5 #[.agg #[.int .i64 a0_0, .int .i64 a0_1, .slice A0_2 l0_2.length c0_2], .agg #[.int .i64 a1_0, .int .i64 a1_1], .int .u8 a2] w fun e w' => e = .returned (.bool r) ∧ Below w.heap.size w w' := by
  have hu24 := Try.underlying24
  have hu40 := Try.underlying40
  have HR0_2 := Aside0.mk hr0_2
  have HC0_2 := Aside0.mk hc0_2
  clear hr0_2 hc0_2
  have HB := Aside0.mk (Below.refl w.heap.size w)
  have H : ((gauss_Reduce.f a0_0 a0_1 l0_2).bind fun bt359 => ((recoupref03_Right.f a0_0 a0_1 l0_2).bind fun t369 => (if t369 = true then ((gauss_Reduce.f bt359.1 bt359.2.1 bt359.2.2.1).bind fun bt371 => (if bt359.2.2.2.2 = 0 then (if bt371.2.2.2.2 = 0 then ((recoupref03_Like.f bt359.1 bt359.2.1 bt359.2.2.1 bt371.1 bt371.2.1 bt371.2.2.1).bind fun t381 => (recouplaw04_GaussStays.j0 k a2 a1_0 a1_1 (!t381) a0_0 a0_1 l0_2 bt359.1 bt359.2.1 bt359.2.2.1)) else (recouplaw04_GaussStays.j0 k a2 a1_0 a1_1 true a0_0 a0_1 l0_2 bt359.1 bt359.2.1 bt359.2.2.1)) else (recouplaw04_GaussStays.j0 k a2 a1_0 a1_1 true a0_0 a0_1 l0_2 bt359.1 bt359.2.1 bt359.2.2.1))) else ((recouplaw04_anchored.f).bind fun t370 => (if t370 = true then (some (bt359.2.2.2.2 != 0)) else (some false)))))) = some r := h
  clear h
  obtain ⟨⟨t359, t360, t361, t364, t367⟩, A4, H⟩ := bindO H
  (try dsimp only at H)
  obtain ⟨t369, A5, H⟩ := bindO H
  (try dsimp only at H)
  by_cases c6 : t369 = true
  · subst c6
    rw [if_pos rfl] at H
    obtain ⟨⟨t371, t372, t373, t376, t379⟩, A7, H⟩ := bindO H
    (try dsimp only at H)
    have HC8 := Aside0.mk H
    clear H
    go_enter Try.func5, Try.ntmps5
    try go_wp2_with (first | ((with_reducible refine gD 3 rfl ?_); refine bE 3 #[.int .i64 a0_0, .int .i64 a0_1, .slice A0_2 l0_2.length c0_2] 24 ?_; intro gb357 hg w9 hbox hb; have BK357 := Aside0.mk (hbox); have GW357 := hbS HB hg; have GE357 := hbS HB hg; replace HB := hbB HB hb; clear hb hbox hg) | ((with_reducible refine gD 4 rfl ?_); refine bE 4 #[.int .i64 a1_0, .int .i64 a1_1] 40 ?_; intro gb358 hg w10 hbox hb; have BK358 := Aside0.mk (hbox); have GW358 := hbS HB hg; have GE358 := hbS HB hg; replace HB := hbB HB hb; have NB357_358 := neL BK357 hg; have NB358_357 := neG BK357 hg; replace BK357 := bkB BK357 hb; clear hb hbox hg))
    replace BK357 := Aside0.mk (blk_drew BK357.out)
    replace BK358 := Aside0.mk (blk_drew BK358.out)
    replace HB := Aside0.mk (below_drew1 HB.out)
    refine start_ (n := 6) (S := fun w' => w'.cell? ⟨gb358, 0, none⟩ = some (.int .i64 a1_0) ∧ w'.cell? ⟨gb358, 1, none⟩ = some (.int .i64 a1_1)) (ds := []) (.replicate 6 false) (by kernel_rfl) rfl rfl ⟨(blk_cell BK358.out 0).trans rfl, (blk_cell BK358.out 1).trans rfl⟩ (fun hHeld => ?_)
    generalize w10.drew = w11 at BK357 BK358 HB hHeld ⊢
    refine pure_ (i := 0) (N := some 22) (v := ?_) (a' := ?_) (mB 6 1) rfl rfl (by kernel_rfl) (fun _ _ _ h => h) (Or.inl ⟨by rfl, ?_⟩) ?_ ?_
    rotate_left
    · intro w'
      go_simp
      with_reducible rfl
    rotate_left
    · simp only [Act.put, List.setIfInBounds_toArray, List.set_cons_zero, List.set_cons_succ, i64_w, i32_w]
      rfl
    refine pure_ (i := 2) (N := some 24) (v := ?_) (a' := ?_) (mB 6 5) rfl rfl (by kernel_rfl) (fun _ _ _ h => h) (Or.inl ⟨by rfl, ?_⟩) ?_ ?_
    rotate_left
    · intro w'
      go_simp
      with_reducible rfl
    rotate_left
    · simp only [Act.put, List.setIfInBounds_toArray, List.set_cons_zero, List.set_cons_succ, i64_w, i32_w]
      rfl
    refine take_ (i := 1) (N := some 23) (v := ?_) (a' := ?_) (mB 6 7) rfl rfl (by kernel_rfl) (fun _ _ _ h => h) (Or.inl ⟨by rfl, ?_⟩) hHeld ?_ ?_
    rotate_left
    · rintro w' ⟨s0, s1⟩
      go_simp
      with_reducible rfl
    rotate_left
    · simp only [Act.put, List.setIfInBounds_toArray, List.set_cons_zero, List.set_cons_succ, i64_w, i32_w]
      rfl
    refine pure_ (i := 4) (N := some 7) (v := ?_) (a' := ?_) (mB 6 23) rfl rfl (by kernel_rfl) (fun _ _ _ h => h) (Or.inl ⟨by rfl, ?_⟩) ?_ ?_
    rotate_left
    · intro w'
      go_simp
      with_reducible rfl
    rotate_left
    · simp only [Act.put, List.setIfInBounds_toArray, List.set_cons_zero, List.set_cons_succ, i64_w, i32_w]
      rfl
    refine take_ (i := 3) (N := some 25) (v := ?_) (a' := ?_) (mB 6 31) rfl rfl (by kernel_rfl) (fun _ _ _ h => h) (Or.inl ⟨by rfl, ?_⟩) hHeld ?_ ?_
    rotate_left
    · rintro w' ⟨s0, s1⟩
      go_simp
      with_reducible rfl
    rotate_left
    · simp only [Act.put, List.setIfInBounds_toArray, List.set_cons_zero, List.set_cons_succ, i64_w, i32_w]
      rfl
    refine pure_ (i := 5) (N := some 8) (v := ?_) (a' := ?_) (mB 6 63) rfl rfl (by kernel_rfl) (fun _ _ _ h => h) (Or.inl ⟨by rfl, ?_⟩) ?_ ?_
    rotate_left
    · intro w'
      go_simp
      with_reducible rfl
    rotate_left
    · simp only [Act.put, List.setIfInBounds_toArray, List.set_cons_zero, List.set_cons_succ, i64_w, i32_w]
      rfl
    refine done_ (by kernel_rfl) ?_
    have hnb12 := NB357_358.out
    have hnc12 := NB358_357.out
    obtain ⟨hcz13_0, hcz13_1, hcz13_2, hfz13_0, hfz13_1, hfz13_2⟩ := cell3 BK357
    go_upto_region 6 with (first | ((with_reducible refine gC 14 rfl ?_); refine cG (some 28) Try.func14 #[.agg #[.int .i64 a0_0, .int .i64 a0_1, .slice A0_2 l0_2.length c0_2]] ?_; (with_reducible refine (gauss_Reduce.calls a0_0 a0_1 _ _ l0_2 t359 t360 t361 t364 t367 _ ?side1 ?side2 A4.out).mono ?_); (case side1 => exact kcB HR0_2 HB); (case side2 => exact HC0_2.out); rintro e w14 ⟨v362, v365, rfl, ho0, ho1, hb⟩; refine ⟨_, rfl, ?_⟩; have HO363 := Aside0.mk (Kd.V_lower (Kd.V_mono (ok' := fun k_ => some k_ ≠ (v365 : Value).ownBlock ∧ k_ ≠ gb357 ∧ k_ ≠ gb358) ho0 (fun k_ hk_ => ⟨hk_.2, (Kd.freshB (g := gb357) (o := .cells #[.int .i64 a0_0, .int .i64 a0_1, .slice A0_2 l0_2.length c0_2] 24 (0, 0)) (bkA BK357.out) k_ hk_.1), (Kd.freshB (g := gb358) (o := .cells #[.int .i64 a1_0, .int .i64 a1_1] 40 (0, 0)) (bkA BK358.out) k_ hk_.1)⟩)) (below_size (hbA HB.out))); have HO366 := Aside0.mk (Kd.R_lower (Kd.R_mono (ok' := fun k_ => True) ho1 (fun _ hk_ => trivial)) (below_size (hbA HB.out))); replace BK357 := bkB BK357 hb; replace BK358 := bkB BK358 hb; replace HB := hbB HB hb; (try clear hb); (try clear hb2); (try clear hk); (try clear hi); (try clear ho0); (try clear ho1)) | ((with_reducible refine gD 9 rfl ?_); refine bE 9 #[.int .i64 0, .int .i64 0, .slice none 0 0] 24 ?_; intro gb368 hg w15 hbox hb; replace HO363 := Aside0.mk (Kd.V_below (Kd.V_elderB (by (with_reducible repeat (first | apply Kd.V_alloc | apply Kd.V_drewN | apply Kd.V_drew)); exact HO363.out) gb368 (Nat.le_of_eq hg.symm)) hb); replace HO366 := kdB HO366 hb; have BK368 := Aside0.mk (hbox); have GW368 := hbS HB hg; have GE368 := hbS HB hg; replace HB := hbB HB hb; have NB357_368 := neL BK357 hg; have NB368_357 := neG BK357 hg; replace BK357 := bkB BK357 hb; have NB358_368 := neL BK358 hg; have NB368_358 := neG BK358 hg; replace BK358 := bkB BK358 hb; clear hb hbox hg; have hnb16 := NB368_357.out; have hnc16 := NB357_368.out; have hnb17 := NB368_358.out; have hnc17 := NB358_368.out; obtain ⟨hcz18_0, hcz18_1, hcz18_2, hfz18_0, hfz18_1, hfz18_2⟩ := cell3 BK368; obtain ⟨Ao19, co19, eo19⟩ := Kd.V_slice HO363.out; subst eo19; obtain ⟨hcz20_0, hcz20_1, hcz20_2, hfz20_0, hfz20_1, hfz20_2⟩ := cell3 BK357) | ((with_reducible refine gC 21 rfl ?_); refine cG (some 33) Try.func21 #[.agg #[.int .i64 a0_0, .int .i64 a0_1, .slice A0_2 l0_2.length c0_2]] ?_; (with_reducible refine (recoupref03_Right.calls a0_0 a0_1 _ _ l0_2 true _ ?side1 ?side2 A5.out).mono ?_); (case side1 => exact Kd.C_below HR0_2.out (hbA HB.out)); (case side2 => exact HC0_2.out); rintro e w21 ⟨rfl, hb⟩; refine ⟨_, rfl, ?_⟩; replace HO363 := Aside0.mk (Kd.V_below (by (with_reducible repeat (first | apply Kd.V_alloc | apply Kd.V_drewN | apply Kd.V_drew)); exact (Kd.V_mono (Kd.V_far (p := ⟨gb368, 2, none⟩) (Kd.V_far (p := ⟨gb368, 1, none⟩) (Kd.V_far (p := ⟨gb368, 0, none⟩) (Kd.V_mono HO363.out (fun k_ hk => (⟨hk, hk.2⟩ : _ ∧ k_ ≠ gb368))) (fun _ hk => hk.2) (.int .i64 t359)) (fun _ hk => hk.2) (.int .i64 t360)) (fun _ hk => hk.2) (.slice Ao19 t361.length co19)) (fun _ h_ => h_.1))) hb); replace HO366 := Aside0.mk (Kd.R_below (by (with_reducible repeat (first | apply Kd.R_alloc | apply Kd.R_drewN | apply Kd.R_drew)); exact (Kd.R_mono (Kd.R_far (p := ⟨gb368, 2, none⟩) (Kd.R_far (p := ⟨gb368, 1, none⟩) (Kd.R_far (p := ⟨gb368, 0, none⟩) (Kd.R_types HO366.out BK368.out (by decide)) (fun _ hk => hk.2) (.int .i64 t359)) (fun _ hk => hk.2) (.int .i64 t360)) (fun _ hk => hk.2) (.slice Ao19 t361.length co19)) (fun _ h_ => h_.1))) hb); replace BK357 := Aside0.mk (blk_below (g := gb357) (o := .cells #[.int .i64 a0_0, .int .i64 a0_1, .slice A0_2 l0_2.length c0_2] 24 (0, 0)) (by refine bkR ?_; refine blk_far ?_ NB357_368.out _; refine bkR ?_; refine blk_far ?_ NB357_368.out _; refine bkR ?_; refine blk_far ?_ NB357_368.out _; refine bkR ?_; exact BK357.out) hb); replace BK358 := Aside0.mk (blk_below (g := gb358) (o := .cells #[.int .i64 a1_0, .int .i64 a1_1] 40 (0, 0)) (by refine bkR ?_; refine blk_far ?_ NB358_368.out _; refine bkR ?_; refine blk_far ?_ NB358_368.out _; refine bkR ?_; refine blk_far ?_ NB358_368.out _; refine bkR ?_; exact BK358.out) hb); replace BK368 := Aside0.mk (blk_below (g := gb368) (o := .cells #[.int .i64 t359, .int .i64 t360, .slice Ao19 t361.length co19] 24 (0, 0)) (by refine bkR ?_; refine blk_put (cs := #[.int .i64 t359, .int .i64 t360, .slice none 0 0]) ?_ 2 _ rfl; refine bkR ?_; refine blk_put (cs := #[.int .i64 t359, .int .i64 0, .slice none 0 0]) ?_ 1 _ rfl; refine bkR ?_; refine blk_put (cs := #[.int .i64 0, .int .i64 0, .slice none 0 0]) ?_ 0 _ rfl; refine bkR ?_; exact BK368.out) hb); replace HB := hbB HB hb; (try clear hb); (try clear hb2); (try clear hk); (try clear hi); obtain ⟨hcz22_0, hcz22_1, hcz22_2, hfz22_0, hfz22_1, hfz22_2⟩ := cell3 BK368) | ((with_reducible refine gC 14 rfl ?_); refine cG (some 42) Try.func14 #[.agg #[.int .i64 t359, .int .i64 t360, .slice Ao19 t361.length co19]] ?_; (with_reducible refine (gauss_Reduce.calls t359 t360 _ _ t361 t371 t372 t373 t376 t379 _ ?side1 ?side2 A7.out).mono ?_); (case side1 => repeat (first | exact (Kd.V_reads' HO363.out).2.2 | (with_reducible refine Kd.C_alloc ?_ _) | (with_reducible refine Kd.C_drewN ?_ _) | (with_reducible refine Kd.C_drew ?_))); (case side2 => exact (Kd.V_reads' HO363.out).2.1); rintro e w23 ⟨v374, v377, rfl, ho0, ho1, hb⟩; refine ⟨_, rfl, ?_⟩; replace HO363 := Aside0.mk (Kd.V_elder' (by (with_reducible repeat (first | apply Kd.V_alloc | apply Kd.V_drewN | apply Kd.V_drew)); exact HO363.out) (Kd.R_base ho1) hb); have HO375 := Aside0.mk (Kd.V_lower (Kd.V_mono (ok' := fun k_ => some k_ ≠ (v377 : Value).ownBlock ∧ some k_ ≠ (v365 : Value).ownBlock ∧ k_ ≠ gb357 ∧ k_ ≠ gb358 ∧ k_ ≠ gb368) ho0 (fun k_ hk_ => ⟨hk_.2, (Kd.fresh' (Kd.R_lt (kdA HO366.out)) k_ hk_.1), (Kd.freshB (g := gb357) (o := .cells #[.int .i64 a0_0, .int .i64 a0_1, .slice A0_2 l0_2.length c0_2] 24 (0, 0)) (bkA BK357.out) k_ hk_.1), (Kd.freshB (g := gb358) (o := .cells #[.int .i64 a1_0, .int .i64 a1_1] 40 (0, 0)) (bkA BK358.out) k_ hk_.1), (Kd.freshB (g := gb368) (o := .cells #[.int .i64 t359, .int .i64 t360, .slice Ao19 t361.length co19] 24 (0, 0)) (bkA BK368.out) k_ hk_.1)⟩)) (below_size (hbA HB.out))); have HO378 := Aside0.mk (Kd.R_lower (Kd.R_new' (Kd.R_mono (ok' := fun k_ => True) ho1 (fun _ hk_ => trivial)) (Kd.R_lt (kdA HO366.out))) (below_size (hbA HB.out))); replace HO366 := Aside0.mk (Kd.R_elder' (kdA HO366.out) (Kd.R_base ho1) hb); replace BK357 := bkB BK357 hb; replace BK358 := bkB BK358 hb; replace BK368 := bkB BK368 hb; replace HB := hbB HB hb; (try clear hb); (try clear hb2); (try clear hk); (try clear hi); (try clear ho0); (try clear ho1)) | ((with_reducible refine gD 12 rfl ?_); refine bE 12 #[.int .i64 0, .int .i64 0, .slice none 0 0] 24 ?_; intro gb380 hg w24 hbox hb; replace HO363 := Aside0.mk (Kd.V_below (Kd.V_elderB (by (with_reducible repeat (first | apply Kd.V_alloc | apply Kd.V_drewN | apply Kd.V_drew)); exact HO363.out) gb380 (Nat.le_of_eq hg.symm)) hb); replace HO366 := kdB HO366 hb; replace HO375 := Aside0.mk (Kd.V_below (Kd.V_elderB (by (with_reducible repeat (first | apply Kd.V_alloc | apply Kd.V_drewN | apply Kd.V_drew)); exact HO375.out) gb380 (Nat.le_of_eq hg.symm)) hb); replace HO378 := kdB HO378 hb; have BK380 := Aside0.mk (hbox); have GW380 := hbS HB hg; have GE380 := hbS HB hg; replace HB := hbB HB hb; have NB357_380 := neL BK357 hg; have NB380_357 := neG BK357 hg; replace BK357 := bkB BK357 hb; have NB358_380 := neL BK358 hg; have NB380_358 := neG BK358 hg; replace BK358 := bkB BK358 hb; have NB368_380 := neL BK368 hg; have NB380_368 := neG BK368 hg; replace BK368 := bkB BK368 hb; clear hb hbox hg; have hnb25 := NB380_357.out; have hnc25 := NB357_380.out; have hnb26 := NB380_358.out; have hnc26 := NB358_380.out; have hnb27 := NB380_368.out; have hnc27 := NB368_380.out; obtain ⟨hcz28_0, hcz28_1, hcz28_2, hfz28_0, hfz28_1, hfz28_2⟩ := cell3 BK380; obtain ⟨Ao29, co29, eo29⟩ := Kd.V_slice HO375.out; subst eo29))
    (try simp only [Act.put, List.setIfInBounds_toArray, List.set_cons_zero, List.set_cons_succ])
    go_cut [57] (fun v57 wc => ∃ (kq : Nat) (x57_7 : Bool), v57 = .bool x57_7 ∧ Aside0 (recouplaw04_GaussStays.j0 kq a2 a1_0 a1_1 x57_7 a0_0 a0_1 l0_2 t359 t360 t361 = some r) ∧ Aside0 (kq ≤ k) ∧ Aside0 (Kd.V (Kd.int .u8) 5 wc w.heap.size (fun k_ => k_ ≠ gb357 ∧ k_ ≠ gb358 ∧ k_ ≠ gb368 ∧ k_ ≠ gb380) (.slice Ao19 t361.length co19) t361) ∧ Aside0 (Kd.V (Kd.int .u8) 5 wc w.heap.size (fun k_ => k_ ≠ gb357 ∧ k_ ≠ gb358 ∧ k_ ≠ gb368 ∧ k_ ≠ gb380) (.slice Ao29 t373.length co29) t373) ∧ Aside0 (wc.heap[gb357]? = some (.cells #[.int .i64 a0_0, .int .i64 a0_1, (.slice A0_2 l0_2.length c0_2)] 24 (0, 0))) ∧ Aside0 (wc.heap[gb358]? = some (.cells #[.int .i64 a1_0, .int .i64 a1_1] 40 (0, 0))) ∧ Aside0 (wc.heap[gb368]? = some (.cells #[.int .i64 t359, .int .i64 t360, (.slice Ao19 t361.length co19)] 24 (0, 0))) ∧ Aside0 (wc.heap[gb380]? = some (.cells #[.int .i64 t371, .int .i64 t372, (.slice Ao29 t373.length co29)] 24 (0, 0))) ∧ Aside0 (Below w.heap.size w wc))
    case first =>
      have H := HC8.out
      clear HC8
      by_cases c30 : t367 = 0
      · rw [if_pos c30] at H
        have c30b0 : (t367 == 0) = true := beq_iff_eq.mpr c30
        have c30b1 : (t367 != 0) = false := bne_eq_false_iff_eq.mpr c30
        clear c30
        (first | rw [c30b0] | (simp only [i64_w, i32_w]; rw [c30b0]) | skip)
        by_cases c31 : t379 = 0
        · rw [if_pos c31] at H
          have c31b0 : (t379 == 0) = true := beq_iff_eq.mpr c31
          have c31b1 : (t379 != 0) = false := bne_eq_false_iff_eq.mpr c31
          clear c31
          obtain ⟨t381, A32, H⟩ := bindO H
          (try dsimp only at H)
          have H' := Aside0.mk H
          clear H
          have hnb33 := NB368_357.out
          have hnc33 := NB357_368.out
          have hnb34 := NB368_358.out
          have hnc34 := NB358_368.out
          have hnb35 := NB368_380.out
          have hnc35 := NB380_368.out
          obtain ⟨hcz36_0, hcz36_1, hcz36_2, hfz36_0, hfz36_1, hfz36_2⟩ := cell3 BK368
          have hnb37 := NB380_357.out
          have hnc37 := NB357_380.out
          have hnb38 := NB380_358.out
          have hnc38 := NB358_380.out
          obtain ⟨hcz39_0, hcz39_1, hcz39_2, hfz39_0, hfz39_1, hfz39_2⟩ := cell3 BK380
          go_wp2_with (first | (go_at_call 17; (with_reducible refine (recoupref03_Like.calls t359 t360 _ _ t361 t371 t372 _ _ t373 t381 _ ?side1 ?side2 ?side3 ?side4 A32.out).mono ?_); (case side1 => refine (Kd.V_reads' (e := 5) (base := w.heap.size) (ok := fun k_ => ((((some k_ ≠ (v365 : Value).ownBlock ∧ (k_ ≠ gb357 ∧ k_ ≠ gb358)) ∧ k_ ≠ gb368) ∧ some k_ ≠ (v377 : Value).ownBlock) ∧ k_ ≠ gb380)) (n := t361.length) (c := co19) ?_).2.2; exact (by (with_reducible repeat (first | apply Kd.V_alloc | apply Kd.V_drewN | apply Kd.V_drew)); exact (Kd.V_mono (Kd.V_far (p := ⟨gb380, 2, none⟩) (Kd.V_far (p := ⟨gb380, 1, none⟩) (Kd.V_far (p := ⟨gb380, 0, none⟩) (Kd.V_mono HO363.out (fun k_ hk => (⟨hk, hk.2⟩ : _ ∧ k_ ≠ gb380))) (fun _ hk => hk.2) (.int .i64 t371)) (fun _ hk => hk.2) (.int .i64 t372)) (fun _ hk => hk.2) (.slice Ao29 t373.length co29)) (fun _ h_ => h_.1)))); (case side2 => exact (Kd.V_reads' HO363.out).2.1); (case side3 => refine (Kd.V_reads' (e := 5) (base := w.heap.size) (ok := fun k_ => ((some k_ ≠ (v377 : Value).ownBlock ∧ (some k_ ≠ (v365 : Value).ownBlock ∧ (k_ ≠ gb357 ∧ (k_ ≠ gb358 ∧ k_ ≠ gb368)))) ∧ k_ ≠ gb380)) (n := t373.length) (c := co29) ?_).2.2; exact (by (with_reducible repeat (first | apply Kd.V_alloc | apply Kd.V_drewN | apply Kd.V_drew)); exact (Kd.V_mono (Kd.V_far (p := ⟨gb380, 2, none⟩) (Kd.V_far (p := ⟨gb380, 1, none⟩) (Kd.V_far (p := ⟨gb380, 0, none⟩) (Kd.V_mono HO375.out (fun k_ hk => (⟨hk, hk.2⟩ : _ ∧ k_ ≠ gb380))) (fun _ hk => hk.2) (.int .i64 t371)) (fun _ hk => hk.2) (.int .i64 t372)) (fun _ hk => hk.2) (.slice Ao29 t373.length co29)) (fun _ h_ => h_.1)))); (case side4 => exact (Kd.V_reads' HO375.out).2.1); rintro e w40 ⟨rfl, hb⟩; replace HO363 := Aside0.mk (Kd.V_below (by (with_reducible repeat (first | apply Kd.V_alloc | apply Kd.V_drewN | apply Kd.V_drew)); exact (Kd.V_mono (Kd.V_far (p := ⟨gb380, 2, none⟩) (Kd.V_far (p := ⟨gb380, 1, none⟩) (Kd.V_far (p := ⟨gb380, 0, none⟩) (Kd.V_mono HO363.out (fun k_ hk => (⟨hk, hk.2⟩ : _ ∧ k_ ≠ gb380))) (fun _ hk => hk.2) (.int .i64 t371)) (fun _ hk => hk.2) (.int .i64 t372)) (fun _ hk => hk.2) (.slice Ao29 t373.length co29)) (fun _ h_ => h_.1))) hb); replace HO366 := Aside0.mk (Kd.R_below (by (with_reducible repeat (first | apply Kd.R_alloc | apply Kd.R_drewN | apply Kd.R_drew)); exact (Kd.R_mono (Kd.R_far (p := ⟨gb380, 2, none⟩) (Kd.R_far (p := ⟨gb380, 1, none⟩) (Kd.R_far (p := ⟨gb380, 0, none⟩) (Kd.R_types HO366.out BK380.out (by decide)) (fun _ hk => hk.2) (.int .i64 t371)) (fun _ hk => hk.2) (.int .i64 t372)) (fun _ hk => hk.2) (.slice Ao29 t373.length co29)) (fun _ h_ => h_.1))) hb); replace HO375 := Aside0.mk (Kd.V_below (by (with_reducible repeat (first | apply Kd.V_alloc | apply Kd.V_drewN | apply Kd.V_drew)); exact (Kd.V_mono (Kd.V_far (p := ⟨gb380, 2, none⟩) (Kd.V_far (p := ⟨gb380, 1, none⟩) (Kd.V_far (p := ⟨gb380, 0, none⟩) (Kd.V_mono HO375.out (fun k_ hk => (⟨hk, hk.2⟩ : _ ∧ k_ ≠ gb380))) (fun _ hk => hk.2) (.int .i64 t371)) (fun _ hk => hk.2) (.int .i64 t372)) (fun _ hk => hk.2) (.slice Ao29 t373.length co29)) (fun _ h_ => h_.1))) hb); replace HO378 := Aside0.mk (Kd.R_below (by (with_reducible repeat (first | apply Kd.R_alloc | apply Kd.R_drewN | apply Kd.R_drew)); exact (Kd.R_mono (Kd.R_far (p := ⟨gb380, 2, none⟩) (Kd.R_far (p := ⟨gb380, 1, none⟩) (Kd.R_far (p := ⟨gb380, 0, none⟩) (Kd.R_types HO378.out BK380.out (by decide)) (fun _ hk => hk.2) (.int .i64 t371)) (fun _ hk => hk.2) (.int .i64 t372)) (fun _ hk => hk.2) (.slice Ao29 t373.length co29)) (fun _ h_ => h_.1))) hb); replace BK357 := Aside0.mk (blk_below (g := gb357) (o := .cells #[.int .i64 a0_0, .int .i64 a0_1, .slice A0_2 l0_2.length c0_2] 24 (0, 0)) (by refine bkR ?_; refine blk_far ?_ NB357_380.out _; refine bkR ?_; refine blk_far ?_ NB357_380.out _; refine bkR ?_; refine blk_far ?_ NB357_380.out _; refine bkR ?_; exact BK357.out) hb); replace BK358 := Aside0.mk (blk_below (g := gb358) (o := .cells #[.int .i64 a1_0, .int .i64 a1_1] 40 (0, 0)) (by refine bkR ?_; refine blk_far ?_ NB358_380.out _; refine bkR ?_; refine blk_far ?_ NB358_380.out _; refine bkR ?_; refine blk_far ?_ NB358_380.out _; refine bkR ?_; exact BK358.out) hb); replace BK368 := Aside0.mk (blk_below (g := gb368) (o := .cells #[.int .i64 t359, .int .i64 t360, .slice Ao19 t361.length co19] 24 (0, 0)) (by refine bkR ?_; refine blk_far ?_ NB368_380.out _; refine bkR ?_; refine blk_far ?_ NB368_380.out _; refine bkR ?_; refine blk_far ?_ NB368_380.out _; refine bkR ?_; exact BK368.out) hb); replace BK380 := Aside0.mk (blk_below (g := gb380) (o := .cells #[.int .i64 t371, .int .i64 t372, .slice Ao29 t373.length co29] 24 (0, 0)) (by refine bkR ?_; refine blk_put (cs := #[.int .i64 t371, .int .i64 t372, .slice none 0 0]) ?_ 2 _ rfl; refine bkR ?_; refine blk_put (cs := #[.int .i64 t371, .int .i64 0, .slice none 0 0]) ?_ 1 _ rfl; refine bkR ?_; refine blk_put (cs := #[.int .i64 0, .int .i64 0, .slice none 0 0]) ?_ 0 _ rfl; refine bkR ?_; exact BK380.out) hb); replace HB := hbB HB hb; (try clear hb); (try clear hb2); (try clear hk); (try clear hi)))
          go_meet
          case rel => exact ⟨_, (!t381), rsE, H', ⟨leE⟩, ⟨by (with_reducible repeat (first | apply Kd.V_alloc | apply Kd.V_drewN | apply Kd.V_drew)); exact Kd.V_mono HO363.out (fun _ hk => ⟨hk.1.1.1.2.1, ⟨hk.1.1.1.2.2, ⟨hk.1.1.2, hk.2⟩⟩⟩)⟩, ⟨by (with_reducible repeat (first | apply Kd.V_alloc | apply Kd.V_drewN | apply Kd.V_drew)); exact Kd.V_mono HO375.out (fun _ hk => ⟨hk.1.2.2.1, ⟨hk.1.2.2.2.1, ⟨hk.1.2.2.2.2, hk.2⟩⟩⟩)⟩, ⟨bkA BK357.out⟩, ⟨bkA BK358.out⟩, ⟨bkA BK368.out⟩, ⟨bkA BK380.out⟩, ⟨hbA HB.out⟩⟩
        · rw [if_neg c31] at H
          have c31b0 : (t379 == 0) = false := beq_eq_false_iff_ne.mpr c31
          have c31b1 : (t379 != 0) = true := bne_iff_ne.mpr c31
          have H' := Aside0.mk H
          clear H
          go_wp2
          go_meet
          case rel => exact ⟨_, (true), rsE, H', ⟨leE⟩, ⟨by (with_reducible repeat (first | apply Kd.V_alloc | apply Kd.V_drewN | apply Kd.V_drew)); exact Kd.V_mono (Kd.V_far (p := ⟨gb380, 2, none⟩) (Kd.V_far (p := ⟨gb380, 1, none⟩) (Kd.V_far (p := ⟨gb380, 0, none⟩) (Kd.V_mono HO363.out (fun k_ hk => (⟨hk, hk.2⟩ : _ ∧ k_ ≠ gb380))) (fun _ hk => hk.2) (.int .i64 t371)) (fun _ hk => hk.2) (.int .i64 t372)) (fun _ hk => hk.2) (.slice Ao29 t373.length co29)) (fun _ hk => ⟨hk.1.1.1.1.2.1, ⟨hk.1.1.1.1.2.2, ⟨hk.1.1.1.2, hk.1.2⟩⟩⟩)⟩, ⟨by (with_reducible repeat (first | apply Kd.V_alloc | apply Kd.V_drewN | apply Kd.V_drew)); exact Kd.V_mono (Kd.V_far (p := ⟨gb380, 2, none⟩) (Kd.V_far (p := ⟨gb380, 1, none⟩) (Kd.V_far (p := ⟨gb380, 0, none⟩) (Kd.V_mono HO375.out (fun k_ hk => (⟨hk, hk.2⟩ : _ ∧ k_ ≠ gb380))) (fun _ hk => hk.2) (.int .i64 t371)) (fun _ hk => hk.2) (.int .i64 t372)) (fun _ hk => hk.2) (.slice Ao29 t373.length co29)) (fun _ hk => ⟨hk.1.1.2.2.1, ⟨hk.1.1.2.2.2.1, ⟨hk.1.1.2.2.2.2, hk.1.2⟩⟩⟩)⟩, ⟨by refine bkR ?_; refine blk_far ?_ NB357_380.out _; refine bkR ?_; refine blk_far ?_ NB357_380.out _; refine bkR ?_; refine blk_far ?_ NB357_380.out _; refine bkR ?_; exact BK357.out⟩, ⟨by refine bkR ?_; refine blk_far ?_ NB358_380.out _; refine bkR ?_; refine blk_far ?_ NB358_380.out _; refine bkR ?_; refine blk_far ?_ NB358_380.out _; refine bkR ?_; exact BK358.out⟩, ⟨by refine bkR ?_; refine blk_far ?_ NB368_380.out _; refine bkR ?_; refine blk_far ?_ NB368_380.out _; refine bkR ?_; refine blk_far ?_ NB368_380.out _; refine bkR ?_; exact BK368.out⟩, ⟨by refine bkR ?_; refine blk_put (cs := #[.int .i64 t371, .int .i64 t372, .slice none 0 0]) ?_ 2 _ rfl; refine bkR ?_; refine blk_put (cs := #[.int .i64 t371, .int .i64 0, .slice none 0 0]) ?_ 1 _ rfl; refine bkR ?_; refine blk_put (cs := #[.int .i64 0, .int .i64 0, .slice none 0 0]) ?_ 0 _ rfl; refine bkR ?_; exact BK380.out⟩, ⟨hbA HB.out⟩⟩
      · rw [if_neg c30] at H
        have c30b0 : (t367 == 0) = false := beq_eq_false_iff_ne.mpr c30
        have c30b1 : (t367 != 0) = true := bne_iff_ne.mpr c30
        (first | rw [c30b0] | (simp only [i64_w, i32_w]; rw [c30b0]) | skip)
        have H' := Aside0.mk H
        clear H
        go_wp2
        go_meet
        case rel => exact ⟨_, (true), rsE, H', ⟨leE⟩, ⟨by (with_reducible repeat (first | apply Kd.V_alloc | apply Kd.V_drewN | apply Kd.V_drew)); exact Kd.V_mono (Kd.V_far (p := ⟨gb380, 2, none⟩) (Kd.V_far (p := ⟨gb380, 1, none⟩) (Kd.V_far (p := ⟨gb380, 0, none⟩) (Kd.V_mono HO363.out (fun k_ hk => (⟨hk, hk.2⟩ : _ ∧ k_ ≠ gb380))) (fun _ hk => hk.2) (.int .i64 t371)) (fun _ hk => hk.2) (.int .i64 t372)) (fun _ hk => hk.2) (.slice Ao29 t373.length co29)) (fun _ hk => ⟨hk.1.1.1.1.2.1, ⟨hk.1.1.1.1.2.2, ⟨hk.1.1.1.2, hk.1.2⟩⟩⟩)⟩, ⟨by (with_reducible repeat (first | apply Kd.V_alloc | apply Kd.V_drewN | apply Kd.V_drew)); exact Kd.V_mono (Kd.V_far (p := ⟨gb380, 2, none⟩) (Kd.V_far (p := ⟨gb380, 1, none⟩) (Kd.V_far (p := ⟨gb380, 0, none⟩) (Kd.V_mono HO375.out (fun k_ hk => (⟨hk, hk.2⟩ : _ ∧ k_ ≠ gb380))) (fun _ hk => hk.2) (.int .i64 t371)) (fun _ hk => hk.2) (.int .i64 t372)) (fun _ hk => hk.2) (.slice Ao29 t373.length co29)) (fun _ hk => ⟨hk.1.1.2.2.1, ⟨hk.1.1.2.2.2.1, ⟨hk.1.1.2.2.2.2, hk.1.2⟩⟩⟩)⟩, ⟨by refine bkR ?_; refine blk_far ?_ NB357_380.out _; refine bkR ?_; refine blk_far ?_ NB357_380.out _; refine bkR ?_; refine blk_far ?_ NB357_380.out _; refine bkR ?_; exact BK357.out⟩, ⟨by refine bkR ?_; refine blk_far ?_ NB358_380.out _; refine bkR ?_; refine blk_far ?_ NB358_380.out _; refine bkR ?_; refine blk_far ?_ NB358_380.out _; refine bkR ?_; exact BK358.out⟩, ⟨by refine bkR ?_; refine blk_far ?_ NB368_380.out _; refine bkR ?_; refine blk_far ?_ NB368_380.out _; refine bkR ?_; refine blk_far ?_ NB368_380.out _; refine bkR ?_; exact BK368.out⟩, ⟨by refine bkR ?_; refine blk_put (cs := #[.int .i64 t371, .int .i64 t372, .slice none 0 0]) ?_ 2 _ rfl; refine bkR ?_; refine blk_put (cs := #[.int .i64 t371, .int .i64 0, .slice none 0 0]) ?_ 1 _ rfl; refine bkR ?_; refine blk_put (cs := #[.int .i64 0, .int .i64 0, .slice none 0 0]) ?_ 0 _ rfl; refine bkR ?_; exact BK380.out⟩, ⟨hbA HB.out⟩⟩
    case rest =>
      clear HC8
      (try clear c1); (try clear c2); (try clear p2); (try clear c3); (try clear c5); (try clear c6); (try clear c12); (try clear c14); (try clear c16); (try clear c17); (try clear c21); (try clear c25); (try clear c26); (try clear c27); (try clear c30); (try clear c30b0); (try clear c30b1); (try clear c31); (try clear c31b0); (try clear c31b1); (try clear c33); (try clear c34); (try clear c35); (try clear c37); (try clear c38); (try clear hcz13_0 hcz13_1 hcz13_2 hfz13_0 hfz13_1 hfz13_2); (try clear hcz18_0 hcz18_1 hcz18_2 hfz18_0 hfz18_1 hfz18_2); (try clear hcz20_0 hcz20_1 hcz20_2 hfz20_0 hfz20_1 hfz20_2); (try clear hcz22_0 hcz22_1 hcz22_2 hfz22_0 hfz22_1 hfz22_2); (try clear hcz28_0 hcz28_1 hcz28_2 hfz28_0 hfz28_1 hfz28_2); (try clear hcz36_0 hcz36_1 hcz36_2 hfz36_0 hfz36_1 hfz36_2); (try clear hcz39_0 hcz39_1 hcz39_2 hfz39_0 hfz39_1 hfz39_2)
      obtain ⟨kq, x57_7, rfl, HA, HJ7, HO_369002, HO_381002, BK357, BK358, BK368, BK380, HB⟩ := hcut
      cases kq with
      | zero => exact absurd HA.out (by simp [recouplaw04_GaussStays.j0])
      | succ kj7 =>
        have H := HA.out
        clear HA
        simp only [recouplaw04_GaussStays.j0] at H
        by_cases c41 : x57_7 = true
        · subst c41
          rw [if_pos rfl] at H
          obtain rfl := Option.some.inj H
          go_wp2
          go_ret
          exact ⟨rfE, hbA HB.out⟩
        · replace c41 := Bool.eq_false_iff.mpr c41
          subst c41
          rw [if_neg nofT] at H
          have HC42 := Aside0.mk H
          clear H
          go_upto_region 8 with (fail)
          go_cut [84] (fun v84 wc => ∃ (kq : Nat) (x84_41 : Bool), v84 = .bool x84_41 ∧ Aside0 (recouplaw04_GaussStays.j1 kq a2 a1_0 a1_1 x84_41 a0_0 a0_1 l0_2 t359 t360 t361 = some r) ∧ Aside0 (kq ≤ kj7) ∧ Aside0 (Kd.V (Kd.int .u8) 5 wc w.heap.size (fun k_ => k_ ≠ gb357 ∧ k_ ≠ gb358 ∧ k_ ≠ gb368 ∧ k_ ≠ gb380) (.slice Ao19 t361.length co19) t361) ∧ Aside0 (Kd.V (Kd.int .u8) 5 wc w.heap.size (fun k_ => k_ ≠ gb357 ∧ k_ ≠ gb358 ∧ k_ ≠ gb368 ∧ k_ ≠ gb380) (.slice Ao29 t373.length co29) t373) ∧ Aside0 (wc.heap[gb357]? = some (.cells #[.int .i64 a0_0, .int .i64 a0_1, (.slice A0_2 l0_2.length c0_2)] 24 (0, 0))) ∧ Aside0 (wc.heap[gb358]? = some (.cells #[.int .i64 a1_0, .int .i64 a1_1] 40 (0, 0))) ∧ Aside0 (wc.heap[gb368]? = some (.cells #[.int .i64 t359, .int .i64 t360, (.slice Ao19 t361.length co19)] 24 (0, 0))) ∧ Aside0 (wc.heap[gb380]? = some (.cells #[.int .i64 t371, .int .i64 t372, (.slice Ao29 t373.length co29)] 24 (0, 0))) ∧ Aside0 (Below w.heap.size w wc))
          case first =>
            have H := HC42.out
            clear HC42
            by_cases c43 : a1_0 < 0
            · rw [if_pos c43] at H
              have c43b0 : decide (a1_0 < 0) = true := decide_eq_true c43
              clear c43
              (first | rw [c43b0] | (simp only [i64_w, i32_w]; rw [c43b0]) | skip)
              have H' := Aside0.mk H
              clear H
              go_wp2
              go_meet
              case rel => exact ⟨_, (true), rsE, H', ⟨by have := HJ7.out; first | omega | exact Nat.le_refl _⟩, ⟨by (with_reducible repeat (first | apply Kd.V_alloc | apply Kd.V_drewN | apply Kd.V_drew)); exact HO_369002.out⟩, ⟨by (with_reducible repeat (first | apply Kd.V_alloc | apply Kd.V_drewN | apply Kd.V_drew)); exact HO_381002.out⟩, ⟨bkA BK357.out⟩, ⟨bkA BK358.out⟩, ⟨bkA BK368.out⟩, ⟨bkA BK380.out⟩, ⟨hbA HB.out⟩⟩
            · rw [if_neg c43] at H
              have c43b0 : decide (a1_0 < 0) = false := decide_eq_false c43
              clear c43
              (first | rw [c43b0] | (simp only [i64_w, i32_w]; rw [c43b0]) | skip)
              by_cases c44 : a1_1 < 0
              · rw [if_pos c44] at H
                have c44b0 : decide (a1_1 < 0) = true := decide_eq_true c44
                clear c44
                have H' := Aside0.mk H
                clear H
                go_wp2
                go_meet
                case rel => exact ⟨_, (true), rsE, H', ⟨by have := HJ7.out; first | omega | exact Nat.le_refl _⟩, ⟨by (with_reducible repeat (first | apply Kd.V_alloc | apply Kd.V_drewN | apply Kd.V_drew)); exact HO_369002.out⟩, ⟨by (with_reducible repeat (first | apply Kd.V_alloc | apply Kd.V_drewN | apply Kd.V_drew)); exact HO_381002.out⟩, ⟨bkA BK357.out⟩, ⟨bkA BK358.out⟩, ⟨bkA BK368.out⟩, ⟨bkA BK380.out⟩, ⟨hbA HB.out⟩⟩
              · rw [if_neg c44] at H
                have c44b0 : decide (a1_1 < 0) = false := decide_eq_false c44
                clear c44
                by_cases c45 : a1_0 ≥ a0_0
                · rw [if_pos c45] at H
                  have c45b0 : decide (a0_0 ≤ a1_0) = true := decide_eq_true c45
                  clear c45
                  have H' := Aside0.mk H
                  clear H
                  have hnb46 := NB357_358.out
                  have hnc46 := NB358_357.out
                  have hnb47 := NB357_368.out
                  have hnc47 := NB368_357.out
                  have hnb48 := NB357_380.out
                  have hnc48 := NB380_357.out
                  obtain ⟨hcz49_0, hcz49_1, hcz49_2, hfz49_0, hfz49_1, hfz49_2⟩ := cell3 BK357
                  go_wp2
                  go_meet
                  case rel => exact ⟨_, (true), rsE, H', ⟨by have := HJ7.out; first | omega | exact Nat.le_refl _⟩, ⟨by (with_reducible repeat (first | apply Kd.V_alloc | apply Kd.V_drewN | apply Kd.V_drew)); exact HO_369002.out⟩, ⟨by (with_reducible repeat (first | apply Kd.V_alloc | apply Kd.V_drewN | apply Kd.V_drew)); exact HO_381002.out⟩, ⟨bkA BK357.out⟩, ⟨bkA BK358.out⟩, ⟨bkA BK368.out⟩, ⟨bkA BK380.out⟩, ⟨hbA HB.out⟩⟩
                · rw [if_neg c45] at H
                  have c45b0 : decide (a0_0 ≤ a1_0) = false := decide_eq_false c45
                  clear c45
                  by_cases c50 : a1_1 ≥ a0_0
                  · rw [if_pos c50] at H
                    have c50b0 : decide (a0_0 ≤ a1_1) = true := decide_eq_true c50
                    clear c50
                    have H' := Aside0.mk H
                    clear H
                    have hnb51 := NB357_358.out
                    have hnc51 := NB358_357.out
                    have hnb52 := NB357_368.out
                    have hnc52 := NB368_357.out
                    have hnb53 := NB357_380.out
                    have hnc53 := NB380_357.out
                    obtain ⟨hcz54_0, hcz54_1, hcz54_2, hfz54_0, hfz54_1, hfz54_2⟩ := cell3 BK357
                    go_wp2
                    go_meet
                    case rel => exact ⟨_, (true), rsE, H', ⟨by have := HJ7.out; first | omega | exact Nat.le_refl _⟩, ⟨by (with_reducible repeat (first | apply Kd.V_alloc | apply Kd.V_drewN | apply Kd.V_drew)); exact HO_369002.out⟩, ⟨by (with_reducible repeat (first | apply Kd.V_alloc | apply Kd.V_drewN | apply Kd.V_drew)); exact HO_381002.out⟩, ⟨bkA BK357.out⟩, ⟨bkA BK358.out⟩, ⟨bkA BK368.out⟩, ⟨bkA BK380.out⟩, ⟨hbA HB.out⟩⟩
                  · rw [if_neg c50] at H
                    have c50b0 : decide (a0_0 ≤ a1_1) = false := decide_eq_false c50
                    clear c50
                    by_cases c55 : a1_0 = a1_1
                    · rw [if_pos c55] at H
                      have c55b0 : (a1_0 == a1_1) = true := beq_iff_eq.mpr c55
                      have c55b1 : (a1_0 != a1_1) = false := bne_eq_false_iff_eq.mpr c55
                      clear c55
                      have H' := Aside0.mk H
                      clear H
                      have hnb56 := NB357_358.out
                      have hnc56 := NB358_357.out
                      have hnb57 := NB357_368.out
                      have hnc57 := NB368_357.out
                      have hnb58 := NB357_380.out
                      have hnc58 := NB380_357.out
                      obtain ⟨hcz59_0, hcz59_1, hcz59_2, hfz59_0, hfz59_1, hfz59_2⟩ := cell3 BK357
                      go_wp2
                      go_meet
                      case rel => exact ⟨_, (true), rsE, H', ⟨by have := HJ7.out; first | omega | exact Nat.le_refl _⟩, ⟨by (with_reducible repeat (first | apply Kd.V_alloc | apply Kd.V_drewN | apply Kd.V_drew)); exact HO_369002.out⟩, ⟨by (with_reducible repeat (first | apply Kd.V_alloc | apply Kd.V_drewN | apply Kd.V_drew)); exact HO_381002.out⟩, ⟨bkA BK357.out⟩, ⟨bkA BK358.out⟩, ⟨bkA BK368.out⟩, ⟨bkA BK380.out⟩, ⟨hbA HB.out⟩⟩
                    · rw [if_neg c55] at H
                      have c55b0 : (a1_0 == a1_1) = false := beq_eq_false_iff_ne.mpr c55
                      have c55b1 : (a1_0 != a1_1) = true := bne_iff_ne.mpr c55
                      have H' := Aside0.mk H
                      clear H
                      have hnb60 := NB357_358.out
                      have hnc60 := NB358_357.out
                      have hnb61 := NB357_368.out
                      have hnc61 := NB368_357.out
                      have hnb62 := NB357_380.out
                      have hnc62 := NB380_357.out
                      obtain ⟨hcz63_0, hcz63_1, hcz63_2, hfz63_0, hfz63_1, hfz63_2⟩ := cell3 BK357
                      go_wp2
                      go_meet
                      case rel => exact ⟨_, ((a2 == 0)), rsE, H', ⟨by have := HJ7.out; first | omega | exact Nat.le_refl _⟩, ⟨by (with_reducible repeat (first | apply Kd.V_alloc | apply Kd.V_drewN | apply Kd.V_drew)); exact HO_369002.out⟩, ⟨by (with_reducible repeat (first | apply Kd.V_alloc | apply Kd.V_drewN | apply Kd.V_drew)); exact HO_381002.out⟩, ⟨bkA BK357.out⟩, ⟨bkA BK358.out⟩, ⟨bkA BK368.out⟩, ⟨bkA BK380.out⟩, ⟨hbA HB.out⟩⟩
          case rest =>
            clear HC42
            (try clear c1); (try clear c2); (try clear p2 p2); (try clear c3); (try clear c4); (try clear c5); (try clear c6); (try clear c12); (try clear c14); (try clear c16); (try clear c17); (try clear c21); (try clear c25); (try clear c26); (try clear c27); (try clear c30); (try clear c30b0); (try clear c30b1); (try clear c31); (try clear c31b0); (try clear c31b1); (try clear c33); (try clear c34); (try clear c35); (try clear c37); (try clear c38); (try clear c41); (try clear c43); (try clear c43b0); (try clear c44); (try clear c44b0); (try clear c45); (try clear c45b0); (try clear c46); (try clear c47); (try clear c48); (try clear c50); (try clear c50b0); (try clear c51); (try clear c52); (try clear c53); (try clear c55); (try clear c55b0); (try clear c55b1); (try clear c56); (try clear c57); (try clear c58); (try clear c60); (try clear c61); (try clear c62); (try clear hcz13_0 hcz13_1 hcz13_2 hfz13_0 hfz13_1 hfz13_2); (try clear hcz18_0 hcz18_1 hcz18_2 hfz18_0 hfz18_1 hfz18_2); (try clear hcz20_0 hcz20_1 hcz20_2 hfz20_0 hfz20_1 hfz20_2); (try clear hcz22_0 hcz22_1 hcz22_2 hfz22_0 hfz22_1 hfz22_2); (try clear hcz28_0 hcz28_1 hcz28_2 hfz28_0 hfz28_1 hfz28_2); (try clear hcz36_0 hcz36_1 hcz36_2 hfz36_0 hfz36_1 hfz36_2); (try clear hcz39_0 hcz39_1 hcz39_2 hfz39_0 hfz39_1 hfz39_2); (try clear hcz49_0 hcz49_1 hcz49_2 hfz49_0 hfz49_1 hfz49_2); (try clear hcz54_0 hcz54_1 hcz54_2 hfz54_0 hfz54_1 hfz54_2); (try clear hcz59_0 hcz59_1 hcz59_2 hfz59_0 hfz59_1 hfz59_2); (try clear hcz63_0 hcz63_1 hcz63_2 hfz63_0 hfz63_1 hfz63_2)
            obtain ⟨kq, x84_41, rfl, HA, HJ41, HO_369002, HO_381002, BK357, BK358, BK368, BK380, HB⟩ := hcut
            cases kq with
            | zero => exact absurd HA.out (by simp [recouplaw04_GaussStays.j1])
            | succ kj41 =>
              have H := HA.out
              clear HA
              simp only [recouplaw04_GaussStays.j1] at H
              by_cases c64 : x84_41 = true
              · subst c64
                rw [if_pos rfl] at H
                obtain ⟨t382, A65, H⟩ := bindO H
                (try dsimp only at H)
                obtain rfl := Option.some.inj H
                go_wp2_with (first | ((with_reducible refine gC 22 rfl ?_); refine cG (some 85) Try.func22 #[] ?_; (with_reducible refine (recouplaw04_anchored.calls  t382 _ A65.out).mono ?_); rintro e w66 ⟨rfl, hb⟩; refine ⟨_, rfl, ?_⟩; replace HO_369002 := Aside0.mk (Kd.V_below (by (with_reducible repeat (first | apply Kd.V_alloc | apply Kd.V_drewN | apply Kd.V_drew)); exact HO_369002.out) hb); replace HO_381002 := Aside0.mk (Kd.V_below (by (with_reducible repeat (first | apply Kd.V_alloc | apply Kd.V_drewN | apply Kd.V_drew)); exact HO_381002.out) hb); replace BK357 := bkB BK357 hb; replace BK358 := bkB BK358 hb; replace BK368 := bkB BK368 hb; replace BK380 := bkB BK380 hb; replace HB := hbB HB hb; (try clear hb); (try clear hb2); (try clear hk); (try clear hi)))
                go_ret
                exact ⟨rfE, hbA HB.out⟩
              · replace c64 := Bool.eq_false_iff.mpr c64
                subst c64
                rw [if_neg nofT] at H
                obtain ⟨⟨t383, t384, t385⟩, A67, H⟩ := bindO H
                (try dsimp only at H)
                have H' := Aside0.mk H
                clear H
                have hnb68 := NB357_358.out
                have hnc68 := NB358_357.out
                have hnb69 := NB357_368.out
                have hnc69 := NB368_357.out
                have hnb70 := NB357_380.out
                have hnc70 := NB380_357.out
                obtain ⟨hcz71_0, hcz71_1, hcz71_2, hfz71_0, hfz71_1, hfz71_2⟩ := cell3 BK357
                go_wp2_with (first | ((with_reducible refine gC 23 rfl ?_); refine cG (some 87) Try.func23 #[.agg #[.int .i64 a0_0, .int .i64 a0_1, .slice A0_2 l0_2.length c0_2]] ?_; (with_reducible refine (recoupref03_Copy.calls a0_0 a0_1 _ _ l0_2 t383 t384 t385 _ ?side1 ?side2 A67.out).mono ?_); (case side1 => exact kcB HR0_2 HB); (case side2 => exact HC0_2.out); rintro e w72 ⟨v386, rfl, ho0, hb⟩; refine ⟨_, rfl, ?_⟩; replace HO_369002 := Aside0.mk (Kd.V_elder' (by (with_reducible repeat (first | apply Kd.V_alloc | apply Kd.V_drewN | apply Kd.V_drew)); exact HO_369002.out) (Kd.R_base ho0) hb); replace HO_381002 := Aside0.mk (Kd.V_elder' (by (with_reducible repeat (first | apply Kd.V_alloc | apply Kd.V_drewN | apply Kd.V_drew)); exact HO_381002.out) (Kd.R_base ho0) hb); have HO387 := Aside0.mk (Kd.R_lower ho0 (below_size (hbA HB.out))); replace BK357 := bkB BK357 hb; replace BK358 := bkB BK358 hb; replace BK368 := bkB BK368 hb; replace BK380 := bkB BK380 hb; replace HB := hbB HB hb; (try clear hb); (try clear hb2); (try clear hk); (try clear hi); (try clear ho0)) | ((with_reducible refine gD 15 rfl ?_); refine bE 15 #[.int .i64 0, .int .i64 0, .slice none 0 0] 24 ?_; intro gb388 hg w73 hbox hb; replace HO_369002 := Aside0.mk (Kd.V_below (Kd.V_elderB (by (with_reducible repeat (first | apply Kd.V_alloc | apply Kd.V_drewN | apply Kd.V_drew)); exact HO_369002.out) gb388 (Nat.le_of_eq hg.symm)) hb); replace HO_381002 := Aside0.mk (Kd.V_below (Kd.V_elderB (by (with_reducible repeat (first | apply Kd.V_alloc | apply Kd.V_drewN | apply Kd.V_drew)); exact HO_381002.out) gb388 (Nat.le_of_eq hg.symm)) hb); replace HO387 := kdB HO387 hb; have BK388 := Aside0.mk (hbox); have GW388 := hbS HB hg; have GE388 := hbS HB hg; replace HB := hbB HB hb; have NB357_388 := neL BK357 hg; have NB388_357 := neG BK357 hg; replace BK357 := bkB BK357 hb; have NB358_388 := neL BK358 hg; have NB388_358 := neG BK358 hg; replace BK358 := bkB BK358 hb; have NB368_388 := neL BK368 hg; have NB388_368 := neG BK368 hg; replace BK368 := bkB BK368 hb; have NB380_388 := neL BK380 hg; have NB388_380 := neG BK380 hg; replace BK380 := bkB BK380 hb; clear hb hbox hg; have hnb74 := NB388_357.out; have hnc74 := NB357_388.out; have hnb75 := NB388_358.out; have hnc75 := NB358_388.out; have hnb76 := NB388_368.out; have hnc76 := NB368_388.out; have hnb77 := NB388_380.out; have hnc77 := NB380_388.out; obtain ⟨hcz78_0, hcz78_1, hcz78_2, hfz78_0, hfz78_1, hfz78_2⟩ := cell3 BK388; obtain ⟨Ao79, co79, eo79⟩ := Kd.R_slice HO387.out; subst eo79))
                go_loopg [16] kj41 (fun kq v16 w' => ∃ (x16_3 : Int) (x369002_3 : List Int) (x381002_3 : List Int) (x389002_3 : List Int) (u369002 : Value) (u381002 : Value) (u389002 : Value), v16 = .int .i64 x16_3 ∧ Aside0 (recouplaw04_GaussStays.l0 kq a2 a1_0 a1_1 x16_3 a0_0 a0_1 l0_2 t359 t360 x369002_3 t383 t384 x389002_3 = some r) ∧ Aside0 (kq ≤ kj41) ∧ Aside0 (Kd.V (Kd.int .u8) 5 w' w.heap.size (fun k_ => some k_ ≠ (u389002 : Value).ownBlock ∧ k_ ≠ gb357 ∧ k_ ≠ gb358 ∧ k_ ≠ gb368 ∧ k_ ≠ gb380 ∧ k_ ≠ gb388) u369002 x369002_3) ∧ Aside0 (Kd.V (Kd.int .u8) 5 w' w.heap.size (fun k_ => some k_ ≠ (u389002 : Value).ownBlock ∧ k_ ≠ gb357 ∧ k_ ≠ gb358 ∧ k_ ≠ gb368 ∧ k_ ≠ gb380 ∧ k_ ≠ gb388) u381002 x381002_3) ∧ Aside0 (Kd.R (Kd.int .u8) 5 w' w.heap.size (fun _ => True) u389002 x389002_3) ∧ Aside0 (w'.heap[gb357]? = some (.cells #[.int .i64 a0_0, .int .i64 a0_1, (.slice A0_2 l0_2.length c0_2)] 24 (0, 0))) ∧ Aside0 (w'.heap[gb358]? = some (.cells #[.int .i64 a1_0, .int .i64 a1_1] 40 (0, 0))) ∧ Aside0 (w'.heap[gb368]? = some (.cells #[.int .i64 t359, .int .i64 t360, u369002] 24 (0, 0))) ∧ Aside0 (w'.heap[gb380]? = some (.cells #[.int .i64 t371, .int .i64 t372, u381002] 24 (0, 0))) ∧ Aside0 (w'.heap[gb388]? = some (.cells #[.int .i64 t383, .int .i64 t384, u389002] 24 (0, 0))) ∧ Aside0 (Below w.heap.size w w'))
                case atStart => exact ⟨(0), (t361), (t373), (t385), (.slice Ao19 t361.length co19), (.slice Ao29 t373.length co29), (.slice Ao79 t385.length co79), rsE, H', ⟨Nat.le_refl _⟩, ⟨by (with_reducible repeat (first | apply Kd.V_alloc | apply Kd.V_drewN | apply Kd.V_drew)); exact Kd.V_mono (Kd.V_far (p := ⟨gb388, 2, none⟩) (Kd.V_far (p := ⟨gb388, 1, none⟩) (Kd.V_far (p := ⟨gb388, 0, none⟩) (Kd.V_mono HO_369002.out (fun k_ hk => (⟨hk, hk.2⟩ : _ ∧ k_ ≠ gb388))) (fun _ hk => hk.2) (.int .i64 t383)) (fun _ hk => hk.2) (.int .i64 t384)) (fun _ hk => hk.2) (.slice Ao79 t385.length co79)) (fun _ hk => ⟨hk.1.1.2, ⟨hk.1.1.1.1, ⟨hk.1.1.1.2.1, ⟨hk.1.1.1.2.2.1, ⟨hk.1.1.1.2.2.2, hk.1.2⟩⟩⟩⟩⟩)⟩, ⟨by (with_reducible repeat (first | apply Kd.V_alloc | apply Kd.V_drewN | apply Kd.V_drew)); exact Kd.V_mono (Kd.V_far (p := ⟨gb388, 2, none⟩) (Kd.V_far (p := ⟨gb388, 1, none⟩) (Kd.V_far (p := ⟨gb388, 0, none⟩) (Kd.V_mono HO_381002.out (fun k_ hk => (⟨hk, hk.2⟩ : _ ∧ k_ ≠ gb388))) (fun _ hk => hk.2) (.int .i64 t383)) (fun _ hk => hk.2) (.int .i64 t384)) (fun _ hk => hk.2) (.slice Ao79 t385.length co79)) (fun _ hk => ⟨hk.1.1.2, ⟨hk.1.1.1.1, ⟨hk.1.1.1.2.1, ⟨hk.1.1.1.2.2.1, ⟨hk.1.1.1.2.2.2, hk.1.2⟩⟩⟩⟩⟩)⟩, ⟨by (with_reducible repeat (first | apply Kd.R_alloc | apply Kd.R_drewN | apply Kd.R_drew)); exact Kd.R_mono (Kd.R_far (p := ⟨gb388, 2, none⟩) (Kd.R_far (p := ⟨gb388, 1, none⟩) (Kd.R_far (p := ⟨gb388, 0, none⟩) (Kd.R_types HO387.out BK388.out (by decide)) (fun _ hk => hk.2) (.int .i64 t383)) (fun _ hk => hk.2) (.int .i64 t384)) (fun _ hk => hk.2) (.slice Ao79 t385.length co79)) (fun _ hk => trivial)⟩, ⟨by refine bkR ?_; refine blk_far ?_ NB357_388.out _; refine bkR ?_; refine blk_far ?_ NB357_388.out _; refine bkR ?_; refine blk_far ?_ NB357_388.out _; refine bkR ?_; exact BK357.out⟩, ⟨by refine bkR ?_; refine blk_far ?_ NB358_388.out _; refine bkR ?_; refine blk_far ?_ NB358_388.out _; refine bkR ?_; refine blk_far ?_ NB358_388.out _; refine bkR ?_; exact BK358.out⟩, ⟨by refine bkR ?_; refine blk_far ?_ NB368_388.out _; refine bkR ?_; refine blk_far ?_ NB368_388.out _; refine bkR ?_; refine blk_far ?_ NB368_388.out _; refine bkR ?_; exact BK368.out⟩, ⟨by refine bkR ?_; refine blk_far ?_ NB380_388.out _; refine bkR ?_; refine blk_far ?_ NB380_388.out _; refine bkR ?_; refine blk_far ?_ NB380_388.out _; refine bkR ?_; exact BK380.out⟩, ⟨by refine bkR ?_; refine blk_put (cs := #[.int .i64 t383, .int .i64 t384, .slice none 0 0]) ?_ 2 _ rfl; refine bkR ?_; refine blk_put (cs := #[.int .i64 t383, .int .i64 0, .slice none 0 0]) ?_ 1 _ rfl; refine bkR ?_; refine blk_put (cs := #[.int .i64 0, .int .i64 0, .slice none 0 0]) ?_ 0 _ rfl; refine bkR ?_; exact BK388.out⟩, ⟨hbA HB.out⟩⟩
                case round =>
                  clear H'
                  (try clear c1); (try clear c2); (try clear p2 p2); (try clear c3); (try clear c4); (try clear c5); (try clear c6); (try clear c7); (try clear c12); (try clear c14); (try clear c16); (try clear c17); (try clear c21); (try clear c22); (try clear c23); (try clear c25); (try clear c26); (try clear c27); (try clear c30); (try clear c30b0); (try clear c30b1); (try clear c31); (try clear c31b0); (try clear c31b1); (try clear c33); (try clear c34); (try clear c35); (try clear c37); (try clear c38); (try clear c41); (try clear c43); (try clear c43b0); (try clear c44); (try clear c44b0); (try clear c45); (try clear c45b0); (try clear c46); (try clear c47); (try clear c48); (try clear c50); (try clear c50b0); (try clear c51); (try clear c52); (try clear c53); (try clear c55); (try clear c55b0); (try clear c55b1); (try clear c56); (try clear c57); (try clear c58); (try clear c60); (try clear c61); (try clear c62); (try clear c64); (try clear c68); (try clear c69); (try clear c70); (try clear c74); (try clear c75); (try clear c76); (try clear c77); (try clear hcz13_0 hcz13_1 hcz13_2 hfz13_0 hfz13_1 hfz13_2); (try clear hcz18_0 hcz18_1 hcz18_2 hfz18_0 hfz18_1 hfz18_2); (try clear hcz20_0 hcz20_1 hcz20_2 hfz20_0 hfz20_1 hfz20_2); (try clear hcz22_0 hcz22_1 hcz22_2 hfz22_0 hfz22_1 hfz22_2); (try clear hcz28_0 hcz28_1 hcz28_2 hfz28_0 hfz28_1 hfz28_2); (try clear hcz36_0 hcz36_1 hcz36_2 hfz36_0 hfz36_1 hfz36_2); (try clear hcz39_0 hcz39_1 hcz39_2 hfz39_0 hfz39_1 hfz39_2); (try clear hcz49_0 hcz49_1 hcz49_2 hfz49_0 hfz49_1 hfz49_2); (try clear hcz54_0 hcz54_1 hcz54_2 hfz54_0 hfz54_1 hfz54_2); (try clear hcz59_0 hcz59_1 hcz59_2 hfz59_0 hfz59_1 hfz59_2); (try clear hcz63_0 hcz63_1 hcz63_2 hfz63_0 hfz63_1 hfz63_2); (try clear hcz71_0 hcz71_1 hcz71_2 hfz71_0 hfz71_1 hfz71_2); (try clear hcz78_0 hcz78_1 hcz78_2 hfz78_0 hfz78_1 hfz78_2)
                  obtain ⟨x16_3, x369002_3, x381002_3, x389002_3, u369002, u381002, u389002, rfl, HA, HK3, HO_369002, HO_381002, HO_389002, BK357, BK358, BK368, BK380, BK388, HB⟩ := hrel
                  cases gk with
                  | zero => exact absurd HA.out (by simp [recouplaw04_GaussStays.l0])
                  | succ k3 =>
                    have H := HA.out
                    clear HA
                    simp only [recouplaw04_GaussStays.l0] at H
                    by_cases c80 : x16_3 < a0_1
                    · rw [if_pos c80] at H
                      have c80b0 : decide (x16_3 < a0_1) = true := decide_eq_true c80
                      clear c80
                      obtain ⟨t389, A81, H⟩ := bindO H
                      (try dsimp only at H)
                      obtain ⟨t390, A82, H⟩ := bindO H
                      (try dsimp only at H)
                      obtain ⟨t391, A83, H⟩ := bindO H
                      (try dsimp only at H)
                      obtain ⟨ji84, hji84⟩ : ∃ j_ : Int, (wrap64 ((wrap64 (a1_1 * a0_1)) + x16_3)) = j_ := ⟨_, rfl⟩
                      replace H : (if 0 ≤ (ji84) then (if (ji84) < (x389002_3.length : Int) then (recouplaw04_GaussStays.l0 k3 a2 a1_0 a1_1 (wrap64 (x16_3 + 1)) a0_0 a0_1 l0_2 t359 t360 x369002_3 t383 t384 (x389002_3.set ((ji84) : Int).toNat (Go.bits .xor .u8 t391 t390))) else (none)) else (none)) = some r := by first | (rw [hji84] at H; exact H) | (simp only [hji84] at H ⊢; exact H)
                      (try rw [hji84] at A81)
                      (try rw [hji84] at A82)
                      (try rw [hji84] at A83)
                      have hji84w : (IntKind.i64.wrap ((wrap64 (a1_1 * a0_1)) + x16_3)) = ji84 := (i64_w _).trans hji84
                      by_cases c85 : 0 ≤ (ji84)
                      · rw [if_pos c85] at H
                        have c85b0 : decide (0 ≤ (ji84)) = true := decide_eq_true c85
                        clear c85
                        by_cases c86 : (ji84) < (x389002_3.length : Int)
                        · rw [if_pos c86] at H
                          have c86b0 : decide ((ji84) < (x389002_3.length : Int)) = true := decide_eq_true c86
                          clear c86
                          obtain ⟨y392, hy392⟩ : ∃ y_ : List Int, y_ = (x389002_3.set ((ji84) : Int).toNat (Go.bits .xor .u8 t391 t390)) := ⟨_, rfl⟩
                          replace H : (recouplaw04_GaussStays.l0 k3 a2 a1_0 a1_1 (wrap64 (x16_3 + 1)) a0_0 a0_1 l0_2 t359 t360 x369002_3 t383 t384 y392) = some r := by first | (rw [hy392]; with_reducible exact H) | (have H2_ := (Option.bind_some _ _).symm.trans H; rw [hy392]; with_reducible exact H2_) | (have H2_ := (Option.bind_some _ _).symm.trans H; with_reducible exact H2_) | with_reducible exact H | (rw [hy392]; exact H) | exact H
                          have Ny392 := Aside0.mk hy392
                          clear hy392
                          have H' := Aside0.mk H
                          clear H
                          have hnb88 := NB357_358.out
                          have hnc88 := NB358_357.out
                          have hnb89 := NB357_368.out
                          have hnc89 := NB368_357.out
                          have hnb90 := NB357_380.out
                          have hnc90 := NB380_357.out
                          have hnb91 := NB357_388.out
                          have hnc91 := NB388_357.out
                          obtain ⟨hcz92_0, hcz92_1, hcz92_2, hfz92_0, hfz92_1, hfz92_2⟩ := cell3 BK357
                          try go_wp2
                          replace HO_369002 := Aside0.mk (Kd.V_drew HO_369002.out)
                          replace HO_381002 := Aside0.mk (Kd.V_drew HO_381002.out)
                          replace HO_389002 := Aside0.mk (Kd.R_drew HO_389002.out)
                          replace BK357 := Aside0.mk (blk_drew BK357.out)
                          replace BK358 := Aside0.mk (blk_drew BK358.out)
                          replace BK368 := Aside0.mk (blk_drew BK368.out)
                          replace BK380 := Aside0.mk (blk_drew BK380.out)
                          replace BK388 := Aside0.mk (blk_drew BK388.out)
                          replace HB := Aside0.mk (below_drew1 HB.out)
                          refine start_ (n := 10) (S := fun w' => w'.cell? ⟨gb357, 0, none⟩ = some (.int .i64 a0_0) ∧ w'.cell? ⟨gb357, 1, none⟩ = some (.int .i64 a0_1) ∧ w'.cell? ⟨gb357, 2, none⟩ = some (.slice A0_2 l0_2.length c0_2)) (ds := []) (.replicate 10 false) (by kernel_rfl) rfl rfl ⟨(blk_cell BK357.out 0).trans rfl, (blk_cell BK357.out 1).trans rfl, (blk_cell BK357.out 2).trans rfl⟩ (fun hHeld => ?_); refine with_tabW recouplaw04_GaussStays.tab14 recouplaw04_GaussStays.bits14 (fun HT_ HW_ => ?_)
                          generalize wr.drew = w93 at HO_369002 HO_381002 HO_389002 BK357 BK358 BK368 BK380 BK388 HB hHeld ⊢
                          refine pu 1 (some 95) (mB 10 2) HT_ ?_
                          refine pu 2 (some 96) (mB 10 6) HT_ ?_
                          refine pu 5 (some 99) (mB 10 38) HT_ ?_
                          refine pu 6 (some 100) (mB 10 102) HT_ ?_
                          refine tk3 0 (some 94) (mB 10 103) HT_ HW_ hHeld ?_
                          refine tk3 4 (some 98) (mB 10 119) HT_ HW_ hHeld ?_
                          refine one_ (i := 3) (N := some 97) (mB 10 127) rfl rfl (one_of HT_.out (by kernel_rfl)) (by decide) (fun K hK => ?_)
                          refine goes_ Try.func24 (by kernel_rfl) rfl #[.agg #[.int .i64 a0_0, .int .i64 a0_1, .slice A0_2 l0_2.length c0_2], .int .i64 a1_0, .int .i64 x16_3] (by rfl) rfl rfl (by (try simp only [List.map_toArray, List.map_cons, List.map_nil]); first | done | rfl | (simp only [List.length_drop, List.length_take]; rfl)) ?_
                          with_reducible refine (recoupref03_At.calls a0_0 a0_1 _ _ l0_2 a1_0 x16_3 t389 _ ?side1 ?side2 A81.out).mono ?_
                          (case side1 => exact kcB HR0_2 HB)
                          (case side2 => exact HC0_2.out)
                          rintro e w94 ⟨rfl, hb⟩
                          refine ⟨_, rfl, ?_⟩
                          replace HO_369002 := Aside0.mk (Kd.V_below (by (with_reducible repeat (first | apply Kd.V_alloc | apply Kd.V_drewN | apply Kd.V_drew)); exact HO_369002.out) hb)
                          replace HO_381002 := Aside0.mk (Kd.V_below (by (with_reducible repeat (first | apply Kd.V_alloc | apply Kd.V_drewN | apply Kd.V_drew)); exact HO_381002.out) hb)
                          replace HO_389002 := kdB HO_389002 hb
                          replace BK357 := bkB BK357 hb
                          replace BK358 := bkB BK358 hb
                          replace BK368 := bkB BK368 hb
                          replace BK380 := bkB BK380 hb
                          replace BK388 := bkB BK388 hb
                          replace HB := hbB HB hb
                          (try clear hb)
                          (try clear hb2)
                          (try clear hk)
                          (try clear hi)
                          refine hK.out _ _ ⟨(blk_cell BK357.out 0).trans rfl, (blk_cell BK357.out 1).trans rfl, (blk_cell BK357.out 2).trans rfl⟩ (fun hHeld => ?_)
                          clear hK K
                          refine norm_ (a' := ?_) ?_ ?_
                          rotate_left
                          · show Act.put _ (some 97) _ = _
                            simp only [Act.put, List.setIfInBounds_toArray, List.set_cons_zero, List.set_cons_succ, i64_w, i32_w]
                            rfl
                          refine one_ (i := 7) (N := some 101) (mB 10 255) rfl rfl (one_of HT_.out (by kernel_rfl)) (by decide) (fun K hK => ?_)
                          refine goes_ Try.func24 (by kernel_rfl) rfl #[.agg #[.int .i64 a0_0, .int .i64 a0_1, .slice A0_2 l0_2.length c0_2], .int .i64 a1_1, .int .i64 x16_3] (by rfl) rfl rfl (by (try simp only [List.map_toArray, List.map_cons, List.map_nil]); first | done | rfl | (simp only [List.length_drop, List.length_take]; rfl)) ?_
                          with_reducible refine (recoupref03_At.calls a0_0 a0_1 _ _ l0_2 a1_1 x16_3 t390 _ ?side1 ?side2 A82.out).mono ?_
                          (case side1 => exact kcB HR0_2 HB)
                          (case side2 => exact HC0_2.out)
                          rintro e w95 ⟨rfl, hb⟩
                          refine ⟨_, rfl, ?_⟩
                          replace HO_369002 := Aside0.mk (Kd.V_below (by (with_reducible repeat (first | apply Kd.V_alloc | apply Kd.V_drewN | apply Kd.V_drew)); exact HO_369002.out) hb)
                          replace HO_381002 := Aside0.mk (Kd.V_below (by (with_reducible repeat (first | apply Kd.V_alloc | apply Kd.V_drewN | apply Kd.V_drew)); exact HO_381002.out) hb)
                          replace HO_389002 := kdB HO_389002 hb
                          replace BK357 := bkB BK357 hb
                          replace BK358 := bkB BK358 hb
                          replace BK368 := bkB BK368 hb
                          replace BK380 := bkB BK380 hb
                          replace BK388 := bkB BK388 hb
                          replace HB := hbB HB hb
                          (try clear hb)
                          (try clear hb2)
                          (try clear hk)
                          (try clear hi)
                          refine hK.out _ _ ⟨(blk_cell BK357.out 0).trans rfl, (blk_cell BK357.out 1).trans rfl, (blk_cell BK357.out 2).trans rfl⟩ (fun hHeld => ?_)
                          clear hK K
                          refine norm_ (a' := ?_) ?_ ?_
                          rotate_left
                          · show Act.put _ (some 101) _ = _
                            simp only [Act.put, List.setIfInBounds_toArray, List.set_cons_zero, List.set_cons_succ, i64_w, i32_w]
                            rfl
                          refine pu 8 (some 17) (mB 10 511) HT_ ?_
                          refine pu 9 (some 18) (mB 10 1023) HT_ ?_
                          refine done_ (done_of HT_.out (by kernel_rfl)) ?_
                          try go_wp2
                          replace HO_369002 := Aside0.mk (Kd.V_drew HO_369002.out)
                          replace HO_381002 := Aside0.mk (Kd.V_drew HO_381002.out)
                          replace HO_389002 := Aside0.mk (Kd.R_drew HO_389002.out)
                          replace BK357 := Aside0.mk (blk_drew BK357.out)
                          replace BK358 := Aside0.mk (blk_drew BK358.out)
                          replace BK368 := Aside0.mk (blk_drew BK368.out)
                          replace BK380 := Aside0.mk (blk_drew BK380.out)
                          replace BK388 := Aside0.mk (blk_drew BK388.out)
                          replace HB := Aside0.mk (below_drew1 HB.out)
                          refine start_ (n := 15) (S := fun w' => w'.cell? ⟨gb388, 0, none⟩ = some (.int .i64 t383) ∧ w'.cell? ⟨gb388, 1, none⟩ = some (.int .i64 t384) ∧ w'.cell? ⟨gb388, 2, none⟩ = some (u389002) ∧ w'.cell? ⟨gb357, 0, none⟩ = some (.int .i64 a0_0) ∧ w'.cell? ⟨gb357, 1, none⟩ = some (.int .i64 a0_1) ∧ w'.cell? ⟨gb357, 2, none⟩ = some (.slice A0_2 l0_2.length c0_2)) (ds := [14]) (.replicate 15 false) (by kernel_rfl) rfl rfl ⟨(blk_cell BK388.out 0).trans rfl, (blk_cell BK388.out 1).trans rfl, (blk_cell BK388.out 2).trans rfl, (blk_cell BK357.out 0).trans rfl, (blk_cell BK357.out 1).trans rfl, (blk_cell BK357.out 2).trans rfl⟩ (fun hHeld => ?_); refine with_tabW recouplaw04_GaussStays.tab15 recouplaw04_GaussStays.bits15 (fun HT_ HW_ => ?_)
                          generalize w95.drew = w96 at HO_369002 HO_381002 HO_389002 BK357 BK358 BK368 BK380 BK388 HB hHeld ⊢
                          refine pu 0 (some 102) (mB 15 1) HT_ ?_
                          refine pu 2 (some 104) (mB 15 5) HT_ ?_
                          refine pu 3 (some 105) (mB 15 13) HT_ ?_
                          refine pu 6 (some 108) (mB 15 77) HT_ ?_
                          refine pu 8 (some 110) (mB 15 333) HT_ ?_
                          refine pu 9 (some 111) (mB 15 845) HT_ ?_
                          refine pu 11 (some 113) (mB 15 2893) HT_ ?_
                          refine tk6 1 (some 103) (mB 15 2895) HT_ HW_ hHeld ?_
                          refine tk6 4 (some 106) (mB 15 2911) HT_ HW_ hHeld ?_
                          refine pu 5 (some 107) (mB 15 2943) HT_ ?_
                          refine pu 7 (some 109) (mB 15 3071) HT_ ?_
                          refine one_ (i := 10) (N := some 112) (mB 15 4095) rfl rfl (one_of HT_.out (by kernel_rfl)) (by decide) (fun K hK => ?_)
                          refine goes_ Try.func25 (by kernel_rfl) rfl #[.int .u8 a2, .int .u8 t389] (by rfl) rfl rfl (by (try simp only [List.map_toArray, List.map_cons, List.map_nil]); first | done | rfl | (simp only [List.length_drop, List.length_take]; rfl)) ?_
                          with_reducible refine (recoupref01_Mul.calls k3 a2 t389 t391 _ A83.out).mono ?_
                          rintro e w' ⟨rfl, ⟨nd, rfl⟩⟩
                          refine ⟨_, rfl, ?_⟩
                          have p87 : 0 ≤ ((ji84) : Int) := of_decide_eq_true asE
                          have q87 : ((ji84) : Int) < ((x389002_3.length : Int) : Int) := of_decide_eq_true asE
                          obtain ⟨go87, co87, eo87, gb87, gl87, cl87, HG87⟩ := Kd.R_form HO_389002.out (by omega)
                          (first | cases eo87 | (injection eo87 with ea_ en_ ec_; (first | subst ea_ | (injection ea_ with ea_; subst ea_)); subst ec_; clear en_))
                          have GB87 := Aside0.mk gb87
                          have GG87 := Aside0.mk HG87
                          clear gb87 gl87 HG87
                          obtain ⟨hx87_0, hf87_0⟩ := Kd.R_celln 0 HO_389002.out ((ji84) : Int) p87 q87
                          replace p87 := eq_true p87
                          replace q87 := eq_true q87
                          have HP97 := Kd.R_putn HO_389002.out ((ji84) : Int) (Go.bits .xor .u8 t391 t390)
                          rw [← Ny392.out] at HP97
                          have HQ97 := Aside0.mk HP97
                          clear HP97
                          refine hK.out _ _ ⟨(blk_cell BK388.out 0).trans rfl, (blk_cell BK388.out 1).trans rfl, (blk_cell BK388.out 2).trans rfl, (blk_cell BK357.out 0).trans rfl, (blk_cell BK357.out 1).trans rfl, (blk_cell BK357.out 2).trans rfl⟩ (fun hHeld => ?_)
                          clear hK K
                          refine norm_ (a' := ?_) ?_ ?_
                          rotate_left
                          · show Act.put _ (some 112) _ = _
                            simp only [Act.put, List.setIfInBounds_toArray, List.set_cons_zero, List.set_cons_succ, i64_w, i32_w]
                            rfl
                          refine pu 12 (some 114) (mB 15 8191) HT_ ?_
                          refine pu 13 (some 115) (mB 15 16383) HT_ ?_
                          refine last_ (i := 14) (N := none) (mB 15 32767) rfl rfl (one_of HT_.out (by kernel_rfl)) (by decide) (fun K hK => ?_)
                          refine skip_ (w1 := ?_) (by rfl) rfl ?_ ?_
                          rotate_left
                          · go_simp
                            rfl
                          refine hK.out _ _ ?_
                          clear hK K
                          refine done_ (done_of HT_.out (by kernel_rfl)) ?_
                          try go_wp2
                          go_roundg k3
                          case measure => have := HJ7.out; have := HJ41.out; have := HK3.out; omega
                          case rel => exact ⟨(wrap64 (x16_3 + 1)), (x369002_3), (x381002_3), (y392), (u369002), (u381002), (.slice (some ⟨go87, 0, none⟩) x389002_3.length co87), rsE, H', ⟨by have := HJ7.out; have := HJ41.out; have := HK3.out; omega⟩, ⟨by (with_reducible repeat (first | apply Kd.V_alloc | apply Kd.V_drewN | apply Kd.V_drew)); exact Kd.V_mono (Kd.V_far (p := ⟨go87, ((ji84) : Int).toNat, none⟩) (Kd.V_mono HO_369002.out (fun k_ hk => (⟨hk, fun e_ => hk.1 (by rw [e_]; rfl)⟩ : _ ∧ k_ ≠ go87))) (fun _ hk => hk.2) (.int .u8 (Go.bits .xor .u8 t391 t390))) (fun _ hk => ⟨hk.1.1, ⟨hk.1.2.1, ⟨hk.1.2.2.1, ⟨hk.1.2.2.2.1, ⟨hk.1.2.2.2.2.1, hk.1.2.2.2.2.2⟩⟩⟩⟩⟩)⟩, ⟨by (with_reducible repeat (first | apply Kd.V_alloc | apply Kd.V_drewN | apply Kd.V_drew)); exact Kd.V_mono (Kd.V_far (p := ⟨go87, ((ji84) : Int).toNat, none⟩) (Kd.V_mono HO_381002.out (fun k_ hk => (⟨hk, fun e_ => hk.1 (by rw [e_]; rfl)⟩ : _ ∧ k_ ≠ go87))) (fun _ hk => hk.2) (.int .u8 (Go.bits .xor .u8 t391 t390))) (fun _ hk => ⟨hk.1.1, ⟨hk.1.2.1, ⟨hk.1.2.2.1, ⟨hk.1.2.2.2.1, ⟨hk.1.2.2.2.2.1, hk.1.2.2.2.2.2⟩⟩⟩⟩⟩)⟩, ⟨kdA HQ97.out⟩, ⟨by refine bkR ?_; refine blk_far ?_ (by have h_ := Kd.R_ne HO_389002.out BK357.out (by decide); intro e_; exact h_ (by rw [e_]; rfl)) _; refine bkR ?_; exact BK357.out⟩, ⟨by refine bkR ?_; refine blk_far ?_ (by have h_ := Kd.R_ne HO_389002.out BK358.out (by decide); intro e_; exact h_ (by rw [e_]; rfl)) _; refine bkR ?_; exact BK358.out⟩, ⟨by refine bkR ?_; refine blk_far ?_ (by have h_ := Kd.R_ne HO_389002.out BK368.out (by decide); intro e_; exact h_ (by rw [e_]; rfl)) _; refine bkR ?_; exact BK368.out⟩, ⟨by refine bkR ?_; refine blk_far ?_ (by have h_ := Kd.R_ne HO_389002.out BK380.out (by decide); intro e_; exact h_ (by rw [e_]; rfl)) _; refine bkR ?_; exact BK380.out⟩, ⟨by refine bkR ?_; refine blk_far ?_ (by have h_ := Kd.R_ne HO_389002.out BK388.out (by decide); intro e_; exact h_ (by rw [e_]; rfl)) _; refine bkR ?_; exact BK388.out⟩, ⟨hbA HB.out⟩⟩
                        · rw [if_neg c86] at H
                          exact absurd H (by simp)
                      · rw [if_neg c85] at H
                        exact absurd H (by simp)
                    · rw [if_neg c80] at H
                      have c80b0 : decide (x16_3 < a0_1) = false := decide_eq_false c80
                      clear c80
                      obtain ⟨⟨t393, t394, t395, t398, t401⟩, A98, H⟩ := bindO H
                      (try dsimp only at H)
                      obtain ⟨t403, A99, H⟩ := bindO H
                      (try dsimp only at H)
                      by_cases c100 : t403 = true
                      · subst c100
                        rw [if_pos rfl] at H
                        by_cases c101 : t401 = 0
                        · rw [if_pos c101] at H
                          have c101b0 : (t401 == 0) = true := beq_iff_eq.mpr c101
                          have c101b1 : (t401 != 0) = false := bne_eq_false_iff_eq.mpr c101
                          clear c101
                          obtain ⟨t404, A102, H⟩ := bindO H
                          (try dsimp only at H)
                          obtain rfl := Option.some.inj H
                          have hnb103 := NB357_358.out
                          have hnc103 := NB358_357.out
                          have hnb104 := NB357_368.out
                          have hnc104 := NB368_357.out
                          have hnb105 := NB357_380.out
                          have hnc105 := NB380_357.out
                          have hnb106 := NB357_388.out
                          have hnc106 := NB388_357.out
                          obtain ⟨hcz107_0, hcz107_1, hcz107_2, hfz107_0, hfz107_1, hfz107_2⟩ := cell3 BK357
                          have hnb108 := NB388_358.out
                          have hnc108 := NB358_388.out
                          have hnb109 := NB388_368.out
                          have hnc109 := NB368_388.out
                          have hnb110 := NB388_380.out
                          have hnc110 := NB380_388.out
                          obtain ⟨hcz111_0, hcz111_1, hcz111_2, hfz111_0, hfz111_1, hfz111_2⟩ := cell3 BK388
                          obtain ⟨Ao112, co112, eo112⟩ := Kd.R_slice HO_389002.out
                          subst eo112
                          go_wp2_with (first | ((with_reducible refine gC 14 rfl ?_); refine cG (some 118) Try.func14 #[.agg #[.int .i64 t383, .int .i64 t384, .slice Ao112 x389002_3.length co112]] ?_; (with_reducible refine (gauss_Reduce.calls t383 t384 _ _ x389002_3 t393 t394 t395 t398 t401 _ ?side1 ?side2 A98.out).mono ?_); (case side1 => exact kcA (Kd.R_reads' HO_389002.out).2.2); (case side2 => exact (Kd.R_reads' HO_389002.out).2.1); rintro e w113 ⟨v396, v399, rfl, ho0, ho1, hb⟩; refine ⟨_, rfl, ?_⟩; replace HO_369002 := Aside0.mk (Kd.V_elder' (by (with_reducible repeat (first | apply Kd.V_alloc | apply Kd.V_drewN | apply Kd.V_drew)); exact HO_369002.out) (Kd.R_base ho1) hb); replace HO_381002 := Aside0.mk (Kd.V_elder' (by (with_reducible repeat (first | apply Kd.V_alloc | apply Kd.V_drewN | apply Kd.V_drew)); exact HO_381002.out) (Kd.R_base ho1) hb); have HO397 := Aside0.mk (Kd.V_lower (Kd.V_mono (ok' := fun k_ => some k_ ≠ (v399 : Value).ownBlock ∧ some k_ ≠ (.slice Ao112 x389002_3.length co112 : Value).ownBlock ∧ k_ ≠ gb357 ∧ k_ ≠ gb358 ∧ k_ ≠ gb368 ∧ k_ ≠ gb380 ∧ k_ ≠ gb388) ho0 (fun k_ hk_ => ⟨hk_.2, (Kd.fresh' (Kd.R_lt (kdA HO_389002.out)) k_ hk_.1), (Kd.freshB (g := gb357) (o := .cells #[.int .i64 a0_0, .int .i64 a0_1, .slice A0_2 l0_2.length c0_2] 24 (0, 0)) (bkA BK357.out) k_ hk_.1), (Kd.freshB (g := gb358) (o := .cells #[.int .i64 a1_0, .int .i64 a1_1] 40 (0, 0)) (bkA BK358.out) k_ hk_.1), (Kd.freshB (g := gb368) (o := .cells #[.int .i64 t359, .int .i64 t360, u369002] 24 (0, 0)) (bkA BK368.out) k_ hk_.1), (Kd.freshB (g := gb380) (o := .cells #[.int .i64 t371, .int .i64 t372, u381002] 24 (0, 0)) (bkA BK380.out) k_ hk_.1), (Kd.freshB (g := gb388) (o := .cells #[.int .i64 t383, .int .i64 t384, .slice Ao112 x389002_3.length co112] 24 (0, 0)) (bkA BK388.out) k_ hk_.1)⟩)) (below_size (hbA HB.out))); replace HO_389002 := kdB HO_389002 hb; have HO400 := Aside0.mk (Kd.R_lower (Kd.R_mono (ok' := fun k_ => True) ho1 (fun _ hk_ => trivial)) (below_size (hbA HB.out))); replace BK357 := bkB BK357 hb; replace BK358 := bkB BK358 hb; replace BK368 := bkB BK368 hb; replace BK380 := bkB BK380 hb; replace BK388 := bkB BK388 hb; replace HB := hbB HB hb; (try clear hb); (try clear hb2); (try clear hk); (try clear hi); (try clear ho0); (try clear ho1)) | ((with_reducible refine gD 19 rfl ?_); refine bE 19 #[.int .i64 0, .int .i64 0, .slice none 0 0] 24 ?_; intro gb402 hg w114 hbox hb; replace HO_369002 := Aside0.mk (Kd.V_below (Kd.V_elderB (by (with_reducible repeat (first | apply Kd.V_alloc | apply Kd.V_drewN | apply Kd.V_drew)); exact HO_369002.out) gb402 (Nat.le_of_eq hg.symm)) hb); replace HO_381002 := Aside0.mk (Kd.V_below (Kd.V_elderB (by (with_reducible repeat (first | apply Kd.V_alloc | apply Kd.V_drewN | apply Kd.V_drew)); exact HO_381002.out) gb402 (Nat.le_of_eq hg.symm)) hb); replace HO_389002 := kdB HO_389002 hb; replace HO397 := Aside0.mk (Kd.V_below (Kd.V_elderB (by (with_reducible repeat (first | apply Kd.V_alloc | apply Kd.V_drewN | apply Kd.V_drew)); exact HO397.out) gb402 (Nat.le_of_eq hg.symm)) hb); replace HO400 := kdB HO400 hb; have BK402 := Aside0.mk (hbox); have GW402 := hbS HB hg; have GE402 := hbS HB hg; replace HB := hbB HB hb; have NB357_402 := neL BK357 hg; have NB402_357 := neG BK357 hg; replace BK357 := bkB BK357 hb; have NB358_402 := neL BK358 hg; have NB402_358 := neG BK358 hg; replace BK358 := bkB BK358 hb; have NB368_402 := neL BK368 hg; have NB402_368 := neG BK368 hg; replace BK368 := bkB BK368 hb; have NB380_402 := neL BK380 hg; have NB402_380 := neG BK380 hg; replace BK380 := bkB BK380 hb; have NB388_402 := neL BK388 hg; have NB402_388 := neG BK388 hg; replace BK388 := bkB BK388 hb; clear hb hbox hg; have hnb115 := NB402_357.out; have hnc115 := NB357_402.out; have hnb116 := NB402_358.out; have hnc116 := NB358_402.out; have hnb117 := NB402_368.out; have hnc117 := NB368_402.out; have hnb118 := NB402_380.out; have hnc118 := NB380_402.out; have hnb119 := NB402_388.out; have hnc119 := NB388_402.out; obtain ⟨hcz120_0, hcz120_1, hcz120_2, hfz120_0, hfz120_1, hfz120_2⟩ := cell3 BK402; obtain ⟨Ao121, co121, eo121⟩ := Kd.V_slice HO397.out; subst eo121) | ((with_reducible refine gC 22 rfl ?_); refine cG (some 122) Try.func22 #[] ?_; (with_reducible refine (recouplaw04_anchored.calls  true _ A99.out).mono ?_); rintro e w122 ⟨rfl, hb⟩; refine ⟨_, rfl, ?_⟩; replace HO_369002 := Aside0.mk (Kd.V_below (by (with_reducible repeat (first | apply Kd.V_alloc | apply Kd.V_drewN | apply Kd.V_drew)); exact (Kd.V_mono (Kd.V_far (p := ⟨gb402, 2, none⟩) (Kd.V_far (p := ⟨gb402, 1, none⟩) (Kd.V_far (p := ⟨gb402, 0, none⟩) (Kd.V_mono HO_369002.out (fun k_ hk => (⟨hk, hk.2⟩ : _ ∧ k_ ≠ gb402))) (fun _ hk => hk.2) (.int .i64 t393)) (fun _ hk => hk.2) (.int .i64 t394)) (fun _ hk => hk.2) (.slice Ao121 t395.length co121)) (fun _ h_ => h_.1))) hb); replace HO_381002 := Aside0.mk (Kd.V_below (by (with_reducible repeat (first | apply Kd.V_alloc | apply Kd.V_drewN | apply Kd.V_drew)); exact (Kd.V_mono (Kd.V_far (p := ⟨gb402, 2, none⟩) (Kd.V_far (p := ⟨gb402, 1, none⟩) (Kd.V_far (p := ⟨gb402, 0, none⟩) (Kd.V_mono HO_381002.out (fun k_ hk => (⟨hk, hk.2⟩ : _ ∧ k_ ≠ gb402))) (fun _ hk => hk.2) (.int .i64 t393)) (fun _ hk => hk.2) (.int .i64 t394)) (fun _ hk => hk.2) (.slice Ao121 t395.length co121)) (fun _ h_ => h_.1))) hb); replace HO_389002 := Aside0.mk (Kd.R_below (by (with_reducible repeat (first | apply Kd.R_alloc | apply Kd.R_drewN | apply Kd.R_drew)); exact (Kd.R_mono (Kd.R_far (p := ⟨gb402, 2, none⟩) (Kd.R_far (p := ⟨gb402, 1, none⟩) (Kd.R_far (p := ⟨gb402, 0, none⟩) (Kd.R_types HO_389002.out BK402.out (by decide)) (fun _ hk => hk.2) (.int .i64 t393)) (fun _ hk => hk.2) (.int .i64 t394)) (fun _ hk => hk.2) (.slice Ao121 t395.length co121)) (fun _ h_ => h_.1))) hb); replace HO397 := Aside0.mk (Kd.V_below (by (with_reducible repeat (first | apply Kd.V_alloc | apply Kd.V_drewN | apply Kd.V_drew)); exact (Kd.V_mono (Kd.V_far (p := ⟨gb402, 2, none⟩) (Kd.V_far (p := ⟨gb402, 1, none⟩) (Kd.V_far (p := ⟨gb402, 0, none⟩) (Kd.V_mono HO397.out (fun k_ hk => (⟨hk, hk.2⟩ : _ ∧ k_ ≠ gb402))) (fun _ hk => hk.2) (.int .i64 t393)) (fun _ hk => hk.2) (.int .i64 t394)) (fun _ hk => hk.2) (.slice Ao121 t395.length co121)) (fun _ h_ => h_.1))) hb); replace HO400 := Aside0.mk (Kd.R_below (by (with_reducible repeat (first | apply Kd.R_alloc | apply Kd.R_drewN | apply Kd.R_drew)); exact (Kd.R_mono (Kd.R_far (p := ⟨gb402, 2, none⟩) (Kd.R_far (p := ⟨gb402, 1, none⟩) (Kd.R_far (p := ⟨gb402, 0, none⟩) (Kd.R_types HO400.out BK402.out (by decide)) (fun _ hk => hk.2) (.int .i64 t393)) (fun _ hk => hk.2) (.int .i64 t394)) (fun _ hk => hk.2) (.slice Ao121 t395.length co121)) (fun _ h_ => h_.1))) hb); replace BK357 := Aside0.mk (blk_below (g := gb357) (o := .cells #[.int .i64 a0_0, .int .i64 a0_1, .slice A0_2 l0_2.length c0_2] 24 (0, 0)) (by refine bkR ?_; refine blk_far ?_ NB357_402.out _; refine bkR ?_; refine blk_far ?_ NB357_402.out _; refine bkR ?_; refine blk_far ?_ NB357_402.out _; refine bkR ?_; exact BK357.out) hb); replace BK358 := Aside0.mk (blk_below (g := gb358) (o := .cells #[.int .i64 a1_0, .int .i64 a1_1] 40 (0, 0)) (by refine bkR ?_; refine blk_far ?_ NB358_402.out _; refine bkR ?_; refine blk_far ?_ NB358_402.out _; refine bkR ?_; refine blk_far ?_ NB358_402.out _; refine bkR ?_; exact BK358.out) hb); replace BK368 := Aside0.mk (blk_below (g := gb368) (o := .cells #[.int .i64 t359, .int .i64 t360, u369002] 24 (0, 0)) (by refine bkR ?_; refine blk_far ?_ NB368_402.out _; refine bkR ?_; refine blk_far ?_ NB368_402.out _; refine bkR ?_; refine blk_far ?_ NB368_402.out _; refine bkR ?_; exact BK368.out) hb); replace BK380 := Aside0.mk (blk_below (g := gb380) (o := .cells #[.int .i64 t371, .int .i64 t372, u381002] 24 (0, 0)) (by refine bkR ?_; refine blk_far ?_ NB380_402.out _; refine bkR ?_; refine blk_far ?_ NB380_402.out _; refine bkR ?_; refine blk_far ?_ NB380_402.out _; refine bkR ?_; exact BK380.out) hb); replace BK388 := Aside0.mk (blk_below (g := gb388) (o := .cells #[.int .i64 t383, .int .i64 t384, .slice Ao112 x389002_3.length co112] 24 (0, 0)) (by refine bkR ?_; refine blk_far ?_ NB388_402.out _; refine bkR ?_; refine blk_far ?_ NB388_402.out _; refine bkR ?_; refine blk_far ?_ NB388_402.out _; refine bkR ?_; exact BK388.out) hb); replace BK402 := Aside0.mk (blk_below (g := gb402) (o := .cells #[.int .i64 t393, .int .i64 t394, .slice Ao121 t395.length co121] 24 (0, 0)) (by refine bkR ?_; refine blk_put (cs := #[.int .i64 t393, .int .i64 t394, .slice none 0 0]) ?_ 2 _ rfl; refine bkR ?_; refine blk_put (cs := #[.int .i64 t393, .int .i64 0, .slice none 0 0]) ?_ 1 _ rfl; refine bkR ?_; refine blk_put (cs := #[.int .i64 0, .int .i64 0, .slice none 0 0]) ?_ 0 _ rfl; refine bkR ?_; exact BK402.out) hb); replace HB := hbB HB hb; (try clear hb); (try clear hb2); (try clear hk); (try clear hi); obtain ⟨hcz123_0, hcz123_1, hcz123_2, hfz123_0, hfz123_1, hfz123_2⟩ := cell3 BK402; have hnb124 := NB368_358.out; have hnc124 := NB358_368.out; have hnb125 := NB368_380.out; have hnc125 := NB380_368.out; obtain ⟨hcz126_0, hcz126_1, hcz126_2, hfz126_0, hfz126_1, hfz126_2⟩ := cell3 BK368; obtain ⟨Ao127, co127, eo127⟩ := Kd.V_slice HO_369002.out; subst eo127) | (go_at_call 17; (with_reducible refine (recoupref03_Like.calls t393 t394 _ _ t395 t359 t360 _ _ x369002_3 t404 _ ?side1 ?side2 ?side3 ?side4 A102.out).mono ?_); (case side1 => repeat (first | exact (Kd.V_reads' HO397.out).2.2 | (with_reducible refine Kd.C_alloc ?_ _) | (with_reducible refine Kd.C_drewN ?_ _) | (with_reducible refine Kd.C_drew ?_))); (case side2 => exact (Kd.V_reads' HO397.out).2.1); (case side3 => repeat (first | exact (Kd.V_reads' HO_369002.out).2.2 | (with_reducible refine Kd.C_alloc ?_ _) | (with_reducible refine Kd.C_drewN ?_ _) | (with_reducible refine Kd.C_drew ?_))); (case side4 => exact (Kd.V_reads' HO_369002.out).2.1); rintro e w128 ⟨rfl, hb⟩; replace HO_369002 := Aside0.mk (Kd.V_below (by (with_reducible repeat (first | apply Kd.V_alloc | apply Kd.V_drewN | apply Kd.V_drew)); exact HO_369002.out) hb); replace HO_381002 := Aside0.mk (Kd.V_below (by (with_reducible repeat (first | apply Kd.V_alloc | apply Kd.V_drewN | apply Kd.V_drew)); exact HO_381002.out) hb); replace HO_389002 := kdB HO_389002 hb; replace HO397 := Aside0.mk (Kd.V_below (by (with_reducible repeat (first | apply Kd.V_alloc | apply Kd.V_drewN | apply Kd.V_drew)); exact HO397.out) hb); replace HO400 := kdB HO400 hb; replace BK357 := bkB BK357 hb; replace BK358 := bkB BK358 hb; replace BK368 := bkB BK368 hb; replace BK380 := bkB BK380 hb; replace BK388 := bkB BK388 hb; replace BK402 := bkB BK402 hb; replace HB := hbB HB hb; (try clear hb); (try clear hb2); (try clear hk); (try clear hi)))
                          go_ret
                          exact ⟨rfE, hbA HB.out⟩
                        · rw [if_neg c101] at H
                          have c101b0 : (t401 == 0) = false := beq_eq_false_iff_ne.mpr c101
                          have c101b1 : (t401 != 0) = true := bne_iff_ne.mpr c101
                          obtain rfl := Option.some.inj H
                          have hnb129 := NB357_358.out
                          have hnc129 := NB358_357.out
                          have hnb130 := NB357_368.out
                          have hnc130 := NB368_357.out
                          have hnb131 := NB357_380.out
                          have hnc131 := NB380_357.out
                          have hnb132 := NB357_388.out
                          have hnc132 := NB388_357.out
                          obtain ⟨hcz133_0, hcz133_1, hcz133_2, hfz133_0, hfz133_1, hfz133_2⟩ := cell3 BK357
                          have hnb134 := NB388_358.out
                          have hnc134 := NB358_388.out
                          have hnb135 := NB388_368.out
                          have hnc135 := NB368_388.out
                          have hnb136 := NB388_380.out
                          have hnc136 := NB380_388.out
                          obtain ⟨hcz137_0, hcz137_1, hcz137_2, hfz137_0, hfz137_1, hfz137_2⟩ := cell3 BK388
                          obtain ⟨Ao138, co138, eo138⟩ := Kd.R_slice HO_389002.out
                          subst eo138
                          go_wp2_with (first | ((with_reducible refine gC 14 rfl ?_); refine cG (some 118) Try.func14 #[.agg #[.int .i64 t383, .int .i64 t384, .slice Ao138 x389002_3.length co138]] ?_; (with_reducible refine (gauss_Reduce.calls t383 t384 _ _ x389002_3 t393 t394 t395 t398 t401 _ ?side1 ?side2 A98.out).mono ?_); (case side1 => exact kcA (Kd.R_reads' HO_389002.out).2.2); (case side2 => exact (Kd.R_reads' HO_389002.out).2.1); rintro e w139 ⟨v396, v399, rfl, ho0, ho1, hb⟩; refine ⟨_, rfl, ?_⟩; replace HO_369002 := Aside0.mk (Kd.V_elder' (by (with_reducible repeat (first | apply Kd.V_alloc | apply Kd.V_drewN | apply Kd.V_drew)); exact HO_369002.out) (Kd.R_base ho1) hb); replace HO_381002 := Aside0.mk (Kd.V_elder' (by (with_reducible repeat (first | apply Kd.V_alloc | apply Kd.V_drewN | apply Kd.V_drew)); exact HO_381002.out) (Kd.R_base ho1) hb); have HO397 := Aside0.mk (Kd.V_lower (Kd.V_mono (ok' := fun k_ => some k_ ≠ (v399 : Value).ownBlock ∧ some k_ ≠ (.slice Ao138 x389002_3.length co138 : Value).ownBlock ∧ k_ ≠ gb357 ∧ k_ ≠ gb358 ∧ k_ ≠ gb368 ∧ k_ ≠ gb380 ∧ k_ ≠ gb388) ho0 (fun k_ hk_ => ⟨hk_.2, (Kd.fresh' (Kd.R_lt (kdA HO_389002.out)) k_ hk_.1), (Kd.freshB (g := gb357) (o := .cells #[.int .i64 a0_0, .int .i64 a0_1, .slice A0_2 l0_2.length c0_2] 24 (0, 0)) (bkA BK357.out) k_ hk_.1), (Kd.freshB (g := gb358) (o := .cells #[.int .i64 a1_0, .int .i64 a1_1] 40 (0, 0)) (bkA BK358.out) k_ hk_.1), (Kd.freshB (g := gb368) (o := .cells #[.int .i64 t359, .int .i64 t360, u369002] 24 (0, 0)) (bkA BK368.out) k_ hk_.1), (Kd.freshB (g := gb380) (o := .cells #[.int .i64 t371, .int .i64 t372, u381002] 24 (0, 0)) (bkA BK380.out) k_ hk_.1), (Kd.freshB (g := gb388) (o := .cells #[.int .i64 t383, .int .i64 t384, .slice Ao138 x389002_3.length co138] 24 (0, 0)) (bkA BK388.out) k_ hk_.1)⟩)) (below_size (hbA HB.out))); replace HO_389002 := kdB HO_389002 hb; have HO400 := Aside0.mk (Kd.R_lower (Kd.R_mono (ok' := fun k_ => True) ho1 (fun _ hk_ => trivial)) (below_size (hbA HB.out))); replace BK357 := bkB BK357 hb; replace BK358 := bkB BK358 hb; replace BK368 := bkB BK368 hb; replace BK380 := bkB BK380 hb; replace BK388 := bkB BK388 hb; replace HB := hbB HB hb; (try clear hb); (try clear hb2); (try clear hk); (try clear hi); (try clear ho0); (try clear ho1)) | ((with_reducible refine gD 19 rfl ?_); refine bE 19 #[.int .i64 0, .int .i64 0, .slice none 0 0] 24 ?_; intro gb402 hg w140 hbox hb; replace HO_369002 := Aside0.mk (Kd.V_below (Kd.V_elderB (by (with_reducible repeat (first | apply Kd.V_alloc | apply Kd.V_drewN | apply Kd.V_drew)); exact HO_369002.out) gb402 (Nat.le_of_eq hg.symm)) hb); replace HO_381002 := Aside0.mk (Kd.V_below (Kd.V_elderB (by (with_reducible repeat (first | apply Kd.V_alloc | apply Kd.V_drewN | apply Kd.V_drew)); exact HO_381002.out) gb402 (Nat.le_of_eq hg.symm)) hb); replace HO_389002 := kdB HO_389002 hb; replace HO397 := Aside0.mk (Kd.V_below (Kd.V_elderB (by (with_reducible repeat (first | apply Kd.V_alloc | apply Kd.V_drewN | apply Kd.V_drew)); exact HO397.out) gb402 (Nat.le_of_eq hg.symm)) hb); replace HO400 := kdB HO400 hb; have BK402 := Aside0.mk (hbox); have GW402 := hbS HB hg; have GE402 := hbS HB hg; replace HB := hbB HB hb; have NB357_402 := neL BK357 hg; have NB402_357 := neG BK357 hg; replace BK357 := bkB BK357 hb; have NB358_402 := neL BK358 hg; have NB402_358 := neG BK358 hg; replace BK358 := bkB BK358 hb; have NB368_402 := neL BK368 hg; have NB402_368 := neG BK368 hg; replace BK368 := bkB BK368 hb; have NB380_402 := neL BK380 hg; have NB402_380 := neG BK380 hg; replace BK380 := bkB BK380 hb; have NB388_402 := neL BK388 hg; have NB402_388 := neG BK388 hg; replace BK388 := bkB BK388 hb; clear hb hbox hg; have hnb141 := NB402_357.out; have hnc141 := NB357_402.out; have hnb142 := NB402_358.out; have hnc142 := NB358_402.out; have hnb143 := NB402_368.out; have hnc143 := NB368_402.out; have hnb144 := NB402_380.out; have hnc144 := NB380_402.out; have hnb145 := NB402_388.out; have hnc145 := NB388_402.out; obtain ⟨hcz146_0, hcz146_1, hcz146_2, hfz146_0, hfz146_1, hfz146_2⟩ := cell3 BK402; obtain ⟨Ao147, co147, eo147⟩ := Kd.V_slice HO397.out; subst eo147) | ((with_reducible refine gC 22 rfl ?_); refine cG (some 122) Try.func22 #[] ?_; (with_reducible refine (recouplaw04_anchored.calls  true _ A99.out).mono ?_); rintro e w148 ⟨rfl, hb⟩; refine ⟨_, rfl, ?_⟩; replace HO_369002 := Aside0.mk (Kd.V_below (by (with_reducible repeat (first | apply Kd.V_alloc | apply Kd.V_drewN | apply Kd.V_drew)); exact (Kd.V_mono (Kd.V_far (p := ⟨gb402, 2, none⟩) (Kd.V_far (p := ⟨gb402, 1, none⟩) (Kd.V_far (p := ⟨gb402, 0, none⟩) (Kd.V_mono HO_369002.out (fun k_ hk => (⟨hk, hk.2⟩ : _ ∧ k_ ≠ gb402))) (fun _ hk => hk.2) (.int .i64 t393)) (fun _ hk => hk.2) (.int .i64 t394)) (fun _ hk => hk.2) (.slice Ao147 t395.length co147)) (fun _ h_ => h_.1))) hb); replace HO_381002 := Aside0.mk (Kd.V_below (by (with_reducible repeat (first | apply Kd.V_alloc | apply Kd.V_drewN | apply Kd.V_drew)); exact (Kd.V_mono (Kd.V_far (p := ⟨gb402, 2, none⟩) (Kd.V_far (p := ⟨gb402, 1, none⟩) (Kd.V_far (p := ⟨gb402, 0, none⟩) (Kd.V_mono HO_381002.out (fun k_ hk => (⟨hk, hk.2⟩ : _ ∧ k_ ≠ gb402))) (fun _ hk => hk.2) (.int .i64 t393)) (fun _ hk => hk.2) (.int .i64 t394)) (fun _ hk => hk.2) (.slice Ao147 t395.length co147)) (fun _ h_ => h_.1))) hb); replace HO_389002 := Aside0.mk (Kd.R_below (by (with_reducible repeat (first | apply Kd.R_alloc | apply Kd.R_drewN | apply Kd.R_drew)); exact (Kd.R_mono (Kd.R_far (p := ⟨gb402, 2, none⟩) (Kd.R_far (p := ⟨gb402, 1, none⟩) (Kd.R_far (p := ⟨gb402, 0, none⟩) (Kd.R_types HO_389002.out BK402.out (by decide)) (fun _ hk => hk.2) (.int .i64 t393)) (fun _ hk => hk.2) (.int .i64 t394)) (fun _ hk => hk.2) (.slice Ao147 t395.length co147)) (fun _ h_ => h_.1))) hb); replace HO397 := Aside0.mk (Kd.V_below (by (with_reducible repeat (first | apply Kd.V_alloc | apply Kd.V_drewN | apply Kd.V_drew)); exact (Kd.V_mono (Kd.V_far (p := ⟨gb402, 2, none⟩) (Kd.V_far (p := ⟨gb402, 1, none⟩) (Kd.V_far (p := ⟨gb402, 0, none⟩) (Kd.V_mono HO397.out (fun k_ hk => (⟨hk, hk.2⟩ : _ ∧ k_ ≠ gb402))) (fun _ hk => hk.2) (.int .i64 t393)) (fun _ hk => hk.2) (.int .i64 t394)) (fun _ hk => hk.2) (.slice Ao147 t395.length co147)) (fun _ h_ => h_.1))) hb); replace HO400 := Aside0.mk (Kd.R_below (by (with_reducible repeat (first | apply Kd.R_alloc | apply Kd.R_drewN | apply Kd.R_drew)); exact (Kd.R_mono (Kd.R_far (p := ⟨gb402, 2, none⟩) (Kd.R_far (p := ⟨gb402, 1, none⟩) (Kd.R_far (p := ⟨gb402, 0, none⟩) (Kd.R_types HO400.out BK402.out (by decide)) (fun _ hk => hk.2) (.int .i64 t393)) (fun _ hk => hk.2) (.int .i64 t394)) (fun _ hk => hk.2) (.slice Ao147 t395.length co147)) (fun _ h_ => h_.1))) hb); replace BK357 := Aside0.mk (blk_below (g := gb357) (o := .cells #[.int .i64 a0_0, .int .i64 a0_1, .slice A0_2 l0_2.length c0_2] 24 (0, 0)) (by refine bkR ?_; refine blk_far ?_ NB357_402.out _; refine bkR ?_; refine blk_far ?_ NB357_402.out _; refine bkR ?_; refine blk_far ?_ NB357_402.out _; refine bkR ?_; exact BK357.out) hb); replace BK358 := Aside0.mk (blk_below (g := gb358) (o := .cells #[.int .i64 a1_0, .int .i64 a1_1] 40 (0, 0)) (by refine bkR ?_; refine blk_far ?_ NB358_402.out _; refine bkR ?_; refine blk_far ?_ NB358_402.out _; refine bkR ?_; refine blk_far ?_ NB358_402.out _; refine bkR ?_; exact BK358.out) hb); replace BK368 := Aside0.mk (blk_below (g := gb368) (o := .cells #[.int .i64 t359, .int .i64 t360, u369002] 24 (0, 0)) (by refine bkR ?_; refine blk_far ?_ NB368_402.out _; refine bkR ?_; refine blk_far ?_ NB368_402.out _; refine bkR ?_; refine blk_far ?_ NB368_402.out _; refine bkR ?_; exact BK368.out) hb); replace BK380 := Aside0.mk (blk_below (g := gb380) (o := .cells #[.int .i64 t371, .int .i64 t372, u381002] 24 (0, 0)) (by refine bkR ?_; refine blk_far ?_ NB380_402.out _; refine bkR ?_; refine blk_far ?_ NB380_402.out _; refine bkR ?_; refine blk_far ?_ NB380_402.out _; refine bkR ?_; exact BK380.out) hb); replace BK388 := Aside0.mk (blk_below (g := gb388) (o := .cells #[.int .i64 t383, .int .i64 t384, .slice Ao138 x389002_3.length co138] 24 (0, 0)) (by refine bkR ?_; refine blk_far ?_ NB388_402.out _; refine bkR ?_; refine blk_far ?_ NB388_402.out _; refine bkR ?_; refine blk_far ?_ NB388_402.out _; refine bkR ?_; exact BK388.out) hb); replace BK402 := Aside0.mk (blk_below (g := gb402) (o := .cells #[.int .i64 t393, .int .i64 t394, .slice Ao147 t395.length co147] 24 (0, 0)) (by refine bkR ?_; refine blk_put (cs := #[.int .i64 t393, .int .i64 t394, .slice none 0 0]) ?_ 2 _ rfl; refine bkR ?_; refine blk_put (cs := #[.int .i64 t393, .int .i64 0, .slice none 0 0]) ?_ 1 _ rfl; refine bkR ?_; refine blk_put (cs := #[.int .i64 0, .int .i64 0, .slice none 0 0]) ?_ 0 _ rfl; refine bkR ?_; exact BK402.out) hb); replace HB := hbB HB hb; (try clear hb); (try clear hb2); (try clear hk); (try clear hi)))
                          go_ret
                          exact ⟨rfE, hbA HB.out⟩
                      · replace c100 := Bool.eq_false_iff.mpr c100
                        subst c100
                        rw [if_neg nofT] at H
                        obtain rfl := Option.some.inj H
                        have hnb149 := NB357_358.out
                        have hnc149 := NB358_357.out
                        have hnb150 := NB357_368.out
                        have hnc150 := NB368_357.out
                        have hnb151 := NB357_380.out
                        have hnc151 := NB380_357.out
                        have hnb152 := NB357_388.out
                        have hnc152 := NB388_357.out
                        obtain ⟨hcz153_0, hcz153_1, hcz153_2, hfz153_0, hfz153_1, hfz153_2⟩ := cell3 BK357
                        have hnb154 := NB388_358.out
                        have hnc154 := NB358_388.out
                        have hnb155 := NB388_368.out
                        have hnc155 := NB368_388.out
                        have hnb156 := NB388_380.out
                        have hnc156 := NB380_388.out
                        obtain ⟨hcz157_0, hcz157_1, hcz157_2, hfz157_0, hfz157_1, hfz157_2⟩ := cell3 BK388
                        obtain ⟨Ao158, co158, eo158⟩ := Kd.R_slice HO_389002.out
                        subst eo158
                        go_wp2_with (first | ((with_reducible refine gC 14 rfl ?_); refine cG (some 118) Try.func14 #[.agg #[.int .i64 t383, .int .i64 t384, .slice Ao158 x389002_3.length co158]] ?_; (with_reducible refine (gauss_Reduce.calls t383 t384 _ _ x389002_3 t393 t394 t395 t398 t401 _ ?side1 ?side2 A98.out).mono ?_); (case side1 => exact kcA (Kd.R_reads' HO_389002.out).2.2); (case side2 => exact (Kd.R_reads' HO_389002.out).2.1); rintro e w159 ⟨v396, v399, rfl, ho0, ho1, hb⟩; refine ⟨_, rfl, ?_⟩; replace HO_369002 := Aside0.mk (Kd.V_elder' (by (with_reducible repeat (first | apply Kd.V_alloc | apply Kd.V_drewN | apply Kd.V_drew)); exact HO_369002.out) (Kd.R_base ho1) hb); replace HO_381002 := Aside0.mk (Kd.V_elder' (by (with_reducible repeat (first | apply Kd.V_alloc | apply Kd.V_drewN | apply Kd.V_drew)); exact HO_381002.out) (Kd.R_base ho1) hb); have HO397 := Aside0.mk (Kd.V_lower (Kd.V_mono (ok' := fun k_ => some k_ ≠ (v399 : Value).ownBlock ∧ some k_ ≠ (.slice Ao158 x389002_3.length co158 : Value).ownBlock ∧ k_ ≠ gb357 ∧ k_ ≠ gb358 ∧ k_ ≠ gb368 ∧ k_ ≠ gb380 ∧ k_ ≠ gb388) ho0 (fun k_ hk_ => ⟨hk_.2, (Kd.fresh' (Kd.R_lt (kdA HO_389002.out)) k_ hk_.1), (Kd.freshB (g := gb357) (o := .cells #[.int .i64 a0_0, .int .i64 a0_1, .slice A0_2 l0_2.length c0_2] 24 (0, 0)) (bkA BK357.out) k_ hk_.1), (Kd.freshB (g := gb358) (o := .cells #[.int .i64 a1_0, .int .i64 a1_1] 40 (0, 0)) (bkA BK358.out) k_ hk_.1), (Kd.freshB (g := gb368) (o := .cells #[.int .i64 t359, .int .i64 t360, u369002] 24 (0, 0)) (bkA BK368.out) k_ hk_.1), (Kd.freshB (g := gb380) (o := .cells #[.int .i64 t371, .int .i64 t372, u381002] 24 (0, 0)) (bkA BK380.out) k_ hk_.1), (Kd.freshB (g := gb388) (o := .cells #[.int .i64 t383, .int .i64 t384, .slice Ao158 x389002_3.length co158] 24 (0, 0)) (bkA BK388.out) k_ hk_.1)⟩)) (below_size (hbA HB.out))); replace HO_389002 := kdB HO_389002 hb; have HO400 := Aside0.mk (Kd.R_lower (Kd.R_mono (ok' := fun k_ => True) ho1 (fun _ hk_ => trivial)) (below_size (hbA HB.out))); replace BK357 := bkB BK357 hb; replace BK358 := bkB BK358 hb; replace BK368 := bkB BK368 hb; replace BK380 := bkB BK380 hb; replace BK388 := bkB BK388 hb; replace HB := hbB HB hb; (try clear hb); (try clear hb2); (try clear hk); (try clear hi); (try clear ho0); (try clear ho1)) | ((with_reducible refine gD 19 rfl ?_); refine bE 19 #[.int .i64 0, .int .i64 0, .slice none 0 0] 24 ?_; intro gb402 hg w160 hbox hb; replace HO_369002 := Aside0.mk (Kd.V_below (Kd.V_elderB (by (with_reducible repeat (first | apply Kd.V_alloc | apply Kd.V_drewN | apply Kd.V_drew)); exact HO_369002.out) gb402 (Nat.le_of_eq hg.symm)) hb); replace HO_381002 := Aside0.mk (Kd.V_below (Kd.V_elderB (by (with_reducible repeat (first | apply Kd.V_alloc | apply Kd.V_drewN | apply Kd.V_drew)); exact HO_381002.out) gb402 (Nat.le_of_eq hg.symm)) hb); replace HO_389002 := kdB HO_389002 hb; replace HO397 := Aside0.mk (Kd.V_below (Kd.V_elderB (by (with_reducible repeat (first | apply Kd.V_alloc | apply Kd.V_drewN | apply Kd.V_drew)); exact HO397.out) gb402 (Nat.le_of_eq hg.symm)) hb); replace HO400 := kdB HO400 hb; have BK402 := Aside0.mk (hbox); have GW402 := hbS HB hg; have GE402 := hbS HB hg; replace HB := hbB HB hb; have NB357_402 := neL BK357 hg; have NB402_357 := neG BK357 hg; replace BK357 := bkB BK357 hb; have NB358_402 := neL BK358 hg; have NB402_358 := neG BK358 hg; replace BK358 := bkB BK358 hb; have NB368_402 := neL BK368 hg; have NB402_368 := neG BK368 hg; replace BK368 := bkB BK368 hb; have NB380_402 := neL BK380 hg; have NB402_380 := neG BK380 hg; replace BK380 := bkB BK380 hb; have NB388_402 := neL BK388 hg; have NB402_388 := neG BK388 hg; replace BK388 := bkB BK388 hb; clear hb hbox hg; have hnb161 := NB402_357.out; have hnc161 := NB357_402.out; have hnb162 := NB402_358.out; have hnc162 := NB358_402.out; have hnb163 := NB402_368.out; have hnc163 := NB368_402.out; have hnb164 := NB402_380.out; have hnc164 := NB380_402.out; have hnb165 := NB402_388.out; have hnc165 := NB388_402.out; obtain ⟨hcz166_0, hcz166_1, hcz166_2, hfz166_0, hfz166_1, hfz166_2⟩ := cell3 BK402; obtain ⟨Ao167, co167, eo167⟩ := Kd.V_slice HO397.out; subst eo167) | ((with_reducible refine gC 22 rfl ?_); refine cG (some 122) Try.func22 #[] ?_; (with_reducible refine (recouplaw04_anchored.calls  false _ A99.out).mono ?_); rintro e w168 ⟨rfl, hb⟩; refine ⟨_, rfl, ?_⟩; replace HO_369002 := Aside0.mk (Kd.V_below (by (with_reducible repeat (first | apply Kd.V_alloc | apply Kd.V_drewN | apply Kd.V_drew)); exact (Kd.V_mono (Kd.V_far (p := ⟨gb402, 2, none⟩) (Kd.V_far (p := ⟨gb402, 1, none⟩) (Kd.V_far (p := ⟨gb402, 0, none⟩) (Kd.V_mono HO_369002.out (fun k_ hk => (⟨hk, hk.2⟩ : _ ∧ k_ ≠ gb402))) (fun _ hk => hk.2) (.int .i64 t393)) (fun _ hk => hk.2) (.int .i64 t394)) (fun _ hk => hk.2) (.slice Ao167 t395.length co167)) (fun _ h_ => h_.1))) hb); replace HO_381002 := Aside0.mk (Kd.V_below (by (with_reducible repeat (first | apply Kd.V_alloc | apply Kd.V_drewN | apply Kd.V_drew)); exact (Kd.V_mono (Kd.V_far (p := ⟨gb402, 2, none⟩) (Kd.V_far (p := ⟨gb402, 1, none⟩) (Kd.V_far (p := ⟨gb402, 0, none⟩) (Kd.V_mono HO_381002.out (fun k_ hk => (⟨hk, hk.2⟩ : _ ∧ k_ ≠ gb402))) (fun _ hk => hk.2) (.int .i64 t393)) (fun _ hk => hk.2) (.int .i64 t394)) (fun _ hk => hk.2) (.slice Ao167 t395.length co167)) (fun _ h_ => h_.1))) hb); replace HO_389002 := Aside0.mk (Kd.R_below (by (with_reducible repeat (first | apply Kd.R_alloc | apply Kd.R_drewN | apply Kd.R_drew)); exact (Kd.R_mono (Kd.R_far (p := ⟨gb402, 2, none⟩) (Kd.R_far (p := ⟨gb402, 1, none⟩) (Kd.R_far (p := ⟨gb402, 0, none⟩) (Kd.R_types HO_389002.out BK402.out (by decide)) (fun _ hk => hk.2) (.int .i64 t393)) (fun _ hk => hk.2) (.int .i64 t394)) (fun _ hk => hk.2) (.slice Ao167 t395.length co167)) (fun _ h_ => h_.1))) hb); replace HO397 := Aside0.mk (Kd.V_below (by (with_reducible repeat (first | apply Kd.V_alloc | apply Kd.V_drewN | apply Kd.V_drew)); exact (Kd.V_mono (Kd.V_far (p := ⟨gb402, 2, none⟩) (Kd.V_far (p := ⟨gb402, 1, none⟩) (Kd.V_far (p := ⟨gb402, 0, none⟩) (Kd.V_mono HO397.out (fun k_ hk => (⟨hk, hk.2⟩ : _ ∧ k_ ≠ gb402))) (fun _ hk => hk.2) (.int .i64 t393)) (fun _ hk => hk.2) (.int .i64 t394)) (fun _ hk => hk.2) (.slice Ao167 t395.length co167)) (fun _ h_ => h_.1))) hb); replace HO400 := Aside0.mk (Kd.R_below (by (with_reducible repeat (first | apply Kd.R_alloc | apply Kd.R_drewN | apply Kd.R_drew)); exact (Kd.R_mono (Kd.R_far (p := ⟨gb402, 2, none⟩) (Kd.R_far (p := ⟨gb402, 1, none⟩) (Kd.R_far (p := ⟨gb402, 0, none⟩) (Kd.R_types HO400.out BK402.out (by decide)) (fun _ hk => hk.2) (.int .i64 t393)) (fun _ hk => hk.2) (.int .i64 t394)) (fun _ hk => hk.2) (.slice Ao167 t395.length co167)) (fun _ h_ => h_.1))) hb); replace BK357 := Aside0.mk (blk_below (g := gb357) (o := .cells #[.int .i64 a0_0, .int .i64 a0_1, .slice A0_2 l0_2.length c0_2] 24 (0, 0)) (by refine bkR ?_; refine blk_far ?_ NB357_402.out _; refine bkR ?_; refine blk_far ?_ NB357_402.out _; refine bkR ?_; refine blk_far ?_ NB357_402.out _; refine bkR ?_; exact BK357.out) hb); replace BK358 := Aside0.mk (blk_below (g := gb358) (o := .cells #[.int .i64 a1_0, .int .i64 a1_1] 40 (0, 0)) (by refine bkR ?_; refine blk_far ?_ NB358_402.out _; refine bkR ?_; refine blk_far ?_ NB358_402.out _; refine bkR ?_; refine blk_far ?_ NB358_402.out _; refine bkR ?_; exact BK358.out) hb); replace BK368 := Aside0.mk (blk_below (g := gb368) (o := .cells #[.int .i64 t359, .int .i64 t360, u369002] 24 (0, 0)) (by refine bkR ?_; refine blk_far ?_ NB368_402.out _; refine bkR ?_; refine blk_far ?_ NB368_402.out _; refine bkR ?_; refine blk_far ?_ NB368_402.out _; refine bkR ?_; exact BK368.out) hb); replace BK380 := Aside0.mk (blk_below (g := gb380) (o := .cells #[.int .i64 t371, .int .i64 t372, u381002] 24 (0, 0)) (by refine bkR ?_; refine blk_far ?_ NB380_402.out _; refine bkR ?_; refine blk_far ?_ NB380_402.out _; refine bkR ?_; refine blk_far ?_ NB380_402.out _; refine bkR ?_; exact BK380.out) hb); replace BK388 := Aside0.mk (blk_below (g := gb388) (o := .cells #[.int .i64 t383, .int .i64 t384, .slice Ao158 x389002_3.length co158] 24 (0, 0)) (by refine bkR ?_; refine blk_far ?_ NB388_402.out _; refine bkR ?_; refine blk_far ?_ NB388_402.out _; refine bkR ?_; refine blk_far ?_ NB388_402.out _; refine bkR ?_; exact BK388.out) hb); replace BK402 := Aside0.mk (blk_below (g := gb402) (o := .cells #[.int .i64 t393, .int .i64 t394, .slice Ao167 t395.length co167] 24 (0, 0)) (by refine bkR ?_; refine blk_put (cs := #[.int .i64 t393, .int .i64 t394, .slice none 0 0]) ?_ 2 _ rfl; refine bkR ?_; refine blk_put (cs := #[.int .i64 t393, .int .i64 0, .slice none 0 0]) ?_ 1 _ rfl; refine bkR ?_; refine blk_put (cs := #[.int .i64 0, .int .i64 0, .slice none 0 0]) ?_ 0 _ rfl; refine bkR ?_; exact BK402.out) hb); replace HB := hbB HB hb; (try clear hb); (try clear hb2); (try clear hk); (try clear hi)))
                        go_ret
                        exact ⟨rfE, hbA HB.out⟩
  · replace c6 := Bool.eq_false_iff.mpr c6
    subst c6
    rw [if_neg nofT] at H
    obtain ⟨t370, A169, H⟩ := bindO H
    (try dsimp only at H)
    by_cases c170 : t370 = true
    · subst c170
      rw [if_pos rfl] at H
      obtain rfl := Option.some.inj H
      go_enter Try.func5, Try.ntmps5
      try go_wp2_with (first | ((with_reducible refine gD 3 rfl ?_); refine bE 3 #[.int .i64 a0_0, .int .i64 a0_1, .slice A0_2 l0_2.length c0_2] 24 ?_; intro gb357 hg w171 hbox hb; have BK357 := Aside0.mk (hbox); have GW357 := hbS HB hg; have GE357 := hbS HB hg; replace HB := hbB HB hb; clear hb hbox hg) | ((with_reducible refine gD 4 rfl ?_); refine bE 4 #[.int .i64 a1_0, .int .i64 a1_1] 40 ?_; intro gb358 hg w172 hbox hb; have BK358 := Aside0.mk (hbox); have GW358 := hbS HB hg; have GE358 := hbS HB hg; replace HB := hbB HB hb; have NB357_358 := neL BK357 hg; have NB358_357 := neG BK357 hg; replace BK357 := bkB BK357 hb; clear hb hbox hg))
      replace BK357 := Aside0.mk (blk_drew BK357.out)
      replace BK358 := Aside0.mk (blk_drew BK358.out)
      replace HB := Aside0.mk (below_drew1 HB.out)
      refine start_ (n := 6) (S := fun w' => w'.cell? ⟨gb358, 0, none⟩ = some (.int .i64 a1_0) ∧ w'.cell? ⟨gb358, 1, none⟩ = some (.int .i64 a1_1)) (ds := []) (.replicate 6 false) (by kernel_rfl) rfl rfl ⟨(blk_cell BK358.out 0).trans rfl, (blk_cell BK358.out 1).trans rfl⟩ (fun hHeld => ?_)
      generalize w172.drew = w173 at BK357 BK358 HB hHeld ⊢
      refine pure_ (i := 0) (N := some 22) (v := ?_) (a' := ?_) (mB 6 1) rfl rfl (by kernel_rfl) (fun _ _ _ h => h) (Or.inl ⟨by rfl, ?_⟩) ?_ ?_
      rotate_left
      · intro w'
        go_simp
        with_reducible rfl
      rotate_left
      · simp only [Act.put, List.setIfInBounds_toArray, List.set_cons_zero, List.set_cons_succ, i64_w, i32_w]
        rfl
      refine pure_ (i := 2) (N := some 24) (v := ?_) (a' := ?_) (mB 6 5) rfl rfl (by kernel_rfl) (fun _ _ _ h => h) (Or.inl ⟨by rfl, ?_⟩) ?_ ?_
      rotate_left
      · intro w'
        go_simp
        with_reducible rfl
      rotate_left
      · simp only [Act.put, List.setIfInBounds_toArray, List.set_cons_zero, List.set_cons_succ, i64_w, i32_w]
        rfl
      refine take_ (i := 1) (N := some 23) (v := ?_) (a' := ?_) (mB 6 7) rfl rfl (by kernel_rfl) (fun _ _ _ h => h) (Or.inl ⟨by rfl, ?_⟩) hHeld ?_ ?_
      rotate_left
      · rintro w' ⟨s0, s1⟩
        go_simp
        with_reducible rfl
      rotate_left
      · simp only [Act.put, List.setIfInBounds_toArray, List.set_cons_zero, List.set_cons_succ, i64_w, i32_w]
        rfl
      refine pure_ (i := 4) (N := some 7) (v := ?_) (a' := ?_) (mB 6 23) rfl rfl (by kernel_rfl) (fun _ _ _ h => h) (Or.inl ⟨by rfl, ?_⟩) ?_ ?_
      rotate_left
      · intro w'
        go_simp
        with_reducible rfl
      rotate_left
      · simp only [Act.put, List.setIfInBounds_toArray, List.set_cons_zero, List.set_cons_succ, i64_w, i32_w]
        rfl
      refine take_ (i := 3) (N := some 25) (v := ?_) (a' := ?_) (mB 6 31) rfl rfl (by kernel_rfl) (fun _ _ _ h => h) (Or.inl ⟨by rfl, ?_⟩) hHeld ?_ ?_
      rotate_left
      · rintro w' ⟨s0, s1⟩
        go_simp
        with_reducible rfl
      rotate_left
      · simp only [Act.put, List.setIfInBounds_toArray, List.set_cons_zero, List.set_cons_succ, i64_w, i32_w]
        rfl
      refine pure_ (i := 5) (N := some 8) (v := ?_) (a' := ?_) (mB 6 63) rfl rfl (by kernel_rfl) (fun _ _ _ h => h) (Or.inl ⟨by rfl, ?_⟩) ?_ ?_
      rotate_left
      · intro w'
        go_simp
        with_reducible rfl
      rotate_left
      · simp only [Act.put, List.setIfInBounds_toArray, List.set_cons_zero, List.set_cons_succ, i64_w, i32_w]
        rfl
      refine done_ (by kernel_rfl) ?_
      have hnb174 := NB357_358.out
      have hnc174 := NB358_357.out
      obtain ⟨hcz175_0, hcz175_1, hcz175_2, hfz175_0, hfz175_1, hfz175_2⟩ := cell3 BK357
      try go_wp2_with (first | ((with_reducible refine gC 14 rfl ?_); refine cG (some 28) Try.func14 #[.agg #[.int .i64 a0_0, .int .i64 a0_1, .slice A0_2 l0_2.length c0_2]] ?_; (with_reducible refine (gauss_Reduce.calls a0_0 a0_1 _ _ l0_2 t359 t360 t361 t364 t367 _ ?side1 ?side2 A4.out).mono ?_); (case side1 => exact kcB HR0_2 HB); (case side2 => exact HC0_2.out); rintro e w176 ⟨v362, v365, rfl, ho0, ho1, hb⟩; refine ⟨_, rfl, ?_⟩; have HO363 := Aside0.mk (Kd.V_lower (Kd.V_mono (ok' := fun k_ => some k_ ≠ (v365 : Value).ownBlock ∧ k_ ≠ gb357 ∧ k_ ≠ gb358) ho0 (fun k_ hk_ => ⟨hk_.2, (Kd.freshB (g := gb357) (o := .cells #[.int .i64 a0_0, .int .i64 a0_1, .slice A0_2 l0_2.length c0_2] 24 (0, 0)) (bkA BK357.out) k_ hk_.1), (Kd.freshB (g := gb358) (o := .cells #[.int .i64 a1_0, .int .i64 a1_1] 40 (0, 0)) (bkA BK358.out) k_ hk_.1)⟩)) (below_size (hbA HB.out))); have HO366 := Aside0.mk (Kd.R_lower (Kd.R_mono (ok' := fun k_ => True) ho1 (fun _ hk_ => trivial)) (below_size (hbA HB.out))); replace BK357 := bkB BK357 hb; replace BK358 := bkB BK358 hb; replace HB := hbB HB hb; (try clear hb); (try clear hb2); (try clear hk); (try clear hi); (try clear ho0); (try clear ho1)) | ((with_reducible refine gD 9 rfl ?_); refine bE 9 #[.int .i64 0, .int .i64 0, .slice none 0 0] 24 ?_; intro gb368 hg w177 hbox hb; replace HO363 := Aside0.mk (Kd.V_below (Kd.V_elderB (by (with_reducible repeat (first | apply Kd.V_alloc | apply Kd.V_drewN | apply Kd.V_drew)); exact HO363.out) gb368 (Nat.le_of_eq hg.symm)) hb); replace HO366 := kdB HO366 hb; have BK368 := Aside0.mk (hbox); have GW368 := hbS HB hg; have GE368 := hbS HB hg; replace HB := hbB HB hb; have NB357_368 := neL BK357 hg; have NB368_357 := neG BK357 hg; replace BK357 := bkB BK357 hb; have NB358_368 := neL BK358 hg; have NB368_358 := neG BK358 hg; replace BK358 := bkB BK358 hb; clear hb hbox hg; have hnb178 := NB368_357.out; have hnc178 := NB357_368.out; have hnb179 := NB368_358.out; have hnc179 := NB358_368.out; obtain ⟨hcz180_0, hcz180_1, hcz180_2, hfz180_0, hfz180_1, hfz180_2⟩ := cell3 BK368; obtain ⟨Ao181, co181, eo181⟩ := Kd.V_slice HO363.out; subst eo181; obtain ⟨hcz182_0, hcz182_1, hcz182_2, hfz182_0, hfz182_1, hfz182_2⟩ := cell3 BK357) | ((with_reducible refine gC 21 rfl ?_); refine cG (some 33) Try.func21 #[.agg #[.int .i64 a0_0, .int .i64 a0_1, .slice A0_2 l0_2.length c0_2]] ?_; (with_reducible refine (recoupref03_Right.calls a0_0 a0_1 _ _ l0_2 false _ ?side1 ?side2 A5.out).mono ?_); (case side1 => exact Kd.C_below HR0_2.out (hbA HB.out)); (case side2 => exact HC0_2.out); rintro e w183 ⟨rfl, hb⟩; refine ⟨_, rfl, ?_⟩; replace HO363 := Aside0.mk (Kd.V_below (by (with_reducible repeat (first | apply Kd.V_alloc | apply Kd.V_drewN | apply Kd.V_drew)); exact (Kd.V_mono (Kd.V_far (p := ⟨gb368, 2, none⟩) (Kd.V_far (p := ⟨gb368, 1, none⟩) (Kd.V_far (p := ⟨gb368, 0, none⟩) (Kd.V_mono HO363.out (fun k_ hk => (⟨hk, hk.2⟩ : _ ∧ k_ ≠ gb368))) (fun _ hk => hk.2) (.int .i64 t359)) (fun _ hk => hk.2) (.int .i64 t360)) (fun _ hk => hk.2) (.slice Ao181 t361.length co181)) (fun _ h_ => h_.1))) hb); replace HO366 := Aside0.mk (Kd.R_below (by (with_reducible repeat (first | apply Kd.R_alloc | apply Kd.R_drewN | apply Kd.R_drew)); exact (Kd.R_mono (Kd.R_far (p := ⟨gb368, 2, none⟩) (Kd.R_far (p := ⟨gb368, 1, none⟩) (Kd.R_far (p := ⟨gb368, 0, none⟩) (Kd.R_types HO366.out BK368.out (by decide)) (fun _ hk => hk.2) (.int .i64 t359)) (fun _ hk => hk.2) (.int .i64 t360)) (fun _ hk => hk.2) (.slice Ao181 t361.length co181)) (fun _ h_ => h_.1))) hb); replace BK357 := Aside0.mk (blk_below (g := gb357) (o := .cells #[.int .i64 a0_0, .int .i64 a0_1, .slice A0_2 l0_2.length c0_2] 24 (0, 0)) (by refine bkR ?_; refine blk_far ?_ NB357_368.out _; refine bkR ?_; refine blk_far ?_ NB357_368.out _; refine bkR ?_; refine blk_far ?_ NB357_368.out _; refine bkR ?_; exact BK357.out) hb); replace BK358 := Aside0.mk (blk_below (g := gb358) (o := .cells #[.int .i64 a1_0, .int .i64 a1_1] 40 (0, 0)) (by refine bkR ?_; refine blk_far ?_ NB358_368.out _; refine bkR ?_; refine blk_far ?_ NB358_368.out _; refine bkR ?_; refine blk_far ?_ NB358_368.out _; refine bkR ?_; exact BK358.out) hb); replace BK368 := Aside0.mk (blk_below (g := gb368) (o := .cells #[.int .i64 t359, .int .i64 t360, .slice Ao181 t361.length co181] 24 (0, 0)) (by refine bkR ?_; refine blk_put (cs := #[.int .i64 t359, .int .i64 t360, .slice none 0 0]) ?_ 2 _ rfl; refine bkR ?_; refine blk_put (cs := #[.int .i64 t359, .int .i64 0, .slice none 0 0]) ?_ 1 _ rfl; refine bkR ?_; refine blk_put (cs := #[.int .i64 0, .int .i64 0, .slice none 0 0]) ?_ 0 _ rfl; refine bkR ?_; exact BK368.out) hb); replace HB := hbB HB hb; (try clear hb); (try clear hb2); (try clear hk); (try clear hi)) | ((with_reducible refine gC 22 rfl ?_); refine cG (some 35) Try.func22 #[] ?_; (with_reducible refine (recouplaw04_anchored.calls  true _ A169.out).mono ?_); rintro e w184 ⟨rfl, hb⟩; refine ⟨_, rfl, ?_⟩; replace HO363 := Aside0.mk (Kd.V_below (by (with_reducible repeat (first | apply Kd.V_alloc | apply Kd.V_drewN | apply Kd.V_drew)); exact HO363.out) hb); replace HO366 := kdB HO366 hb; replace BK357 := bkB BK357 hb; replace BK358 := bkB BK358 hb; replace BK368 := bkB BK368 hb; replace HB := hbB HB hb; (try clear hb); (try clear hb2); (try clear hk); (try clear hi)))
      go_ret
      exact ⟨rfE, hbA HB.out⟩
    · replace c170 := Bool.eq_false_iff.mpr c170
      subst c170
      rw [if_neg nofT] at H
      obtain rfl := Option.some.inj H
      go_enter Try.func5, Try.ntmps5
      try go_wp2_with (first | ((with_reducible refine gD 3 rfl ?_); refine bE 3 #[.int .i64 a0_0, .int .i64 a0_1, .slice A0_2 l0_2.length c0_2] 24 ?_; intro gb357 hg w185 hbox hb; have BK357 := Aside0.mk (hbox); have GW357 := hbS HB hg; have GE357 := hbS HB hg; replace HB := hbB HB hb; clear hb hbox hg) | ((with_reducible refine gD 4 rfl ?_); refine bE 4 #[.int .i64 a1_0, .int .i64 a1_1] 40 ?_; intro gb358 hg w186 hbox hb; have BK358 := Aside0.mk (hbox); have GW358 := hbS HB hg; have GE358 := hbS HB hg; replace HB := hbB HB hb; have NB357_358 := neL BK357 hg; have NB358_357 := neG BK357 hg; replace BK357 := bkB BK357 hb; clear hb hbox hg))
      replace BK357 := Aside0.mk (blk_drew BK357.out)
      replace BK358 := Aside0.mk (blk_drew BK358.out)
      replace HB := Aside0.mk (below_drew1 HB.out)
      refine start_ (n := 6) (S := fun w' => w'.cell? ⟨gb358, 0, none⟩ = some (.int .i64 a1_0) ∧ w'.cell? ⟨gb358, 1, none⟩ = some (.int .i64 a1_1)) (ds := []) (.replicate 6 false) (by kernel_rfl) rfl rfl ⟨(blk_cell BK358.out 0).trans rfl, (blk_cell BK358.out 1).trans rfl⟩ (fun hHeld => ?_)
      generalize w186.drew = w187 at BK357 BK358 HB hHeld ⊢
      refine pure_ (i := 0) (N := some 22) (v := ?_) (a' := ?_) (mB 6 1) rfl rfl (by kernel_rfl) (fun _ _ _ h => h) (Or.inl ⟨by rfl, ?_⟩) ?_ ?_
      rotate_left
      · intro w'
        go_simp
        with_reducible rfl
      rotate_left
      · simp only [Act.put, List.setIfInBounds_toArray, List.set_cons_zero, List.set_cons_succ, i64_w, i32_w]
        rfl
      refine pure_ (i := 2) (N := some 24) (v := ?_) (a' := ?_) (mB 6 5) rfl rfl (by kernel_rfl) (fun _ _ _ h => h) (Or.inl ⟨by rfl, ?_⟩) ?_ ?_
      rotate_left
      · intro w'
        go_simp
        with_reducible rfl
      rotate_left
      · simp only [Act.put, List.setIfInBounds_toArray, List.set_cons_zero, List.set_cons_succ, i64_w, i32_w]
        rfl
      refine take_ (i := 1) (N := some 23) (v := ?_) (a' := ?_) (mB 6 7) rfl rfl (by kernel_rfl) (fun _ _ _ h => h) (Or.inl ⟨by rfl, ?_⟩) hHeld ?_ ?_
      rotate_left
      · rintro w' ⟨s0, s1⟩
        go_simp
        with_reducible rfl
      rotate_left
      · simp only [Act.put, List.setIfInBounds_toArray, List.set_cons_zero, List.set_cons_succ, i64_w, i32_w]
        rfl
      refine pure_ (i := 4) (N := some 7) (v := ?_) (a' := ?_) (mB 6 23) rfl rfl (by kernel_rfl) (fun _ _ _ h => h) (Or.inl ⟨by rfl, ?_⟩) ?_ ?_
      rotate_left
      · intro w'
        go_simp
        with_reducible rfl
      rotate_left
      · simp only [Act.put, List.setIfInBounds_toArray, List.set_cons_zero, List.set_cons_succ, i64_w, i32_w]
        rfl
      refine take_ (i := 3) (N := some 25) (v := ?_) (a' := ?_) (mB 6 31) rfl rfl (by kernel_rfl) (fun _ _ _ h => h) (Or.inl ⟨by rfl, ?_⟩) hHeld ?_ ?_
      rotate_left
      · rintro w' ⟨s0, s1⟩
        go_simp
        with_reducible rfl
      rotate_left
      · simp only [Act.put, List.setIfInBounds_toArray, List.set_cons_zero, List.set_cons_succ, i64_w, i32_w]
        rfl
      refine pure_ (i := 5) (N := some 8) (v := ?_) (a' := ?_) (mB 6 63) rfl rfl (by kernel_rfl) (fun _ _ _ h => h) (Or.inl ⟨by rfl, ?_⟩) ?_ ?_
      rotate_left
      · intro w'
        go_simp
        with_reducible rfl
      rotate_left
      · simp only [Act.put, List.setIfInBounds_toArray, List.set_cons_zero, List.set_cons_succ, i64_w, i32_w]
        rfl
      refine done_ (by kernel_rfl) ?_
      have hnb188 := NB357_358.out
      have hnc188 := NB358_357.out
      obtain ⟨hcz189_0, hcz189_1, hcz189_2, hfz189_0, hfz189_1, hfz189_2⟩ := cell3 BK357
      try go_wp2_with (first | ((with_reducible refine gC 14 rfl ?_); refine cG (some 28) Try.func14 #[.agg #[.int .i64 a0_0, .int .i64 a0_1, .slice A0_2 l0_2.length c0_2]] ?_; (with_reducible refine (gauss_Reduce.calls a0_0 a0_1 _ _ l0_2 t359 t360 t361 t364 t367 _ ?side1 ?side2 A4.out).mono ?_); (case side1 => exact kcB HR0_2 HB); (case side2 => exact HC0_2.out); rintro e w190 ⟨v362, v365, rfl, ho0, ho1, hb⟩; refine ⟨_, rfl, ?_⟩; have HO363 := Aside0.mk (Kd.V_lower (Kd.V_mono (ok' := fun k_ => some k_ ≠ (v365 : Value).ownBlock ∧ k_ ≠ gb357 ∧ k_ ≠ gb358) ho0 (fun k_ hk_ => ⟨hk_.2, (Kd.freshB (g := gb357) (o := .cells #[.int .i64 a0_0, .int .i64 a0_1, .slice A0_2 l0_2.length c0_2] 24 (0, 0)) (bkA BK357.out) k_ hk_.1), (Kd.freshB (g := gb358) (o := .cells #[.int .i64 a1_0, .int .i64 a1_1] 40 (0, 0)) (bkA BK358.out) k_ hk_.1)⟩)) (below_size (hbA HB.out))); have HO366 := Aside0.mk (Kd.R_lower (Kd.R_mono (ok' := fun k_ => True) ho1 (fun _ hk_ => trivial)) (below_size (hbA HB.out))); replace BK357 := bkB BK357 hb; replace BK358 := bkB BK358 hb; replace HB := hbB HB hb; (try clear hb); (try clear hb2); (try clear hk); (try clear hi); (try clear ho0); (try clear ho1)) | ((with_reducible refine gD 9 rfl ?_); refine bE 9 #[.int .i64 0, .int .i64 0, .slice none 0 0] 24 ?_; intro gb368 hg w191 hbox hb; replace HO363 := Aside0.mk (Kd.V_below (Kd.V_elderB (by (with_reducible repeat (first | apply Kd.V_alloc | apply Kd.V_drewN | apply Kd.V_drew)); exact HO363.out) gb368 (Nat.le_of_eq hg.symm)) hb); replace HO366 := kdB HO366 hb; have BK368 := Aside0.mk (hbox); have GW368 := hbS HB hg; have GE368 := hbS HB hg; replace HB := hbB HB hb; have NB357_368 := neL BK357 hg; have NB368_357 := neG BK357 hg; replace BK357 := bkB BK357 hb; have NB358_368 := neL BK358 hg; have NB368_358 := neG BK358 hg; replace BK358 := bkB BK358 hb; clear hb hbox hg; have hnb192 := NB368_357.out; have hnc192 := NB357_368.out; have hnb193 := NB368_358.out; have hnc193 := NB358_368.out; obtain ⟨hcz194_0, hcz194_1, hcz194_2, hfz194_0, hfz194_1, hfz194_2⟩ := cell3 BK368; obtain ⟨Ao195, co195, eo195⟩ := Kd.V_slice HO363.out; subst eo195; obtain ⟨hcz196_0, hcz196_1, hcz196_2, hfz196_0, hfz196_1, hfz196_2⟩ := cell3 BK357) | ((with_reducible refine gC 21 rfl ?_); refine cG (some 33) Try.func21 #[.agg #[.int .i64 a0_0, .int .i64 a0_1, .slice A0_2 l0_2.length c0_2]] ?_; (with_reducible refine (recoupref03_Right.calls a0_0 a0_1 _ _ l0_2 false _ ?side1 ?side2 A5.out).mono ?_); (case side1 => exact Kd.C_below HR0_2.out (hbA HB.out)); (case side2 => exact HC0_2.out); rintro e w197 ⟨rfl, hb⟩; refine ⟨_, rfl, ?_⟩; replace HO363 := Aside0.mk (Kd.V_below (by (with_reducible repeat (first | apply Kd.V_alloc | apply Kd.V_drewN | apply Kd.V_drew)); exact (Kd.V_mono (Kd.V_far (p := ⟨gb368, 2, none⟩) (Kd.V_far (p := ⟨gb368, 1, none⟩) (Kd.V_far (p := ⟨gb368, 0, none⟩) (Kd.V_mono HO363.out (fun k_ hk => (⟨hk, hk.2⟩ : _ ∧ k_ ≠ gb368))) (fun _ hk => hk.2) (.int .i64 t359)) (fun _ hk => hk.2) (.int .i64 t360)) (fun _ hk => hk.2) (.slice Ao195 t361.length co195)) (fun _ h_ => h_.1))) hb); replace HO366 := Aside0.mk (Kd.R_below (by (with_reducible repeat (first | apply Kd.R_alloc | apply Kd.R_drewN | apply Kd.R_drew)); exact (Kd.R_mono (Kd.R_far (p := ⟨gb368, 2, none⟩) (Kd.R_far (p := ⟨gb368, 1, none⟩) (Kd.R_far (p := ⟨gb368, 0, none⟩) (Kd.R_types HO366.out BK368.out (by decide)) (fun _ hk => hk.2) (.int .i64 t359)) (fun _ hk => hk.2) (.int .i64 t360)) (fun _ hk => hk.2) (.slice Ao195 t361.length co195)) (fun _ h_ => h_.1))) hb); replace BK357 := Aside0.mk (blk_below (g := gb357) (o := .cells #[.int .i64 a0_0, .int .i64 a0_1, .slice A0_2 l0_2.length c0_2] 24 (0, 0)) (by refine bkR ?_; refine blk_far ?_ NB357_368.out _; refine bkR ?_; refine blk_far ?_ NB357_368.out _; refine bkR ?_; refine blk_far ?_ NB357_368.out _; refine bkR ?_; exact BK357.out) hb); replace BK358 := Aside0.mk (blk_below (g := gb358) (o := .cells #[.int .i64 a1_0, .int .i64 a1_1] 40 (0, 0)) (by refine bkR ?_; refine blk_far ?_ NB358_368.out _; refine bkR ?_; refine blk_far ?_ NB358_368.out _; refine bkR ?_; refine blk_far ?_ NB358_368.out _; refine bkR ?_; exact BK358.out) hb); replace BK368 := Aside0.mk (blk_below (g := gb368) (o := .cells #[.int .i64 t359, .int .i64 t360, .slice Ao195 t361.length co195] 24 (0, 0)) (by refine bkR ?_; refine blk_put (cs := #[.int .i64 t359, .int .i64 t360, .slice none 0 0]) ?_ 2 _ rfl; refine bkR ?_; refine blk_put (cs := #[.int .i64 t359, .int .i64 0, .slice none 0 0]) ?_ 1 _ rfl; refine bkR ?_; refine blk_put (cs := #[.int .i64 0, .int .i64 0, .slice none 0 0]) ?_ 0 _ rfl; refine bkR ?_; exact BK368.out) hb); replace HB := hbB HB hb; (try clear hb); (try clear hb2); (try clear hk); (try clear hi)) | ((with_reducible refine gC 22 rfl ?_); refine cG (some 35) Try.func22 #[] ?_; (with_reducible refine (recouplaw04_anchored.calls  false _ A169.out).mono ?_); rintro e w198 ⟨rfl, hb⟩; refine ⟨_, rfl, ?_⟩; replace HO363 := Aside0.mk (Kd.V_below (by (with_reducible repeat (first | apply Kd.V_alloc | apply Kd.V_drewN | apply Kd.V_drew)); exact HO363.out) hb); replace HO366 := kdB HO366 hb; replace BK357 := bkB BK357 hb; replace BK358 := bkB BK358 hb; replace BK368 := bkB BK368 hb; replace HB := hbB HB hb; (try clear hb); (try clear hb2); (try clear hk); (try clear hi)))
      go_ret
      exact ⟨rfE, hbA HB.out⟩

end Go.Proofs.Ytccfbhnhedoggaa.Q
