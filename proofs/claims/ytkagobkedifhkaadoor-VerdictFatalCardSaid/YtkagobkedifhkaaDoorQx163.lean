/- Written by drive.py (a program of this repo, over the kit's print): each Go function named here answers what the Lean function beside it answers, wherever that one answers, in every world that meets the stated premises. -/
import Derived.Test.YtkagobkedifhkaaDoorQx0
import Derived.Test.YtkagobkedifhkaaDoorQx168
import Derived.Test.YtkagobkedifhkaaDoorQx189
import Derived.Test.YtkagobkedifhkaaDoorQx193
namespace Go.Proofs.YtkagobkedifhkaaDoor.Q
open Go.RowKit Go.Proofs.YtkagobkedifhkaaDoorW.PrintWords Go.Proofs.YtkagobkedifhkaaDoorW.PrintLast Go.Proofs.YtkagobkedifhkaaDoorW.PrintMore
attribute [local go_sem] max2_int min2_int max_two min_two max_three min_three max_four min_four   -- for this text's walks alone
set_option linter.unusedVariables false
set_option linter.unusedSimpArgs false

/-! ### gauss_Inverse: function 63 -/
/-! ### Inverse -/
def gauss_Inverse.st (a : Int) (l : List Int) : (List (List Int) × List (List Int)) × List Int := redTo (rowsOf a.toNat a.toNat l) (unitsTo a.toNat a.toNat) a.toNat
def gauss_Inverse.f (a b : Int) (l : List Int) : Option (Int × Int × List Int × Int) :=
 (matrix_Right.f a b l).bind fun t => if t = true then (if a = b then (if bytesB l = true then (if ((gauss_Inverse.st a l).2.length : Int) < a then some (0, 0, [], 6) else some (a, a, (gauss_Inverse.st a l).1.2.flatten, 0)) else none) else some (0, 0, [], 3)) else some (0, 0, [], 3)
set_option maxHeartbeats 4000000 in
set_option maxRecDepth 100000 in
theorem gauss_Inverse.calls (a0_0 : Int) (a0_1 : Int) (A0_2 : Option Addr) (c0_2 : Nat) (l0_2 : List Int) (r1 : Int) (r2 : Int) (r3 : List Int) (r4 : Int) (w : World) (hr0_2 : Kd.C (Kd.int .u8) w A0_2 l0_2.length l0_2) (hc0_2 : l0_2.length ≤ c0_2) (h : gauss_Inverse.f a0_0 a0_1 l0_2 = some (r1, r2, r3, r4)) :
  Calls Tryd.prog 63 #[.agg #[.int .i64 a0_0, .int .i64 a0_1, .slice A0_2 l0_2.length c0_2]] w fun e w' => ∃ v2_ : Value, e = .returned (.tuple #[.agg #[.int .i64 r1, .int .i64 r2, v2_], .int .i64 r4]) ∧ Kd.V (Kd.int .u8) 5 w' w.heap.size (fun k_ => (w.heap.size ≤ k_)) v2_ r3 ∧ Below w.heap.size w w' := by
 have hu24 := Tryd.underlying24
 have HR := Aside0.mk hr0_2
 have HC := Aside0.mk hc0_2
 clear hr0_2 hc0_2
 unfold gauss_Inverse.f at h
 obtain ⟨t, hm, h⟩ := Option.bind_eq_some_iff.mp h
 have HM := Aside0.mk hm
 cases t with
 | false =>
  simp only [Bool.false_eq_true, if_false, Option.some.injEq, Prod.mk.injEq] at h
  obtain ⟨rfl, rfl, rfl, rfl⟩ := h
  clear hm
  go_enter Tryd.func63, Tryd.ntmps63
  go_upto_region 1 with (fail)
  have hb2 := below_alloc (below_alloc (Below.refl w.heap.size w) (.cells #[.int .i64 a0_0, .int .i64 a0_1, .slice A0_2 l0_2.length c0_2] 24)) (.cells #[.int .i64 0, .int .i64 0, .slice none 0 0] 24)
  have hbm := heap_alloc2_old w (.cells #[.int .i64 a0_0, .int .i64 a0_1, .slice A0_2 l0_2.length c0_2] 24) (.cells #[.int .i64 0, .int .i64 0, .slice none 0 0] 24)
  have hbr := blk_new (w.alloc (.cells #[.int .i64 a0_0, .int .i64 a0_1, .slice A0_2 l0_2.length c0_2] 24)) (.cells #[.int .i64 0, .int .i64 0, .slice none 0 0] 24)
  rw [World.size_alloc] at hbr
  have HB2 := Aside0.mk hb2
  clear hb2
  generalize (w.alloc (.cells #[.int .i64 a0_0, .int .i64 a0_1, .slice A0_2 l0_2.length c0_2] 24)).alloc (.cells #[.int .i64 0, .int .i64 0, .slice none 0 0] 24) = w2 at *
  have x0 : w2.cell? ⟨w.heap.size, 0, none⟩ = some (.int .i64 a0_0) := (blk_cell hbm 0).trans rfl
  have x1 : w2.cell? ⟨w.heap.size, 1, none⟩ = some (.int .i64 a0_1) := (blk_cell hbm 1).trans rfl
  have x2 : w2.cell? ⟨w.heap.size, 2, none⟩ = some (.slice A0_2 l0_2.length c0_2) := (blk_cell hbm 2).trans rfl
  go_wp2_with fail
  refine (matrix_Right.calls a0_0 a0_1 A0_2 c0_2 l0_2 false _ (Kd.C_below HR.out HB2.out) HC.out HM.out).mono ?_
  rintro e w3 ⟨rfl, hb3⟩
  have hr3 := (hb3.block _ (lt_of_get hbr)).trans hbr
  have hm3 := (hb3.block _ (lt_of_get hbm)).trans hbm
  have HB3 := Aside0.mk (below_step HB2.out hb3)
  clear x0 x1 x2 hbr hbm hb3
  have x0 : w3.cell? ⟨w.heap.size, 0, none⟩ = some (.int .i64 a0_0) := (blk_cell hm3 0).trans rfl
  have x1 : w3.cell? ⟨w.heap.size, 1, none⟩ = some (.int .i64 a0_1) := (blk_cell hm3 1).trans rfl
  have x2 : w3.cell? ⟨w.heap.size, 2, none⟩ = some (.slice A0_2 l0_2.length c0_2) := (blk_cell hm3 2).trans rfl
  have y0 : w3.cell? ⟨w.heap.size + 1, 0, none⟩ = some (.int .i64 0) := (blk_cell hr3 0).trans rfl
  have y1 : w3.cell? ⟨w.heap.size + 1, 1, none⟩ = some (.int .i64 0) := (blk_cell hr3 1).trans rfl
  have y2 : w3.cell? ⟨w.heap.size + 1, 2, none⟩ = some (.slice none 0 0) := (blk_cell hr3 2).trans rfl
  have f0 := blk_frozen hr3 0
  have f1 := blk_frozen hr3 1
  have f2 := blk_frozen hr3 2
  clear x0 x1 x2 hm3
  go_wp2_with fail
  refine bodyPost_ret (results_ct rfl _ _ (w.heap.size + 1) 24 #[.int .i64 0, .int .i64 0, .slice none 0 0] (0, 0) _ rfl (blk_put (cs := #[.int .i64 0, .int .i64 0, .slice none 0 0]) (blk_put (cs := #[.int .i64 0, .int .i64 0, .slice none 0 0]) (blk_put (cs := #[.int .i64 0, .int .i64 0, .slice none 0 0]) hr3 0 _ rfl) 1 _ rfl) 2 _ rfl) Tryd.underlying24 rfl (by kernel_rfl)) rfl ?_
  refine ⟨_, rfl, Kd.V_nil _ _ _ _ _, ?_⟩
  exact ((HB3.out.setCell (by show w.heap.size ≤ w.heap.size + 1; omega) _).setCell (by show w.heap.size ≤ w.heap.size + 1; omega) _).setCell (by show w.heap.size ≤ w.heap.size + 1; omega) _
 | true =>
  have hrt := right_true hm
  rw [if_pos rfl] at h
  by_cases hab : a0_0 = a0_1
  ·subst hab
   rw [if_pos rfl] at h
   by_cases hb : bytesB l0_2 = true
   ·rw [if_pos hb] at h
    obtain ⟨e0, e1, _, _, hl⟩ := hrt
    obtain ⟨n, rfl⟩ := Int.eq_ofNat_of_zero_le e0
    rw [Int.toNat_natCast] at hl
    have hn : n ≤ 64 := by omega
    have HS := Aside0.mk (shp_unit hb hl hn)
    have HST := Aside0.mk (show gauss_Inverse.st (n : Int) l0_2 = redTo (rowsOf n n l0_2) (unitsTo n n) n from rfl)
    have HL := Aside0.mk hl
    generalize gauss_Inverse.st (n : Int) l0_2 = st at *
    obtain ⟨F, hF⟩ : ∃ F, F = st.1.2.flatten := ⟨_, rfl⟩
    rw [← hF] at h
    have HF := Aside0.mk hF
    have HRES := Aside0.mk h
    clear hF hb hm hl e0 e1 h
    go_enter Tryd.func63, Tryd.ntmps63
    go_upto_region 1 with (fail)
    have hb2 := below_alloc (below_alloc (Below.refl w.heap.size w) (.cells #[.int .i64 (n : Int), .int .i64 (n : Int), .slice A0_2 l0_2.length c0_2] 24)) (.cells #[.int .i64 0, .int .i64 0, .slice none 0 0] 24)
    have hbm := heap_alloc2_old w (.cells #[.int .i64 (n : Int), .int .i64 (n : Int), .slice A0_2 l0_2.length c0_2] 24) (.cells #[.int .i64 0, .int .i64 0, .slice none 0 0] 24)
    have hbr := blk_new (w.alloc (.cells #[.int .i64 (n : Int), .int .i64 (n : Int), .slice A0_2 l0_2.length c0_2] 24)) (.cells #[.int .i64 0, .int .i64 0, .slice none 0 0] 24)
    rw [World.size_alloc] at hbr
    have HB2 := Aside0.mk hb2
    clear hb2
    generalize (w.alloc (.cells #[.int .i64 (n : Int), .int .i64 (n : Int), .slice A0_2 l0_2.length c0_2] 24)).alloc (.cells #[.int .i64 0, .int .i64 0, .slice none 0 0] 24) = w2 at *
    have x0 : w2.cell? ⟨w.heap.size, 0, none⟩ = some (.int .i64 (n : Int)) := (blk_cell hbm 0).trans rfl
    have x1 : w2.cell? ⟨w.heap.size, 1, none⟩ = some (.int .i64 (n : Int)) := (blk_cell hbm 1).trans rfl
    have x2 : w2.cell? ⟨w.heap.size, 2, none⟩ = some (.slice A0_2 l0_2.length c0_2) := (blk_cell hbm 2).trans rfl
    go_wp2_with fail
    refine (matrix_Right.calls (n : Int) (n : Int) A0_2 c0_2 l0_2 true _ (Kd.C_below HR.out HB2.out) HC.out HM.out).mono ?_
    rintro e w3 ⟨rfl, hb3⟩
    have hr3 := (hb3.block _ (lt_of_get hbr)).trans hbr
    have hm3 := (hb3.block _ (lt_of_get hbm)).trans hbm
    have HB3 := Aside0.mk (below_step HB2.out hb3)
    clear x0 x1 x2 hbr hbm hb3
    have x0 : w3.cell? ⟨w.heap.size, 0, none⟩ = some (.int .i64 (n : Int)) := (blk_cell hm3 0).trans rfl
    have x1 : w3.cell? ⟨w.heap.size, 1, none⟩ = some (.int .i64 (n : Int)) := (blk_cell hm3 1).trans rfl
    have x2 : w3.cell? ⟨w.heap.size, 2, none⟩ = some (.slice A0_2 l0_2.length c0_2) := (blk_cell hm3 2).trans rfl
    go_wp2_with fail
    refine (gauss_of.calls n n A0_2 c0_2 l0_2 w3 (Kd.C_below HR.out HB3.out) HC.out HL.out ⟨hn, hn⟩).mono ?_
    rintro e w4 ⟨R, rfl, hq⟩
    obtain ⟨g, d, cl, cd, Al, Ad, hH, hb4, hg, hd, hRw, hg4, hd4, hcl, hcd, cR, hRf⟩ := hq.out
    have hr4 := (hb4.block _ (lt_of_get hr3)).trans hr3
    have hm4 := (hb4.block _ (lt_of_get hm3)).trans hm3
    rw [← unitsTo_zero] at hH
    have HH := Aside0.mk hH
    have HB4 := Aside0.mk (below_step HB3.out hb4)
    have hrl3 := lt_of_get hr3
    have hml3 := lt_of_get hm3
    have y1 : w4.cell? ⟨R, 1, none⟩ = some (.slice Ad n cd) := by have := HH.out.also; rwa [unitsTo_length] at this
    clear hq hH hb4 hr3 hm3 x0 x1 x2
    go_wp2_with fail
    clear y1
    go_loopg [24] n (fun kq v24 wr => ∃ (i : Nat), v24 = .int .i64 i ∧ i ≤ n ∧ Aside0 (kq + i = n) ∧ Aside0 (Hold wr R g d cl cd Al Ad (rowsOf n n l0_2) (unitsTo n i) n ∧ Chg w4 wr (two g d)))
    case atStart => exact ⟨0, rfl, Nat.zero_le _, ⟨by omega⟩, ⟨HH.out, Chg.refl _ _⟩⟩
    case round =>
     obtain ⟨i, rfl, hi, HK, HO⟩ := hrel
     have hn4 := HB4.out.size
     have hm5 := (HO.out.2.block _ (lt_of_get hm4) (fun e => by rcases e with e | e <;> omega)).trans hm4
     have hr5 := (HO.out.2.block _ (lt_of_get hr4) (fun e => by rcases e with e | e <;> omega)).trans hr4
     have hw45 := HO.out.2.size
     by_cases hlt : i < n
     ·have tst : decide ((i : Int) < (n : Int)) = true := by simpa using hlt
      go_wp2_with fail
      have hAd := HO.out.1.hD (by rw [unitsTo_length]; omega)
      subst hAd
      have z1 : wr.cell? ⟨R, 1, none⟩ = some (.slice (some ⟨d, 0, none⟩) n cd) := by have := HO.out.1.also; rwa [unitsTo_length] at this
      have z2 : wr.cell? ⟨w.heap.size, 1, none⟩ = some (.int .i64 n) := (blk_cell hm5 1).trans rfl
      obtain ⟨vd0, hd0, hd0r⟩ := HO.out.1.LD.row i (by rw [unitsTo_length]; exact hlt)
      have hdf := HO.out.1.LD.frz i (by rw [unitsTo_length]; exact hlt)
      have hne3 := HO.out.1.ne3
      have hRl := HO.out.1.small
      have hdl := HO.out.1.LD.lt (by rw [unitsTo_length]; omega)
      clear hd0r hr5
      refine start_ (n := 10) (S := fun w' => w'.cell? ⟨R, 1, none⟩ = some (.slice (some ⟨d, 0, none⟩) n cd) ∧ w'.cell? ⟨w.heap.size, 1, none⟩ = some (.int .i64 n)) (ds := [9]) #[false, false, false, false, false, false, false, false, false, false] (by kernel_rfl) rfl rfl ⟨z1, z2⟩ (fun hHeld => ?_)
      have HO1 := Aside0.mk (show Hold wr.drew R g d cl cd Al (some ⟨d, 0, none⟩) (rowsOf n n l0_2) (unitsTo n i) n ∧ Chg w4 wr.drew (two g d) from ⟨HO.out.1.below (below_drew (Below.refl _ _)), HO.out.2.trans (Chg.below_all (below_drew (Below.refl _ _)) _)⟩)
      have hm6 : wr.drew.heap[w.heap.size]? = some (.cells #[.int .i64 n, .int .i64 n, .slice A0_2 l0_2.length c0_2] 24 (0, 0)) := hm5
      have hd1 : wr.drew.cell? ⟨d, i, none⟩ = some vd0 := hd0
      have hdf1 : wr.drew.frozen? ⟨d, i, none⟩ = false := hdf
      have hs1 : wr.drew.heap.size = wr.heap.size := rfl
      clear HO hm5 z1 z2 hd0 hdf
      generalize wr.drew = w5 at *
      refine pure_ (i := 0) (N := some 27) (v := ?_) (a' := ?_) #[true, false, false, false, false, false, false, false, false, false] rfl rfl (by kernel_rfl) (fun _ _ _ h => h) (Or.inl ⟨by rfl, ?_⟩) ?_ ?_
      rotate_left
      ·intro w'
       go_simp
       with_reducible rfl
      rotate_left
      ·simp only [Act.put, List.setIfInBounds_toArray, List.set_cons_zero, List.set_cons_succ, i64_w, i32_w]
       rfl
      refine pure_ (i := 1) (N := some 28) (v := ?_) (a' := ?_) #[true, true, false, false, false, false, false, false, false, false] rfl rfl (by kernel_rfl) (fun _ _ _ h => h) (Or.inl ⟨by rfl, ?_⟩) ?_ ?_
      rotate_left
      ·intro w'
       go_simp
       with_reducible rfl
      rotate_left
      ·simp only [Act.put, List.setIfInBounds_toArray, List.set_cons_zero, List.set_cons_succ, i64_w, i32_w]
       rfl
      refine pure_ (i := 2) (N := some 29) (v := ?_) (a' := ?_) #[true, true, true, false, false, false, false, false, false, false] rfl rfl (by kernel_rfl) (fun _ _ _ h => h) (Or.inl ⟨by rfl, ?_⟩) ?_ ?_
      rotate_left
      ·intro w'
       go_simp
       with_reducible rfl
      rotate_left
      ·simp only [Act.put, List.setIfInBounds_toArray, List.set_cons_zero, List.set_cons_succ, i64_w, i32_w]
       rfl
      refine pure_ (i := 4) (N := some 31) (v := ?_) (a' := ?_) #[true, true, true, false, true, false, false, false, false, false] rfl rfl (by kernel_rfl) (fun _ _ _ h => h) (Or.inl ⟨by rfl, ?_⟩) ?_ ?_
      rotate_left
      ·intro w'
       go_simp
       with_reducible rfl
      rotate_left
      ·simp only [Act.put, List.setIfInBounds_toArray, List.set_cons_zero, List.set_cons_succ, i64_w, i32_w]
       rfl
      refine pure_ (i := 5) (N := some 32) (v := ?_) (a' := ?_) #[true, true, true, false, true, true, false, false, false, false] rfl rfl (by kernel_rfl) (fun _ _ _ h => h) (Or.inl ⟨by rfl, ?_⟩) ?_ ?_
      rotate_left
      ·intro w'
       go_simp
       with_reducible rfl
      rotate_left
      ·simp only [Act.put, List.setIfInBounds_toArray, List.set_cons_zero, List.set_cons_succ, i64_w, i32_w]
       rfl
      refine take_ (i := 3) (N := some 30) (v := ?_) (a' := ?_) #[true, true, true, true, true, true, false, false, false, false] rfl rfl (by kernel_rfl) (fun _ _ _ h => h) (Or.inl ⟨by rfl, ?_⟩) hHeld ?_ ?_
      rotate_left
      ·rintro w' ⟨s0, s1⟩
       go_simp
       with_reducible rfl
      rotate_left
      ·simp only [Act.put, List.setIfInBounds_toArray, List.set_cons_zero, List.set_cons_succ, i64_w, i32_w]
       rfl
      refine take_ (i := 6) (N := some 33) (v := ?_) (a' := ?_) #[true, true, true, true, true, true, true, false, false, false] rfl rfl (by kernel_rfl) (fun _ _ _ h => h) (Or.inl ⟨by rfl, ?_⟩) hHeld ?_ ?_
      rotate_left
      ·rintro w' ⟨s0, s1⟩
       go_simp
       with_reducible rfl
      rotate_left
      ·simp only [Act.put, List.setIfInBounds_toArray, List.set_cons_zero, List.set_cons_succ, i64_w, i32_w]
       rfl
      refine one_ (i := 7) (N := some 34) #[true, true, true, true, true, true, true, true, false, false] rfl rfl (by kernel_rfl) (by decide) (fun K hK => ?_)
      refine Kd.R_make_step (Kd.int .u8) w5.heap.size 5 (by rfl) (N := 34) rfl 22 _ _ rfl (n : Int) rfl rfl Tryd.underlying22 (.int .u8 0) 1 info5 rfl (by decide) (by omega) (0 : Int) (ok := fun _ => True) (okp := fun _ => False) rfl (fun _ h => h.elim) trivial (by omega) (by omega) (Below.refl _ _) (Nat.le_refl _) ?_
      intro vm w6 ho hb6 hg6 hnew
      rw [Int.toNat_natCast] at ho
      obtain ⟨Am, cm, ev⟩ := Kd.R_slice ho
      rw [List.length_replicate] at ev
      subst ev
      obtain ⟨nb, hnb, hnb2⟩ := hnew
      obtain ⟨hAm, _⟩ := own_addr ho hnb
      subst hAm
      have HM6 := Aside0.mk ho
      have HB6 := Aside0.mk hb6
      have hd2 := pw_cell_below hb6 hd1
      have hdf2 := (below_frozen hb6 (p := ⟨d, i, none⟩) (by show d < _; omega)).trans hdf1
      clear ho hb6 hg6 hnb
      refine hK.out _ _ ⟨pw_cell_below HB6.out hHeld.1, pw_cell_below HB6.out hHeld.2⟩ (fun hHeld => ?_)
      clear hK K
      refine norm_ (a' := ?_) ?_ ?_
      rotate_left
      ·show Act.put _ (some 34) _ = _
       simp only [Act.put, List.setIfInBounds_toArray, List.set_cons_zero, List.set_cons_succ, i64_w, i32_w]
       rfl
      refine pure_ (i := 8) (N := some 35) (v := ?_) (a' := ?_) #[true, true, true, true, true, true, true, true, true, false] rfl rfl (by kernel_rfl) (fun _ _ _ h => h) (Or.inl ⟨by rfl, ?_⟩) ?_ ?_
      rotate_left
      ·intro w'
       go_simp
       with_reducible rfl
      rotate_left
      ·simp only [Act.put, List.setIfInBounds_toArray, List.set_cons_zero, List.set_cons_succ, i64_w, i32_w]
       rfl
      refine last_ (i := 9) (N := none) #[true, true, true, true, true, true, true, true, true, true] rfl rfl (by kernel_rfl) (by decide) (fun K hK => ?_)
      refine skip_ (w1 := ?_) (by rfl) rfl ?_ ?_
      rotate_left
      ·go_simp
       rfl
      refine hK.out _ _ ?_
      clear hK K
      refine done_ (by kernel_rfl) ?_
      clear hHeld
      have h6s := HB6.out.size
      obtain ⟨hz1, hz2⟩ := R_one HM6.out hlt
      have q1 : (w6.setCell ⟨d, i, none⟩ (.slice (some ⟨nb, 0, none⟩) n cm)).cell? ⟨R, 1, none⟩ = some (.slice (some ⟨d, 0, none⟩) n cd) := by
       rw [World.cell?_setCell_other _ _ _ _ (by simp <;> omega)]
       have := (HO1.out.1.below HB6.out).also
       rwa [unitsTo_length] at this
      have q2 : (w6.setCell ⟨d, i, none⟩ (.slice (some ⟨nb, 0, none⟩) n cm)).cell? ⟨d, i, none⟩ = some (.slice (some ⟨nb, 0, none⟩) n cm) := World.cell?_setCell_same' _ _ _ (by rw [hd2]; rfl)
      have q3 : (w6.setCell ⟨d, i, none⟩ (.slice (some ⟨nb, 0, none⟩) n cm)).cell? ⟨nb, i, none⟩ = some (.int .u8 0) := by
       rw [World.cell?_setCell_other _ _ _ _ (by simp <;> omega)]
       exact hz1
      have q4 : (w6.setCell ⟨d, i, none⟩ (.slice (some ⟨nb, 0, none⟩) n cm)).frozen? ⟨nb, i, none⟩ = false := by
       rw [World.frozen?_setCell]
       exact hz2
      have HO7 := Aside0.mk (HO1.out.1.unitD (i := i) (by rw [unitsTo_length]; exact hlt) HB6.out HM6.out)
      have hgr : Chg w5 ((w6.setCell ⟨d, i, none⟩ (.slice (some ⟨nb, 0, none⟩) n cm)).setCell ⟨nb, i, none⟩ (.int .u8 1)) (two g d) :=
       ⟨HB6.out.os, HB6.out.tape, HB6.out.output, by simpa using h6s, fun k hk hkd => by
        rw [Below.heap_setCell _ _ _ k (by show k ≠ nb; omega), Below.heap_setCell _ _ _ k (by intro e; exact hkd (.inr e))]
        exact HB6.out.block k hk⟩
      have HC7 := Aside0.mk (HO1.out.2.trans hgr)
      rw [unitsTo_succ hlt] at HO7
      clear hgr HO1 HM6 HB6 hd1 hdf1 hd2 hdf2 hz1 hz2 hm6 hs1
      generalize hw7 : w6.setCell ⟨d, i, none⟩ (.slice (some ⟨nb, 0, none⟩) n cm) = w7 at *
      have HW7 := Aside0.mk hw7
      clear hw7
      have hio : (0 : Int) ≤ (i : Int) := by omega
      have hin : (i : Int) < (n : Int) := by omega
      have hadd : (⟨nb, 0, none⟩ : Addr).add i = ⟨nb, i, none⟩ := by unfold Addr.add; by_cases e : i = 0 <;> simp [e]
      go_wp2_with fail
      go_roundg (n - (i + 1))
      case measure => have := HK.out; omega
      case rel => exact ⟨i + 1, by go_num, by omega, ⟨by omega⟩, ⟨HO7.out, HC7.out⟩⟩
     ·obtain rfl : i = n := by omega
      have z1 : wr.cell? ⟨w.heap.size, 0, none⟩ = some (.int .i64 i) := (blk_cell hm5 0).trans rfl
      go_wp2_with fail
      refine start_ (n := 6) (S := fun w' => w'.cell? ⟨w.heap.size, 0, none⟩ = some (.int .i64 i)) (ds := []) #[false, false, false, false, false, false] (by kernel_rfl) rfl rfl (z1) (fun hHeld => ?_)
      have HO1 := Aside0.mk (show Hold wr.drew R g d cl cd Al Ad (rowsOf i i l0_2) (unitsTo i i) i ∧ Chg w4 wr.drew (two g d) from ⟨HO.out.1.below (below_drew (Below.refl _ _)), HO.out.2.trans (Chg.below_all (below_drew (Below.refl _ _)) _)⟩)
      have hm6 : wr.drew.heap[w.heap.size]? = some (.cells #[.int .i64 i, .int .i64 i, .slice A0_2 l0_2.length c0_2] 24 (0, 0)) := hm5
      have hr6 : wr.drew.heap[w.heap.size + 1]? = some (.cells #[.int .i64 0, .int .i64 0, .slice none 0 0] 24 (0, 0)) := hr5
      have hs1 : wr.drew.heap.size = wr.heap.size := rfl
      clear HO hm5 hr5 z1
      generalize wr.drew = w5 at *
      refine pure_ (i := 0) (N := some 46) (v := ?_) (a' := ?_) #[true, false, false, false, false, false] rfl rfl (by kernel_rfl) (fun _ _ _ h => h) (Or.inl ⟨by rfl, ?_⟩) ?_ ?_
      rotate_left
      ·intro w'
       go_simp
       with_reducible rfl
      rotate_left
      ·simp only [Act.put, List.setIfInBounds_toArray, List.set_cons_zero, List.set_cons_succ, i64_w, i32_w]
       rfl
      refine pure_ (i := 3) (N := some 49) (v := ?_) (a' := ?_) #[true, false, false, true, false, false] rfl rfl (by kernel_rfl) (fun _ _ _ h => h) (Or.inl ⟨by rfl, ?_⟩) ?_ ?_
      rotate_left
      ·intro w'
       go_simp
       with_reducible rfl
      rotate_left
      ·simp only [Act.put, List.setIfInBounds_toArray, List.set_cons_zero, List.set_cons_succ, i64_w, i32_w]
       rfl
      refine take_ (i := 4) (N := some 50) (v := ?_) (a' := ?_) #[true, false, false, true, true, false] rfl rfl (by kernel_rfl) (fun _ _ _ h => h) (Or.inl ⟨by rfl, ?_⟩) hHeld ?_ ?_
      rotate_left
      ·intro w' s0
       go_simp
       with_reducible rfl
      rotate_left
      ·simp only [Act.put, List.setIfInBounds_toArray, List.set_cons_zero, List.set_cons_succ, i64_w, i32_w]
       rfl
      refine one_ (i := 1) (N := some 47) #[true, true, false, true, true, false] rfl rfl (by kernel_rfl) (by decide) (fun K hK => ?_)
      refine goes_ Tryd.func83 (by kernel_rfl) rfl #[.pointer (some ⟨R, 0, none⟩)] (by rfl) rfl rfl (by simp only [List.map_toArray, List.map_cons, List.map_nil]; rfl) ?_
      refine (gauss_reduce.calls R g d cl cd Al Ad _ _ i i w5 HO1.out.1 HS.out (by omega) (by omega)).mono ?_
      rintro e w6 ⟨v, rfl, hq⟩
      rw [← HST.out] at hq
      refine ⟨_, rfl, ?_⟩
      obtain ⟨Av, cv, ev⟩ := Kd.R_slice hq.out.2.1
      subst ev
      have hm7 := (hq.out.2.2.block _ (lt_of_get hm6) (fun e => by rcases e with (e | e) | e <;> omega)).trans hm6
      have hr7 := (hq.out.2.2.block _ (lt_of_get hr6) (fun e => by rcases e with (e | e) | e <;> omega)).trans hr6
      refine hK.out _ _ ((blk_cell hm7 0).trans rfl) (fun hHeld => ?_)
      clear hK K
      refine norm_ (a' := ?_) ?_ ?_
      rotate_left
      ·show Act.put _ (some 47) _ = _
       simp only [Act.put, List.setIfInBounds_toArray, List.set_cons_zero, List.set_cons_succ, i64_w, i32_w]
       rfl
      refine pure_ (i := 2) (N := some 48) (v := ?_) (a' := ?_) #[true, true, true, true, true, false] rfl rfl (by kernel_rfl) (fun _ _ _ h => h) (Or.inl ⟨by rfl, ?_⟩) ?_ ?_
      rotate_left
      ·intro w'
       go_simp
       with_reducible rfl
      rotate_left
      ·simp only [Act.put, List.setIfInBounds_toArray, List.set_cons_zero, List.set_cons_succ, i64_w, i32_w]
       rfl
      refine pure_ (i := 5) (N := some 51) (v := ?_) (a' := ?_) #[true, true, true, true, true, true] rfl rfl (by kernel_rfl) (fun _ _ _ h => h) (Or.inl ⟨by rfl, ?_⟩) ?_ ?_
      rotate_left
      ·intro w'
       go_simp
       with_reducible rfl
      rotate_left
      ·simp only [Act.put, List.setIfInBounds_toArray, List.set_cons_zero, List.set_cons_succ, i64_w, i32_w]
       rfl
      refine done_ (by kernel_rfl) ?_
      clear hHeld
      have hsh := red_shp HS.out i
      rw [← HST.out] at hsh
      have HSH := Aside0.mk hsh
      have HQ := Aside0.mk hq.out
      have HC6 := Aside0.mk (HO1.out.2.trans (hq.out.2.2.mono (t := fun k => two g d k ∨ w5.heap.size ≤ k) (fun _ _ h => h) |>.mono (t := two g d) (fun k hk h => h.elim id (fun e => by omega))))
      have hrl := lt_of_get hr7
      clear hsh hq hm6 hr6 hm7
      by_cases hpl : (st.2.length : Int) < (i : Int)
      ·have hpl2 : st.2.length < i := by omega
       have tst : decide (st.2.length < i) = true := by simpa using hpl2
       have hres := HRES.out
       rw [if_pos hpl] at hres
       simp only [Option.some.injEq, Prod.mk.injEq] at hres
       obtain ⟨rfl, rfl, rfl, rfl⟩ := hres
       clear HRES hpl
       have y0 : w6.cell? ⟨w.heap.size + 1, 0, none⟩ = some (.int .i64 0) := (blk_cell hr7 0).trans rfl
       have y1 : w6.cell? ⟨w.heap.size + 1, 1, none⟩ = some (.int .i64 0) := (blk_cell hr7 1).trans rfl
       have y2 : w6.cell? ⟨w.heap.size + 1, 2, none⟩ = some (.slice none 0 0) := (blk_cell hr7 2).trans rfl
       have f0 := blk_frozen hr7 0
       have f1 := blk_frozen hr7 1
       have f2 := blk_frozen hr7 2
       go_wp2_with fail
       refine bodyPost_ret (results_ct rfl _ _ (w.heap.size + 1) 24 #[.int .i64 0, .int .i64 0, .slice none 0 0] (0, 0) _ rfl (blk_put (cs := #[.int .i64 0, .int .i64 0, .slice none 0 0]) (blk_put (cs := #[.int .i64 0, .int .i64 0, .slice none 0 0]) (blk_put (cs := #[.int .i64 0, .int .i64 0, .slice none 0 0]) hr7 0 _ rfl) 1 _ rfl) 2 _ rfl) Tryd.underlying24 rfl (by kernel_rfl)) rfl ?_
       refine ⟨_, rfl, Kd.V_nil _ _ _ _ _, ?_⟩
       have hbel : Below w.heap.size w w6 := HB4.out.trans (HC6.out.to_below (n := w.heap.size) hn4 (fun k hk => by rcases hk with e | e <;> omega))
       exact ((hbel.setCell (by show w.heap.size ≤ w.heap.size + 1; omega) _).setCell (by show w.heap.size ≤ w.heap.size + 1; omega) _).setCell (by show w.heap.size ≤ w.heap.size + 1; omega) _
      ·have hpl2 : ¬ st.2.length < i := by omega
       have tst : decide (st.2.length < i) = false := by simpa using hpl2
       have hres := HRES.out
       rw [if_neg hpl] at hres
       simp only [Option.some.injEq, Prod.mk.injEq] at hres
       obtain ⟨rfl, rfl, rfl, rfl⟩ := hres
       clear HRES hpl
       have hDl : st.1.2.length = i := by rw [HSH.out.1.len, HSH.out.2.1, rowsOf_length]
       have hMl : st.1.1.length = i := by rw [HSH.out.2.1, rowsOf_length]
       have z1 : w6.cell? ⟨R, 1, none⟩ = some (.slice Ad i cd) := by rw [← hDl]; exact HQ.out.1.also
       have z2 : w6.cell? ⟨R, 0, none⟩ = some (.slice Al i cl) := by rw [← hMl]; exact HQ.out.1.head
       have hR6 := (HC6.out.block R HH.out.small (fun e => by have a1 := HH.out.ne2; have a2 := HH.out.ne3; rcases e with e | e <;> omega)).trans hRf
       have z3 : w6.frozen? ⟨R, 0, none⟩ = false := blk_frozen hR6 0
       have y0 : w6.cell? ⟨w.heap.size + 1, 0, none⟩ = some (.int .i64 0) := (blk_cell hr7 0).trans rfl
       have HHf : Aside0 (Half (w6.setCell ⟨R, 0, none⟩ (.slice Ad i cd)) R d cd Ad st.1.2 i) := by
        have hh := HQ.out.1
        have kb : KeepB w6 (w6.setCell ⟨R, 0, none⟩ (.slice Ad i cd)) := KeepB.grown (grown_set w6 R 0 _) hR6 (by decide)
        have hne3 := hh.ne3
        refine ⟨⟨?_, ?_, by rw [hDl]; exact fun h0 => hh.hD (by omega), ?_, HSH.out.1.bD, fun k hk => HSH.out.1.eD k (by omega), ⟨by omega, hn⟩⟩⟩
        ·rw [hDl]
         exact World.cell?_setCell_same' _ _ _ (by rw [hh.head]; rfl)
        ·rw [World.cell?_setCell_other _ _ _ _ (by simp)]
         exact hh.wide
        ·exact hh.LD.same (Below.heap_setCell _ _ _ d (by show d ≠ R; omega)) kb
       have hr8 : (w6.setCell ⟨R, 0, none⟩ (.slice Ad i cd)).heap[w.heap.size + 1]? = some (.cells #[.int .i64 0, .int .i64 0, .slice none 0 0] 24 (0, 0)) := (Below.heap_setCell _ _ _ _ (by show w.heap.size + 1 ≠ R; omega)).trans hr7
       have HB8 := Aside0.mk (show Below w.heap.size w (w6.setCell ⟨R, 0, none⟩ (.slice Ad i cd)) from (HB4.out.trans (HC6.out.to_below (n := w.heap.size) hn4 (fun k hk => by rcases hk with e | e <;> omega))).setCell (by show w.heap.size ≤ R; omega) _)
       clear HQ y0
       go_wp2_with fail
       generalize w6.setCell ⟨R, 0, none⟩ (.slice Ad i cd) = w8 at *
       refine (gauss_matrix.calls R d cd Ad st.1.2 i w8 HHf.out (by have := hcd; omega)).mono ?_
       rintro e w9 ⟨vm, rfl, hq⟩
       rw [← HF.out] at hq
       rw [hDl]
       obtain ⟨Av2, cv2, ev⟩ := Kd.V_slice hq.out.1
       subst ev
       have hb9 := hq.out.2
       have hr9 := (hb9.block _ (lt_of_get hr8)).trans hr8
       have HV := Aside0.mk hq.out.1
       have HB9 := Aside0.mk (below_step HB8.out hb9)
       have hsz8 := lt_of_get hr8
       have y0 : w9.cell? ⟨w.heap.size + 1, 0, none⟩ = some (.int .i64 0) := (blk_cell hr9 0).trans rfl
       have y1 : w9.cell? ⟨w.heap.size + 1, 1, none⟩ = some (.int .i64 0) := (blk_cell hr9 1).trans rfl
       have y2 : w9.cell? ⟨w.heap.size + 1, 2, none⟩ = some (.slice none 0 0) := (blk_cell hr9 2).trans rfl
       have f0 := blk_frozen hr9 0
       have f1 := blk_frozen hr9 1
       have f2 := blk_frozen hr9 2
       clear hq hb9 hr8 hDl hMl z1 z2 z3
       go_wp2_with fail
       refine bodyPost_ret (results_ct rfl _ _ (w.heap.size + 1) 24 #[.int .i64 i, .int .i64 i, .slice Av2 F.length cv2] (0, 0) _ rfl (blk_put (cs := #[.int .i64 i, .int .i64 i, .slice none 0 0]) (blk_put (cs := #[.int .i64 i, .int .i64 0, .slice none 0 0]) (blk_put (cs := #[.int .i64 0, .int .i64 0, .slice none 0 0]) hr9 0 _ rfl) 1 _ rfl) 2 _ rfl) Tryd.underlying24 rfl (by kernel_rfl)) rfl ?_
       refine ⟨_, rfl, ?_, ?_⟩
       ·refine Kd.V_mono (Kd.V_far (Kd.V_far (Kd.V_far HV.out (p := ⟨w.heap.size + 1, 0, none⟩) (fun k hk e => ?_) _) (p := ⟨w.heap.size + 1, 1, none⟩) (fun k hk e => ?_) _) (p := ⟨w.heap.size + 1, 2, none⟩) (fun k hk e => ?_) _) (fun k hk => ?_)
        ·have h1 : w8.heap.size ≤ k := hk
         have h2 : k = w.heap.size + 1 := e
         omega
        ·have h1 : w8.heap.size ≤ k := hk
         have h2 : k = w.heap.size + 1 := e
         omega
        ·have h1 : w8.heap.size ≤ k := hk
         have h2 : k = w.heap.size + 1 := e
         omega
        ·have h1 : w8.heap.size ≤ k := hk
         show w.heap.size ≤ k
         omega
       ·exact ((HB9.out.setCell (by show w.heap.size ≤ w.heap.size + 1; omega) _).setCell (by show w.heap.size ≤ w.heap.size + 1; omega) _).setCell (by show w.heap.size ≤ w.heap.size + 1; omega) _
   ·rw [if_neg hb] at h
    cases h
  ·rw [if_neg hab] at h
   simp only [Option.some.injEq, Prod.mk.injEq] at h
   obtain ⟨rfl, rfl, rfl, rfl⟩ := h
   have hne : (a0_0 != a0_1) = true := bne_iff_ne.mpr hab
   clear hm hrt hab
   go_enter Tryd.func63, Tryd.ntmps63
   go_upto_region 1 with (fail)
   have hb2 := below_alloc (below_alloc (Below.refl w.heap.size w) (.cells #[.int .i64 a0_0, .int .i64 a0_1, .slice A0_2 l0_2.length c0_2] 24)) (.cells #[.int .i64 0, .int .i64 0, .slice none 0 0] 24)
   have hbm := heap_alloc2_old w (.cells #[.int .i64 a0_0, .int .i64 a0_1, .slice A0_2 l0_2.length c0_2] 24) (.cells #[.int .i64 0, .int .i64 0, .slice none 0 0] 24)
   have hbr := blk_new (w.alloc (.cells #[.int .i64 a0_0, .int .i64 a0_1, .slice A0_2 l0_2.length c0_2] 24)) (.cells #[.int .i64 0, .int .i64 0, .slice none 0 0] 24)
   rw [World.size_alloc] at hbr
   have HB2 := Aside0.mk hb2
   clear hb2
   generalize (w.alloc (.cells #[.int .i64 a0_0, .int .i64 a0_1, .slice A0_2 l0_2.length c0_2] 24)).alloc (.cells #[.int .i64 0, .int .i64 0, .slice none 0 0] 24) = w2 at *
   have x0 : w2.cell? ⟨w.heap.size, 0, none⟩ = some (.int .i64 a0_0) := (blk_cell hbm 0).trans rfl
   have x1 : w2.cell? ⟨w.heap.size, 1, none⟩ = some (.int .i64 a0_1) := (blk_cell hbm 1).trans rfl
   have x2 : w2.cell? ⟨w.heap.size, 2, none⟩ = some (.slice A0_2 l0_2.length c0_2) := (blk_cell hbm 2).trans rfl
   go_wp2_with fail
   refine (matrix_Right.calls a0_0 a0_1 A0_2 c0_2 l0_2 true _ (Kd.C_below HR.out HB2.out) HC.out HM.out).mono ?_
   rintro e w3 ⟨rfl, hb3⟩
   have hr3 := (hb3.block _ (lt_of_get hbr)).trans hbr
   have hm3 := (hb3.block _ (lt_of_get hbm)).trans hbm
   have HB3 := Aside0.mk (below_step HB2.out hb3)
   clear x0 x1 x2 hbr hbm hb3
   have x0 : w3.cell? ⟨w.heap.size, 0, none⟩ = some (.int .i64 a0_0) := (blk_cell hm3 0).trans rfl
   have x1 : w3.cell? ⟨w.heap.size, 1, none⟩ = some (.int .i64 a0_1) := (blk_cell hm3 1).trans rfl
   have x2 : w3.cell? ⟨w.heap.size, 2, none⟩ = some (.slice A0_2 l0_2.length c0_2) := (blk_cell hm3 2).trans rfl
   have y0 : w3.cell? ⟨w.heap.size + 1, 0, none⟩ = some (.int .i64 0) := (blk_cell hr3 0).trans rfl
   have y1 : w3.cell? ⟨w.heap.size + 1, 1, none⟩ = some (.int .i64 0) := (blk_cell hr3 1).trans rfl
   have y2 : w3.cell? ⟨w.heap.size + 1, 2, none⟩ = some (.slice none 0 0) := (blk_cell hr3 2).trans rfl
   have f0 := blk_frozen hr3 0
   have f1 := blk_frozen hr3 1
   have f2 := blk_frozen hr3 2
   go_wp2_with fail
   refine bodyPost_ret (results_ct rfl _ _ (w.heap.size + 1) 24 #[.int .i64 0, .int .i64 0, .slice none 0 0] (0, 0) _ rfl (blk_put (cs := #[.int .i64 0, .int .i64 0, .slice none 0 0]) (blk_put (cs := #[.int .i64 0, .int .i64 0, .slice none 0 0]) (blk_put (cs := #[.int .i64 0, .int .i64 0, .slice none 0 0]) hr3 0 _ rfl) 1 _ rfl) 2 _ rfl) Tryd.underlying24 rfl (by kernel_rfl)) rfl ?_
   refine ⟨_, rfl, Kd.V_nil _ _ _ _ _, ?_⟩
   exact ((HB3.out.setCell (by show w.heap.size ≤ w.heap.size + 1; omega) _).setCell (by show w.heap.size ≤ w.heap.size + 1; omega) _).setCell (by show w.heap.size ≤ w.heap.size + 1; omega) _


end Go.Proofs.YtkagobkedifhkaaDoor.Q
