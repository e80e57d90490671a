/- Written by drive.py (a program of this repo, over the kit's print): each Go function named here answers what the Lean function beside it answers, wherever that one answers, in every world that meets the stated premises. -/
import Derived.Test.YtjgcocfnilhggaaDoorQx0
import Derived.Test.YtjgcocfnilhggaaDoorQx118
import Derived.Test.YtjgcocfnilhggaaDoorQx143
import Derived.Test.YtjgcocfnilhggaaDoorQx176
namespace Go.Proofs.YtjgcocfnilhggaaDoor.Q
open Go.RowKit Go.Proofs.YtjgcocfnilhggaaDoorW.PrintWords Go.Proofs.YtjgcocfnilhggaaDoorW.PrintLast Go.Proofs.YtjgcocfnilhggaaDoorW.PrintMore
attribute [local go_sem] max2_int min2_int max_two min_two max_three min_three max_four min_four   -- for this text's walks alone
set_option linter.unusedVariables false
set_option linter.unusedSimpArgs false

/-! ### recoupref07_rank: function 47 -/
def recoupref07_rank.f (k : Nat) (a0_0 : Int) (a0_1 : Int) (l0_2 : List Int) (a1 : Int) : Option (Int) := (recoupref06_List.f k a1).bind fun t205 => ((recoupref03_Pick.f k a0_0 a0_1 l0_2 t205).bind fun bt208 => ((recoupref04_Rank.f k bt208.1 bt208.2.1 bt208.2.2.1).bind fun bt215 => (some bt215.1)))
theorem recoupref07_rank.mono : ∀ a0 a1 a2 a3 k, LeO (recoupref07_rank.f k a0 a1 a2 a3) (recoupref07_rank.f (k + 1) a0 a1 a2 a3) := by
 intro a0 a1 a2 a3 k
 unfold recoupref07_rank.f
 repeat' first
   | (with_reducible exact recoupref03_Pick.mono _ _ _ _ _)
   | (with_reducible exact recoupref04_Rank.mono _ _ _ _)
   | (with_reducible exact recoupref06_List.mono _ _)
   | (with_reducible exact LeO.refl _)
   | (with_reducible exact LeO.none _)
   | (with_reducible refine LeO.ite ?_ ?_)
   | (with_reducible refine LeO.bind ?_ (fun _ => ?_))
   | exact recoupref03_Pick.mono _ _ _ _ _
   | exact recoupref04_Rank.mono _ _ _ _
   | exact recoupref06_List.mono _ _
   | exact LeO.none _
   | refine LeO.ite ?_ ?_
   | refine LeO.bind ?_ (fun _ => ?_)
def recoupref07_rank.T1 : Bool × List (List Nat × List Nat) := (true, [([], []), ([], []), ([1], [1]), ([0, 2, 2], [0, 2]), ([3], [3]), ([4], [4]), ([4], [4]), ([], []), ([7, 5, 3, 0, 1, 2, 3, 4, 5, 7], [5, 7]), ([6, 8, 0, 1, 2, 3, 4, 5, 6, 7, 8], [6])])
def recoupref07_rank.B1 : List Nat := [0, 0, 2, 7, 15, 31, 31, 0, 191, 511]
theorem recoupref07_rank.tab1 : rtab .any (opsOf Tryd.f47 1) = recoupref07_rank.T1 := by kernel_rfl
theorem recoupref07_rank.bits1 : waitsOk recoupref07_rank.T1.2 recoupref07_rank.B1 = true := by kernel_rfl
set_option maxHeartbeats 8000000 in
set_option maxRecDepth 100000 in
theorem recoupref07_rank.calls (k : Nat) (a0_0 : Int) (a0_1 : Int) (A0_2 : Option Addr) (c0_2 : Nat) (l0_2 : List Int) (a1 : Int) (r : Int) (w : World) (hr0_2 : Kd.C (Kd.int .u8) w A0_2 l0_2.length l0_2) (hc0_2 : l0_2.length ≤ c0_2) (h : recoupref07_rank.f k a0_0 a0_1 l0_2 a1 = some r) :
  Calls Tryd.prog 47 #[.agg #[.int .i64 a0_0, .int .i64 a0_1, .slice A0_2 l0_2.length c0_2], .int .u64 a1] w fun e w' => e = .returned (.int .i64 r) ∧ Below w.heap.size w w' := by
 have hu24 := Tryd.underlying24
 have HR0_2 := Aside0.mk hr0_2
 have HC0_2 := Aside0.mk hc0_2
 clear hr0_2 hc0_2
 have HB := Aside0.mk (Below.refl w.heap.size w)
 have H : ((recoupref06_List.f k a1).bind fun t205 => ((recoupref03_Pick.f k a0_0 a0_1 l0_2 t205).bind fun bt208 => ((recoupref04_Rank.f k bt208.1 bt208.2.1 bt208.2.2.1).bind fun bt215 => (some bt215.1)))) = some r := h
 clear h
 obtain ⟨t205, A3, H⟩ := bindO H
 (try dsimp only at H)
 obtain ⟨⟨t208, t209, t210, t213⟩, A4, H⟩ := bindO H
 (try dsimp only at H)
 obtain ⟨⟨t215, t216⟩, A5, H⟩ := bindO H
 (try dsimp only at H)
 obtain rfl := Option.some.inj H
 go_enter Tryd.func47, Tryd.ntmps47
 try go_wp2_with (first | ((with_reducible refine gD 2 rfl ?_); refine bE 2 #[.int .i64 a0_0, .int .i64 a0_1, .slice A0_2 l0_2.length c0_2] 24 ?_; intro gb204 hg w6 hbox hb; have BK204 := Aside0.mk (hbox); have GW204 := hbS HB hg; have GE204 := hbS HB hg; replace HB := hbB HB hb; clear hb hbox hg))
 replace BK204 := Aside0.mk (blk_drew BK204.out)
 replace HB := Aside0.mk (below_drew1 HB.out)
 refine start_ (n := 10) (S := fun w' => w'.cell? ⟨gb204, 0, none⟩ = some (.int .i64 a0_0) ∧ w'.cell? ⟨gb204, 1, none⟩ = some (.int .i64 a0_1) ∧ w'.cell? ⟨gb204, 2, none⟩ = some (.slice A0_2 l0_2.length c0_2)) (ds := []) (.replicate 10 false) (by kernel_rfl) rfl rfl ⟨(blk_cell BK204.out 0).trans rfl, (blk_cell BK204.out 1).trans rfl, (blk_cell BK204.out 2).trans rfl⟩ (fun hHeld => ?_); refine with_tabW recoupref07_rank.tab1 recoupref07_rank.bits1 (fun HT_ HW_ => ?_)
 generalize w6.drew = w7 at BK204 HB hHeld ⊢
 refine pu 1 (some 11) (mB 10 2) HT_ ?_
 refine tk3 0 (some 10) (mB 10 3) HT_ HW_ hHeld ?_
 refine join_ (σ := Value × Value × Nat) 2 (mB 10 255) (fun s_ => [(12, s_.1), (13, .tuple #[.agg #[.int .i64 t208, .int .i64 t209, s_.2.1], .int .i64 t213]), (5, .pointer (some ⟨s_.2.2, 0, none⟩)), (9, .tuple #[.agg #[.int .i64 t208, .int .i64 t209, s_.2.1], .int .i64 t213]), (14, .agg #[.int .i64 t208, .int .i64 t209, s_.2.1]), (15, .int .i64 t213)]) (fun s_ w' => (w'.cell? ⟨gb204, 0, none⟩ = some (.int .i64 a0_0) ∧ w'.cell? ⟨gb204, 1, none⟩ = some (.int .i64 a0_1) ∧ w'.cell? ⟨gb204, 2, none⟩ = some (.slice A0_2 l0_2.length c0_2)) ∧ (Kd.R (Kd.int .i64) 3 w' w.heap.size (fun _ => True) s_.1 t205) ∧ (Kd.R (Kd.int .u8) 5 w' w.heap.size (fun _ => True) s_.2.1 t210) ∧ (w'.heap[gb204]? = some (.cells #[.int .i64 a0_0, .int .i64 a0_1, .slice A0_2 l0_2.length c0_2] 24 (0, 0))) ∧ (w'.heap[s_.2.2]? = some (.cells #[.int .i64 0, .int .i64 0, .slice none 0 0] 24 (0, 0))) ∧ (w.heap.size ≤ s_.2.2) ∧ (w.heap.size ≤ s_.2.2) ∧ (gb204 ≠ s_.2.2) ∧ (s_.2.2 ≠ gb204) ∧ (Below w.heap.size w w')) ?_ ?_
 rotate_left
 ·intro hCont
  refine two_ (i := 2) (j := 7) (Ni := some 12) (Nj := some 5) (mB 10 7) (mB 10 131) rfl rfl rfl rfl (two_of HT_.out (by kernel_rfl)) (by decide) (by decide) (fun K hK => ?_) (fun K hK => ?_)
  ·skip
   refine goes_ Tryd.func23 (by kernel_rfl) rfl #[.int .u64 a1] (by rfl) rfl rfl (by (try simp only [List.map_toArray, List.map_cons, List.map_nil]); first | done | rfl | (simp only [List.length_drop, List.length_take]; rfl)) ?_
   with_reducible refine (recoupref06_List.calls k a1 t205 _ A3.out).mono ?_
   rintro e w8 ⟨v206, rfl, ho0, hb⟩
   refine ⟨_, rfl, ?_⟩
   have HO207 := Aside0.mk (Kd.R_lower ho0 (below_size (hbA HB.out)))
   replace BK204 := bkB BK204 hb
   replace HB := hbB HB hb
   (try clear hb)
   (try clear hb2)
   (try clear hk)
   (try clear hi)
   (try clear ho0)
   obtain ⟨Ao9, co9, eo9⟩ := Kd.R_slice HO207.out
   (first | subst eo9 | (injection eo9 with f1_ f2_ f3_; have f4_ := f1_.symm; have f5_ := f3_.symm; clear f1_ f2_ f3_; subst f4_; subst f5_))
   refine hK.out _ _ ⟨(blk_cell BK204.out 0).trans rfl, (blk_cell BK204.out 1).trans rfl, (blk_cell BK204.out 2).trans rfl⟩ (fun hHeld => ?_)
   clear hK K
   refine norm_ (a' := ?_) ?_ ?_
   rotate_left
   ·show Act.put _ (some 12) _ = _
    simp only [Act.put, List.setIfInBounds_toArray, List.set_cons_zero, List.set_cons_succ, i64_w, i32_w]
    rfl
   refine two_ (i := 3) (j := 7) (Ni := some 13) (Nj := some 5) (mB 10 15) (mB 10 135) rfl rfl rfl rfl (two_of HT_.out (by kernel_rfl)) (by decide) (by decide) (fun K hK => ?_) (fun K hK => ?_)
   ·skip
    refine goes_ Tryd.func43 (by kernel_rfl) rfl #[.agg #[.int .i64 a0_0, .int .i64 a0_1, .slice A0_2 l0_2.length c0_2], .slice Ao9 t205.length co9] (by rfl) rfl rfl (by (try simp only [List.map_toArray, List.map_cons, List.map_nil]); first | done | rfl | (simp only [List.length_drop, List.length_take]; rfl)) ?_
    with_reducible refine (recoupref03_Pick.calls k a0_0 a0_1 _ _ l0_2 _ _ t205 t208 t209 t210 t213 _ ?side1 ?side2 ?side3 ?side4 A4.out).mono ?_
    (case side1 => exact kcB HR0_2 HB)
    (case side2 => exact HC0_2.out)
    (case side3 => exact kcA (Kd.R_reads' HO207.out).2.2)
    (case side4 => exact (Kd.R_reads' HO207.out).2.1)
    rintro e w10 ⟨v211, rfl, ho0, hb⟩
    refine ⟨_, rfl, ?_⟩
    replace HO207 := kdB HO207 hb
    have HO212 := Aside0.mk (Kd.R_lower ho0 (below_size (hbA HB.out)))
    replace BK204 := bkB BK204 hb
    replace HB := hbB HB hb
    (try clear hb)
    (try clear hb2)
    (try clear hk)
    (try clear hi)
    (try clear ho0)
    refine hK.out _ _ ⟨(blk_cell BK204.out 0).trans rfl, (blk_cell BK204.out 1).trans rfl, (blk_cell BK204.out 2).trans rfl⟩ (fun hHeld => ?_)
    clear hK K
    refine norm_ (a' := ?_) ?_ ?_
    rotate_left
    ·show Act.put _ (some 13) _ = _
     simp only [Act.put, List.setIfInBounds_toArray, List.set_cons_zero, List.set_cons_succ, i64_w, i32_w]
     rfl
    refine pu 4 (some 9) (mB 10 31) HT_ ?_
    refine pu 5 (some 14) (mB 10 63) HT_ ?_
    refine pu 6 (some 15) (mB 10 127) HT_ ?_
    refine one_ (i := 7) (N := some 5) (mB 10 255) rfl rfl (one_of HT_.out (by kernel_rfl)) (by decide) (fun K hK => ?_)
    refine box_step ?hg (N := 5) ?hd (cs := #[.int .i64 0, .int .i64 0, .slice none 0 0]) (t := 24) ?hr ?_; (case hd => rfl); (case hg => rfl); (case hr => first | (go_simp; done) | (go_simp; rfl))
    intro gb214 hg w11 hbox hb
    replace HO207 := kdB HO207 hb
    replace HO212 := kdB HO212 hb
    have BK214 := Aside0.mk (hbox)
    have GW214 := hbS HB hg
    have GE214 := hbS HB hg
    replace HB := hbB HB hb
    have NB204_214 := neL BK204 hg
    have NB214_204 := neG BK204 hg
    replace BK204 := bkB BK204 hb
    clear hb hbox hg
    refine hK.out _ _ ⟨(blk_cell BK204.out 0).trans rfl, (blk_cell BK204.out 1).trans rfl, (blk_cell BK204.out 2).trans rfl⟩ (fun hHeld => ?_)
    clear hK K
    refine norm_ (a' := ?_) ?_ ?_
    rotate_left
    ·show Act.put _ (some 5) _ = _
     simp only [Act.put, List.setIfInBounds_toArray, List.set_cons_zero, List.set_cons_succ, i64_w, i32_w]
     rfl
    exact norm_ (by simp only [putAll, Act.put, List.setIfInBounds_toArray, List.set_cons_zero, List.set_cons_succ]) (hCont (.slice Ao9 t205.length co9, v211, gb214) _ ⟨hHeld, (kdA HO207.out), (kdA HO212.out), (bkA BK204.out), (bkA BK214.out), GW214.out, GE214.out, NB204_214.out, NB214_204.out, (hbA HB.out)⟩)
   ·skip
    refine box_step ?hg (N := 5) ?hd (cs := #[.int .i64 0, .int .i64 0, .slice none 0 0]) (t := 24) ?hr ?_; (case hd => rfl); (case hg => rfl); (case hr => first | (go_simp; done) | (go_simp; rfl))
    intro gb214 hg w9 hbox hb
    replace HO207 := kdB HO207 hb
    have BK214 := Aside0.mk (hbox)
    have GW214 := hbS HB hg
    have GE214 := hbS HB hg
    replace HB := hbB HB hb
    have NB204_214 := neL BK204 hg
    have NB214_204 := neG BK204 hg
    replace BK204 := bkB BK204 hb
    clear hb hbox hg
    obtain ⟨Ao10, co10, eo10⟩ := Kd.R_slice HO207.out
    (first | subst eo10 | (injection eo10 with f1_ f2_ f3_; have f4_ := f1_.symm; have f5_ := f3_.symm; clear f1_ f2_ f3_; subst f4_; subst f5_))
    refine hK.out _ _ ⟨(blk_cell BK204.out 0).trans rfl, (blk_cell BK204.out 1).trans rfl, (blk_cell BK204.out 2).trans rfl⟩ (fun hHeld => ?_)
    clear hK K
    refine norm_ (a' := ?_) ?_ ?_
    rotate_left
    ·show Act.put _ (some 5) _ = _
     simp only [Act.put, List.setIfInBounds_toArray, List.set_cons_zero, List.set_cons_succ, i64_w, i32_w]
     rfl
    refine one_ (i := 3) (N := some 13) (mB 10 143) rfl rfl (one_of HT_.out (by kernel_rfl)) (by decide) (fun K hK => ?_)
    refine goes_ Tryd.func43 (by kernel_rfl) rfl #[.agg #[.int .i64 a0_0, .int .i64 a0_1, .slice A0_2 l0_2.length c0_2], .slice Ao10 t205.length co10] (by rfl) rfl rfl (by (try simp only [List.map_toArray, List.map_cons, List.map_nil]); first | done | rfl | (simp only [List.length_drop, List.length_take]; rfl)) ?_
    with_reducible refine (recoupref03_Pick.calls k a0_0 a0_1 _ _ l0_2 _ _ t205 t208 t209 t210 t213 _ ?side1 ?side2 ?side3 ?side4 A4.out).mono ?_
    (case side1 => exact kcB HR0_2 HB)
    (case side2 => exact HC0_2.out)
    (case side3 => exact kcA (Kd.R_reads' HO207.out).2.2)
    (case side4 => exact (Kd.R_reads' HO207.out).2.1)
    rintro e w11 ⟨v211, rfl, ho0, hb⟩
    refine ⟨_, rfl, ?_⟩
    replace HO207 := kdB HO207 hb
    have HO212 := Aside0.mk (Kd.R_lower ho0 (below_size (hbA HB.out)))
    replace BK204 := bkB BK204 hb
    replace BK214 := bkB BK214 hb
    replace HB := hbB HB hb
    (try clear hb)
    (try clear hb2)
    (try clear hk)
    (try clear hi)
    (try clear ho0)
    refine hK.out _ _ ⟨(blk_cell BK204.out 0).trans rfl, (blk_cell BK204.out 1).trans rfl, (blk_cell BK204.out 2).trans rfl⟩ (fun hHeld => ?_)
    clear hK K
    refine norm_ (a' := ?_) ?_ ?_
    rotate_left
    ·show Act.put _ (some 13) _ = _
     simp only [Act.put, List.setIfInBounds_toArray, List.set_cons_zero, List.set_cons_succ, i64_w, i32_w]
     rfl
    refine pu 4 (some 9) (mB 10 159) HT_ ?_
    refine pu 5 (some 14) (mB 10 191) HT_ ?_
    refine pu 6 (some 15) (mB 10 255) HT_ ?_
    exact norm_ (by simp only [putAll, Act.put, List.setIfInBounds_toArray, List.set_cons_zero, List.set_cons_succ]) (hCont (.slice Ao10 t205.length co10, v211, gb214) _ ⟨hHeld, (kdA HO207.out), (kdA HO212.out), (bkA BK204.out), (bkA BK214.out), GW214.out, GE214.out, NB204_214.out, NB214_204.out, (hbA HB.out)⟩)
  ·skip
   refine box_step ?hg (N := 5) ?hd (cs := #[.int .i64 0, .int .i64 0, .slice none 0 0]) (t := 24) ?hr ?_; (case hd => rfl); (case hg => rfl); (case hr => first | (go_simp; done) | (go_simp; rfl))
   intro gb214 hg w8 hbox hb
   have BK214 := Aside0.mk (hbox)
   have GW214 := hbS HB hg
   have GE214 := hbS HB hg
   replace HB := hbB HB hb
   have NB204_214 := neL BK204 hg
   have NB214_204 := neG BK204 hg
   replace BK204 := bkB BK204 hb
   clear hb hbox hg
   refine hK.out _ _ ⟨(blk_cell BK204.out 0).trans rfl, (blk_cell BK204.out 1).trans rfl, (blk_cell BK204.out 2).trans rfl⟩ (fun hHeld => ?_)
   clear hK K
   refine norm_ (a' := ?_) ?_ ?_
   rotate_left
   ·show Act.put _ (some 5) _ = _
    simp only [Act.put, List.setIfInBounds_toArray, List.set_cons_zero, List.set_cons_succ, i64_w, i32_w]
    rfl
   refine one_ (i := 2) (N := some 12) (mB 10 135) rfl rfl (one_of HT_.out (by kernel_rfl)) (by decide) (fun K hK => ?_)
   refine goes_ Tryd.func23 (by kernel_rfl) rfl #[.int .u64 a1] (by rfl) rfl rfl (by (try simp only [List.map_toArray, List.map_cons, List.map_nil]); first | done | rfl | (simp only [List.length_drop, List.length_take]; rfl)) ?_
   with_reducible refine (recoupref06_List.calls k a1 t205 _ A3.out).mono ?_
   rintro e w9 ⟨v206, rfl, ho0, hb⟩
   refine ⟨_, rfl, ?_⟩
   have HO207 := Aside0.mk (Kd.R_lower ho0 (below_size (hbA HB.out)))
   replace BK204 := bkB BK204 hb
   replace BK214 := bkB BK214 hb
   replace HB := hbB HB hb
   (try clear hb)
   (try clear hb2)
   (try clear hk)
   (try clear hi)
   (try clear ho0)
   obtain ⟨Ao10, co10, eo10⟩ := Kd.R_slice HO207.out
   (first | subst eo10 | (injection eo10 with f1_ f2_ f3_; have f4_ := f1_.symm; have f5_ := f3_.symm; clear f1_ f2_ f3_; subst f4_; subst f5_))
   refine hK.out _ _ ⟨(blk_cell BK204.out 0).trans rfl, (blk_cell BK204.out 1).trans rfl, (blk_cell BK204.out 2).trans rfl⟩ (fun hHeld => ?_)
   clear hK K
   refine norm_ (a' := ?_) ?_ ?_
   rotate_left
   ·show Act.put _ (some 12) _ = _
    simp only [Act.put, List.setIfInBounds_toArray, List.set_cons_zero, List.set_cons_succ, i64_w, i32_w]
    rfl
   refine one_ (i := 3) (N := some 13) (mB 10 143) rfl rfl (one_of HT_.out (by kernel_rfl)) (by decide) (fun K hK => ?_)
   refine goes_ Tryd.func43 (by kernel_rfl) rfl #[.agg #[.int .i64 a0_0, .int .i64 a0_1, .slice A0_2 l0_2.length c0_2], .slice Ao10 t205.length co10] (by rfl) rfl rfl (by (try simp only [List.map_toArray, List.map_cons, List.map_nil]); first | done | rfl | (simp only [List.length_drop, List.length_take]; rfl)) ?_
   with_reducible refine (recoupref03_Pick.calls k a0_0 a0_1 _ _ l0_2 _ _ t205 t208 t209 t210 t213 _ ?side1 ?side2 ?side3 ?side4 A4.out).mono ?_
   (case side1 => exact kcB HR0_2 HB)
   (case side2 => exact HC0_2.out)
   (case side3 => exact kcA (Kd.R_reads' HO207.out).2.2)
   (case side4 => exact (Kd.R_reads' HO207.out).2.1)
   rintro e w11 ⟨v211, rfl, ho0, hb⟩
   refine ⟨_, rfl, ?_⟩
   replace HO207 := kdB HO207 hb
   have HO212 := Aside0.mk (Kd.R_lower ho0 (below_size (hbA HB.out)))
   replace BK204 := bkB BK204 hb
   replace BK214 := bkB BK214 hb
   replace HB := hbB HB hb
   (try clear hb)
   (try clear hb2)
   (try clear hk)
   (try clear hi)
   (try clear ho0)
   refine hK.out _ _ ⟨(blk_cell BK204.out 0).trans rfl, (blk_cell BK204.out 1).trans rfl, (blk_cell BK204.out 2).trans rfl⟩ (fun hHeld => ?_)
   clear hK K
   refine norm_ (a' := ?_) ?_ ?_
   rotate_left
   ·show Act.put _ (some 13) _ = _
    simp only [Act.put, List.setIfInBounds_toArray, List.set_cons_zero, List.set_cons_succ, i64_w, i32_w]
    rfl
   refine pu 4 (some 9) (mB 10 159) HT_ ?_
   refine pu 5 (some 14) (mB 10 191) HT_ ?_
   refine pu 6 (some 15) (mB 10 255) HT_ ?_
   exact norm_ (by simp only [putAll, Act.put, List.setIfInBounds_toArray, List.set_cons_zero, List.set_cons_succ]) (hCont (.slice Ao10 t205.length co10, v211, gb214) _ ⟨hHeld, (kdA HO207.out), (kdA HO212.out), (bkA BK204.out), (bkA BK214.out), GW214.out, GE214.out, NB204_214.out, NB214_204.out, (hbA HB.out)⟩)
 rintro ⟨v206, v211, gb214⟩ w12 ⟨hS_, h0_, h1_, h2_, h3_, h4_, h5_, h6_, h7_, h8_⟩
 have n0_ : Aside0 (Kd.R (Kd.int .i64) 3 w12 w.heap.size (fun _ => True) v206 t205) := ⟨h0_⟩
 have n1_ : Aside0 (Kd.R (Kd.int .u8) 5 w12 w.heap.size (fun _ => True) v211 t210) := ⟨h1_⟩
 have n2_ : Aside0 (w12.heap[gb204]? = some (.cells #[.int .i64 a0_0, .int .i64 a0_1, .slice A0_2 l0_2.length c0_2] 24 (0, 0))) := ⟨h2_⟩
 have n3_ : Aside0 (w12.heap[gb214]? = some (.cells #[.int .i64 0, .int .i64 0, .slice none 0 0] 24 (0, 0))) := ⟨h3_⟩
 have n4_ : Aside0 (w.heap.size ≤ gb214) := ⟨h4_⟩
 have n5_ : Aside0 (w.heap.size ≤ gb214) := ⟨h5_⟩
 have n6_ : Aside0 (gb204 ≠ gb214) := ⟨h6_⟩
 have n7_ : Aside0 (gb214 ≠ gb204) := ⟨h7_⟩
 have n8_ : Aside0 (Below w.heap.size w w12) := ⟨h8_⟩
 clear BK204
 clear HB
 clear h0_ h1_ h2_ h3_ h4_ h5_ h6_ h7_ h8_
 have HO207 := n0_
 have HO212 := n1_
 have BK204 := n2_
 have BK214 := n3_
 have GW214 := n4_
 have GE214 := n5_
 have NB204_214 := n6_
 have NB214_204 := n7_
 have HB := n8_
 clear n0_ n1_ n2_ n3_ n4_ n5_ n6_ n7_ n8_
 have hHeld : w12.cell? ⟨gb204, 0, none⟩ = some (.int .i64 a0_0) ∧ w12.cell? ⟨gb204, 1, none⟩ = some (.int .i64 a0_1) ∧ w12.cell? ⟨gb204, 2, none⟩ = some (.slice A0_2 l0_2.length c0_2) := hS_
 obtain ⟨Ao15, co15, eo15⟩ := Kd.R_slice HO212.out
 (first | subst eo15 | (injection eo15 with f1_ f2_ f3_; have f4_ := f1_.symm; have f5_ := f3_.symm; clear f1_ f2_ f3_; subst f4_; subst f5_))
 refine norm_ (a' := ?_) ?_ ?_
 rotate_left
 ·simp only [putAll, Act.put, List.setIfInBounds_toArray, List.set_cons_zero, List.set_cons_succ]
  rfl
 refine one_ (i := 8) (N := none) (mB 10 511) rfl rfl (one_of HT_.out (by kernel_rfl)) (by decide) (fun K hK => ?_)
 have hs13 : w12.cell? ⟨gb214, 0, none⟩ = some (.int .i64 0) := (blk_cell BK214.out 0).trans rfl
 have hfs13 := blk_frozen BK214.out 0
 have hns13_0 := NB204_214.out
 have hms13_0 := NB214_204.out
 have hs14 : w12.cell? ⟨gb214, 1, none⟩ = some (.int .i64 0) := (blk_cell BK214.out 1).trans rfl
 have hfs14 := blk_frozen BK214.out 1
 have hns14_0 := NB204_214.out
 have hms14_0 := NB214_204.out
 have hs16 : w12.cell? ⟨gb214, 2, none⟩ = some (.slice none 0 0) := (blk_cell BK214.out 2).trans rfl
 have hfs16 := blk_frozen BK214.out 2
 have hns16_0 := NB204_214.out
 have hms16_0 := NB214_204.out
 refine skip_ (w1 := ?_) (by rfl) rfl ?_ ?_
 rotate_left
 ·go_simp
  rfl
 refine hK.out _ _ ⟨((cell_far (p := ⟨gb214, _, none⟩) NB204_214.out _).trans (((cell_far (p := ⟨gb214, _, none⟩) NB204_214.out _).trans (((cell_far (p := ⟨gb214, _, none⟩) NB204_214.out _).trans (hHeld.1)))))), ((cell_far (p := ⟨gb214, _, none⟩) NB204_214.out _).trans (((cell_far (p := ⟨gb214, _, none⟩) NB204_214.out _).trans (((cell_far (p := ⟨gb214, _, none⟩) NB204_214.out _).trans (hHeld.2.1)))))), ((cell_far (p := ⟨gb214, _, none⟩) NB204_214.out _).trans (((cell_far (p := ⟨gb214, _, none⟩) NB204_214.out _).trans (((cell_far (p := ⟨gb214, _, none⟩) NB204_214.out _).trans (hHeld.2.2))))))⟩ (fun hHeld => ?_)
 clear hK K
 refine pu 9 (some 6) (mB 10 1023) HT_ ?_
 refine done_ (done_of HT_.out (by kernel_rfl)) ?_
 have hnb17 := NB214_204.out
 have hnc17 := NB204_214.out
 obtain ⟨hcz18_0, hcz18_1, hcz18_2, hfz18_0, hfz18_1, hfz18_2⟩ := cell3 BK214
 try go_wp2_with (first | ((with_reducible refine gC 76 rfl ?_); refine cG (some 18) Tryd.func76 #[.agg #[.int .i64 t208, .int .i64 t209, .slice Ao15 t210.length co15]] ?_; (with_reducible refine (recoupref04_Rank.calls k t208 t209 _ _ t210 t215 t216 _ ?side1 ?side2 A5.out).mono ?_); (case side1 => refine (Kd.R_reads' (e := 5) (base := w.heap.size) (ok := fun k_ => True) (n := t210.length) (c := co15) ?_).2.2; exact (by (with_reducible repeat (first | apply Kd.R_alloc | apply Kd.R_drewN | apply Kd.R_drew)); exact (Kd.R_mono (Kd.R_far (p := ⟨gb214, 2, none⟩) (Kd.R_far (p := ⟨gb214, 1, none⟩) (Kd.R_far (p := ⟨gb214, 0, none⟩) (Kd.R_types HO212.out BK214.out (by decide)) (fun _ hk => hk.2) (.int .i64 t208)) (fun _ hk => hk.2) (.int .i64 t209)) (fun _ hk => hk.2) (.slice Ao15 t210.length co15)) (fun _ h_ => h_.1)))); (case side2 => exact (Kd.R_reads' HO212.out).2.1); rintro e w19 ⟨rfl, hb⟩; refine ⟨_, rfl, ?_⟩; replace HO207 := Aside0.mk (Kd.R_below (by (with_reducible repeat (first | apply Kd.R_alloc | apply Kd.R_drewN | apply Kd.R_drew)); exact (Kd.R_mono (Kd.R_far (p := ⟨gb214, 2, none⟩) (Kd.R_far (p := ⟨gb214, 1, none⟩) (Kd.R_far (p := ⟨gb214, 0, none⟩) (Kd.R_types HO207.out BK214.out (by decide)) (fun _ hk => hk.2) (.int .i64 t208)) (fun _ hk => hk.2) (.int .i64 t209)) (fun _ hk => hk.2) (.slice Ao15 t210.length co15)) (fun _ h_ => h_.1))) hb); replace HO212 := Aside0.mk (Kd.R_below (by (with_reducible repeat (first | apply Kd.R_alloc | apply Kd.R_drewN | apply Kd.R_drew)); exact (Kd.R_mono (Kd.R_far (p := ⟨gb214, 2, none⟩) (Kd.R_far (p := ⟨gb214, 1, none⟩) (Kd.R_far (p := ⟨gb214, 0, none⟩) (Kd.R_types HO212.out BK214.out (by decide)) (fun _ hk => hk.2) (.int .i64 t208)) (fun _ hk => hk.2) (.int .i64 t209)) (fun _ hk => hk.2) (.slice Ao15 t210.length co15)) (fun _ h_ => h_.1))) hb); replace BK204 := Aside0.mk (blk_below (g := gb204) (o := .cells #[.int .i64 a0_0, .int .i64 a0_1, .slice A0_2 l0_2.length c0_2] 24 (0, 0)) (by refine bkR ?_; refine blk_far ?_ NB204_214.out _; refine bkR ?_; refine blk_far ?_ NB204_214.out _; refine bkR ?_; refine blk_far ?_ NB204_214.out _; refine bkR ?_; exact BK204.out) hb); replace BK214 := Aside0.mk (blk_below (g := gb214) (o := .cells #[.int .i64 t208, .int .i64 t209, .slice Ao15 t210.length co15] 24 (0, 0)) (by refine bkR ?_; refine blk_put (cs := #[.int .i64 t208, .int .i64 t209, .slice none 0 0]) ?_ 2 _ rfl; refine bkR ?_; refine blk_put (cs := #[.int .i64 t208, .int .i64 0, .slice none 0 0]) ?_ 1 _ rfl; refine bkR ?_; refine blk_put (cs := #[.int .i64 0, .int .i64 0, .slice none 0 0]) ?_ 0 _ rfl; refine bkR ?_; exact BK214.out) hb); replace HB := hbB HB hb; (try clear hb); (try clear hb2); (try clear hk); (try clear hi)))
 go_ret
 exact ⟨rfE, hbA HB.out⟩

end Go.Proofs.YtjgcocfnilhggaaDoor.Q
