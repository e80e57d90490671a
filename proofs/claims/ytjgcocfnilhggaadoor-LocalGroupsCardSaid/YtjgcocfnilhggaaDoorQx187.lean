/- Written by drive.py (a program of this repo, over the kit's print): each Go function named here answers what the Lean function beside it answers, wherever that one answers, in every world that meets the stated premises. -/
import Derived.Test.YtjgcocfnilhggaaDoorQx0
import Derived.Test.YtjgcocfnilhggaaDoorQx134
import Derived.Test.YtjgcocfnilhggaaDoorQx136
import Derived.Test.YtjgcocfnilhggaaDoorQx164
import Derived.Test.YtjgcocfnilhggaaDoorQx201
namespace Go.Proofs.YtjgcocfnilhggaaDoor.Q
open Go.RowKit Go.Proofs.YtjgcocfnilhggaaDoorW.PrintWords Go.Proofs.YtjgcocfnilhggaaDoorW.PrintLast Go.Proofs.YtjgcocfnilhggaaDoorW.PrintMore
attribute [local go_sem] max2_int min2_int max_two min_two max_three min_three max_four min_four   -- for this text's walks alone
set_option linter.unusedVariables false
set_option linter.unusedSimpArgs false

/-! ### shape_rows_hangs: function 87 -/
def shape_rows_hangs.f (k : Nat) (a0_0 : Int) (a0_1 : Int) (l0_2 : List Int) (a1 : Int) (a2 : Int) : Option (Bool) := (subset_List.f k a2).bind fun t172 => ((matrix_Pick.f a0_0 a0_1 l0_2 t172).bind fun bt175 => (if bt175.2.2.2 = 0 then ((shape_rows_row.f a0_0 a0_1 l0_2 a1).bind fun t182 => ((gauss_Combine.f k bt175.1 bt175.2.1 bt175.2.2.1 t182).bind fun bt185 => (if bt185.2.2 = 0 then (some bt185.2.1) else (some false)))) else (some false)))
theorem shape_rows_hangs.mono : ∀ a0 a1 a2 a3 a4 k, LeO (shape_rows_hangs.f k a0 a1 a2 a3 a4) (shape_rows_hangs.f (k + 1) a0 a1 a2 a3 a4) := by
 intro a0 a1 a2 a3 a4 k
 unfold shape_rows_hangs.f
 repeat' first
   | (with_reducible exact gauss_Combine.mono _ _ _ _ _)
   | (with_reducible exact subset_List.mono _ _)
   | (with_reducible exact LeO.refl _)
   | (with_reducible exact LeO.none _)
   | (with_reducible refine LeO.ite ?_ ?_)
   | (with_reducible refine LeO.bind ?_ (fun _ => ?_))
   | exact gauss_Combine.mono _ _ _ _ _
   | exact subset_List.mono _ _
   | exact LeO.none _
   | refine LeO.ite ?_ ?_
   | refine LeO.bind ?_ (fun _ => ?_)
def shape_rows_hangs.T1 : Bool × List (List Nat × List Nat) := (true, [([], []), ([0], [0]), ([], []), ([2], [2]), ([1, 3, 3], [1, 3]), ([4], [4]), ([5], [5]), ([5], [5]), ([], []), ([8, 6, 4, 0, 1, 2, 3, 4, 5, 6, 8], [6, 8]), ([7, 9, 0, 1, 2, 3, 4, 5, 6, 7, 8, 9], [7])])
def shape_rows_hangs.B1 : List Nat := [0, 1, 0, 4, 15, 31, 63, 63, 0, 383, 1023]
theorem shape_rows_hangs.tab1 : rtab .any (opsOf Tryd.f87 1) = shape_rows_hangs.T1 := by kernel_rfl
theorem shape_rows_hangs.bits1 : waitsOk shape_rows_hangs.T1.2 shape_rows_hangs.B1 = true := by kernel_rfl
def shape_rows_hangs.T4 : Bool × List (List Nat × List Nat) := (true, [([], []), ([], []), ([], []), ([1, 2], [1, 2]), ([0, 3, 3], [0, 3]), ([4], [4]), ([5], [5]), ([5], [5]), ([5], [5]), ([6, 4, 0, 1, 2, 3, 4, 5, 6], [6]), ([7, 9, 0, 1, 2, 3, 4, 5, 6, 7, 9], [7]), ([8, 10, 0, 1, 2, 3, 4, 5, 6, 7, 8, 9, 10], [8])])
def shape_rows_hangs.B4 : List Nat := [0, 0, 0, 6, 15, 31, 63, 63, 63, 127, 767, 2047]
theorem shape_rows_hangs.tab4 : rtab .any (opsOf Tryd.f87 4) = shape_rows_hangs.T4 := by kernel_rfl
theorem shape_rows_hangs.bits4 : waitsOk shape_rows_hangs.T4.2 shape_rows_hangs.B4 = true := by kernel_rfl
set_option maxHeartbeats 8000000 in
set_option maxRecDepth 100000 in
theorem shape_rows_hangs.calls (k : Nat) (a0_0 : Int) (a0_1 : Int) (A0_2 : Option Addr) (c0_2 : Nat) (l0_2 : List Int) (a1 : Int) (a2 : Int) (r : Bool) (w : World) (hr0_2 : Kd.C (Kd.int .u8) w A0_2 l0_2.length l0_2) (hc0_2 : l0_2.length ≤ c0_2) (h : shape_rows_hangs.f k a0_0 a0_1 l0_2 a1 a2 = some r) (hT : TabAt 0 Lib.deBruijn64tab w) :
  Calls Tryd.prog 87 #[.agg #[.int .i64 a0_0, .int .i64 a0_1, .slice A0_2 l0_2.length c0_2], .int .i64 a1, .int .u64 a2] w fun e w' => e = .returned (.bool r) ∧ Below w.heap.size w w' := by
 have HT := Aside0.mk hT
 clear hT
 have hu99 := Tryd.underlying99
 have hu24 := Tryd.underlying24
 have HR0_2 := Aside0.mk hr0_2
 have HC0_2 := Aside0.mk hc0_2
 clear hr0_2 hc0_2
 have HB := Aside0.mk (Below.refl w.heap.size w)
 have H : ((subset_List.f k a2).bind fun t172 => ((matrix_Pick.f a0_0 a0_1 l0_2 t172).bind fun bt175 => (if bt175.2.2.2 = 0 then ((shape_rows_row.f a0_0 a0_1 l0_2 a1).bind fun t182 => ((gauss_Combine.f k bt175.1 bt175.2.1 bt175.2.2.1 t182).bind fun bt185 => (if bt185.2.2 = 0 then (some bt185.2.1) else (some false)))) else (some false)))) = some r := h
 clear h
 obtain ⟨t172, A4, H⟩ := bindO H
 (try dsimp only at H)
 obtain ⟨⟨t175, t176, t177, t180⟩, A5, H⟩ := bindO H
 (try dsimp only at H)
 by_cases c6 : t180 = 0
 ·rw [if_pos c6] at H
  have c6b0 : (t180 == 0) = true := beq_iff_eq.mpr c6
  have c6b1 : (t180 != 0) = false := bne_eq_false_iff_eq.mpr c6
  clear c6
  obtain ⟨t182, A7, H⟩ := bindO H
  (try dsimp only at H)
  obtain ⟨⟨t185, t188, t189⟩, A8, H⟩ := bindO H
  (try dsimp only at H)
  by_cases c9 : t189 = 0
  ·rw [if_pos c9] at H
   have c9b0 : (t189 == 0) = true := beq_iff_eq.mpr c9
   have c9b1 : (t189 != 0) = false := bne_eq_false_iff_eq.mpr c9
   clear c9
   obtain rfl := Option.some.inj H
   go_enter Tryd.func87, Tryd.ntmps87
   try go_wp2_with (first | ((with_reducible refine gD 3 rfl ?_); refine bE 3 #[.int .i64 a0_0, .int .i64 a0_1, .slice A0_2 l0_2.length c0_2] 99 ?_; intro gb171 hg w10 hbox hb; have BK171 := Aside0.mk (hbox); have GW171 := hbS HB hg; have GE171 := hbS HB hg; replace HB := hbB HB hb; clear hb hbox hg))
   replace BK171 := Aside0.mk (blk_drew BK171.out)
   replace HB := Aside0.mk (below_drew1 HB.out)
   refine start_ (n := 11) (S := fun w' => w'.cell? ⟨gb171, 0, none⟩ = some (.int .i64 a0_0) ∧ w'.cell? ⟨gb171, 1, none⟩ = some (.int .i64 a0_1) ∧ w'.cell? ⟨gb171, 2, none⟩ = some (.slice A0_2 l0_2.length c0_2)) (ds := []) (.replicate 11 false) (by kernel_rfl) rfl rfl ⟨(blk_cell BK171.out 0).trans rfl, (blk_cell BK171.out 1).trans rfl, (blk_cell BK171.out 2).trans rfl⟩ (fun hHeld => ?_); refine with_tabW shape_rows_hangs.tab1 shape_rows_hangs.bits1 (fun HT_ HW_ => ?_)
   generalize w10.drew = w11 at BK171 HB hHeld ⊢
   refine pu 0 (some 12) (mB 11 1) HT_ ?_
   refine pu 2 (some 14) (mB 11 5) HT_ ?_
   refine tk3 1 (some 13) (mB 11 7) HT_ HW_ hHeld ?_
   refine join_ (σ := Value × Value × Nat) 2 (mB 11 511) (fun s_ => [(15, s_.1), (16, .tuple #[.agg #[.int .i64 t175, .int .i64 t176, s_.2.1], .int .i64 t180]), (7, .pointer (some ⟨s_.2.2, 0, none⟩)), (11, .tuple #[.agg #[.int .i64 t175, .int .i64 t176, s_.2.1], .int .i64 t180]), (17, .agg #[.int .i64 t175, .int .i64 t176, s_.2.1]), (18, .int .i64 t180)]) (fun s_ w' => (w'.cell? ⟨gb171, 0, none⟩ = some (.int .i64 a0_0) ∧ w'.cell? ⟨gb171, 1, none⟩ = some (.int .i64 a0_1) ∧ w'.cell? ⟨gb171, 2, none⟩ = some (.slice A0_2 l0_2.length c0_2)) ∧ (Kd.R (Kd.int .i64) 3 w' w.heap.size (fun _ => True) s_.1 t172) ∧ (Kd.R (Kd.int .u8) 5 w' w.heap.size (fun _ => True) s_.2.1 t177) ∧ (w'.heap[gb171]? = some (.cells #[.int .i64 a0_0, .int .i64 a0_1, .slice A0_2 l0_2.length c0_2] 99 (0, 0))) ∧ (w'.heap[s_.2.2]? = some (.cells #[.int .i64 0, .int .i64 0, .slice none 0 0] 24 (0, 0))) ∧ (w.heap.size ≤ s_.2.2) ∧ (w.heap.size ≤ s_.2.2) ∧ (gb171 ≠ s_.2.2) ∧ (s_.2.2 ≠ gb171) ∧ (Below w.heap.size w w')) ?_ ?_
   rotate_left
   ·intro hCont
    refine two_ (i := 3) (j := 8) (Ni := some 15) (Nj := some 7) (mB 11 15) (mB 11 263) rfl rfl rfl rfl (two_of HT_.out (by kernel_rfl)) (by decide) (by decide) (fun K hK => ?_) (fun K hK => ?_)
    ·skip
     refine goes_ Tryd.func35 (by kernel_rfl) rfl #[.int .u64 a2] (by rfl) rfl rfl (by (try simp only [List.map_toArray, List.map_cons, List.map_nil]); first | done | rfl | (simp only [List.length_drop, List.length_take]; rfl)) ?_
     with_reducible refine (subset_List.calls k a2 t172 _ A4.out (tab_below HT.out (by repeat (first | (with_reducible first | exact HB.out | apply below_alloc | apply pw_below_drewN | apply below_drew1) | exact HB.out | exact Below.refl _ _)))).mono ?_
     rintro e w12 ⟨v173, rfl, ho0, hb⟩
     refine ⟨_, rfl, ?_⟩
     have HO174 := Aside0.mk (Kd.R_lower ho0 (below_size (hbA HB.out)))
     replace BK171 := bkB BK171 hb
     replace HB := hbB HB hb
     (try clear hb)
     (try clear hb2)
     (try clear hk)
     (try clear hi)
     (try clear ho0)
     obtain ⟨Ao13, co13, eo13⟩ := Kd.R_slice HO174.out
     (first | subst eo13 | (injection eo13 with f1_ f2_ f3_; have f4_ := f1_.symm; have f5_ := f3_.symm; clear f1_ f2_ f3_; subst f4_; subst f5_))
     refine hK.out _ _ ⟨(blk_cell BK171.out 0).trans rfl, (blk_cell BK171.out 1).trans rfl, (blk_cell BK171.out 2).trans rfl⟩ (fun hHeld => ?_)
     clear hK K
     refine norm_ (a' := ?_) ?_ ?_
     rotate_left
     ·show Act.put _ (some 15) _ = _
      simp only [Act.put, List.setIfInBounds_toArray, List.set_cons_zero, List.set_cons_succ, i64_w, i32_w]
      rfl
     refine two_ (i := 4) (j := 8) (Ni := some 16) (Nj := some 7) (mB 11 31) (mB 11 271) rfl rfl rfl rfl (two_of HT_.out (by kernel_rfl)) (by decide) (by decide) (fun K hK => ?_) (fun K hK => ?_)
     ·skip
      refine goes_ Tryd.func34 (by kernel_rfl) rfl #[.agg #[.int .i64 a0_0, .int .i64 a0_1, .slice A0_2 l0_2.length c0_2], .slice Ao13 t172.length co13] (by rfl) rfl rfl (by (try simp only [List.map_toArray, List.map_cons, List.map_nil]); first | done | rfl | (simp only [List.length_drop, List.length_take]; rfl)) ?_
      with_reducible refine (matrix_Pick.calls a0_0 a0_1 _ _ l0_2 _ _ t172 t175 t176 t177 t180 _ ?side1 ?side2 ?side3 ?side4 A5.out).mono ?_
      (case side1 => exact kcB HR0_2 HB)
      (case side2 => exact HC0_2.out)
      (case side3 => exact kcA (Kd.R_reads' HO174.out).2.2)
      (case side4 => exact (Kd.R_reads' HO174.out).2.1)
      rintro e w14 ⟨v178, rfl, ho0, hb⟩
      refine ⟨_, rfl, ?_⟩
      replace HO174 := kdB HO174 hb
      have HO179 := Aside0.mk (Kd.R_lower ho0 (below_size (hbA HB.out)))
      replace BK171 := bkB BK171 hb
      replace HB := hbB HB hb
      (try clear hb)
      (try clear hb2)
      (try clear hk)
      (try clear hi)
      (try clear ho0)
      refine hK.out _ _ ⟨(blk_cell BK171.out 0).trans rfl, (blk_cell BK171.out 1).trans rfl, (blk_cell BK171.out 2).trans rfl⟩ (fun hHeld => ?_)
      clear hK K
      refine norm_ (a' := ?_) ?_ ?_
      rotate_left
      ·show Act.put _ (some 16) _ = _
       simp only [Act.put, List.setIfInBounds_toArray, List.set_cons_zero, List.set_cons_succ, i64_w, i32_w]
       rfl
      refine pu 5 (some 11) (mB 11 63) HT_ ?_
      refine pu 6 (some 17) (mB 11 127) HT_ ?_
      refine pu 7 (some 18) (mB 11 255) HT_ ?_
      refine one_ (i := 8) (N := some 7) (mB 11 511) rfl rfl (one_of HT_.out (by kernel_rfl)) (by decide) (fun K hK => ?_)
      refine box_step ?hg (N := 7) ?hd (cs := #[.int .i64 0, .int .i64 0, .slice none 0 0]) (t := 24) ?hr ?_; (case hd => rfl); (case hg => rfl); (case hr => first | (go_simp; done) | (go_simp; rfl))
      intro gb181 hg w15 hbox hb
      replace HO174 := kdB HO174 hb
      replace HO179 := kdB HO179 hb
      have BK181 := Aside0.mk (hbox)
      have GW181 := hbS HB hg
      have GE181 := hbS HB hg
      replace HB := hbB HB hb
      have NB171_181 := neL BK171 hg
      have NB181_171 := neG BK171 hg
      replace BK171 := bkB BK171 hb
      clear hb hbox hg
      refine hK.out _ _ ⟨(blk_cell BK171.out 0).trans rfl, (blk_cell BK171.out 1).trans rfl, (blk_cell BK171.out 2).trans rfl⟩ (fun hHeld => ?_)
      clear hK K
      refine norm_ (a' := ?_) ?_ ?_
      rotate_left
      ·show Act.put _ (some 7) _ = _
       simp only [Act.put, List.setIfInBounds_toArray, List.set_cons_zero, List.set_cons_succ, i64_w, i32_w]
       rfl
      exact norm_ (by simp only [putAll, Act.put, List.setIfInBounds_toArray, List.set_cons_zero, List.set_cons_succ]) (hCont (.slice Ao13 t172.length co13, v178, gb181) _ ⟨hHeld, (kdA HO174.out), (kdA HO179.out), (bkA BK171.out), (bkA BK181.out), GW181.out, GE181.out, NB171_181.out, NB181_171.out, (hbA HB.out)⟩)
     ·skip
      refine box_step ?hg (N := 7) ?hd (cs := #[.int .i64 0, .int .i64 0, .slice none 0 0]) (t := 24) ?hr ?_; (case hd => rfl); (case hg => rfl); (case hr => first | (go_simp; done) | (go_simp; rfl))
      intro gb181 hg w13 hbox hb
      replace HO174 := kdB HO174 hb
      have BK181 := Aside0.mk (hbox)
      have GW181 := hbS HB hg
      have GE181 := hbS HB hg
      replace HB := hbB HB hb
      have NB171_181 := neL BK171 hg
      have NB181_171 := neG BK171 hg
      replace BK171 := bkB BK171 hb
      clear hb hbox hg
      obtain ⟨Ao14, co14, eo14⟩ := Kd.R_slice HO174.out
      (first | subst eo14 | (injection eo14 with f1_ f2_ f3_; have f4_ := f1_.symm; have f5_ := f3_.symm; clear f1_ f2_ f3_; subst f4_; subst f5_))
      refine hK.out _ _ ⟨(blk_cell BK171.out 0).trans rfl, (blk_cell BK171.out 1).trans rfl, (blk_cell BK171.out 2).trans rfl⟩ (fun hHeld => ?_)
      clear hK K
      refine norm_ (a' := ?_) ?_ ?_
      rotate_left
      ·show Act.put _ (some 7) _ = _
       simp only [Act.put, List.setIfInBounds_toArray, List.set_cons_zero, List.set_cons_succ, i64_w, i32_w]
       rfl
      refine one_ (i := 4) (N := some 16) (mB 11 287) rfl rfl (one_of HT_.out (by kernel_rfl)) (by decide) (fun K hK => ?_)
      refine goes_ Tryd.func34 (by kernel_rfl) rfl #[.agg #[.int .i64 a0_0, .int .i64 a0_1, .slice A0_2 l0_2.length c0_2], .slice Ao14 t172.length co14] (by rfl) rfl rfl (by (try simp only [List.map_toArray, List.map_cons, List.map_nil]); first | done | rfl | (simp only [List.length_drop, List.length_take]; rfl)) ?_
      with_reducible refine (matrix_Pick.calls a0_0 a0_1 _ _ l0_2 _ _ t172 t175 t176 t177 t180 _ ?side1 ?side2 ?side3 ?side4 A5.out).mono ?_
      (case side1 => exact kcB HR0_2 HB)
      (case side2 => exact HC0_2.out)
      (case side3 => exact kcA (Kd.R_reads' HO174.out).2.2)
      (case side4 => exact (Kd.R_reads' HO174.out).2.1)
      rintro e w15 ⟨v178, rfl, ho0, hb⟩
      refine ⟨_, rfl, ?_⟩
      replace HO174 := kdB HO174 hb
      have HO179 := Aside0.mk (Kd.R_lower ho0 (below_size (hbA HB.out)))
      replace BK171 := bkB BK171 hb
      replace BK181 := bkB BK181 hb
      replace HB := hbB HB hb
      (try clear hb)
      (try clear hb2)
      (try clear hk)
      (try clear hi)
      (try clear ho0)
      refine hK.out _ _ ⟨(blk_cell BK171.out 0).trans rfl, (blk_cell BK171.out 1).trans rfl, (blk_cell BK171.out 2).trans rfl⟩ (fun hHeld => ?_)
      clear hK K
      refine norm_ (a' := ?_) ?_ ?_
      rotate_left
      ·show Act.put _ (some 16) _ = _
       simp only [Act.put, List.setIfInBounds_toArray, List.set_cons_zero, List.set_cons_succ, i64_w, i32_w]
       rfl
      refine pu 5 (some 11) (mB 11 319) HT_ ?_
      refine pu 6 (some 17) (mB 11 383) HT_ ?_
      refine pu 7 (some 18) (mB 11 511) HT_ ?_
      exact norm_ (by simp only [putAll, Act.put, List.setIfInBounds_toArray, List.set_cons_zero, List.set_cons_succ]) (hCont (.slice Ao14 t172.length co14, v178, gb181) _ ⟨hHeld, (kdA HO174.out), (kdA HO179.out), (bkA BK171.out), (bkA BK181.out), GW181.out, GE181.out, NB171_181.out, NB181_171.out, (hbA HB.out)⟩)
    ·skip
     refine box_step ?hg (N := 7) ?hd (cs := #[.int .i64 0, .int .i64 0, .slice none 0 0]) (t := 24) ?hr ?_; (case hd => rfl); (case hg => rfl); (case hr => first | (go_simp; done) | (go_simp; rfl))
     intro gb181 hg w12 hbox hb
     have BK181 := Aside0.mk (hbox)
     have GW181 := hbS HB hg
     have GE181 := hbS HB hg
     replace HB := hbB HB hb
     have NB171_181 := neL BK171 hg
     have NB181_171 := neG BK171 hg
     replace BK171 := bkB BK171 hb
     clear hb hbox hg
     refine hK.out _ _ ⟨(blk_cell BK171.out 0).trans rfl, (blk_cell BK171.out 1).trans rfl, (blk_cell BK171.out 2).trans rfl⟩ (fun hHeld => ?_)
     clear hK K
     refine norm_ (a' := ?_) ?_ ?_
     rotate_left
     ·show Act.put _ (some 7) _ = _
      simp only [Act.put, List.setIfInBounds_toArray, List.set_cons_zero, List.set_cons_succ, i64_w, i32_w]
      rfl
     refine one_ (i := 3) (N := some 15) (mB 11 271) rfl rfl (one_of HT_.out (by kernel_rfl)) (by decide) (fun K hK => ?_)
     refine goes_ Tryd.func35 (by kernel_rfl) rfl #[.int .u64 a2] (by rfl) rfl rfl (by (try simp only [List.map_toArray, List.map_cons, List.map_nil]); first | done | rfl | (simp only [List.length_drop, List.length_take]; rfl)) ?_
     with_reducible refine (subset_List.calls k a2 t172 _ A4.out (tab_below HT.out (by repeat (first | (with_reducible first | exact HB.out | apply below_alloc | apply pw_below_drewN | apply below_drew1) | exact HB.out | exact Below.refl _ _)))).mono ?_
     rintro e w13 ⟨v173, rfl, ho0, hb⟩
     refine ⟨_, rfl, ?_⟩
     have HO174 := Aside0.mk (Kd.R_lower ho0 (below_size (hbA HB.out)))
     replace BK171 := bkB BK171 hb
     replace BK181 := bkB BK181 hb
     replace HB := hbB HB hb
     (try clear hb)
     (try clear hb2)
     (try clear hk)
     (try clear hi)
     (try clear ho0)
     obtain ⟨Ao14, co14, eo14⟩ := Kd.R_slice HO174.out
     (first | subst eo14 | (injection eo14 with f1_ f2_ f3_; have f4_ := f1_.symm; have f5_ := f3_.symm; clear f1_ f2_ f3_; subst f4_; subst f5_))
     refine hK.out _ _ ⟨(blk_cell BK171.out 0).trans rfl, (blk_cell BK171.out 1).trans rfl, (blk_cell BK171.out 2).trans rfl⟩ (fun hHeld => ?_)
     clear hK K
     refine norm_ (a' := ?_) ?_ ?_
     rotate_left
     ·show Act.put _ (some 15) _ = _
      simp only [Act.put, List.setIfInBounds_toArray, List.set_cons_zero, List.set_cons_succ, i64_w, i32_w]
      rfl
     refine one_ (i := 4) (N := some 16) (mB 11 287) rfl rfl (one_of HT_.out (by kernel_rfl)) (by decide) (fun K hK => ?_)
     refine goes_ Tryd.func34 (by kernel_rfl) rfl #[.agg #[.int .i64 a0_0, .int .i64 a0_1, .slice A0_2 l0_2.length c0_2], .slice Ao14 t172.length co14] (by rfl) rfl rfl (by (try simp only [List.map_toArray, List.map_cons, List.map_nil]); first | done | rfl | (simp only [List.length_drop, List.length_take]; rfl)) ?_
     with_reducible refine (matrix_Pick.calls a0_0 a0_1 _ _ l0_2 _ _ t172 t175 t176 t177 t180 _ ?side1 ?side2 ?side3 ?side4 A5.out).mono ?_
     (case side1 => exact kcB HR0_2 HB)
     (case side2 => exact HC0_2.out)
     (case side3 => exact kcA (Kd.R_reads' HO174.out).2.2)
     (case side4 => exact (Kd.R_reads' HO174.out).2.1)
     rintro e w15 ⟨v178, rfl, ho0, hb⟩
     refine ⟨_, rfl, ?_⟩
     replace HO174 := kdB HO174 hb
     have HO179 := Aside0.mk (Kd.R_lower ho0 (below_size (hbA HB.out)))
     replace BK171 := bkB BK171 hb
     replace BK181 := bkB BK181 hb
     replace HB := hbB HB hb
     (try clear hb)
     (try clear hb2)
     (try clear hk)
     (try clear hi)
     (try clear ho0)
     refine hK.out _ _ ⟨(blk_cell BK171.out 0).trans rfl, (blk_cell BK171.out 1).trans rfl, (blk_cell BK171.out 2).trans rfl⟩ (fun hHeld => ?_)
     clear hK K
     refine norm_ (a' := ?_) ?_ ?_
     rotate_left
     ·show Act.put _ (some 16) _ = _
      simp only [Act.put, List.setIfInBounds_toArray, List.set_cons_zero, List.set_cons_succ, i64_w, i32_w]
      rfl
     refine pu 5 (some 11) (mB 11 319) HT_ ?_
     refine pu 6 (some 17) (mB 11 383) HT_ ?_
     refine pu 7 (some 18) (mB 11 511) HT_ ?_
     exact norm_ (by simp only [putAll, Act.put, List.setIfInBounds_toArray, List.set_cons_zero, List.set_cons_succ]) (hCont (.slice Ao14 t172.length co14, v178, gb181) _ ⟨hHeld, (kdA HO174.out), (kdA HO179.out), (bkA BK171.out), (bkA BK181.out), GW181.out, GE181.out, NB171_181.out, NB181_171.out, (hbA HB.out)⟩)
   rintro ⟨v173, v178, gb181⟩ w16 ⟨hS_, h0_, h1_, h2_, h3_, h4_, h5_, h6_, h7_, h8_⟩
   have n0_ : Aside0 (Kd.R (Kd.int .i64) 3 w16 w.heap.size (fun _ => True) v173 t172) := ⟨h0_⟩
   have n1_ : Aside0 (Kd.R (Kd.int .u8) 5 w16 w.heap.size (fun _ => True) v178 t177) := ⟨h1_⟩
   have n2_ : Aside0 (w16.heap[gb171]? = some (.cells #[.int .i64 a0_0, .int .i64 a0_1, .slice A0_2 l0_2.length c0_2] 99 (0, 0))) := ⟨h2_⟩
   have n3_ : Aside0 (w16.heap[gb181]? = some (.cells #[.int .i64 0, .int .i64 0, .slice none 0 0] 24 (0, 0))) := ⟨h3_⟩
   have n4_ : Aside0 (w.heap.size ≤ gb181) := ⟨h4_⟩
   have n5_ : Aside0 (w.heap.size ≤ gb181) := ⟨h5_⟩
   have n6_ : Aside0 (gb171 ≠ gb181) := ⟨h6_⟩
   have n7_ : Aside0 (gb181 ≠ gb171) := ⟨h7_⟩
   have n8_ : Aside0 (Below w.heap.size w w16) := ⟨h8_⟩
   clear BK171
   clear HB
   clear h0_ h1_ h2_ h3_ h4_ h5_ h6_ h7_ h8_
   have HO174 := n0_
   have HO179 := n1_
   have BK171 := n2_
   have BK181 := n3_
   have GW181 := n4_
   have GE181 := n5_
   have NB171_181 := n6_
   have NB181_171 := n7_
   have HB := n8_
   clear n0_ n1_ n2_ n3_ n4_ n5_ n6_ n7_ n8_
   have hHeld : w16.cell? ⟨gb171, 0, none⟩ = some (.int .i64 a0_0) ∧ w16.cell? ⟨gb171, 1, none⟩ = some (.int .i64 a0_1) ∧ w16.cell? ⟨gb171, 2, none⟩ = some (.slice A0_2 l0_2.length c0_2) := hS_
   obtain ⟨Ao19, co19, eo19⟩ := Kd.R_slice HO179.out
   (first | subst eo19 | (injection eo19 with f1_ f2_ f3_; have f4_ := f1_.symm; have f5_ := f3_.symm; clear f1_ f2_ f3_; subst f4_; subst f5_))
   refine norm_ (a' := ?_) ?_ ?_
   rotate_left
   ·simp only [putAll, Act.put, List.setIfInBounds_toArray, List.set_cons_zero, List.set_cons_succ]
    rfl
   refine one_ (i := 9) (N := none) (mB 11 1023) rfl rfl (one_of HT_.out (by kernel_rfl)) (by decide) (fun K hK => ?_)
   have hs17 : w16.cell? ⟨gb181, 0, none⟩ = some (.int .i64 0) := (blk_cell BK181.out 0).trans rfl
   have hfs17 := blk_frozen BK181.out 0
   have hns17_0 := NB171_181.out
   have hms17_0 := NB181_171.out
   have hs18 : w16.cell? ⟨gb181, 1, none⟩ = some (.int .i64 0) := (blk_cell BK181.out 1).trans rfl
   have hfs18 := blk_frozen BK181.out 1
   have hns18_0 := NB171_181.out
   have hms18_0 := NB181_171.out
   have hs20 : w16.cell? ⟨gb181, 2, none⟩ = some (.slice none 0 0) := (blk_cell BK181.out 2).trans rfl
   have hfs20 := blk_frozen BK181.out 2
   have hns20_0 := NB171_181.out
   have hms20_0 := NB181_171.out
   refine skip_ (w1 := ?_) (by rfl) rfl ?_ ?_
   rotate_left
   ·go_simp
    rfl
   refine hK.out _ _ ⟨((cell_far (p := ⟨gb181, _, none⟩) NB171_181.out _).trans (((cell_far (p := ⟨gb181, _, none⟩) NB171_181.out _).trans (((cell_far (p := ⟨gb181, _, none⟩) NB171_181.out _).trans (hHeld.1)))))), ((cell_far (p := ⟨gb181, _, none⟩) NB171_181.out _).trans (((cell_far (p := ⟨gb181, _, none⟩) NB171_181.out _).trans (((cell_far (p := ⟨gb181, _, none⟩) NB171_181.out _).trans (hHeld.2.1)))))), ((cell_far (p := ⟨gb181, _, none⟩) NB171_181.out _).trans (((cell_far (p := ⟨gb181, _, none⟩) NB171_181.out _).trans (((cell_far (p := ⟨gb181, _, none⟩) NB171_181.out _).trans (hHeld.2.2))))))⟩ (fun hHeld => ?_)
   clear hK K
   refine pu 10 (some 8) (mB 11 2047) HT_ ?_
   refine done_ (done_of HT_.out (by kernel_rfl)) ?_
   try go_wp2
   have n0_ : Aside0 (Kd.R (Kd.int .i64) 3 (((w16.setCell ⟨gb181, 0, none⟩ (.int .i64 t175)).setCell ⟨gb181, 1, none⟩ (.int .i64 t176)).setCell ⟨gb181, 2, none⟩ (.slice Ao19 t177.length co19)) w.heap.size (fun _ => True) v173 t172) := ⟨by (with_reducible repeat (first | apply Kd.R_alloc | apply Kd.R_drewN | apply Kd.R_drew)); exact Kd.R_mono (Kd.R_far (p := ⟨gb181, 2, none⟩) (Kd.R_far (p := ⟨gb181, 1, none⟩) (Kd.R_far (p := ⟨gb181, 0, none⟩) (Kd.R_types HO174.out BK181.out (by decide)) (fun _ hk => hk.2) (.int .i64 t175)) (fun _ hk => hk.2) (.int .i64 t176)) (fun _ hk => hk.2) (.slice Ao19 t177.length co19)) (fun _ hk => trivial)⟩
   have n1_ : Aside0 (Kd.R (Kd.int .u8) 5 (((w16.setCell ⟨gb181, 0, none⟩ (.int .i64 t175)).setCell ⟨gb181, 1, none⟩ (.int .i64 t176)).setCell ⟨gb181, 2, none⟩ (.slice Ao19 t177.length co19)) w.heap.size (fun _ => True) (.slice Ao19 t177.length co19) t177) := ⟨by (with_reducible repeat (first | apply Kd.R_alloc | apply Kd.R_drewN | apply Kd.R_drew)); exact Kd.R_mono (Kd.R_far (p := ⟨gb181, 2, none⟩) (Kd.R_far (p := ⟨gb181, 1, none⟩) (Kd.R_far (p := ⟨gb181, 0, none⟩) (Kd.R_types HO179.out BK181.out (by decide)) (fun _ hk => hk.2) (.int .i64 t175)) (fun _ hk => hk.2) (.int .i64 t176)) (fun _ hk => hk.2) (.slice Ao19 t177.length co19)) (fun _ hk => trivial)⟩
   have n2_ : Aside0 ((((w16.setCell ⟨gb181, 0, none⟩ (.int .i64 t175)).setCell ⟨gb181, 1, none⟩ (.int .i64 t176)).setCell ⟨gb181, 2, none⟩ (.slice Ao19 t177.length co19)).heap[gb171]? = some (.cells #[.int .i64 a0_0, .int .i64 a0_1, .slice A0_2 l0_2.length c0_2] 99 (0, 0))) := ⟨by refine bkR ?_; refine blk_far ?_ NB171_181.out _; refine bkR ?_; refine blk_far ?_ NB171_181.out _; refine bkR ?_; refine blk_far ?_ NB171_181.out _; refine bkR ?_; exact BK171.out⟩
   have n3_ : Aside0 ((((w16.setCell ⟨gb181, 0, none⟩ (.int .i64 t175)).setCell ⟨gb181, 1, none⟩ (.int .i64 t176)).setCell ⟨gb181, 2, none⟩ (.slice Ao19 t177.length co19)).heap[gb181]? = some (.cells #[.int .i64 t175, .int .i64 t176, .slice Ao19 t177.length co19] 24 (0, 0))) := ⟨by refine bkR ?_; refine blk_put (cs := #[.int .i64 t175, .int .i64 t176, .slice none 0 0]) ?_ 2 _ rfl; refine bkR ?_; refine blk_put (cs := #[.int .i64 t175, .int .i64 0, .slice none 0 0]) ?_ 1 _ rfl; refine bkR ?_; refine blk_put (cs := #[.int .i64 0, .int .i64 0, .slice none 0 0]) ?_ 0 _ rfl; refine bkR ?_; exact BK181.out⟩
   have n4_ : Aside0 (Below w.heap.size w (((w16.setCell ⟨gb181, 0, none⟩ (.int .i64 t175)).setCell ⟨gb181, 1, none⟩ (.int .i64 t176)).setCell ⟨gb181, 2, none⟩ (.slice Ao19 t177.length co19))) := ⟨hbA HB.out⟩
   (try clear HO174)
   (try clear HO179)
   (try clear BK171)
   (try clear BK181)
   (try clear HB)
   generalize (((w16.setCell ⟨gb181, 0, none⟩ (.int .i64 t175)).setCell ⟨gb181, 1, none⟩ (.int .i64 t176)).setCell ⟨gb181, 2, none⟩ (.slice Ao19 t177.length co19)) = w21 at n0_ n1_ n2_ n3_ n4_ ⊢
   have HO174 := n0_
   have HO179 := n1_
   have BK171 := n2_
   have BK181 := n3_
   have HB := n4_
   clear n0_ n1_ n2_ n3_ n4_
   replace HO174 := Aside0.mk (Kd.R_drew HO174.out)
   replace HO179 := Aside0.mk (Kd.R_drew HO179.out)
   replace BK171 := Aside0.mk (blk_drew BK171.out)
   replace BK181 := Aside0.mk (blk_drew BK181.out)
   replace HB := Aside0.mk (below_drew1 HB.out)
   refine start_ (n := 12) (S := fun w' => w'.cell? ⟨gb181, 0, none⟩ = some (.int .i64 t175) ∧ w'.cell? ⟨gb181, 1, none⟩ = some (.int .i64 t176) ∧ w'.cell? ⟨gb181, 2, none⟩ = some (.slice Ao19 t177.length co19) ∧ w'.cell? ⟨gb171, 0, none⟩ = some (.int .i64 a0_0) ∧ w'.cell? ⟨gb171, 1, none⟩ = some (.int .i64 a0_1) ∧ w'.cell? ⟨gb171, 2, none⟩ = some (.slice A0_2 l0_2.length c0_2)) (ds := []) (.replicate 12 false) (by kernel_rfl) rfl rfl ⟨(blk_cell BK181.out 0).trans rfl, (blk_cell BK181.out 1).trans rfl, (blk_cell BK181.out 2).trans rfl, (blk_cell BK171.out 0).trans rfl, (blk_cell BK171.out 1).trans rfl, (blk_cell BK171.out 2).trans rfl⟩ (fun hHeld => ?_); refine with_tabW shape_rows_hangs.tab4 shape_rows_hangs.bits4 (fun HT_ HW_ => ?_)
   generalize w21.drew = w22 at HO174 HO179 BK171 BK181 HB hHeld ⊢
   refine pu 2 (some 24) (mB 12 4) HT_ ?_
   refine tk6 0 (some 22) (mB 12 5) HT_ HW_ hHeld ?_
   refine tk6 1 (some 23) (mB 12 7) HT_ HW_ hHeld ?_
   refine one_ (i := 3) (N := some 25) (mB 12 15) rfl rfl (one_of HT_.out (by kernel_rfl)) (by decide) (fun K hK => ?_)
   refine goes_ Tryd.func101 (by kernel_rfl) rfl #[.agg #[.int .i64 a0_0, .int .i64 a0_1, .slice A0_2 l0_2.length c0_2], .int .i64 a1] (by rfl) rfl rfl (by (try simp only [List.map_toArray, List.map_cons, List.map_nil]); first | done | rfl | (simp only [List.length_drop, List.length_take]; rfl)) ?_
   with_reducible refine (shape_rows_row.calls a0_0 a0_1 _ _ l0_2 a1 t182 _ ?side1 ?side2 A7.out).mono ?_
   (case side1 => exact kcB HR0_2 HB)
   (case side2 => exact HC0_2.out)
   rintro e w23 ⟨Ar_, cr_, rfl, ho0, hcr_, hb⟩
   refine ⟨_, rfl, ?_⟩
   replace HO174 := kdB HO174 hb
   have HO184 := Aside0.mk (And.intro ho0 hcr_)
   replace HO179 := kdB HO179 hb
   replace BK171 := bkB BK171 hb
   replace BK181 := bkB BK181 hb
   replace HB := hbB HB hb
   (try clear hb)
   (try clear hb2)
   (try clear hk)
   (try clear hi)
   (try clear ho0)
   refine hK.out _ _ ⟨(blk_cell BK181.out 0).trans rfl, (blk_cell BK181.out 1).trans rfl, (blk_cell BK181.out 2).trans rfl, (blk_cell BK171.out 0).trans rfl, (blk_cell BK171.out 1).trans rfl, (blk_cell BK171.out 2).trans rfl⟩ (fun hHeld => ?_)
   clear hK K
   refine norm_ (a' := ?_) ?_ ?_
   rotate_left
   ·show Act.put _ (some 25) _ = _
    simp only [Act.put, List.setIfInBounds_toArray, List.set_cons_zero, List.set_cons_succ, i64_w, i32_w]
    rfl
   refine one_ (i := 4) (N := some 26) (mB 12 31) rfl rfl (one_of HT_.out (by kernel_rfl)) (by decide) (fun K hK => ?_)
   refine goes_ Tryd.func36 (by kernel_rfl) rfl #[.agg #[.int .i64 t175, .int .i64 t176, .slice Ao19 t177.length co19], .slice Ar_ t182.length cr_] (by rfl) rfl rfl (by (try simp only [List.map_toArray, List.map_cons, List.map_nil]); first | done | rfl | (simp only [List.length_drop, List.length_take]; rfl)) ?_
   with_reducible refine (gauss_Combine.calls k t175 t176 _ _ t177 _ _ t182 t185 t188 t189 _ ?side1 ?side2 ?side3 ?side4 A8.out).mono ?_
   (case side1 => exact kcA (Kd.R_reads' HO179.out).2.2)
   (case side2 => exact (Kd.R_reads' HO179.out).2.1)
   (case side3 => exact HO184.out.1)
   (case side4 => exact HO184.out.2)
   rintro e w25 ⟨v186, rfl, ho0, hb⟩
   refine ⟨_, rfl, ?_⟩
   replace HO174 := kdB HO174 hb
   have HO187 := Aside0.mk (Kd.R_lower (Kd.R_new' ho0 (Kd.R_lt (kdA HO179.out))) (below_size (hbA HB.out)))
   replace HO179 := Aside0.mk (Kd.R_elder' (kdA HO179.out) (Kd.R_base ho0) hb)
   replace BK171 := bkB BK171 hb
   replace BK181 := bkB BK181 hb
   replace HB := hbB HB hb
   (try clear hb)
   (try clear hb2)
   (try clear hk)
   (try clear hi)
   (try clear ho0)
   refine hK.out _ _ ⟨(blk_cell BK181.out 0).trans rfl, (blk_cell BK181.out 1).trans rfl, (blk_cell BK181.out 2).trans rfl, (blk_cell BK171.out 0).trans rfl, (blk_cell BK171.out 1).trans rfl, (blk_cell BK171.out 2).trans rfl⟩ (fun hHeld => ?_)
   clear hK K
   refine norm_ (a' := ?_) ?_ ?_
   rotate_left
   ·show Act.put _ (some 26) _ = _
    simp only [Act.put, List.setIfInBounds_toArray, List.set_cons_zero, List.set_cons_succ, i64_w, i32_w]
    rfl
   refine pu 5 (some 21) (mB 12 63) HT_ ?_
   refine pu 6 (some 27) (mB 12 127) HT_ ?_
   refine pu 7 (some 28) (mB 12 255) HT_ ?_
   refine pu 8 (some 29) (mB 12 511) HT_ ?_
   refine pu 9 (some 9) (mB 12 1023) HT_ ?_
   refine pu 10 (some 10) (mB 12 2047) HT_ ?_
   refine pu 11 (some 8) (mB 12 4095) HT_ ?_
   refine done_ (done_of HT_.out (by kernel_rfl)) ?_
   try go_wp2
   go_ret
   exact ⟨rfE, hbA HB.out⟩
  ·rw [if_neg c9] at H
   have c9b0 : (t189 == 0) = false := beq_eq_false_iff_ne.mpr c9
   have c9b1 : (t189 != 0) = true := bne_iff_ne.mpr c9
   obtain rfl := Option.some.inj H
   go_enter Tryd.func87, Tryd.ntmps87
   try go_wp2_with (first | ((with_reducible refine gD 3 rfl ?_); refine bE 3 #[.int .i64 a0_0, .int .i64 a0_1, .slice A0_2 l0_2.length c0_2] 99 ?_; intro gb171 hg w26 hbox hb; have BK171 := Aside0.mk (hbox); have GW171 := hbS HB hg; have GE171 := hbS HB hg; replace HB := hbB HB hb; clear hb hbox hg))
   replace BK171 := Aside0.mk (blk_drew BK171.out)
   replace HB := Aside0.mk (below_drew1 HB.out)
   refine start_ (n := 11) (S := fun w' => w'.cell? ⟨gb171, 0, none⟩ = some (.int .i64 a0_0) ∧ w'.cell? ⟨gb171, 1, none⟩ = some (.int .i64 a0_1) ∧ w'.cell? ⟨gb171, 2, none⟩ = some (.slice A0_2 l0_2.length c0_2)) (ds := []) (.replicate 11 false) (by kernel_rfl) rfl rfl ⟨(blk_cell BK171.out 0).trans rfl, (blk_cell BK171.out 1).trans rfl, (blk_cell BK171.out 2).trans rfl⟩ (fun hHeld => ?_); refine with_tabW shape_rows_hangs.tab1 shape_rows_hangs.bits1 (fun HT_ HW_ => ?_)
   generalize w26.drew = w27 at BK171 HB hHeld ⊢
   refine pu 0 (some 12) (mB 11 1) HT_ ?_
   refine pu 2 (some 14) (mB 11 5) HT_ ?_
   refine tk3 1 (some 13) (mB 11 7) HT_ HW_ hHeld ?_
   refine join_ (σ := Value × Value × Nat) 2 (mB 11 511) (fun s_ => [(15, s_.1), (16, .tuple #[.agg #[.int .i64 t175, .int .i64 t176, s_.2.1], .int .i64 t180]), (7, .pointer (some ⟨s_.2.2, 0, none⟩)), (11, .tuple #[.agg #[.int .i64 t175, .int .i64 t176, s_.2.1], .int .i64 t180]), (17, .agg #[.int .i64 t175, .int .i64 t176, s_.2.1]), (18, .int .i64 t180)]) (fun s_ w' => (w'.cell? ⟨gb171, 0, none⟩ = some (.int .i64 a0_0) ∧ w'.cell? ⟨gb171, 1, none⟩ = some (.int .i64 a0_1) ∧ w'.cell? ⟨gb171, 2, none⟩ = some (.slice A0_2 l0_2.length c0_2)) ∧ (Kd.R (Kd.int .i64) 3 w' w.heap.size (fun _ => True) s_.1 t172) ∧ (Kd.R (Kd.int .u8) 5 w' w.heap.size (fun _ => True) s_.2.1 t177) ∧ (w'.heap[gb171]? = some (.cells #[.int .i64 a0_0, .int .i64 a0_1, .slice A0_2 l0_2.length c0_2] 99 (0, 0))) ∧ (w'.heap[s_.2.2]? = some (.cells #[.int .i64 0, .int .i64 0, .slice none 0 0] 24 (0, 0))) ∧ (w.heap.size ≤ s_.2.2) ∧ (w.heap.size ≤ s_.2.2) ∧ (gb171 ≠ s_.2.2) ∧ (s_.2.2 ≠ gb171) ∧ (Below w.heap.size w w')) ?_ ?_
   rotate_left
   ·intro hCont
    refine two_ (i := 3) (j := 8) (Ni := some 15) (Nj := some 7) (mB 11 15) (mB 11 263) rfl rfl rfl rfl (two_of HT_.out (by kernel_rfl)) (by decide) (by decide) (fun K hK => ?_) (fun K hK => ?_)
    ·skip
     refine goes_ Tryd.func35 (by kernel_rfl) rfl #[.int .u64 a2] (by rfl) rfl rfl (by (try simp only [List.map_toArray, List.map_cons, List.map_nil]); first | done | rfl | (simp only [List.length_drop, List.length_take]; rfl)) ?_
     with_reducible refine (subset_List.calls k a2 t172 _ A4.out (tab_below HT.out (by repeat (first | (with_reducible first | exact HB.out | apply below_alloc | apply pw_below_drewN | apply below_drew1) | exact HB.out | exact Below.refl _ _)))).mono ?_
     rintro e w28 ⟨v173, rfl, ho0, hb⟩
     refine ⟨_, rfl, ?_⟩
     have HO174 := Aside0.mk (Kd.R_lower ho0 (below_size (hbA HB.out)))
     replace BK171 := bkB BK171 hb
     replace HB := hbB HB hb
     (try clear hb)
     (try clear hb2)
     (try clear hk)
     (try clear hi)
     (try clear ho0)
     obtain ⟨Ao29, co29, eo29⟩ := Kd.R_slice HO174.out
     (first | subst eo29 | (injection eo29 with f1_ f2_ f3_; have f4_ := f1_.symm; have f5_ := f3_.symm; clear f1_ f2_ f3_; subst f4_; subst f5_))
     refine hK.out _ _ ⟨(blk_cell BK171.out 0).trans rfl, (blk_cell BK171.out 1).trans rfl, (blk_cell BK171.out 2).trans rfl⟩ (fun hHeld => ?_)
     clear hK K
     refine norm_ (a' := ?_) ?_ ?_
     rotate_left
     ·show Act.put _ (some 15) _ = _
      simp only [Act.put, List.setIfInBounds_toArray, List.set_cons_zero, List.set_cons_succ, i64_w, i32_w]
      rfl
     refine two_ (i := 4) (j := 8) (Ni := some 16) (Nj := some 7) (mB 11 31) (mB 11 271) rfl rfl rfl rfl (two_of HT_.out (by kernel_rfl)) (by decide) (by decide) (fun K hK => ?_) (fun K hK => ?_)
     ·skip
      refine goes_ Tryd.func34 (by kernel_rfl) rfl #[.agg #[.int .i64 a0_0, .int .i64 a0_1, .slice A0_2 l0_2.length c0_2], .slice Ao29 t172.length co29] (by rfl) rfl rfl (by (try simp only [List.map_toArray, List.map_cons, List.map_nil]); first | done | rfl | (simp only [List.length_drop, List.length_take]; rfl)) ?_
      with_reducible refine (matrix_Pick.calls a0_0 a0_1 _ _ l0_2 _ _ t172 t175 t176 t177 t180 _ ?side1 ?side2 ?side3 ?side4 A5.out).mono ?_
      (case side1 => exact kcB HR0_2 HB)
      (case side2 => exact HC0_2.out)
      (case side3 => exact kcA (Kd.R_reads' HO174.out).2.2)
      (case side4 => exact (Kd.R_reads' HO174.out).2.1)
      rintro e w30 ⟨v178, rfl, ho0, hb⟩
      refine ⟨_, rfl, ?_⟩
      replace HO174 := kdB HO174 hb
      have HO179 := Aside0.mk (Kd.R_lower ho0 (below_size (hbA HB.out)))
      replace BK171 := bkB BK171 hb
      replace HB := hbB HB hb
      (try clear hb)
      (try clear hb2)
      (try clear hk)
      (try clear hi)
      (try clear ho0)
      refine hK.out _ _ ⟨(blk_cell BK171.out 0).trans rfl, (blk_cell BK171.out 1).trans rfl, (blk_cell BK171.out 2).trans rfl⟩ (fun hHeld => ?_)
      clear hK K
      refine norm_ (a' := ?_) ?_ ?_
      rotate_left
      ·show Act.put _ (some 16) _ = _
       simp only [Act.put, List.setIfInBounds_toArray, List.set_cons_zero, List.set_cons_succ, i64_w, i32_w]
       rfl
      refine pu 5 (some 11) (mB 11 63) HT_ ?_
      refine pu 6 (some 17) (mB 11 127) HT_ ?_
      refine pu 7 (some 18) (mB 11 255) HT_ ?_
      refine one_ (i := 8) (N := some 7) (mB 11 511) rfl rfl (one_of HT_.out (by kernel_rfl)) (by decide) (fun K hK => ?_)
      refine box_step ?hg (N := 7) ?hd (cs := #[.int .i64 0, .int .i64 0, .slice none 0 0]) (t := 24) ?hr ?_; (case hd => rfl); (case hg => rfl); (case hr => first | (go_simp; done) | (go_simp; rfl))
      intro gb181 hg w31 hbox hb
      replace HO174 := kdB HO174 hb
      replace HO179 := kdB HO179 hb
      have BK181 := Aside0.mk (hbox)
      have GW181 := hbS HB hg
      have GE181 := hbS HB hg
      replace HB := hbB HB hb
      have NB171_181 := neL BK171 hg
      have NB181_171 := neG BK171 hg
      replace BK171 := bkB BK171 hb
      clear hb hbox hg
      refine hK.out _ _ ⟨(blk_cell BK171.out 0).trans rfl, (blk_cell BK171.out 1).trans rfl, (blk_cell BK171.out 2).trans rfl⟩ (fun hHeld => ?_)
      clear hK K
      refine norm_ (a' := ?_) ?_ ?_
      rotate_left
      ·show Act.put _ (some 7) _ = _
       simp only [Act.put, List.setIfInBounds_toArray, List.set_cons_zero, List.set_cons_succ, i64_w, i32_w]
       rfl
      exact norm_ (by simp only [putAll, Act.put, List.setIfInBounds_toArray, List.set_cons_zero, List.set_cons_succ]) (hCont (.slice Ao29 t172.length co29, v178, gb181) _ ⟨hHeld, (kdA HO174.out), (kdA HO179.out), (bkA BK171.out), (bkA BK181.out), GW181.out, GE181.out, NB171_181.out, NB181_171.out, (hbA HB.out)⟩)
     ·skip
      refine box_step ?hg (N := 7) ?hd (cs := #[.int .i64 0, .int .i64 0, .slice none 0 0]) (t := 24) ?hr ?_; (case hd => rfl); (case hg => rfl); (case hr => first | (go_simp; done) | (go_simp; rfl))
      intro gb181 hg w29 hbox hb
      replace HO174 := kdB HO174 hb
      have BK181 := Aside0.mk (hbox)
      have GW181 := hbS HB hg
      have GE181 := hbS HB hg
      replace HB := hbB HB hb
      have NB171_181 := neL BK171 hg
      have NB181_171 := neG BK171 hg
      replace BK171 := bkB BK171 hb
      clear hb hbox hg
      obtain ⟨Ao30, co30, eo30⟩ := Kd.R_slice HO174.out
      (first | subst eo30 | (injection eo30 with f1_ f2_ f3_; have f4_ := f1_.symm; have f5_ := f3_.symm; clear f1_ f2_ f3_; subst f4_; subst f5_))
      refine hK.out _ _ ⟨(blk_cell BK171.out 0).trans rfl, (blk_cell BK171.out 1).trans rfl, (blk_cell BK171.out 2).trans rfl⟩ (fun hHeld => ?_)
      clear hK K
      refine norm_ (a' := ?_) ?_ ?_
      rotate_left
      ·show Act.put _ (some 7) _ = _
       simp only [Act.put, List.setIfInBounds_toArray, List.set_cons_zero, List.set_cons_succ, i64_w, i32_w]
       rfl
      refine one_ (i := 4) (N := some 16) (mB 11 287) rfl rfl (one_of HT_.out (by kernel_rfl)) (by decide) (fun K hK => ?_)
      refine goes_ Tryd.func34 (by kernel_rfl) rfl #[.agg #[.int .i64 a0_0, .int .i64 a0_1, .slice A0_2 l0_2.length c0_2], .slice Ao30 t172.length co30] (by rfl) rfl rfl (by (try simp only [List.map_toArray, List.map_cons, List.map_nil]); first | done | rfl | (simp only [List.length_drop, List.length_take]; rfl)) ?_
      with_reducible refine (matrix_Pick.calls a0_0 a0_1 _ _ l0_2 _ _ t172 t175 t176 t177 t180 _ ?side1 ?side2 ?side3 ?side4 A5.out).mono ?_
      (case side1 => exact kcB HR0_2 HB)
      (case side2 => exact HC0_2.out)
      (case side3 => exact kcA (Kd.R_reads' HO174.out).2.2)
      (case side4 => exact (Kd.R_reads' HO174.out).2.1)
      rintro e w31 ⟨v178, rfl, ho0, hb⟩
      refine ⟨_, rfl, ?_⟩
      replace HO174 := kdB HO174 hb
      have HO179 := Aside0.mk (Kd.R_lower ho0 (below_size (hbA HB.out)))
      replace BK171 := bkB BK171 hb
      replace BK181 := bkB BK181 hb
      replace HB := hbB HB hb
      (try clear hb)
      (try clear hb2)
      (try clear hk)
      (try clear hi)
      (try clear ho0)
      refine hK.out _ _ ⟨(blk_cell BK171.out 0).trans rfl, (blk_cell BK171.out 1).trans rfl, (blk_cell BK171.out 2).trans rfl⟩ (fun hHeld => ?_)
      clear hK K
      refine norm_ (a' := ?_) ?_ ?_
      rotate_left
      ·show Act.put _ (some 16) _ = _
       simp only [Act.put, List.setIfInBounds_toArray, List.set_cons_zero, List.set_cons_succ, i64_w, i32_w]
       rfl
      refine pu 5 (some 11) (mB 11 319) HT_ ?_
      refine pu 6 (some 17) (mB 11 383) HT_ ?_
      refine pu 7 (some 18) (mB 11 511) HT_ ?_
      exact norm_ (by simp only [putAll, Act.put, List.setIfInBounds_toArray, List.set_cons_zero, List.set_cons_succ]) (hCont (.slice Ao30 t172.length co30, v178, gb181) _ ⟨hHeld, (kdA HO174.out), (kdA HO179.out), (bkA BK171.out), (bkA BK181.out), GW181.out, GE181.out, NB171_181.out, NB181_171.out, (hbA HB.out)⟩)
    ·skip
     refine box_step ?hg (N := 7) ?hd (cs := #[.int .i64 0, .int .i64 0, .slice none 0 0]) (t := 24) ?hr ?_; (case hd => rfl); (case hg => rfl); (case hr => first | (go_simp; done) | (go_simp; rfl))
     intro gb181 hg w28 hbox hb
     have BK181 := Aside0.mk (hbox)
     have GW181 := hbS HB hg
     have GE181 := hbS HB hg
     replace HB := hbB HB hb
     have NB171_181 := neL BK171 hg
     have NB181_171 := neG BK171 hg
     replace BK171 := bkB BK171 hb
     clear hb hbox hg
     refine hK.out _ _ ⟨(blk_cell BK171.out 0).trans rfl, (blk_cell BK171.out 1).trans rfl, (blk_cell BK171.out 2).trans rfl⟩ (fun hHeld => ?_)
     clear hK K
     refine norm_ (a' := ?_) ?_ ?_
     rotate_left
     ·show Act.put _ (some 7) _ = _
      simp only [Act.put, List.setIfInBounds_toArray, List.set_cons_zero, List.set_cons_succ, i64_w, i32_w]
      rfl
     refine one_ (i := 3) (N := some 15) (mB 11 271) rfl rfl (one_of HT_.out (by kernel_rfl)) (by decide) (fun K hK => ?_)
     refine goes_ Tryd.func35 (by kernel_rfl) rfl #[.int .u64 a2] (by rfl) rfl rfl (by (try simp only [List.map_toArray, List.map_cons, List.map_nil]); first | done | rfl | (simp only [List.length_drop, List.length_take]; rfl)) ?_
     with_reducible refine (subset_List.calls k a2 t172 _ A4.out (tab_below HT.out (by repeat (first | (with_reducible first | exact HB.out | apply below_alloc | apply pw_below_drewN | apply below_drew1) | exact HB.out | exact Below.refl _ _)))).mono ?_
     rintro e w29 ⟨v173, rfl, ho0, hb⟩
     refine ⟨_, rfl, ?_⟩
     have HO174 := Aside0.mk (Kd.R_lower ho0 (below_size (hbA HB.out)))
     replace BK171 := bkB BK171 hb
     replace BK181 := bkB BK181 hb
     replace HB := hbB HB hb
     (try clear hb)
     (try clear hb2)
     (try clear hk)
     (try clear hi)
     (try clear ho0)
     obtain ⟨Ao30, co30, eo30⟩ := Kd.R_slice HO174.out
     (first | subst eo30 | (injection eo30 with f1_ f2_ f3_; have f4_ := f1_.symm; have f5_ := f3_.symm; clear f1_ f2_ f3_; subst f4_; subst f5_))
     refine hK.out _ _ ⟨(blk_cell BK171.out 0).trans rfl, (blk_cell BK171.out 1).trans rfl, (blk_cell BK171.out 2).trans rfl⟩ (fun hHeld => ?_)
     clear hK K
     refine norm_ (a' := ?_) ?_ ?_
     rotate_left
     ·show Act.put _ (some 15) _ = _
      simp only [Act.put, List.setIfInBounds_toArray, List.set_cons_zero, List.set_cons_succ, i64_w, i32_w]
      rfl
     refine one_ (i := 4) (N := some 16) (mB 11 287) rfl rfl (one_of HT_.out (by kernel_rfl)) (by decide) (fun K hK => ?_)
     refine goes_ Tryd.func34 (by kernel_rfl) rfl #[.agg #[.int .i64 a0_0, .int .i64 a0_1, .slice A0_2 l0_2.length c0_2], .slice Ao30 t172.length co30] (by rfl) rfl rfl (by (try simp only [List.map_toArray, List.map_cons, List.map_nil]); first | done | rfl | (simp only [List.length_drop, List.length_take]; rfl)) ?_
     with_reducible refine (matrix_Pick.calls a0_0 a0_1 _ _ l0_2 _ _ t172 t175 t176 t177 t180 _ ?side1 ?side2 ?side3 ?side4 A5.out).mono ?_
     (case side1 => exact kcB HR0_2 HB)
     (case side2 => exact HC0_2.out)
     (case side3 => exact kcA (Kd.R_reads' HO174.out).2.2)
     (case side4 => exact (Kd.R_reads' HO174.out).2.1)
     rintro e w31 ⟨v178, rfl, ho0, hb⟩
     refine ⟨_, rfl, ?_⟩
     replace HO174 := kdB HO174 hb
     have HO179 := Aside0.mk (Kd.R_lower ho0 (below_size (hbA HB.out)))
     replace BK171 := bkB BK171 hb
     replace BK181 := bkB BK181 hb
     replace HB := hbB HB hb
     (try clear hb)
     (try clear hb2)
     (try clear hk)
     (try clear hi)
     (try clear ho0)
     refine hK.out _ _ ⟨(blk_cell BK171.out 0).trans rfl, (blk_cell BK171.out 1).trans rfl, (blk_cell BK171.out 2).trans rfl⟩ (fun hHeld => ?_)
     clear hK K
     refine norm_ (a' := ?_) ?_ ?_
     rotate_left
     ·show Act.put _ (some 16) _ = _
      simp only [Act.put, List.setIfInBounds_toArray, List.set_cons_zero, List.set_cons_succ, i64_w, i32_w]
      rfl
     refine pu 5 (some 11) (mB 11 319) HT_ ?_
     refine pu 6 (some 17) (mB 11 383) HT_ ?_
     refine pu 7 (some 18) (mB 11 511) HT_ ?_
     exact norm_ (by simp only [putAll, Act.put, List.setIfInBounds_toArray, List.set_cons_zero, List.set_cons_succ]) (hCont (.slice Ao30 t172.length co30, v178, gb181) _ ⟨hHeld, (kdA HO174.out), (kdA HO179.out), (bkA BK171.out), (bkA BK181.out), GW181.out, GE181.out, NB171_181.out, NB181_171.out, (hbA HB.out)⟩)
   rintro ⟨v173, v178, gb181⟩ w32 ⟨hS_, h0_, h1_, h2_, h3_, h4_, h5_, h6_, h7_, h8_⟩
   have n0_ : Aside0 (Kd.R (Kd.int .i64) 3 w32 w.heap.size (fun _ => True) v173 t172) := ⟨h0_⟩
   have n1_ : Aside0 (Kd.R (Kd.int .u8) 5 w32 w.heap.size (fun _ => True) v178 t177) := ⟨h1_⟩
   have n2_ : Aside0 (w32.heap[gb171]? = some (.cells #[.int .i64 a0_0, .int .i64 a0_1, .slice A0_2 l0_2.length c0_2] 99 (0, 0))) := ⟨h2_⟩
   have n3_ : Aside0 (w32.heap[gb181]? = some (.cells #[.int .i64 0, .int .i64 0, .slice none 0 0] 24 (0, 0))) := ⟨h3_⟩
   have n4_ : Aside0 (w.heap.size ≤ gb181) := ⟨h4_⟩
   have n5_ : Aside0 (w.heap.size ≤ gb181) := ⟨h5_⟩
   have n6_ : Aside0 (gb171 ≠ gb181) := ⟨h6_⟩
   have n7_ : Aside0 (gb181 ≠ gb171) := ⟨h7_⟩
   have n8_ : Aside0 (Below w.heap.size w w32) := ⟨h8_⟩
   clear BK171
   clear HB
   clear h0_ h1_ h2_ h3_ h4_ h5_ h6_ h7_ h8_
   have HO174 := n0_
   have HO179 := n1_
   have BK171 := n2_
   have BK181 := n3_
   have GW181 := n4_
   have GE181 := n5_
   have NB171_181 := n6_
   have NB181_171 := n7_
   have HB := n8_
   clear n0_ n1_ n2_ n3_ n4_ n5_ n6_ n7_ n8_
   have hHeld : w32.cell? ⟨gb171, 0, none⟩ = some (.int .i64 a0_0) ∧ w32.cell? ⟨gb171, 1, none⟩ = some (.int .i64 a0_1) ∧ w32.cell? ⟨gb171, 2, none⟩ = some (.slice A0_2 l0_2.length c0_2) := hS_
   obtain ⟨Ao35, co35, eo35⟩ := Kd.R_slice HO179.out
   (first | subst eo35 | (injection eo35 with f1_ f2_ f3_; have f4_ := f1_.symm; have f5_ := f3_.symm; clear f1_ f2_ f3_; subst f4_; subst f5_))
   refine norm_ (a' := ?_) ?_ ?_
   rotate_left
   ·simp only [putAll, Act.put, List.setIfInBounds_toArray, List.set_cons_zero, List.set_cons_succ]
    rfl
   refine one_ (i := 9) (N := none) (mB 11 1023) rfl rfl (one_of HT_.out (by kernel_rfl)) (by decide) (fun K hK => ?_)
   have hs33 : w32.cell? ⟨gb181, 0, none⟩ = some (.int .i64 0) := (blk_cell BK181.out 0).trans rfl
   have hfs33 := blk_frozen BK181.out 0
   have hns33_0 := NB171_181.out
   have hms33_0 := NB181_171.out
   have hs34 : w32.cell? ⟨gb181, 1, none⟩ = some (.int .i64 0) := (blk_cell BK181.out 1).trans rfl
   have hfs34 := blk_frozen BK181.out 1
   have hns34_0 := NB171_181.out
   have hms34_0 := NB181_171.out
   have hs36 : w32.cell? ⟨gb181, 2, none⟩ = some (.slice none 0 0) := (blk_cell BK181.out 2).trans rfl
   have hfs36 := blk_frozen BK181.out 2
   have hns36_0 := NB171_181.out
   have hms36_0 := NB181_171.out
   refine skip_ (w1 := ?_) (by rfl) rfl ?_ ?_
   rotate_left
   ·go_simp
    rfl
   refine hK.out _ _ ⟨((cell_far (p := ⟨gb181, _, none⟩) NB171_181.out _).trans (((cell_far (p := ⟨gb181, _, none⟩) NB171_181.out _).trans (((cell_far (p := ⟨gb181, _, none⟩) NB171_181.out _).trans (hHeld.1)))))), ((cell_far (p := ⟨gb181, _, none⟩) NB171_181.out _).trans (((cell_far (p := ⟨gb181, _, none⟩) NB171_181.out _).trans (((cell_far (p := ⟨gb181, _, none⟩) NB171_181.out _).trans (hHeld.2.1)))))), ((cell_far (p := ⟨gb181, _, none⟩) NB171_181.out _).trans (((cell_far (p := ⟨gb181, _, none⟩) NB171_181.out _).trans (((cell_far (p := ⟨gb181, _, none⟩) NB171_181.out _).trans (hHeld.2.2))))))⟩ (fun hHeld => ?_)
   clear hK K
   refine pu 10 (some 8) (mB 11 2047) HT_ ?_
   refine done_ (done_of HT_.out (by kernel_rfl)) ?_
   try go_wp2
   have n0_ : Aside0 (Kd.R (Kd.int .i64) 3 (((w32.setCell ⟨gb181, 0, none⟩ (.int .i64 t175)).setCell ⟨gb181, 1, none⟩ (.int .i64 t176)).setCell ⟨gb181, 2, none⟩ (.slice Ao35 t177.length co35)) w.heap.size (fun _ => True) v173 t172) := ⟨by (with_reducible repeat (first | apply Kd.R_alloc | apply Kd.R_drewN | apply Kd.R_drew)); exact Kd.R_mono (Kd.R_far (p := ⟨gb181, 2, none⟩) (Kd.R_far (p := ⟨gb181, 1, none⟩) (Kd.R_far (p := ⟨gb181, 0, none⟩) (Kd.R_types HO174.out BK181.out (by decide)) (fun _ hk => hk.2) (.int .i64 t175)) (fun _ hk => hk.2) (.int .i64 t176)) (fun _ hk => hk.2) (.slice Ao35 t177.length co35)) (fun _ hk => trivial)⟩
   have n1_ : Aside0 (Kd.R (Kd.int .u8) 5 (((w32.setCell ⟨gb181, 0, none⟩ (.int .i64 t175)).setCell ⟨gb181, 1, none⟩ (.int .i64 t176)).setCell ⟨gb181, 2, none⟩ (.slice Ao35 t177.length co35)) w.heap.size (fun _ => True) (.slice Ao35 t177.length co35) t177) := ⟨by (with_reducible repeat (first | apply Kd.R_alloc | apply Kd.R_drewN | apply Kd.R_drew)); exact Kd.R_mono (Kd.R_far (p := ⟨gb181, 2, none⟩) (Kd.R_far (p := ⟨gb181, 1, none⟩) (Kd.R_far (p := ⟨gb181, 0, none⟩) (Kd.R_types HO179.out BK181.out (by decide)) (fun _ hk => hk.2) (.int .i64 t175)) (fun _ hk => hk.2) (.int .i64 t176)) (fun _ hk => hk.2) (.slice Ao35 t177.length co35)) (fun _ hk => trivial)⟩
   have n2_ : Aside0 ((((w32.setCell ⟨gb181, 0, none⟩ (.int .i64 t175)).setCell ⟨gb181, 1, none⟩ (.int .i64 t176)).setCell ⟨gb181, 2, none⟩ (.slice Ao35 t177.length co35)).heap[gb171]? = some (.cells #[.int .i64 a0_0, .int .i64 a0_1, .slice A0_2 l0_2.length c0_2] 99 (0, 0))) := ⟨by refine bkR ?_; refine blk_far ?_ NB171_181.out _; refine bkR ?_; refine blk_far ?_ NB171_181.out _; refine bkR ?_; refine blk_far ?_ NB171_181.out _; refine bkR ?_; exact BK171.out⟩
   have n3_ : Aside0 ((((w32.setCell ⟨gb181, 0, none⟩ (.int .i64 t175)).setCell ⟨gb181, 1, none⟩ (.int .i64 t176)).setCell ⟨gb181, 2, none⟩ (.slice Ao35 t177.length co35)).heap[gb181]? = some (.cells #[.int .i64 t175, .int .i64 t176, .slice Ao35 t177.length co35] 24 (0, 0))) := ⟨by refine bkR ?_; refine blk_put (cs := #[.int .i64 t175, .int .i64 t176, .slice none 0 0]) ?_ 2 _ rfl; refine bkR ?_; refine blk_put (cs := #[.int .i64 t175, .int .i64 0, .slice none 0 0]) ?_ 1 _ rfl; refine bkR ?_; refine blk_put (cs := #[.int .i64 0, .int .i64 0, .slice none 0 0]) ?_ 0 _ rfl; refine bkR ?_; exact BK181.out⟩
   have n4_ : Aside0 (Below w.heap.size w (((w32.setCell ⟨gb181, 0, none⟩ (.int .i64 t175)).setCell ⟨gb181, 1, none⟩ (.int .i64 t176)).setCell ⟨gb181, 2, none⟩ (.slice Ao35 t177.length co35))) := ⟨hbA HB.out⟩
   (try clear HO174)
   (try clear HO179)
   (try clear BK171)
   (try clear BK181)
   (try clear HB)
   generalize (((w32.setCell ⟨gb181, 0, none⟩ (.int .i64 t175)).setCell ⟨gb181, 1, none⟩ (.int .i64 t176)).setCell ⟨gb181, 2, none⟩ (.slice Ao35 t177.length co35)) = w37 at n0_ n1_ n2_ n3_ n4_ ⊢
   have HO174 := n0_
   have HO179 := n1_
   have BK171 := n2_
   have BK181 := n3_
   have HB := n4_
   clear n0_ n1_ n2_ n3_ n4_
   replace HO174 := Aside0.mk (Kd.R_drew HO174.out)
   replace HO179 := Aside0.mk (Kd.R_drew HO179.out)
   replace BK171 := Aside0.mk (blk_drew BK171.out)
   replace BK181 := Aside0.mk (blk_drew BK181.out)
   replace HB := Aside0.mk (below_drew1 HB.out)
   refine start_ (n := 12) (S := fun w' => w'.cell? ⟨gb181, 0, none⟩ = some (.int .i64 t175) ∧ w'.cell? ⟨gb181, 1, none⟩ = some (.int .i64 t176) ∧ w'.cell? ⟨gb181, 2, none⟩ = some (.slice Ao35 t177.length co35) ∧ w'.cell? ⟨gb171, 0, none⟩ = some (.int .i64 a0_0) ∧ w'.cell? ⟨gb171, 1, none⟩ = some (.int .i64 a0_1) ∧ w'.cell? ⟨gb171, 2, none⟩ = some (.slice A0_2 l0_2.length c0_2)) (ds := []) (.replicate 12 false) (by kernel_rfl) rfl rfl ⟨(blk_cell BK181.out 0).trans rfl, (blk_cell BK181.out 1).trans rfl, (blk_cell BK181.out 2).trans rfl, (blk_cell BK171.out 0).trans rfl, (blk_cell BK171.out 1).trans rfl, (blk_cell BK171.out 2).trans rfl⟩ (fun hHeld => ?_); refine with_tabW shape_rows_hangs.tab4 shape_rows_hangs.bits4 (fun HT_ HW_ => ?_)
   generalize w37.drew = w38 at HO174 HO179 BK171 BK181 HB hHeld ⊢
   refine pu 2 (some 24) (mB 12 4) HT_ ?_
   refine tk6 0 (some 22) (mB 12 5) HT_ HW_ hHeld ?_
   refine tk6 1 (some 23) (mB 12 7) HT_ HW_ hHeld ?_
   refine one_ (i := 3) (N := some 25) (mB 12 15) rfl rfl (one_of HT_.out (by kernel_rfl)) (by decide) (fun K hK => ?_)
   refine goes_ Tryd.func101 (by kernel_rfl) rfl #[.agg #[.int .i64 a0_0, .int .i64 a0_1, .slice A0_2 l0_2.length c0_2], .int .i64 a1] (by rfl) rfl rfl (by (try simp only [List.map_toArray, List.map_cons, List.map_nil]); first | done | rfl | (simp only [List.length_drop, List.length_take]; rfl)) ?_
   with_reducible refine (shape_rows_row.calls a0_0 a0_1 _ _ l0_2 a1 t182 _ ?side1 ?side2 A7.out).mono ?_
   (case side1 => exact kcB HR0_2 HB)
   (case side2 => exact HC0_2.out)
   rintro e w39 ⟨Ar_, cr_, rfl, ho0, hcr_, hb⟩
   refine ⟨_, rfl, ?_⟩
   replace HO174 := kdB HO174 hb
   have HO184 := Aside0.mk (And.intro ho0 hcr_)
   replace HO179 := kdB HO179 hb
   replace BK171 := bkB BK171 hb
   replace BK181 := bkB BK181 hb
   replace HB := hbB HB hb
   (try clear hb)
   (try clear hb2)
   (try clear hk)
   (try clear hi)
   (try clear ho0)
   refine hK.out _ _ ⟨(blk_cell BK181.out 0).trans rfl, (blk_cell BK181.out 1).trans rfl, (blk_cell BK181.out 2).trans rfl, (blk_cell BK171.out 0).trans rfl, (blk_cell BK171.out 1).trans rfl, (blk_cell BK171.out 2).trans rfl⟩ (fun hHeld => ?_)
   clear hK K
   refine norm_ (a' := ?_) ?_ ?_
   rotate_left
   ·show Act.put _ (some 25) _ = _
    simp only [Act.put, List.setIfInBounds_toArray, List.set_cons_zero, List.set_cons_succ, i64_w, i32_w]
    rfl
   refine one_ (i := 4) (N := some 26) (mB 12 31) rfl rfl (one_of HT_.out (by kernel_rfl)) (by decide) (fun K hK => ?_)
   refine goes_ Tryd.func36 (by kernel_rfl) rfl #[.agg #[.int .i64 t175, .int .i64 t176, .slice Ao35 t177.length co35], .slice Ar_ t182.length cr_] (by rfl) rfl rfl (by (try simp only [List.map_toArray, List.map_cons, List.map_nil]); first | done | rfl | (simp only [List.length_drop, List.length_take]; rfl)) ?_
   with_reducible refine (gauss_Combine.calls k t175 t176 _ _ t177 _ _ t182 t185 t188 t189 _ ?side1 ?side2 ?side3 ?side4 A8.out).mono ?_
   (case side1 => exact kcA (Kd.R_reads' HO179.out).2.2)
   (case side2 => exact (Kd.R_reads' HO179.out).2.1)
   (case side3 => exact HO184.out.1)
   (case side4 => exact HO184.out.2)
   rintro e w41 ⟨v186, rfl, ho0, hb⟩
   refine ⟨_, rfl, ?_⟩
   replace HO174 := kdB HO174 hb
   have HO187 := Aside0.mk (Kd.R_lower (Kd.R_new' ho0 (Kd.R_lt (kdA HO179.out))) (below_size (hbA HB.out)))
   replace HO179 := Aside0.mk (Kd.R_elder' (kdA HO179.out) (Kd.R_base ho0) hb)
   replace BK171 := bkB BK171 hb
   replace BK181 := bkB BK181 hb
   replace HB := hbB HB hb
   (try clear hb)
   (try clear hb2)
   (try clear hk)
   (try clear hi)
   (try clear ho0)
   refine hK.out _ _ ⟨(blk_cell BK181.out 0).trans rfl, (blk_cell BK181.out 1).trans rfl, (blk_cell BK181.out 2).trans rfl, (blk_cell BK171.out 0).trans rfl, (blk_cell BK171.out 1).trans rfl, (blk_cell BK171.out 2).trans rfl⟩ (fun hHeld => ?_)
   clear hK K
   refine norm_ (a' := ?_) ?_ ?_
   rotate_left
   ·show Act.put _ (some 26) _ = _
    simp only [Act.put, List.setIfInBounds_toArray, List.set_cons_zero, List.set_cons_succ, i64_w, i32_w]
    rfl
   refine pu 5 (some 21) (mB 12 63) HT_ ?_
   refine pu 6 (some 27) (mB 12 127) HT_ ?_
   refine pu 7 (some 28) (mB 12 255) HT_ ?_
   refine pu 8 (some 29) (mB 12 511) HT_ ?_
   refine pu 9 (some 9) (mB 12 1023) HT_ ?_
   refine pu 10 (some 10) (mB 12 2047) HT_ ?_
   refine pu 11 (some 8) (mB 12 4095) HT_ ?_
   refine done_ (done_of HT_.out (by kernel_rfl)) ?_
   try go_wp2
   go_ret
   exact ⟨rfE, hbA HB.out⟩
 ·rw [if_neg c6] at H
  have c6b0 : (t180 == 0) = false := beq_eq_false_iff_ne.mpr c6
  have c6b1 : (t180 != 0) = true := bne_iff_ne.mpr c6
  obtain rfl := Option.some.inj H
  go_enter Tryd.func87, Tryd.ntmps87
  try go_wp2_with (first | ((with_reducible refine gD 3 rfl ?_); refine bE 3 #[.int .i64 a0_0, .int .i64 a0_1, .slice A0_2 l0_2.length c0_2] 99 ?_; intro gb171 hg w42 hbox hb; have BK171 := Aside0.mk (hbox); have GW171 := hbS HB hg; have GE171 := hbS HB hg; replace HB := hbB HB hb; clear hb hbox hg))
  replace BK171 := Aside0.mk (blk_drew BK171.out)
  replace HB := Aside0.mk (below_drew1 HB.out)
  refine start_ (n := 11) (S := fun w' => w'.cell? ⟨gb171, 0, none⟩ = some (.int .i64 a0_0) ∧ w'.cell? ⟨gb171, 1, none⟩ = some (.int .i64 a0_1) ∧ w'.cell? ⟨gb171, 2, none⟩ = some (.slice A0_2 l0_2.length c0_2)) (ds := []) (.replicate 11 false) (by kernel_rfl) rfl rfl ⟨(blk_cell BK171.out 0).trans rfl, (blk_cell BK171.out 1).trans rfl, (blk_cell BK171.out 2).trans rfl⟩ (fun hHeld => ?_); refine with_tabW shape_rows_hangs.tab1 shape_rows_hangs.bits1 (fun HT_ HW_ => ?_)
  generalize w42.drew = w43 at BK171 HB hHeld ⊢
  refine pu 0 (some 12) (mB 11 1) HT_ ?_
  refine pu 2 (some 14) (mB 11 5) HT_ ?_
  refine tk3 1 (some 13) (mB 11 7) HT_ HW_ hHeld ?_
  refine join_ (σ := Value × Value × Nat) 2 (mB 11 511) (fun s_ => [(15, s_.1), (16, .tuple #[.agg #[.int .i64 t175, .int .i64 t176, s_.2.1], .int .i64 t180]), (7, .pointer (some ⟨s_.2.2, 0, none⟩)), (11, .tuple #[.agg #[.int .i64 t175, .int .i64 t176, s_.2.1], .int .i64 t180]), (17, .agg #[.int .i64 t175, .int .i64 t176, s_.2.1]), (18, .int .i64 t180)]) (fun s_ w' => (w'.cell? ⟨gb171, 0, none⟩ = some (.int .i64 a0_0) ∧ w'.cell? ⟨gb171, 1, none⟩ = some (.int .i64 a0_1) ∧ w'.cell? ⟨gb171, 2, none⟩ = some (.slice A0_2 l0_2.length c0_2)) ∧ (Kd.R (Kd.int .i64) 3 w' w.heap.size (fun _ => True) s_.1 t172) ∧ (Kd.R (Kd.int .u8) 5 w' w.heap.size (fun _ => True) s_.2.1 t177) ∧ (w'.heap[gb171]? = some (.cells #[.int .i64 a0_0, .int .i64 a0_1, .slice A0_2 l0_2.length c0_2] 99 (0, 0))) ∧ (w'.heap[s_.2.2]? = some (.cells #[.int .i64 0, .int .i64 0, .slice none 0 0] 24 (0, 0))) ∧ (w.heap.size ≤ s_.2.2) ∧ (w.heap.size ≤ s_.2.2) ∧ (gb171 ≠ s_.2.2) ∧ (s_.2.2 ≠ gb171) ∧ (Below w.heap.size w w')) ?_ ?_
  rotate_left
  ·intro hCont
   refine two_ (i := 3) (j := 8) (Ni := some 15) (Nj := some 7) (mB 11 15) (mB 11 263) rfl rfl rfl rfl (two_of HT_.out (by kernel_rfl)) (by decide) (by decide) (fun K hK => ?_) (fun K hK => ?_)
   ·skip
    refine goes_ Tryd.func35 (by kernel_rfl) rfl #[.int .u64 a2] (by rfl) rfl rfl (by (try simp only [List.map_toArray, List.map_cons, List.map_nil]); first | done | rfl | (simp only [List.length_drop, List.length_take]; rfl)) ?_
    with_reducible refine (subset_List.calls k a2 t172 _ A4.out (tab_below HT.out (by repeat (first | (with_reducible first | exact HB.out | apply below_alloc | apply pw_below_drewN | apply below_drew1) | exact HB.out | exact Below.refl _ _)))).mono ?_
    rintro e w44 ⟨v173, rfl, ho0, hb⟩
    refine ⟨_, rfl, ?_⟩
    have HO174 := Aside0.mk (Kd.R_lower ho0 (below_size (hbA HB.out)))
    replace BK171 := bkB BK171 hb
    replace HB := hbB HB hb
    (try clear hb)
    (try clear hb2)
    (try clear hk)
    (try clear hi)
    (try clear ho0)
    obtain ⟨Ao45, co45, eo45⟩ := Kd.R_slice HO174.out
    (first | subst eo45 | (injection eo45 with f1_ f2_ f3_; have f4_ := f1_.symm; have f5_ := f3_.symm; clear f1_ f2_ f3_; subst f4_; subst f5_))
    refine hK.out _ _ ⟨(blk_cell BK171.out 0).trans rfl, (blk_cell BK171.out 1).trans rfl, (blk_cell BK171.out 2).trans rfl⟩ (fun hHeld => ?_)
    clear hK K
    refine norm_ (a' := ?_) ?_ ?_
    rotate_left
    ·show Act.put _ (some 15) _ = _
     simp only [Act.put, List.setIfInBounds_toArray, List.set_cons_zero, List.set_cons_succ, i64_w, i32_w]
     rfl
    refine two_ (i := 4) (j := 8) (Ni := some 16) (Nj := some 7) (mB 11 31) (mB 11 271) rfl rfl rfl rfl (two_of HT_.out (by kernel_rfl)) (by decide) (by decide) (fun K hK => ?_) (fun K hK => ?_)
    ·skip
     refine goes_ Tryd.func34 (by kernel_rfl) rfl #[.agg #[.int .i64 a0_0, .int .i64 a0_1, .slice A0_2 l0_2.length c0_2], .slice Ao45 t172.length co45] (by rfl) rfl rfl (by (try simp only [List.map_toArray, List.map_cons, List.map_nil]); first | done | rfl | (simp only [List.length_drop, List.length_take]; rfl)) ?_
     with_reducible refine (matrix_Pick.calls a0_0 a0_1 _ _ l0_2 _ _ t172 t175 t176 t177 t180 _ ?side1 ?side2 ?side3 ?side4 A5.out).mono ?_
     (case side1 => exact kcB HR0_2 HB)
     (case side2 => exact HC0_2.out)
     (case side3 => exact kcA (Kd.R_reads' HO174.out).2.2)
     (case side4 => exact (Kd.R_reads' HO174.out).2.1)
     rintro e w46 ⟨v178, rfl, ho0, hb⟩
     refine ⟨_, rfl, ?_⟩
     replace HO174 := kdB HO174 hb
     have HO179 := Aside0.mk (Kd.R_lower ho0 (below_size (hbA HB.out)))
     replace BK171 := bkB BK171 hb
     replace HB := hbB HB hb
     (try clear hb)
     (try clear hb2)
     (try clear hk)
     (try clear hi)
     (try clear ho0)
     refine hK.out _ _ ⟨(blk_cell BK171.out 0).trans rfl, (blk_cell BK171.out 1).trans rfl, (blk_cell BK171.out 2).trans rfl⟩ (fun hHeld => ?_)
     clear hK K
     refine norm_ (a' := ?_) ?_ ?_
     rotate_left
     ·show Act.put _ (some 16) _ = _
      simp only [Act.put, List.setIfInBounds_toArray, List.set_cons_zero, List.set_cons_succ, i64_w, i32_w]
      rfl
     refine pu 5 (some 11) (mB 11 63) HT_ ?_
     refine pu 6 (some 17) (mB 11 127) HT_ ?_
     refine pu 7 (some 18) (mB 11 255) HT_ ?_
     refine one_ (i := 8) (N := some 7) (mB 11 511) rfl rfl (one_of HT_.out (by kernel_rfl)) (by decide) (fun K hK => ?_)
     refine box_step ?hg (N := 7) ?hd (cs := #[.int .i64 0, .int .i64 0, .slice none 0 0]) (t := 24) ?hr ?_; (case hd => rfl); (case hg => rfl); (case hr => first | (go_simp; done) | (go_simp; rfl))
     intro gb181 hg w47 hbox hb
     replace HO174 := kdB HO174 hb
     replace HO179 := kdB HO179 hb
     have BK181 := Aside0.mk (hbox)
     have GW181 := hbS HB hg
     have GE181 := hbS HB hg
     replace HB := hbB HB hb
     have NB171_181 := neL BK171 hg
     have NB181_171 := neG BK171 hg
     replace BK171 := bkB BK171 hb
     clear hb hbox hg
     refine hK.out _ _ ⟨(blk_cell BK171.out 0).trans rfl, (blk_cell BK171.out 1).trans rfl, (blk_cell BK171.out 2).trans rfl⟩ (fun hHeld => ?_)
     clear hK K
     refine norm_ (a' := ?_) ?_ ?_
     rotate_left
     ·show Act.put _ (some 7) _ = _
      simp only [Act.put, List.setIfInBounds_toArray, List.set_cons_zero, List.set_cons_succ, i64_w, i32_w]
      rfl
     exact norm_ (by simp only [putAll, Act.put, List.setIfInBounds_toArray, List.set_cons_zero, List.set_cons_succ]) (hCont (.slice Ao45 t172.length co45, v178, gb181) _ ⟨hHeld, (kdA HO174.out), (kdA HO179.out), (bkA BK171.out), (bkA BK181.out), GW181.out, GE181.out, NB171_181.out, NB181_171.out, (hbA HB.out)⟩)
    ·skip
     refine box_step ?hg (N := 7) ?hd (cs := #[.int .i64 0, .int .i64 0, .slice none 0 0]) (t := 24) ?hr ?_; (case hd => rfl); (case hg => rfl); (case hr => first | (go_simp; done) | (go_simp; rfl))
     intro gb181 hg w45 hbox hb
     replace HO174 := kdB HO174 hb
     have BK181 := Aside0.mk (hbox)
     have GW181 := hbS HB hg
     have GE181 := hbS HB hg
     replace HB := hbB HB hb
     have NB171_181 := neL BK171 hg
     have NB181_171 := neG BK171 hg
     replace BK171 := bkB BK171 hb
     clear hb hbox hg
     obtain ⟨Ao46, co46, eo46⟩ := Kd.R_slice HO174.out
     (first | subst eo46 | (injection eo46 with f1_ f2_ f3_; have f4_ := f1_.symm; have f5_ := f3_.symm; clear f1_ f2_ f3_; subst f4_; subst f5_))
     refine hK.out _ _ ⟨(blk_cell BK171.out 0).trans rfl, (blk_cell BK171.out 1).trans rfl, (blk_cell BK171.out 2).trans rfl⟩ (fun hHeld => ?_)
     clear hK K
     refine norm_ (a' := ?_) ?_ ?_
     rotate_left
     ·show Act.put _ (some 7) _ = _
      simp only [Act.put, List.setIfInBounds_toArray, List.set_cons_zero, List.set_cons_succ, i64_w, i32_w]
      rfl
     refine one_ (i := 4) (N := some 16) (mB 11 287) rfl rfl (one_of HT_.out (by kernel_rfl)) (by decide) (fun K hK => ?_)
     refine goes_ Tryd.func34 (by kernel_rfl) rfl #[.agg #[.int .i64 a0_0, .int .i64 a0_1, .slice A0_2 l0_2.length c0_2], .slice Ao46 t172.length co46] (by rfl) rfl rfl (by (try simp only [List.map_toArray, List.map_cons, List.map_nil]); first | done | rfl | (simp only [List.length_drop, List.length_take]; rfl)) ?_
     with_reducible refine (matrix_Pick.calls a0_0 a0_1 _ _ l0_2 _ _ t172 t175 t176 t177 t180 _ ?side1 ?side2 ?side3 ?side4 A5.out).mono ?_
     (case side1 => exact kcB HR0_2 HB)
     (case side2 => exact HC0_2.out)
     (case side3 => exact kcA (Kd.R_reads' HO174.out).2.2)
     (case side4 => exact (Kd.R_reads' HO174.out).2.1)
     rintro e w47 ⟨v178, rfl, ho0, hb⟩
     refine ⟨_, rfl, ?_⟩
     replace HO174 := kdB HO174 hb
     have HO179 := Aside0.mk (Kd.R_lower ho0 (below_size (hbA HB.out)))
     replace BK171 := bkB BK171 hb
     replace BK181 := bkB BK181 hb
     replace HB := hbB HB hb
     (try clear hb)
     (try clear hb2)
     (try clear hk)
     (try clear hi)
     (try clear ho0)
     refine hK.out _ _ ⟨(blk_cell BK171.out 0).trans rfl, (blk_cell BK171.out 1).trans rfl, (blk_cell BK171.out 2).trans rfl⟩ (fun hHeld => ?_)
     clear hK K
     refine norm_ (a' := ?_) ?_ ?_
     rotate_left
     ·show Act.put _ (some 16) _ = _
      simp only [Act.put, List.setIfInBounds_toArray, List.set_cons_zero, List.set_cons_succ, i64_w, i32_w]
      rfl
     refine pu 5 (some 11) (mB 11 319) HT_ ?_
     refine pu 6 (some 17) (mB 11 383) HT_ ?_
     refine pu 7 (some 18) (mB 11 511) HT_ ?_
     exact norm_ (by simp only [putAll, Act.put, List.setIfInBounds_toArray, List.set_cons_zero, List.set_cons_succ]) (hCont (.slice Ao46 t172.length co46, v178, gb181) _ ⟨hHeld, (kdA HO174.out), (kdA HO179.out), (bkA BK171.out), (bkA BK181.out), GW181.out, GE181.out, NB171_181.out, NB181_171.out, (hbA HB.out)⟩)
   ·skip
    refine box_step ?hg (N := 7) ?hd (cs := #[.int .i64 0, .int .i64 0, .slice none 0 0]) (t := 24) ?hr ?_; (case hd => rfl); (case hg => rfl); (case hr => first | (go_simp; done) | (go_simp; rfl))
    intro gb181 hg w44 hbox hb
    have BK181 := Aside0.mk (hbox)
    have GW181 := hbS HB hg
    have GE181 := hbS HB hg
    replace HB := hbB HB hb
    have NB171_181 := neL BK171 hg
    have NB181_171 := neG BK171 hg
    replace BK171 := bkB BK171 hb
    clear hb hbox hg
    refine hK.out _ _ ⟨(blk_cell BK171.out 0).trans rfl, (blk_cell BK171.out 1).trans rfl, (blk_cell BK171.out 2).trans rfl⟩ (fun hHeld => ?_)
    clear hK K
    refine norm_ (a' := ?_) ?_ ?_
    rotate_left
    ·show Act.put _ (some 7) _ = _
     simp only [Act.put, List.setIfInBounds_toArray, List.set_cons_zero, List.set_cons_succ, i64_w, i32_w]
     rfl
    refine one_ (i := 3) (N := some 15) (mB 11 271) rfl rfl (one_of HT_.out (by kernel_rfl)) (by decide) (fun K hK => ?_)
    refine goes_ Tryd.func35 (by kernel_rfl) rfl #[.int .u64 a2] (by rfl) rfl rfl (by (try simp only [List.map_toArray, List.map_cons, List.map_nil]); first | done | rfl | (simp only [List.length_drop, List.length_take]; rfl)) ?_
    with_reducible refine (subset_List.calls k a2 t172 _ A4.out (tab_below HT.out (by repeat (first | (with_reducible first | exact HB.out | apply below_alloc | apply pw_below_drewN | apply below_drew1) | exact HB.out | exact Below.refl _ _)))).mono ?_
    rintro e w45 ⟨v173, rfl, ho0, hb⟩
    refine ⟨_, rfl, ?_⟩
    have HO174 := Aside0.mk (Kd.R_lower ho0 (below_size (hbA HB.out)))
    replace BK171 := bkB BK171 hb
    replace BK181 := bkB BK181 hb
    replace HB := hbB HB hb
    (try clear hb)
    (try clear hb2)
    (try clear hk)
    (try clear hi)
    (try clear ho0)
    obtain ⟨Ao46, co46, eo46⟩ := Kd.R_slice HO174.out
    (first | subst eo46 | (injection eo46 with f1_ f2_ f3_; have f4_ := f1_.symm; have f5_ := f3_.symm; clear f1_ f2_ f3_; subst f4_; subst f5_))
    refine hK.out _ _ ⟨(blk_cell BK171.out 0).trans rfl, (blk_cell BK171.out 1).trans rfl, (blk_cell BK171.out 2).trans rfl⟩ (fun hHeld => ?_)
    clear hK K
    refine norm_ (a' := ?_) ?_ ?_
    rotate_left
    ·show Act.put _ (some 15) _ = _
     simp only [Act.put, List.setIfInBounds_toArray, List.set_cons_zero, List.set_cons_succ, i64_w, i32_w]
     rfl
    refine one_ (i := 4) (N := some 16) (mB 11 287) rfl rfl (one_of HT_.out (by kernel_rfl)) (by decide) (fun K hK => ?_)
    refine goes_ Tryd.func34 (by kernel_rfl) rfl #[.agg #[.int .i64 a0_0, .int .i64 a0_1, .slice A0_2 l0_2.length c0_2], .slice Ao46 t172.length co46] (by rfl) rfl rfl (by (try simp only [List.map_toArray, List.map_cons, List.map_nil]); first | done | rfl | (simp only [List.length_drop, List.length_take]; rfl)) ?_
    with_reducible refine (matrix_Pick.calls a0_0 a0_1 _ _ l0_2 _ _ t172 t175 t176 t177 t180 _ ?side1 ?side2 ?side3 ?side4 A5.out).mono ?_
    (case side1 => exact kcB HR0_2 HB)
    (case side2 => exact HC0_2.out)
    (case side3 => exact kcA (Kd.R_reads' HO174.out).2.2)
    (case side4 => exact (Kd.R_reads' HO174.out).2.1)
    rintro e w47 ⟨v178, rfl, ho0, hb⟩
    refine ⟨_, rfl, ?_⟩
    replace HO174 := kdB HO174 hb
    have HO179 := Aside0.mk (Kd.R_lower ho0 (below_size (hbA HB.out)))
    replace BK171 := bkB BK171 hb
    replace BK181 := bkB BK181 hb
    replace HB := hbB HB hb
    (try clear hb)
    (try clear hb2)
    (try clear hk)
    (try clear hi)
    (try clear ho0)
    refine hK.out _ _ ⟨(blk_cell BK171.out 0).trans rfl, (blk_cell BK171.out 1).trans rfl, (blk_cell BK171.out 2).trans rfl⟩ (fun hHeld => ?_)
    clear hK K
    refine norm_ (a' := ?_) ?_ ?_
    rotate_left
    ·show Act.put _ (some 16) _ = _
     simp only [Act.put, List.setIfInBounds_toArray, List.set_cons_zero, List.set_cons_succ, i64_w, i32_w]
     rfl
    refine pu 5 (some 11) (mB 11 319) HT_ ?_
    refine pu 6 (some 17) (mB 11 383) HT_ ?_
    refine pu 7 (some 18) (mB 11 511) HT_ ?_
    exact norm_ (by simp only [putAll, Act.put, List.setIfInBounds_toArray, List.set_cons_zero, List.set_cons_succ]) (hCont (.slice Ao46 t172.length co46, v178, gb181) _ ⟨hHeld, (kdA HO174.out), (kdA HO179.out), (bkA BK171.out), (bkA BK181.out), GW181.out, GE181.out, NB171_181.out, NB181_171.out, (hbA HB.out)⟩)
  rintro ⟨v173, v178, gb181⟩ w48 ⟨hS_, h0_, h1_, h2_, h3_, h4_, h5_, h6_, h7_, h8_⟩
  have n0_ : Aside0 (Kd.R (Kd.int .i64) 3 w48 w.heap.size (fun _ => True) v173 t172) := ⟨h0_⟩
  have n1_ : Aside0 (Kd.R (Kd.int .u8) 5 w48 w.heap.size (fun _ => True) v178 t177) := ⟨h1_⟩
  have n2_ : Aside0 (w48.heap[gb171]? = some (.cells #[.int .i64 a0_0, .int .i64 a0_1, .slice A0_2 l0_2.length c0_2] 99 (0, 0))) := ⟨h2_⟩
  have n3_ : Aside0 (w48.heap[gb181]? = some (.cells #[.int .i64 0, .int .i64 0, .slice none 0 0] 24 (0, 0))) := ⟨h3_⟩
  have n4_ : Aside0 (w.heap.size ≤ gb181) := ⟨h4_⟩
  have n5_ : Aside0 (w.heap.size ≤ gb181) := ⟨h5_⟩
  have n6_ : Aside0 (gb171 ≠ gb181) := ⟨h6_⟩
  have n7_ : Aside0 (gb181 ≠ gb171) := ⟨h7_⟩
  have n8_ : Aside0 (Below w.heap.size w w48) := ⟨h8_⟩
  clear BK171
  clear HB
  clear h0_ h1_ h2_ h3_ h4_ h5_ h6_ h7_ h8_
  have HO174 := n0_
  have HO179 := n1_
  have BK171 := n2_
  have BK181 := n3_
  have GW181 := n4_
  have GE181 := n5_
  have NB171_181 := n6_
  have NB181_171 := n7_
  have HB := n8_
  clear n0_ n1_ n2_ n3_ n4_ n5_ n6_ n7_ n8_
  have hHeld : w48.cell? ⟨gb171, 0, none⟩ = some (.int .i64 a0_0) ∧ w48.cell? ⟨gb171, 1, none⟩ = some (.int .i64 a0_1) ∧ w48.cell? ⟨gb171, 2, none⟩ = some (.slice A0_2 l0_2.length c0_2) := hS_
  obtain ⟨Ao51, co51, eo51⟩ := Kd.R_slice HO179.out
  (first | subst eo51 | (injection eo51 with f1_ f2_ f3_; have f4_ := f1_.symm; have f5_ := f3_.symm; clear f1_ f2_ f3_; subst f4_; subst f5_))
  refine norm_ (a' := ?_) ?_ ?_
  rotate_left
  ·simp only [putAll, Act.put, List.setIfInBounds_toArray, List.set_cons_zero, List.set_cons_succ]
   rfl
  refine one_ (i := 9) (N := none) (mB 11 1023) rfl rfl (one_of HT_.out (by kernel_rfl)) (by decide) (fun K hK => ?_)
  have hs49 : w48.cell? ⟨gb181, 0, none⟩ = some (.int .i64 0) := (blk_cell BK181.out 0).trans rfl
  have hfs49 := blk_frozen BK181.out 0
  have hns49_0 := NB171_181.out
  have hms49_0 := NB181_171.out
  have hs50 : w48.cell? ⟨gb181, 1, none⟩ = some (.int .i64 0) := (blk_cell BK181.out 1).trans rfl
  have hfs50 := blk_frozen BK181.out 1
  have hns50_0 := NB171_181.out
  have hms50_0 := NB181_171.out
  have hs52 : w48.cell? ⟨gb181, 2, none⟩ = some (.slice none 0 0) := (blk_cell BK181.out 2).trans rfl
  have hfs52 := blk_frozen BK181.out 2
  have hns52_0 := NB171_181.out
  have hms52_0 := NB181_171.out
  refine skip_ (w1 := ?_) (by rfl) rfl ?_ ?_
  rotate_left
  ·go_simp
   rfl
  refine hK.out _ _ ⟨((cell_far (p := ⟨gb181, _, none⟩) NB171_181.out _).trans (((cell_far (p := ⟨gb181, _, none⟩) NB171_181.out _).trans (((cell_far (p := ⟨gb181, _, none⟩) NB171_181.out _).trans (hHeld.1)))))), ((cell_far (p := ⟨gb181, _, none⟩) NB171_181.out _).trans (((cell_far (p := ⟨gb181, _, none⟩) NB171_181.out _).trans (((cell_far (p := ⟨gb181, _, none⟩) NB171_181.out _).trans (hHeld.2.1)))))), ((cell_far (p := ⟨gb181, _, none⟩) NB171_181.out _).trans (((cell_far (p := ⟨gb181, _, none⟩) NB171_181.out _).trans (((cell_far (p := ⟨gb181, _, none⟩) NB171_181.out _).trans (hHeld.2.2))))))⟩ (fun hHeld => ?_)
  clear hK K
  refine pu 10 (some 8) (mB 11 2047) HT_ ?_
  refine done_ (done_of HT_.out (by kernel_rfl)) ?_
  try go_wp2
  go_ret
  exact ⟨rfE, hbA HB.out⟩

end Go.Proofs.YtjgcocfnilhggaaDoor.Q
