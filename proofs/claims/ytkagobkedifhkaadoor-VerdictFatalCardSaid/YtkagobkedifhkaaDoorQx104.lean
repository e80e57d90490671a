/- Written by drive.py (a program of this repo, over the kit's print): each Go function named here answers what the Lean function beside it answers, wherever that one answers, in every world that meets the stated premises. -/
import Derived.Test.YtkagobkedifhkaaDoorQx0
import Derived.Test.YtkagobkedifhkaaDoorQx109
import Derived.Test.YtkagobkedifhkaaDoorQx113
import Derived.Test.YtkagobkedifhkaaDoorQx114
import Derived.Test.YtkagobkedifhkaaDoorQx115
import Derived.Test.YtkagobkedifhkaaDoorQx116
import Derived.Test.YtkagobkedifhkaaDoorQx118
import Derived.Test.YtkagobkedifhkaaDoorQx126
namespace Go.Proofs.YtkagobkedifhkaaDoor.Q
open Go.RowKit Go.Proofs.YtkagobkedifhkaaDoorW.PrintWords Go.Proofs.YtkagobkedifhkaaDoorW.PrintLast Go.Proofs.YtkagobkedifhkaaDoorW.PrintMore
attribute [local go_sem] max2_int min2_int max_two min_two max_three min_three max_four min_four   -- for this text's walks alone
set_option linter.unusedVariables false
set_option linter.unusedSimpArgs false
theorem tBtal {g : Nat} {tab : List Nat} {w W0 W : World} (h : TabAt g tab w) (B : Aside0 (Below w.heap.size w W0)) (k : Below w.heap.size w W0 → Below w.heap.size w W := by intro h_; repeat (first | (with_reducible first | exact h_ | apply below_alloc | apply pw_below_drewN | apply below_drew1 | refine below_set ?_ (Aside0.out (by assumption))) | exact h_)) : TabAt g tab W := tab_below h (k B.out)
theorem fRtal {α : Type} {d : Kd α} {e base t g : Nat} {ok : Nat → Prop} {w : World} {v : Value} {xs : List α} {cells : Array Value} (h : d.R e w base ok v xs) (hb : w.heap[g]? = some (.cells cells t (0, 0))) (u0 u1 u2 : Value) (ht : ∀ q, q ∈ e :: d.E → q ≠ t := by decide) : d.R e (((w.setCell ⟨g, 0, none⟩ u0).setCell ⟨g, 1, none⟩ u1).setCell ⟨g, 2, none⟩ u2) base ok v xs := Kd.R_mono (Kd.R_far (p := ⟨g, 2, none⟩) (Kd.R_far (p := ⟨g, 1, none⟩) (Kd.R_far (p := ⟨g, 0, none⟩) (Kd.R_types h hb ht) (fun _ hk => hk.2) u0) (fun _ hk => hk.2) u1) (fun _ hk => hk.2) u2) (fun _ h_ => h_.1)
def recouplaw18_VerdictFatal.f (k : Nat) (a0_0 : Int) (a0_1 : Int) (l0_2 : List Int) (a1 : Int) : Option (Bool) := (verdict_Recovers.f k a0_0 a0_1 l0_2 a1).bind fun bt349 => ((recouplaw18_generator.f k a0_0 a0_1 l0_2 a1).bind fun t351 => (if t351 = true then ((recoupref06_Full.f k a0_0).bind fun bt353 => ((recoupref06_List.f k (Go.bits .andNot .u64 bt353.1 a1)).bind fun t355 => ((recoupref03_Pick.f k a0_0 a0_1 l0_2 t355).bind fun bt358 => ((recoupref04_Kernel.f k bt358.1 bt358.2.1 bt358.2.2.1).bind fun bt365 => ((recouplaw18_anchored.f k).bind fun t372 => (if t372 = true then (if bt349.2 = 0 then (if (bt349.1 == (bt365.1 == 0)) = true then ((recoupref16_Generator.f a0_0 a0_1 l0_2).bind fun t373 => (some t373)) else (some false)) else (some false)) else (some false))))))) else ((recouplaw18_anchored.f k).bind fun t352 => (if t352 = true then (some (bt349.2 != 0)) else (some false)))))
def recouplaw18_VerdictFatal.T5 : Bool × List (List Nat × List Nat) := (true, [([], []), ([], []), ([], []), ([1, 2], [1, 2]), ([3], [3]), ([0, 4, 4], [0, 4]), ([5], [5]), ([6], [6]), ([6], [6]), ([], []), ([9, 7, 5, 0, 1, 2, 3, 4, 5, 6, 7, 9], [7, 9]), ([8, 10, 0, 1, 2, 3, 4, 5, 6, 7, 8, 9, 10], [8])])
def recouplaw18_VerdictFatal.B5 : List Nat := [0, 0, 0, 6, 14, 31, 63, 127, 127, 0, 767, 2047]
theorem recouplaw18_VerdictFatal.tab5 : rtab .any (opsOf Tryd.f4 5) = recouplaw18_VerdictFatal.T5 := by kernel_rfl
theorem recouplaw18_VerdictFatal.bits5 : waitsOk recouplaw18_VerdictFatal.T5.2 recouplaw18_VerdictFatal.B5 = true := by kernel_rfl
set_option maxHeartbeats 8000000 in
set_option maxRecDepth 100000 in
theorem recouplaw18_VerdictFatal.calls (k : Nat) (a0_0 : Int) (a0_1 : Int) (A0_2 : Option Addr) (c0_2 : Nat) (l0_2 : List Int) (a1 : Int) (r : Bool) (w : World) (hr0_2 : Kd.C (Kd.int .u8) w A0_2 l0_2.length l0_2) (hc0_2 : l0_2.length ≤ c0_2) (h : recouplaw18_VerdictFatal.f k a0_0 a0_1 l0_2 a1 = some r) (hT : TabAt 0 Lib.deBruijn64tab w) :
  Calls Tryd.prog 4 #[.agg #[.int .i64 a0_0, .int .i64 a0_1, .slice A0_2 l0_2.length c0_2], .int .u64 a1] w fun e w' => e = .returned (.bool r) ∧ Below w.heap.size w w' := by
 have HT := Aside0.mk hT
 clear hT
 have hu24 := Tryd.underlying24
 have HR0_2 := Aside0.mk hr0_2
 have HC0_2 := Aside0.mk hc0_2
 clear hr0_2 hc0_2
 have HB := Aside0.mk (Below.refl w.heap.size w)
 have H : ((verdict_Recovers.f k a0_0 a0_1 l0_2 a1).bind fun bt349 => ((recouplaw18_generator.f k a0_0 a0_1 l0_2 a1).bind fun t351 => (if t351 = true then ((recoupref06_Full.f k a0_0).bind fun bt353 => ((recoupref06_List.f k (Go.bits .andNot .u64 bt353.1 a1)).bind fun t355 => ((recoupref03_Pick.f k a0_0 a0_1 l0_2 t355).bind fun bt358 => ((recoupref04_Kernel.f k bt358.1 bt358.2.1 bt358.2.2.1).bind fun bt365 => ((recouplaw18_anchored.f k).bind fun t372 => (if t372 = true then (if bt349.2 = 0 then (if (bt349.1 == (bt365.1 == 0)) = true then ((recoupref16_Generator.f a0_0 a0_1 l0_2).bind fun t373 => (some t373)) else (some false)) else (some false)) else (some false))))))) else ((recouplaw18_anchored.f k).bind fun t352 => (if t352 = true then (some (bt349.2 != 0)) else (some false)))))) = some r := h
 clear h
 obtain ⟨⟨t349, t350⟩, A3, H⟩ := bindO H
 (try dsimp only at H)
 obtain ⟨t351, A4, H⟩ := bindO H
 (try dsimp only at H)
 by_cases c5 : t351 = true
 ·subst c5
  rw [if_pos rfl] at H
  obtain ⟨⟨t353, t354⟩, A6, H⟩ := bindO H
  (try dsimp only at H)
  obtain ⟨t355, A7, H⟩ := bindO H
  (try dsimp only at H)
  obtain ⟨⟨t358, t359, t360, t363⟩, A8, H⟩ := bindO H
  (try dsimp only at H)
  obtain ⟨⟨t365, t366, t367, t370⟩, A9, H⟩ := bindO H
  (try dsimp only at H)
  obtain ⟨t372, A10, H⟩ := bindO H
  (try dsimp only at H)
  by_cases c11 : t372 = true
  ·subst c11
   rw [if_pos rfl] at H
   by_cases c12 : t350 = 0
   ·rw [if_pos c12] at H
    have c12b0 : (t350 == 0) = true := beq_iff_eq.mpr c12
    have c12b1 : (t350 != 0) = false := bne_eq_false_iff_eq.mpr c12
    clear c12
    by_cases c13 : (t349 == (t365 == 0)) = true
    ·rw [if_pos c13] at H
     have c13b0 : (t349 == (t365 == 0)) = true := c13
     (try (have c13b1 : decide (t349 = (t365 == 0)) = true := by simpa using c13))
     (try (have c13b2 : (t349 == (t365 == 0)) = true := by simpa using c13))
     clear c13
     obtain ⟨t373, A14, H⟩ := bindO H
     (try dsimp only at H)
     obtain rfl := Option.some.inj H
     go_enter Tryd.func4, Tryd.ntmps4
     try go_wp2_with (first | ((with_reducible refine gD 2 rfl ?_); refine bE 2 #[.int .i64 a0_0, .int .i64 a0_1, .slice A0_2 l0_2.length c0_2] 24 ?_; intro gb348 hg w15 hbox hb; have BK348 := Aside0.mk (hbox); have GW348 := Aside0.mk ((by rw [hg]; exact (below_size (by repeat (first | (with_reducible first | exact HB.out | apply below_alloc | apply pw_below_drewN | apply below_drew1 | refine below_set ?_ (Aside0.out (by assumption))) | exact HB.out))) : w.heap.size ≤ gb348)); have GE348 := Aside0.mk ((by rw [hg]; exact (below_size (by repeat (first | (with_reducible first | exact HB.out | apply below_alloc | apply pw_below_drewN | apply below_drew1 | refine below_set ?_ (Aside0.out (by assumption))) | exact HB.out))) : w.heap.size ≤ gb348)); replace HB := Aside0.mk (below_step (by repeat (first | (with_reducible first | exact HB.out | apply below_alloc | apply pw_below_drewN | apply below_drew1 | refine below_set ?_ (Aside0.out (by assumption))) | exact HB.out)) hb); clear hb hbox hg; obtain ⟨hcz16_0, hcz16_1, hcz16_2, hfz16_0, hfz16_1, hfz16_2⟩ := cell3 BK348) | ((with_reducible refine gC 9 rfl ?_); refine cG (some 16) Tryd.func9 #[.agg #[.int .i64 a0_0, .int .i64 a0_1, .slice A0_2 l0_2.length c0_2], .int .u64 a1] ?_; (with_reducible refine (verdict_Recovers.calls k a0_0 a0_1 _ _ l0_2 a1 t349 t350 _ ?side1 ?side2 A3.out (tBtal HT.out HB)).mono ?_); (case side1 => exact kcB HR0_2 HB); (case side2 => exact HC0_2.out); rintro e w17 ⟨rfl, hb⟩; refine ⟨_, rfl, ?_⟩; replace BK348 := bkB BK348 hb; replace HB := hbB HB hb; (try clear hb); (try clear hb2); (try clear hk); (try clear hi); obtain ⟨hcz18_0, hcz18_1, hcz18_2, hfz18_0, hfz18_1, hfz18_2⟩ := cell3 BK348) | ((with_reducible refine gC 13 rfl ?_); refine cG (some 21) Tryd.func13 #[.agg #[.int .i64 a0_0, .int .i64 a0_1, .slice A0_2 l0_2.length c0_2], .int .u64 a1] ?_; (with_reducible refine (recouplaw18_generator.calls k a0_0 a0_1 _ _ l0_2 a1 true _ ?side1 ?side2 A4.out).mono ?_); (case side1 => exact kcB HR0_2 HB); (case side2 => exact HC0_2.out); rintro e w19 ⟨rfl, hb⟩; refine ⟨_, rfl, ?_⟩; replace BK348 := bkB BK348 hb; replace HB := hbB HB hb; (try clear hb); (try clear hb2); (try clear hk); (try clear hi); obtain ⟨hcz20_0, hcz20_1, hcz20_2, hfz20_0, hfz20_1, hfz20_2⟩ := cell3 BK348) | ((with_reducible refine gC 15 rfl ?_); refine cG (some 31) Tryd.func15 #[.int .i64 a0_0] ?_; (with_reducible refine (recoupref06_Full.calls k a0_0 t353 t354 _ A6.out).mono ?_); rintro e w' ⟨rfl, ⟨nd, rfl⟩⟩; refine ⟨_, rfl, ?_⟩; (try (rw [drewN_self w19]; generalize hq_ : World.drewN w19 _ = w19; have n0_ : Aside0 (w19.heap[gb348]? = some (.cells #[.int .i64 a0_0, .int .i64 a0_1, .slice A0_2 l0_2.length c0_2] 24 (0, 0))) := ⟨by rw [← hq_]; exact (bkA BK348.out)⟩; have n1_ : Aside0 (Below w.heap.size w w19) := ⟨by rw [← hq_]; exact (hbA HB.out)⟩; clear BK348 HB hq_; have BK348 := n0_; have HB := n1_; clear n0_ n1_))))
     replace BK348 := Aside0.mk (blk_drew BK348.out)
     replace HB := Aside0.mk (below_drew1 HB.out)
     refine start_ (n := 12) (S := fun w' => w'.cell? ⟨gb348, 0, none⟩ = some (.int .i64 a0_0) ∧ w'.cell? ⟨gb348, 1, none⟩ = some (.int .i64 a0_1) ∧ w'.cell? ⟨gb348, 2, none⟩ = some (.slice A0_2 l0_2.length c0_2)) (ds := []) (.replicate 12 false) (by kernel_rfl) rfl rfl ⟨(blk_cell BK348.out 0).trans rfl, (blk_cell BK348.out 1).trans rfl, (blk_cell BK348.out 2).trans rfl⟩ (fun hHeld => ?_); refine with_tabW recouplaw18_VerdictFatal.tab5 recouplaw18_VerdictFatal.bits5 (fun HT_ HW_ => ?_)
     generalize w19.drew = w21 at BK348 HB hHeld ⊢
     refine pu 1 (some 36) (mB 12 2) HT_ ?_
     refine pu 2 (some 37) (mB 12 6) HT_ ?_
     refine pu 3 (some 38) (mB 12 14) HT_ ?_
     refine tk3 0 (some 35) (mB 12 15) HT_ HW_ hHeld ?_
     refine join_ (σ := Value × Value × Nat) 2 (mB 12 1023) (fun s_ => [(39, s_.1), (40, .tuple #[.agg #[.int .i64 t358, .int .i64 t359, s_.2.1], .int .i64 t363]), (9, .pointer (some ⟨s_.2.2, 0, none⟩)), (34, .tuple #[.agg #[.int .i64 t358, .int .i64 t359, s_.2.1], .int .i64 t363]), (41, .agg #[.int .i64 t358, .int .i64 t359, s_.2.1]), (42, .int .i64 t363)]) (fun s_ w' => (w'.cell? ⟨gb348, 0, none⟩ = some (.int .i64 a0_0) ∧ w'.cell? ⟨gb348, 1, none⟩ = some (.int .i64 a0_1) ∧ w'.cell? ⟨gb348, 2, none⟩ = some (.slice A0_2 l0_2.length c0_2)) ∧ (Kd.R (Kd.int .i64) 3 w' w.heap.size (fun _ => True) s_.1 t355) ∧ (Kd.R (Kd.int .u8) 5 w' w.heap.size (fun _ => True) s_.2.1 t360) ∧ (w'.heap[gb348]? = some (.cells #[.int .i64 a0_0, .int .i64 a0_1, .slice A0_2 l0_2.length c0_2] 24 (0, 0))) ∧ (w'.heap[s_.2.2]? = some (.cells #[.int .i64 0, .int .i64 0, .slice none 0 0] 24 (0, 0))) ∧ (w.heap.size ≤ s_.2.2) ∧ (w.heap.size ≤ s_.2.2) ∧ (gb348 ≠ s_.2.2) ∧ (s_.2.2 ≠ gb348) ∧ (Below w.heap.size w w')) ?_ ?_
     rotate_left
     ·intro hCont
      refine two_ (i := 4) (j := 9) (Ni := some 39) (Nj := some 9) (mB 12 31) (mB 12 527) rfl rfl rfl rfl (two_of HT_.out (by kernel_rfl)) (by decide) (by decide) (fun K hK => ?_) (fun K hK => ?_)
      ·skip
       refine goes_ Tryd.func17 (by kernel_rfl) rfl #[.int .u64 (Go.bits .andNot .u64 t353 a1)] (by rfl) rfl rfl (by (try simp only [List.map_toArray, List.map_cons, List.map_nil]); first | done | rfl | (simp only [List.length_drop, List.length_take]; rfl)) ?_
       with_reducible refine (recoupref06_List.calls k (Go.bits .andNot .u64 t353 a1) t355 _ A7.out).mono ?_
       rintro e w22 ⟨v356, rfl, ho0, hb⟩
       refine ⟨_, rfl, ?_⟩
       have HO357 := Aside0.mk (Kd.R_lower ho0 (below_size (hbA HB.out)))
       replace BK348 := bkB BK348 hb
       replace HB := hbB HB hb
       (try clear hb)
       (try clear hb2)
       (try clear hk)
       (try clear hi)
       (try clear ho0)
       obtain ⟨Ao23, co23, eo23⟩ := Kd.R_slice HO357.out
       (first | subst eo23 | (injection eo23 with f1_ f2_ f3_; have f4_ := f1_.symm; have f5_ := f3_.symm; clear f1_ f2_ f3_; subst f4_; subst f5_))
       refine hK.out _ _ ⟨(blk_cell BK348.out 0).trans rfl, (blk_cell BK348.out 1).trans rfl, (blk_cell BK348.out 2).trans rfl⟩ (fun hHeld => ?_)
       clear hK K
       refine norm_ (a' := ?_) ?_ ?_
       rotate_left
       ·show Act.put _ (some 39) _ = _
        simp only [Act.put, List.setIfInBounds_toArray, List.set_cons_zero, List.set_cons_succ, i64_w, i32_w]
        rfl
       refine two_ (i := 5) (j := 9) (Ni := some 40) (Nj := some 9) (mB 12 63) (mB 12 543) rfl rfl rfl rfl (two_of HT_.out (by kernel_rfl)) (by decide) (by decide) (fun K hK => ?_) (fun K hK => ?_)
       ·skip
        refine goes_ Tryd.func16 (by kernel_rfl) rfl #[.agg #[.int .i64 a0_0, .int .i64 a0_1, .slice A0_2 l0_2.length c0_2], .slice Ao23 t355.length co23] (by rfl) rfl rfl (by (try simp only [List.map_toArray, List.map_cons, List.map_nil]); first | done | rfl | (simp only [List.length_drop, List.length_take]; rfl)) ?_
        with_reducible refine (recoupref03_Pick.calls k a0_0 a0_1 _ _ l0_2 _ _ t355 t358 t359 t360 t363 _ ?side1 ?side2 ?side3 ?side4 A8.out).mono ?_
        (case side1 => exact kcB HR0_2 HB)
        (case side2 => exact HC0_2.out)
        (case side3 => exact kcA (Kd.R_reads' HO357.out).2.2)
        (case side4 => exact (Kd.R_reads' HO357.out).2.1)
        rintro e w24 ⟨v361, rfl, ho0, hb⟩
        refine ⟨_, rfl, ?_⟩
        replace HO357 := kdB HO357 hb
        have HO362 := Aside0.mk (Kd.R_lower ho0 (below_size (hbA HB.out)))
        replace BK348 := bkB BK348 hb
        replace HB := hbB HB hb
        (try clear hb)
        (try clear hb2)
        (try clear hk)
        (try clear hi)
        (try clear ho0)
        refine hK.out _ _ ⟨(blk_cell BK348.out 0).trans rfl, (blk_cell BK348.out 1).trans rfl, (blk_cell BK348.out 2).trans rfl⟩ (fun hHeld => ?_)
        clear hK K
        refine norm_ (a' := ?_) ?_ ?_
        rotate_left
        ·show Act.put _ (some 40) _ = _
         simp only [Act.put, List.setIfInBounds_toArray, List.set_cons_zero, List.set_cons_succ, i64_w, i32_w]
         rfl
        refine pu 6 (some 34) (mB 12 127) HT_ ?_
        refine pu 7 (some 41) (mB 12 255) HT_ ?_
        refine pu 8 (some 42) (mB 12 511) HT_ ?_
        refine one_ (i := 9) (N := some 9) (mB 12 1023) rfl rfl (one_of HT_.out (by kernel_rfl)) (by decide) (fun K hK => ?_)
        refine box_step ?hg (N := 9) ?hd (cs := #[.int .i64 0, .int .i64 0, .slice none 0 0]) (t := 24) ?hr ?_; (case hd => rfl); (case hg => rfl); (case hr => first | (go_simp; done) | (go_simp; rfl))
        intro gb364 hg w25 hbox hb
        replace HO357 := kdB HO357 hb
        replace HO362 := kdB HO362 hb
        have BK364 := Aside0.mk (hbox)
        have GW364 := hbS HB hg
        have GE364 := hbS HB hg
        replace HB := hbB HB hb
        have NB348_364 := neL BK348 hg
        have NB364_348 := neG BK348 hg
        replace BK348 := bkB BK348 hb
        clear hb hbox hg
        refine hK.out _ _ ⟨(blk_cell BK348.out 0).trans rfl, (blk_cell BK348.out 1).trans rfl, (blk_cell BK348.out 2).trans rfl⟩ (fun hHeld => ?_)
        clear hK K
        refine norm_ (a' := ?_) ?_ ?_
        rotate_left
        ·show Act.put _ (some 9) _ = _
         simp only [Act.put, List.setIfInBounds_toArray, List.set_cons_zero, List.set_cons_succ, i64_w, i32_w]
         rfl
        exact norm_ (by simp only [putAll, Act.put, List.setIfInBounds_toArray, List.set_cons_zero, List.set_cons_succ]) (hCont (.slice Ao23 t355.length co23, v361, gb364) _ ⟨hHeld, (kdA HO357.out), (kdA HO362.out), (bkA BK348.out), (bkA BK364.out), GW364.out, GE364.out, NB348_364.out, NB364_348.out, (hbA HB.out)⟩)
       ·skip
        refine box_step ?hg (N := 9) ?hd (cs := #[.int .i64 0, .int .i64 0, .slice none 0 0]) (t := 24) ?hr ?_; (case hd => rfl); (case hg => rfl); (case hr => first | (go_simp; done) | (go_simp; rfl))
        intro gb364 hg w23 hbox hb
        replace HO357 := kdB HO357 hb
        have BK364 := Aside0.mk (hbox)
        have GW364 := hbS HB hg
        have GE364 := hbS HB hg
        replace HB := hbB HB hb
        have NB348_364 := neL BK348 hg
        have NB364_348 := neG BK348 hg
        replace BK348 := bkB BK348 hb
        clear hb hbox hg
        obtain ⟨Ao24, co24, eo24⟩ := Kd.R_slice HO357.out
        (first | subst eo24 | (injection eo24 with f1_ f2_ f3_; have f4_ := f1_.symm; have f5_ := f3_.symm; clear f1_ f2_ f3_; subst f4_; subst f5_))
        refine hK.out _ _ ⟨(blk_cell BK348.out 0).trans rfl, (blk_cell BK348.out 1).trans rfl, (blk_cell BK348.out 2).trans rfl⟩ (fun hHeld => ?_)
        clear hK K
        refine norm_ (a' := ?_) ?_ ?_
        rotate_left
        ·show Act.put _ (some 9) _ = _
         simp only [Act.put, List.setIfInBounds_toArray, List.set_cons_zero, List.set_cons_succ, i64_w, i32_w]
         rfl
        refine one_ (i := 5) (N := some 40) (mB 12 575) rfl rfl (one_of HT_.out (by kernel_rfl)) (by decide) (fun K hK => ?_)
        refine goes_ Tryd.func16 (by kernel_rfl) rfl #[.agg #[.int .i64 a0_0, .int .i64 a0_1, .slice A0_2 l0_2.length c0_2], .slice Ao24 t355.length co24] (by rfl) rfl rfl (by (try simp only [List.map_toArray, List.map_cons, List.map_nil]); first | done | rfl | (simp only [List.length_drop, List.length_take]; rfl)) ?_
        with_reducible refine (recoupref03_Pick.calls k a0_0 a0_1 _ _ l0_2 _ _ t355 t358 t359 t360 t363 _ ?side1 ?side2 ?side3 ?side4 A8.out).mono ?_
        (case side1 => exact kcB HR0_2 HB)
        (case side2 => exact HC0_2.out)
        (case side3 => exact kcA (Kd.R_reads' HO357.out).2.2)
        (case side4 => exact (Kd.R_reads' HO357.out).2.1)
        rintro e w25 ⟨v361, rfl, ho0, hb⟩
        refine ⟨_, rfl, ?_⟩
        replace HO357 := kdB HO357 hb
        have HO362 := Aside0.mk (Kd.R_lower ho0 (below_size (hbA HB.out)))
        replace BK348 := bkB BK348 hb
        replace BK364 := bkB BK364 hb
        replace HB := hbB HB hb
        (try clear hb)
        (try clear hb2)
        (try clear hk)
        (try clear hi)
        (try clear ho0)
        refine hK.out _ _ ⟨(blk_cell BK348.out 0).trans rfl, (blk_cell BK348.out 1).trans rfl, (blk_cell BK348.out 2).trans rfl⟩ (fun hHeld => ?_)
        clear hK K
        refine norm_ (a' := ?_) ?_ ?_
        rotate_left
        ·show Act.put _ (some 40) _ = _
         simp only [Act.put, List.setIfInBounds_toArray, List.set_cons_zero, List.set_cons_succ, i64_w, i32_w]
         rfl
        refine pu 6 (some 34) (mB 12 639) HT_ ?_
        refine pu 7 (some 41) (mB 12 767) HT_ ?_
        refine pu 8 (some 42) (mB 12 1023) HT_ ?_
        exact norm_ (by simp only [putAll, Act.put, List.setIfInBounds_toArray, List.set_cons_zero, List.set_cons_succ]) (hCont (.slice Ao24 t355.length co24, v361, gb364) _ ⟨hHeld, (kdA HO357.out), (kdA HO362.out), (bkA BK348.out), (bkA BK364.out), GW364.out, GE364.out, NB348_364.out, NB364_348.out, (hbA HB.out)⟩)
      ·skip
       refine box_step ?hg (N := 9) ?hd (cs := #[.int .i64 0, .int .i64 0, .slice none 0 0]) (t := 24) ?hr ?_; (case hd => rfl); (case hg => rfl); (case hr => first | (go_simp; done) | (go_simp; rfl))
       intro gb364 hg w22 hbox hb
       have BK364 := Aside0.mk (hbox)
       have GW364 := hbS HB hg
       have GE364 := hbS HB hg
       replace HB := hbB HB hb
       have NB348_364 := neL BK348 hg
       have NB364_348 := neG BK348 hg
       replace BK348 := bkB BK348 hb
       clear hb hbox hg
       refine hK.out _ _ ⟨(blk_cell BK348.out 0).trans rfl, (blk_cell BK348.out 1).trans rfl, (blk_cell BK348.out 2).trans rfl⟩ (fun hHeld => ?_)
       clear hK K
       refine norm_ (a' := ?_) ?_ ?_
       rotate_left
       ·show Act.put _ (some 9) _ = _
        simp only [Act.put, List.setIfInBounds_toArray, List.set_cons_zero, List.set_cons_succ, i64_w, i32_w]
        rfl
       refine one_ (i := 4) (N := some 39) (mB 12 543) rfl rfl (one_of HT_.out (by kernel_rfl)) (by decide) (fun K hK => ?_)
       refine goes_ Tryd.func17 (by kernel_rfl) rfl #[.int .u64 (Go.bits .andNot .u64 t353 a1)] (by rfl) rfl rfl (by (try simp only [List.map_toArray, List.map_cons, List.map_nil]); first | done | rfl | (simp only [List.length_drop, List.length_take]; rfl)) ?_
       with_reducible refine (recoupref06_List.calls k (Go.bits .andNot .u64 t353 a1) t355 _ A7.out).mono ?_
       rintro e w23 ⟨v356, rfl, ho0, hb⟩
       refine ⟨_, rfl, ?_⟩
       have HO357 := Aside0.mk (Kd.R_lower ho0 (below_size (hbA HB.out)))
       replace BK348 := bkB BK348 hb
       replace BK364 := bkB BK364 hb
       replace HB := hbB HB hb
       (try clear hb)
       (try clear hb2)
       (try clear hk)
       (try clear hi)
       (try clear ho0)
       obtain ⟨Ao24, co24, eo24⟩ := Kd.R_slice HO357.out
       (first | subst eo24 | (injection eo24 with f1_ f2_ f3_; have f4_ := f1_.symm; have f5_ := f3_.symm; clear f1_ f2_ f3_; subst f4_; subst f5_))
       refine hK.out _ _ ⟨(blk_cell BK348.out 0).trans rfl, (blk_cell BK348.out 1).trans rfl, (blk_cell BK348.out 2).trans rfl⟩ (fun hHeld => ?_)
       clear hK K
       refine norm_ (a' := ?_) ?_ ?_
       rotate_left
       ·show Act.put _ (some 39) _ = _
        simp only [Act.put, List.setIfInBounds_toArray, List.set_cons_zero, List.set_cons_succ, i64_w, i32_w]
        rfl
       refine one_ (i := 5) (N := some 40) (mB 12 575) rfl rfl (one_of HT_.out (by kernel_rfl)) (by decide) (fun K hK => ?_)
       refine goes_ Tryd.func16 (by kernel_rfl) rfl #[.agg #[.int .i64 a0_0, .int .i64 a0_1, .slice A0_2 l0_2.length c0_2], .slice Ao24 t355.length co24] (by rfl) rfl rfl (by (try simp only [List.map_toArray, List.map_cons, List.map_nil]); first | done | rfl | (simp only [List.length_drop, List.length_take]; rfl)) ?_
       with_reducible refine (recoupref03_Pick.calls k a0_0 a0_1 _ _ l0_2 _ _ t355 t358 t359 t360 t363 _ ?side1 ?side2 ?side3 ?side4 A8.out).mono ?_
       (case side1 => exact kcB HR0_2 HB)
       (case side2 => exact HC0_2.out)
       (case side3 => exact kcA (Kd.R_reads' HO357.out).2.2)
       (case side4 => exact (Kd.R_reads' HO357.out).2.1)
       rintro e w25 ⟨v361, rfl, ho0, hb⟩
       refine ⟨_, rfl, ?_⟩
       replace HO357 := kdB HO357 hb
       have HO362 := Aside0.mk (Kd.R_lower ho0 (below_size (hbA HB.out)))
       replace BK348 := bkB BK348 hb
       replace BK364 := bkB BK364 hb
       replace HB := hbB HB hb
       (try clear hb)
       (try clear hb2)
       (try clear hk)
       (try clear hi)
       (try clear ho0)
       refine hK.out _ _ ⟨(blk_cell BK348.out 0).trans rfl, (blk_cell BK348.out 1).trans rfl, (blk_cell BK348.out 2).trans rfl⟩ (fun hHeld => ?_)
       clear hK K
       refine norm_ (a' := ?_) ?_ ?_
       rotate_left
       ·show Act.put _ (some 40) _ = _
        simp only [Act.put, List.setIfInBounds_toArray, List.set_cons_zero, List.set_cons_succ, i64_w, i32_w]
        rfl
       refine pu 6 (some 34) (mB 12 639) HT_ ?_
       refine pu 7 (some 41) (mB 12 767) HT_ ?_
       refine pu 8 (some 42) (mB 12 1023) HT_ ?_
       exact norm_ (by simp only [putAll, Act.put, List.setIfInBounds_toArray, List.set_cons_zero, List.set_cons_succ]) (hCont (.slice Ao24 t355.length co24, v361, gb364) _ ⟨hHeld, (kdA HO357.out), (kdA HO362.out), (bkA BK348.out), (bkA BK364.out), GW364.out, GE364.out, NB348_364.out, NB364_348.out, (hbA HB.out)⟩)
     rintro ⟨v356, v361, gb364⟩ w26 ⟨hS_, h0_, h1_, h2_, h3_, h4_, h5_, h6_, h7_, h8_⟩
     have n0_ : Aside0 (Kd.R (Kd.int .i64) 3 w26 w.heap.size (fun _ => True) v356 t355) := ⟨h0_⟩
     have n1_ : Aside0 (Kd.R (Kd.int .u8) 5 w26 w.heap.size (fun _ => True) v361 t360) := ⟨h1_⟩
     have n2_ : Aside0 (w26.heap[gb348]? = some (.cells #[.int .i64 a0_0, .int .i64 a0_1, .slice A0_2 l0_2.length c0_2] 24 (0, 0))) := ⟨h2_⟩
     have n3_ : Aside0 (w26.heap[gb364]? = some (.cells #[.int .i64 0, .int .i64 0, .slice none 0 0] 24 (0, 0))) := ⟨h3_⟩
     have n4_ : Aside0 (w.heap.size ≤ gb364) := ⟨h4_⟩
     have n5_ : Aside0 (w.heap.size ≤ gb364) := ⟨h5_⟩
     have n6_ : Aside0 (gb348 ≠ gb364) := ⟨h6_⟩
     have n7_ : Aside0 (gb364 ≠ gb348) := ⟨h7_⟩
     have n8_ : Aside0 (Below w.heap.size w w26) := ⟨h8_⟩
     clear BK348
     clear HB
     clear h0_ h1_ h2_ h3_ h4_ h5_ h6_ h7_ h8_
     have HO357 := n0_
     have HO362 := n1_
     have BK348 := n2_
     have BK364 := n3_
     have GW364 := n4_
     have GE364 := n5_
     have NB348_364 := n6_
     have NB364_348 := n7_
     have HB := n8_
     clear n0_ n1_ n2_ n3_ n4_ n5_ n6_ n7_ n8_
     have hHeld : w26.cell? ⟨gb348, 0, none⟩ = some (.int .i64 a0_0) ∧ w26.cell? ⟨gb348, 1, none⟩ = some (.int .i64 a0_1) ∧ w26.cell? ⟨gb348, 2, none⟩ = some (.slice A0_2 l0_2.length c0_2) := hS_
     obtain ⟨Ao29, co29, eo29⟩ := Kd.R_slice HO362.out
     (first | subst eo29 | (injection eo29 with f1_ f2_ f3_; have f4_ := f1_.symm; have f5_ := f3_.symm; clear f1_ f2_ f3_; subst f4_; subst f5_))
     refine norm_ (a' := ?_) ?_ ?_
     rotate_left
     ·simp only [putAll, Act.put, List.setIfInBounds_toArray, List.set_cons_zero, List.set_cons_succ]
      rfl
     refine one_ (i := 10) (N := none) (mB 12 2047) rfl rfl (one_of HT_.out (by kernel_rfl)) (by decide) (fun K hK => ?_)
     have hs27 : w26.cell? ⟨gb364, 0, none⟩ = some (.int .i64 0) := (blk_cell BK364.out 0).trans rfl
     have hfs27 := blk_frozen BK364.out 0
     have hns27_0 := NB348_364.out
     have hms27_0 := NB364_348.out
     have hs28 : w26.cell? ⟨gb364, 1, none⟩ = some (.int .i64 0) := (blk_cell BK364.out 1).trans rfl
     have hfs28 := blk_frozen BK364.out 1
     have hns28_0 := NB348_364.out
     have hms28_0 := NB364_348.out
     have hs30 : w26.cell? ⟨gb364, 2, none⟩ = some (.slice none 0 0) := (blk_cell BK364.out 2).trans rfl
     have hfs30 := blk_frozen BK364.out 2
     have hns30_0 := NB348_364.out
     have hms30_0 := NB364_348.out
     refine skip_ (w1 := ?_) (by rfl) rfl ?_ ?_
     rotate_left
     ·go_simp
      rfl
     refine hK.out _ _ ⟨((cell_far (p := ⟨gb364, _, none⟩) NB348_364.out _).trans (((cell_far (p := ⟨gb364, _, none⟩) NB348_364.out _).trans (((cell_far (p := ⟨gb364, _, none⟩) NB348_364.out _).trans (hHeld.1)))))), ((cell_far (p := ⟨gb364, _, none⟩) NB348_364.out _).trans (((cell_far (p := ⟨gb364, _, none⟩) NB348_364.out _).trans (((cell_far (p := ⟨gb364, _, none⟩) NB348_364.out _).trans (hHeld.2.1)))))), ((cell_far (p := ⟨gb364, _, none⟩) NB348_364.out _).trans (((cell_far (p := ⟨gb364, _, none⟩) NB348_364.out _).trans (((cell_far (p := ⟨gb364, _, none⟩) NB348_364.out _).trans (hHeld.2.2))))))⟩ (fun hHeld => ?_)
     clear hK K
     refine pu 11 (some 10) (mB 12 4095) HT_ ?_
     refine done_ (done_of HT_.out (by kernel_rfl)) ?_
     have hnb31 := NB364_348.out
     have hnc31 := NB348_364.out
     obtain ⟨hcz32_0, hcz32_1, hcz32_2, hfz32_0, hfz32_1, hfz32_2⟩ := cell3 BK364
     try go_wp2_with (first | ((with_reducible refine gC 18 rfl ?_); refine cG (some 45) Tryd.func18 #[.agg #[.int .i64 t358, .int .i64 t359, .slice Ao29 t360.length co29]] ?_; (with_reducible refine (recoupref04_Kernel.calls k t358 t359 _ _ t360 t365 t366 t367 t370 _ ?side1 ?side2 A9.out).mono ?_); (case side1 => refine (Kd.R_reads' (e := 5) (base := w.heap.size) (ok := fun k_ => True) (n := t360.length) (c := co29) ?_).2.2; exact (by (with_reducible repeat (first | apply Kd.R_alloc | apply Kd.R_drewN | apply Kd.R_drew)); exact (fRtal HO362.out BK364.out (.int .i64 t358) (.int .i64 t359) (.slice Ao29 t360.length co29)))); (case side2 => exact (Kd.R_reads' HO362.out).2.1); rintro e w33 ⟨v368, rfl, ho0, hb⟩; refine ⟨_, rfl, ?_⟩; replace HO357 := Aside0.mk (Kd.R_below (by (with_reducible repeat (first | apply Kd.R_alloc | apply Kd.R_drewN | apply Kd.R_drew)); exact (fRtal HO357.out BK364.out (.int .i64 t358) (.int .i64 t359) (.slice Ao29 t360.length co29))) hb); have HO369 := Aside0.mk (Kd.R_lower (Kd.R_new' ho0 (Kd.R_lt (by (with_reducible repeat (first | apply Kd.R_alloc | apply Kd.R_drewN | apply Kd.R_drew)); exact (fRtal HO362.out BK364.out (.int .i64 t358) (.int .i64 t359) (.slice Ao29 t360.length co29))))) (below_size (hbA HB.out))); replace HO362 := Aside0.mk (Kd.R_elder' (by (with_reducible repeat (first | apply Kd.R_alloc | apply Kd.R_drewN | apply Kd.R_drew)); exact (fRtal HO362.out BK364.out (.int .i64 t358) (.int .i64 t359) (.slice Ao29 t360.length co29))) (Kd.R_base ho0) hb); replace BK348 := Aside0.mk (blk_below (g := gb348) (o := .cells #[.int .i64 a0_0, .int .i64 a0_1, .slice A0_2 l0_2.length c0_2] 24 (0, 0)) (by refine bkR ?_; refine blk_far ?_ NB348_364.out _; refine bkR ?_; refine blk_far ?_ NB348_364.out _; refine bkR ?_; refine blk_far ?_ NB348_364.out _; refine bkR ?_; exact BK348.out) hb); replace BK364 := Aside0.mk (blk_below (g := gb364) (o := .cells #[.int .i64 t358, .int .i64 t359, .slice Ao29 t360.length co29] 24 (0, 0)) (by refine bkR ?_; refine blk_put (cs := #[.int .i64 t358, .int .i64 t359, .slice none 0 0]) ?_ 2 _ rfl; refine bkR ?_; refine blk_put (cs := #[.int .i64 t358, .int .i64 0, .slice none 0 0]) ?_ 1 _ rfl; refine bkR ?_; refine blk_put (cs := #[.int .i64 0, .int .i64 0, .slice none 0 0]) ?_ 0 _ rfl; refine bkR ?_; exact BK364.out) hb); replace HB := hbB HB hb; (try clear hb); (try clear hb2); (try clear hk); (try clear hi); (try clear ho0)) | ((with_reducible refine gD 11 rfl ?_); refine bE 11 #[.int .i64 0, .int .i64 0, .slice none 0 0] 24 ?_; intro gb371 hg w34 hbox hb; replace HO357 := kdB HO357 hb; replace HO362 := kdB HO362 hb; replace HO369 := kdB HO369 hb; have BK371 := Aside0.mk (hbox); have GW371 := hbS HB hg; have GE371 := hbS HB hg; replace HB := hbB HB hb; have NB348_371 := neL BK348 hg; have NB371_348 := neG BK348 hg; replace BK348 := bkB BK348 hb; have NB364_371 := neL BK364 hg; have NB371_364 := neG BK364 hg; replace BK364 := bkB BK364 hb; clear hb hbox hg; have hnb35 := NB371_348.out; have hnc35 := NB348_371.out; have hnb36 := NB371_364.out; have hnc36 := NB364_371.out; obtain ⟨hcz37_0, hcz37_1, hcz37_2, hfz37_0, hfz37_1, hfz37_2⟩ := cell3 BK371; obtain ⟨Ao38, co38, eo38⟩ := Kd.R_slice HO369.out; subst eo38) | ((with_reducible refine gC 14 rfl ?_); refine cG (some 48) Tryd.func14 #[] ?_; (with_reducible refine (recouplaw18_anchored.calls k  true _ A10.out (tBtal HT.out HB)).mono ?_); rintro e w39 ⟨rfl, hb⟩; refine ⟨_, rfl, ?_⟩; replace HO357 := Aside0.mk (Kd.R_below (by (with_reducible repeat (first | apply Kd.R_alloc | apply Kd.R_drewN | apply Kd.R_drew)); exact (fRtal HO357.out BK371.out (.int .i64 t365) (.int .i64 t366) (.slice Ao38 t367.length co38))) hb); replace HO362 := Aside0.mk (Kd.R_below (by (with_reducible repeat (first | apply Kd.R_alloc | apply Kd.R_drewN | apply Kd.R_drew)); exact (fRtal HO362.out BK371.out (.int .i64 t365) (.int .i64 t366) (.slice Ao38 t367.length co38))) hb); replace HO369 := Aside0.mk (Kd.R_below (by (with_reducible repeat (first | apply Kd.R_alloc | apply Kd.R_drewN | apply Kd.R_drew)); exact (fRtal HO369.out BK371.out (.int .i64 t365) (.int .i64 t366) (.slice Ao38 t367.length co38))) hb); replace BK348 := Aside0.mk (blk_below (g := gb348) (o := .cells #[.int .i64 a0_0, .int .i64 a0_1, .slice A0_2 l0_2.length c0_2] 24 (0, 0)) (by refine bkR ?_; refine blk_far ?_ NB348_371.out _; refine bkR ?_; refine blk_far ?_ NB348_371.out _; refine bkR ?_; refine blk_far ?_ NB348_371.out _; refine bkR ?_; exact BK348.out) hb); replace BK364 := Aside0.mk (blk_below (g := gb364) (o := .cells #[.int .i64 t358, .int .i64 t359, .slice Ao29 t360.length co29] 24 (0, 0)) (by refine bkR ?_; refine blk_far ?_ NB364_371.out _; refine bkR ?_; refine blk_far ?_ NB364_371.out _; refine bkR ?_; refine blk_far ?_ NB364_371.out _; refine bkR ?_; exact BK364.out) hb); replace BK371 := Aside0.mk (blk_below (g := gb371) (o := .cells #[.int .i64 t365, .int .i64 t366, .slice Ao38 t367.length co38] 24 (0, 0)) (by refine bkR ?_; refine blk_put (cs := #[.int .i64 t365, .int .i64 t366, .slice none 0 0]) ?_ 2 _ rfl; refine bkR ?_; refine blk_put (cs := #[.int .i64 t365, .int .i64 0, .slice none 0 0]) ?_ 1 _ rfl; refine bkR ?_; refine blk_put (cs := #[.int .i64 0, .int .i64 0, .slice none 0 0]) ?_ 0 _ rfl; refine bkR ?_; exact BK371.out) hb); replace HB := hbB HB hb; (try clear hb); (try clear hb2); (try clear hk); (try clear hi); obtain ⟨hcz40_0, hcz40_1, hcz40_2, hfz40_0, hfz40_1, hfz40_2⟩ := cell3 BK371; obtain ⟨hcz41_0, hcz41_1, hcz41_2, hfz41_0, hfz41_1, hfz41_2⟩ := cell3 BK348) | (go_at_call 19; (with_reducible refine (recoupref16_Generator.calls a0_0 a0_1 _ _ l0_2 t373 _ ?side1 ?side2 A14.out).mono ?_); (case side1 => exact kcB HR0_2 HB); (case side2 => exact HC0_2.out); rintro e w42 ⟨rfl, hb⟩; replace HO357 := kdB HO357 hb; replace HO362 := kdB HO362 hb; replace HO369 := kdB HO369 hb; replace BK348 := bkB BK348 hb; replace BK364 := bkB BK364 hb; replace BK371 := bkB BK371 hb; replace HB := hbB HB hb; (try clear hb); (try clear hb2); (try clear hk); (try clear hi)))
     go_ret
     exact ⟨rfE, hbA HB.out⟩
    ·rw [if_neg c13] at H
     have c13b0 : (t349 == (t365 == 0)) = false := by simpa using c13
     (try (have c13b1 : decide (t349 = (t365 == 0)) = false := by simpa using c13))
     (try (have c13b2 : (t349 == (t365 == 0)) = false := by simpa using c13))
     (try (have c13b3 : ¬ (t349 = (t365 == 0)) := by simpa using c13))
     clear c13
     obtain rfl := Option.some.inj H
     go_enter Tryd.func4, Tryd.ntmps4
     try go_wp2_with (first | ((with_reducible refine gD 2 rfl ?_); refine bE 2 #[.int .i64 a0_0, .int .i64 a0_1, .slice A0_2 l0_2.length c0_2] 24 ?_; intro gb348 hg w43 hbox hb; have BK348 := Aside0.mk (hbox); have GW348 := Aside0.mk ((by rw [hg]; exact (below_size (by repeat (first | (with_reducible first | exact HB.out | apply below_alloc | apply pw_below_drewN | apply below_drew1 | refine below_set ?_ (Aside0.out (by assumption))) | exact HB.out))) : w.heap.size ≤ gb348)); have GE348 := Aside0.mk ((by rw [hg]; exact (below_size (by repeat (first | (with_reducible first | exact HB.out | apply below_alloc | apply pw_below_drewN | apply below_drew1 | refine below_set ?_ (Aside0.out (by assumption))) | exact HB.out))) : w.heap.size ≤ gb348)); replace HB := Aside0.mk (below_step (by repeat (first | (with_reducible first | exact HB.out | apply below_alloc | apply pw_below_drewN | apply below_drew1 | refine below_set ?_ (Aside0.out (by assumption))) | exact HB.out)) hb); clear hb hbox hg; obtain ⟨hcz44_0, hcz44_1, hcz44_2, hfz44_0, hfz44_1, hfz44_2⟩ := cell3 BK348) | ((with_reducible refine gC 9 rfl ?_); refine cG (some 16) Tryd.func9 #[.agg #[.int .i64 a0_0, .int .i64 a0_1, .slice A0_2 l0_2.length c0_2], .int .u64 a1] ?_; (with_reducible refine (verdict_Recovers.calls k a0_0 a0_1 _ _ l0_2 a1 t349 t350 _ ?side1 ?side2 A3.out (tBtal HT.out HB)).mono ?_); (case side1 => exact kcB HR0_2 HB); (case side2 => exact HC0_2.out); rintro e w45 ⟨rfl, hb⟩; refine ⟨_, rfl, ?_⟩; replace BK348 := bkB BK348 hb; replace HB := hbB HB hb; (try clear hb); (try clear hb2); (try clear hk); (try clear hi); obtain ⟨hcz46_0, hcz46_1, hcz46_2, hfz46_0, hfz46_1, hfz46_2⟩ := cell3 BK348) | ((with_reducible refine gC 13 rfl ?_); refine cG (some 21) Tryd.func13 #[.agg #[.int .i64 a0_0, .int .i64 a0_1, .slice A0_2 l0_2.length c0_2], .int .u64 a1] ?_; (with_reducible refine (recouplaw18_generator.calls k a0_0 a0_1 _ _ l0_2 a1 true _ ?side1 ?side2 A4.out).mono ?_); (case side1 => exact kcB HR0_2 HB); (case side2 => exact HC0_2.out); rintro e w47 ⟨rfl, hb⟩; refine ⟨_, rfl, ?_⟩; replace BK348 := bkB BK348 hb; replace HB := hbB HB hb; (try clear hb); (try clear hb2); (try clear hk); (try clear hi); obtain ⟨hcz48_0, hcz48_1, hcz48_2, hfz48_0, hfz48_1, hfz48_2⟩ := cell3 BK348) | ((with_reducible refine gC 15 rfl ?_); refine cG (some 31) Tryd.func15 #[.int .i64 a0_0] ?_; (with_reducible refine (recoupref06_Full.calls k a0_0 t353 t354 _ A6.out).mono ?_); rintro e w' ⟨rfl, ⟨nd, rfl⟩⟩; refine ⟨_, rfl, ?_⟩; (try (rw [drewN_self w47]; generalize hq_ : World.drewN w47 _ = w47; have n0_ : Aside0 (w47.heap[gb348]? = some (.cells #[.int .i64 a0_0, .int .i64 a0_1, .slice A0_2 l0_2.length c0_2] 24 (0, 0))) := ⟨by rw [← hq_]; exact (bkA BK348.out)⟩; have n1_ : Aside0 (Below w.heap.size w w47) := ⟨by rw [← hq_]; exact (hbA HB.out)⟩; clear BK348 HB hq_; have BK348 := n0_; have HB := n1_; clear n0_ n1_))))
     replace BK348 := Aside0.mk (blk_drew BK348.out)
     replace HB := Aside0.mk (below_drew1 HB.out)
     refine start_ (n := 12) (S := fun w' => w'.cell? ⟨gb348, 0, none⟩ = some (.int .i64 a0_0) ∧ w'.cell? ⟨gb348, 1, none⟩ = some (.int .i64 a0_1) ∧ w'.cell? ⟨gb348, 2, none⟩ = some (.slice A0_2 l0_2.length c0_2)) (ds := []) (.replicate 12 false) (by kernel_rfl) rfl rfl ⟨(blk_cell BK348.out 0).trans rfl, (blk_cell BK348.out 1).trans rfl, (blk_cell BK348.out 2).trans rfl⟩ (fun hHeld => ?_); refine with_tabW recouplaw18_VerdictFatal.tab5 recouplaw18_VerdictFatal.bits5 (fun HT_ HW_ => ?_)
     generalize w47.drew = w49 at BK348 HB hHeld ⊢
     refine pu 1 (some 36) (mB 12 2) HT_ ?_
     refine pu 2 (some 37) (mB 12 6) HT_ ?_
     refine pu 3 (some 38) (mB 12 14) HT_ ?_
     refine tk3 0 (some 35) (mB 12 15) HT_ HW_ hHeld ?_
     refine join_ (σ := Value × Value × Nat) 2 (mB 12 1023) (fun s_ => [(39, s_.1), (40, .tuple #[.agg #[.int .i64 t358, .int .i64 t359, s_.2.1], .int .i64 t363]), (9, .pointer (some ⟨s_.2.2, 0, none⟩)), (34, .tuple #[.agg #[.int .i64 t358, .int .i64 t359, s_.2.1], .int .i64 t363]), (41, .agg #[.int .i64 t358, .int .i64 t359, s_.2.1]), (42, .int .i64 t363)]) (fun s_ w' => (w'.cell? ⟨gb348, 0, none⟩ = some (.int .i64 a0_0) ∧ w'.cell? ⟨gb348, 1, none⟩ = some (.int .i64 a0_1) ∧ w'.cell? ⟨gb348, 2, none⟩ = some (.slice A0_2 l0_2.length c0_2)) ∧ (Kd.R (Kd.int .i64) 3 w' w.heap.size (fun _ => True) s_.1 t355) ∧ (Kd.R (Kd.int .u8) 5 w' w.heap.size (fun _ => True) s_.2.1 t360) ∧ (w'.heap[gb348]? = some (.cells #[.int .i64 a0_0, .int .i64 a0_1, .slice A0_2 l0_2.length c0_2] 24 (0, 0))) ∧ (w'.heap[s_.2.2]? = some (.cells #[.int .i64 0, .int .i64 0, .slice none 0 0] 24 (0, 0))) ∧ (w.heap.size ≤ s_.2.2) ∧ (w.heap.size ≤ s_.2.2) ∧ (gb348 ≠ s_.2.2) ∧ (s_.2.2 ≠ gb348) ∧ (Below w.heap.size w w')) ?_ ?_
     rotate_left
     ·intro hCont
      refine two_ (i := 4) (j := 9) (Ni := some 39) (Nj := some 9) (mB 12 31) (mB 12 527) rfl rfl rfl rfl (two_of HT_.out (by kernel_rfl)) (by decide) (by decide) (fun K hK => ?_) (fun K hK => ?_)
      ·skip
       refine goes_ Tryd.func17 (by kernel_rfl) rfl #[.int .u64 (Go.bits .andNot .u64 t353 a1)] (by rfl) rfl rfl (by (try simp only [List.map_toArray, List.map_cons, List.map_nil]); first | done | rfl | (simp only [List.length_drop, List.length_take]; rfl)) ?_
       with_reducible refine (recoupref06_List.calls k (Go.bits .andNot .u64 t353 a1) t355 _ A7.out).mono ?_
       rintro e w50 ⟨v356, rfl, ho0, hb⟩
       refine ⟨_, rfl, ?_⟩
       have HO357 := Aside0.mk (Kd.R_lower ho0 (below_size (hbA HB.out)))
       replace BK348 := bkB BK348 hb
       replace HB := hbB HB hb
       (try clear hb)
       (try clear hb2)
       (try clear hk)
       (try clear hi)
       (try clear ho0)
       obtain ⟨Ao51, co51, eo51⟩ := Kd.R_slice HO357.out
       (first | subst eo51 | (injection eo51 with f1_ f2_ f3_; have f4_ := f1_.symm; have f5_ := f3_.symm; clear f1_ f2_ f3_; subst f4_; subst f5_))
       refine hK.out _ _ ⟨(blk_cell BK348.out 0).trans rfl, (blk_cell BK348.out 1).trans rfl, (blk_cell BK348.out 2).trans rfl⟩ (fun hHeld => ?_)
       clear hK K
       refine norm_ (a' := ?_) ?_ ?_
       rotate_left
       ·show Act.put _ (some 39) _ = _
        simp only [Act.put, List.setIfInBounds_toArray, List.set_cons_zero, List.set_cons_succ, i64_w, i32_w]
        rfl
       refine two_ (i := 5) (j := 9) (Ni := some 40) (Nj := some 9) (mB 12 63) (mB 12 543) rfl rfl rfl rfl (two_of HT_.out (by kernel_rfl)) (by decide) (by decide) (fun K hK => ?_) (fun K hK => ?_)
       ·skip
        refine goes_ Tryd.func16 (by kernel_rfl) rfl #[.agg #[.int .i64 a0_0, .int .i64 a0_1, .slice A0_2 l0_2.length c0_2], .slice Ao51 t355.length co51] (by rfl) rfl rfl (by (try simp only [List.map_toArray, List.map_cons, List.map_nil]); first | done | rfl | (simp only [List.length_drop, List.length_take]; rfl)) ?_
        with_reducible refine (recoupref03_Pick.calls k a0_0 a0_1 _ _ l0_2 _ _ t355 t358 t359 t360 t363 _ ?side1 ?side2 ?side3 ?side4 A8.out).mono ?_
        (case side1 => exact kcB HR0_2 HB)
        (case side2 => exact HC0_2.out)
        (case side3 => exact kcA (Kd.R_reads' HO357.out).2.2)
        (case side4 => exact (Kd.R_reads' HO357.out).2.1)
        rintro e w52 ⟨v361, rfl, ho0, hb⟩
        refine ⟨_, rfl, ?_⟩
        replace HO357 := kdB HO357 hb
        have HO362 := Aside0.mk (Kd.R_lower ho0 (below_size (hbA HB.out)))
        replace BK348 := bkB BK348 hb
        replace HB := hbB HB hb
        (try clear hb)
        (try clear hb2)
        (try clear hk)
        (try clear hi)
        (try clear ho0)
        refine hK.out _ _ ⟨(blk_cell BK348.out 0).trans rfl, (blk_cell BK348.out 1).trans rfl, (blk_cell BK348.out 2).trans rfl⟩ (fun hHeld => ?_)
        clear hK K
        refine norm_ (a' := ?_) ?_ ?_
        rotate_left
        ·show Act.put _ (some 40) _ = _
         simp only [Act.put, List.setIfInBounds_toArray, List.set_cons_zero, List.set_cons_succ, i64_w, i32_w]
         rfl
        refine pu 6 (some 34) (mB 12 127) HT_ ?_
        refine pu 7 (some 41) (mB 12 255) HT_ ?_
        refine pu 8 (some 42) (mB 12 511) HT_ ?_
        refine one_ (i := 9) (N := some 9) (mB 12 1023) rfl rfl (one_of HT_.out (by kernel_rfl)) (by decide) (fun K hK => ?_)
        refine box_step ?hg (N := 9) ?hd (cs := #[.int .i64 0, .int .i64 0, .slice none 0 0]) (t := 24) ?hr ?_; (case hd => rfl); (case hg => rfl); (case hr => first | (go_simp; done) | (go_simp; rfl))
        intro gb364 hg w53 hbox hb
        replace HO357 := kdB HO357 hb
        replace HO362 := kdB HO362 hb
        have BK364 := Aside0.mk (hbox)
        have GW364 := hbS HB hg
        have GE364 := hbS HB hg
        replace HB := hbB HB hb
        have NB348_364 := neL BK348 hg
        have NB364_348 := neG BK348 hg
        replace BK348 := bkB BK348 hb
        clear hb hbox hg
        refine hK.out _ _ ⟨(blk_cell BK348.out 0).trans rfl, (blk_cell BK348.out 1).trans rfl, (blk_cell BK348.out 2).trans rfl⟩ (fun hHeld => ?_)
        clear hK K
        refine norm_ (a' := ?_) ?_ ?_
        rotate_left
        ·show Act.put _ (some 9) _ = _
         simp only [Act.put, List.setIfInBounds_toArray, List.set_cons_zero, List.set_cons_succ, i64_w, i32_w]
         rfl
        exact norm_ (by simp only [putAll, Act.put, List.setIfInBounds_toArray, List.set_cons_zero, List.set_cons_succ]) (hCont (.slice Ao51 t355.length co51, v361, gb364) _ ⟨hHeld, (kdA HO357.out), (kdA HO362.out), (bkA BK348.out), (bkA BK364.out), GW364.out, GE364.out, NB348_364.out, NB364_348.out, (hbA HB.out)⟩)
       ·skip
        refine box_step ?hg (N := 9) ?hd (cs := #[.int .i64 0, .int .i64 0, .slice none 0 0]) (t := 24) ?hr ?_; (case hd => rfl); (case hg => rfl); (case hr => first | (go_simp; done) | (go_simp; rfl))
        intro gb364 hg w51 hbox hb
        replace HO357 := kdB HO357 hb
        have BK364 := Aside0.mk (hbox)
        have GW364 := hbS HB hg
        have GE364 := hbS HB hg
        replace HB := hbB HB hb
        have NB348_364 := neL BK348 hg
        have NB364_348 := neG BK348 hg
        replace BK348 := bkB BK348 hb
        clear hb hbox hg
        obtain ⟨Ao52, co52, eo52⟩ := Kd.R_slice HO357.out
        (first | subst eo52 | (injection eo52 with f1_ f2_ f3_; have f4_ := f1_.symm; have f5_ := f3_.symm; clear f1_ f2_ f3_; subst f4_; subst f5_))
        refine hK.out _ _ ⟨(blk_cell BK348.out 0).trans rfl, (blk_cell BK348.out 1).trans rfl, (blk_cell BK348.out 2).trans rfl⟩ (fun hHeld => ?_)
        clear hK K
        refine norm_ (a' := ?_) ?_ ?_
        rotate_left
        ·show Act.put _ (some 9) _ = _
         simp only [Act.put, List.setIfInBounds_toArray, List.set_cons_zero, List.set_cons_succ, i64_w, i32_w]
         rfl
        refine one_ (i := 5) (N := some 40) (mB 12 575) rfl rfl (one_of HT_.out (by kernel_rfl)) (by decide) (fun K hK => ?_)
        refine goes_ Tryd.func16 (by kernel_rfl) rfl #[.agg #[.int .i64 a0_0, .int .i64 a0_1, .slice A0_2 l0_2.length c0_2], .slice Ao52 t355.length co52] (by rfl) rfl rfl (by (try simp only [List.map_toArray, List.map_cons, List.map_nil]); first | done | rfl | (simp only [List.length_drop, List.length_take]; rfl)) ?_
        with_reducible refine (recoupref03_Pick.calls k a0_0 a0_1 _ _ l0_2 _ _ t355 t358 t359 t360 t363 _ ?side1 ?side2 ?side3 ?side4 A8.out).mono ?_
        (case side1 => exact kcB HR0_2 HB)
        (case side2 => exact HC0_2.out)
        (case side3 => exact kcA (Kd.R_reads' HO357.out).2.2)
        (case side4 => exact (Kd.R_reads' HO357.out).2.1)
        rintro e w53 ⟨v361, rfl, ho0, hb⟩
        refine ⟨_, rfl, ?_⟩
        replace HO357 := kdB HO357 hb
        have HO362 := Aside0.mk (Kd.R_lower ho0 (below_size (hbA HB.out)))
        replace BK348 := bkB BK348 hb
        replace BK364 := bkB BK364 hb
        replace HB := hbB HB hb
        (try clear hb)
        (try clear hb2)
        (try clear hk)
        (try clear hi)
        (try clear ho0)
        refine hK.out _ _ ⟨(blk_cell BK348.out 0).trans rfl, (blk_cell BK348.out 1).trans rfl, (blk_cell BK348.out 2).trans rfl⟩ (fun hHeld => ?_)
        clear hK K
        refine norm_ (a' := ?_) ?_ ?_
        rotate_left
        ·show Act.put _ (some 40) _ = _
         simp only [Act.put, List.setIfInBounds_toArray, List.set_cons_zero, List.set_cons_succ, i64_w, i32_w]
         rfl
        refine pu 6 (some 34) (mB 12 639) HT_ ?_
        refine pu 7 (some 41) (mB 12 767) HT_ ?_
        refine pu 8 (some 42) (mB 12 1023) HT_ ?_
        exact norm_ (by simp only [putAll, Act.put, List.setIfInBounds_toArray, List.set_cons_zero, List.set_cons_succ]) (hCont (.slice Ao52 t355.length co52, v361, gb364) _ ⟨hHeld, (kdA HO357.out), (kdA HO362.out), (bkA BK348.out), (bkA BK364.out), GW364.out, GE364.out, NB348_364.out, NB364_348.out, (hbA HB.out)⟩)
      ·skip
       refine box_step ?hg (N := 9) ?hd (cs := #[.int .i64 0, .int .i64 0, .slice none 0 0]) (t := 24) ?hr ?_; (case hd => rfl); (case hg => rfl); (case hr => first | (go_simp; done) | (go_simp; rfl))
       intro gb364 hg w50 hbox hb
       have BK364 := Aside0.mk (hbox)
       have GW364 := hbS HB hg
       have GE364 := hbS HB hg
       replace HB := hbB HB hb
       have NB348_364 := neL BK348 hg
       have NB364_348 := neG BK348 hg
       replace BK348 := bkB BK348 hb
       clear hb hbox hg
       refine hK.out _ _ ⟨(blk_cell BK348.out 0).trans rfl, (blk_cell BK348.out 1).trans rfl, (blk_cell BK348.out 2).trans rfl⟩ (fun hHeld => ?_)
       clear hK K
       refine norm_ (a' := ?_) ?_ ?_
       rotate_left
       ·show Act.put _ (some 9) _ = _
        simp only [Act.put, List.setIfInBounds_toArray, List.set_cons_zero, List.set_cons_succ, i64_w, i32_w]
        rfl
       refine one_ (i := 4) (N := some 39) (mB 12 543) rfl rfl (one_of HT_.out (by kernel_rfl)) (by decide) (fun K hK => ?_)
       refine goes_ Tryd.func17 (by kernel_rfl) rfl #[.int .u64 (Go.bits .andNot .u64 t353 a1)] (by rfl) rfl rfl (by (try simp only [List.map_toArray, List.map_cons, List.map_nil]); first | done | rfl | (simp only [List.length_drop, List.length_take]; rfl)) ?_
       with_reducible refine (recoupref06_List.calls k (Go.bits .andNot .u64 t353 a1) t355 _ A7.out).mono ?_
       rintro e w51 ⟨v356, rfl, ho0, hb⟩
       refine ⟨_, rfl, ?_⟩
       have HO357 := Aside0.mk (Kd.R_lower ho0 (below_size (hbA HB.out)))
       replace BK348 := bkB BK348 hb
       replace BK364 := bkB BK364 hb
       replace HB := hbB HB hb
       (try clear hb)
       (try clear hb2)
       (try clear hk)
       (try clear hi)
       (try clear ho0)
       obtain ⟨Ao52, co52, eo52⟩ := Kd.R_slice HO357.out
       (first | subst eo52 | (injection eo52 with f1_ f2_ f3_; have f4_ := f1_.symm; have f5_ := f3_.symm; clear f1_ f2_ f3_; subst f4_; subst f5_))
       refine hK.out _ _ ⟨(blk_cell BK348.out 0).trans rfl, (blk_cell BK348.out 1).trans rfl, (blk_cell BK348.out 2).trans rfl⟩ (fun hHeld => ?_)
       clear hK K
       refine norm_ (a' := ?_) ?_ ?_
       rotate_left
       ·show Act.put _ (some 39) _ = _
        simp only [Act.put, List.setIfInBounds_toArray, List.set_cons_zero, List.set_cons_succ, i64_w, i32_w]
        rfl
       refine one_ (i := 5) (N := some 40) (mB 12 575) rfl rfl (one_of HT_.out (by kernel_rfl)) (by decide) (fun K hK => ?_)
       refine goes_ Tryd.func16 (by kernel_rfl) rfl #[.agg #[.int .i64 a0_0, .int .i64 a0_1, .slice A0_2 l0_2.length c0_2], .slice Ao52 t355.length co52] (by rfl) rfl rfl (by (try simp only [List.map_toArray, List.map_cons, List.map_nil]); first | done | rfl | (simp only [List.length_drop, List.length_take]; rfl)) ?_
       with_reducible refine (recoupref03_Pick.calls k a0_0 a0_1 _ _ l0_2 _ _ t355 t358 t359 t360 t363 _ ?side1 ?side2 ?side3 ?side4 A8.out).mono ?_
       (case side1 => exact kcB HR0_2 HB)
       (case side2 => exact HC0_2.out)
       (case side3 => exact kcA (Kd.R_reads' HO357.out).2.2)
       (case side4 => exact (Kd.R_reads' HO357.out).2.1)
       rintro e w53 ⟨v361, rfl, ho0, hb⟩
       refine ⟨_, rfl, ?_⟩
       replace HO357 := kdB HO357 hb
       have HO362 := Aside0.mk (Kd.R_lower ho0 (below_size (hbA HB.out)))
       replace BK348 := bkB BK348 hb
       replace BK364 := bkB BK364 hb
       replace HB := hbB HB hb
       (try clear hb)
       (try clear hb2)
       (try clear hk)
       (try clear hi)
       (try clear ho0)
       refine hK.out _ _ ⟨(blk_cell BK348.out 0).trans rfl, (blk_cell BK348.out 1).trans rfl, (blk_cell BK348.out 2).trans rfl⟩ (fun hHeld => ?_)
       clear hK K
       refine norm_ (a' := ?_) ?_ ?_
       rotate_left
       ·show Act.put _ (some 40) _ = _
        simp only [Act.put, List.setIfInBounds_toArray, List.set_cons_zero, List.set_cons_succ, i64_w, i32_w]
        rfl
       refine pu 6 (some 34) (mB 12 639) HT_ ?_
       refine pu 7 (some 41) (mB 12 767) HT_ ?_
       refine pu 8 (some 42) (mB 12 1023) HT_ ?_
       exact norm_ (by simp only [putAll, Act.put, List.setIfInBounds_toArray, List.set_cons_zero, List.set_cons_succ]) (hCont (.slice Ao52 t355.length co52, v361, gb364) _ ⟨hHeld, (kdA HO357.out), (kdA HO362.out), (bkA BK348.out), (bkA BK364.out), GW364.out, GE364.out, NB348_364.out, NB364_348.out, (hbA HB.out)⟩)
     rintro ⟨v356, v361, gb364⟩ w54 ⟨hS_, h0_, h1_, h2_, h3_, h4_, h5_, h6_, h7_, h8_⟩
     have n0_ : Aside0 (Kd.R (Kd.int .i64) 3 w54 w.heap.size (fun _ => True) v356 t355) := ⟨h0_⟩
     have n1_ : Aside0 (Kd.R (Kd.int .u8) 5 w54 w.heap.size (fun _ => True) v361 t360) := ⟨h1_⟩
     have n2_ : Aside0 (w54.heap[gb348]? = some (.cells #[.int .i64 a0_0, .int .i64 a0_1, .slice A0_2 l0_2.length c0_2] 24 (0, 0))) := ⟨h2_⟩
     have n3_ : Aside0 (w54.heap[gb364]? = some (.cells #[.int .i64 0, .int .i64 0, .slice none 0 0] 24 (0, 0))) := ⟨h3_⟩
     have n4_ : Aside0 (w.heap.size ≤ gb364) := ⟨h4_⟩
     have n5_ : Aside0 (w.heap.size ≤ gb364) := ⟨h5_⟩
     have n6_ : Aside0 (gb348 ≠ gb364) := ⟨h6_⟩
     have n7_ : Aside0 (gb364 ≠ gb348) := ⟨h7_⟩
     have n8_ : Aside0 (Below w.heap.size w w54) := ⟨h8_⟩
     clear BK348
     clear HB
     clear h0_ h1_ h2_ h3_ h4_ h5_ h6_ h7_ h8_
     have HO357 := n0_
     have HO362 := n1_
     have BK348 := n2_
     have BK364 := n3_
     have GW364 := n4_
     have GE364 := n5_
     have NB348_364 := n6_
     have NB364_348 := n7_
     have HB := n8_
     clear n0_ n1_ n2_ n3_ n4_ n5_ n6_ n7_ n8_
     have hHeld : w54.cell? ⟨gb348, 0, none⟩ = some (.int .i64 a0_0) ∧ w54.cell? ⟨gb348, 1, none⟩ = some (.int .i64 a0_1) ∧ w54.cell? ⟨gb348, 2, none⟩ = some (.slice A0_2 l0_2.length c0_2) := hS_
     obtain ⟨Ao57, co57, eo57⟩ := Kd.R_slice HO362.out
     (first | subst eo57 | (injection eo57 with f1_ f2_ f3_; have f4_ := f1_.symm; have f5_ := f3_.symm; clear f1_ f2_ f3_; subst f4_; subst f5_))
     refine norm_ (a' := ?_) ?_ ?_
     rotate_left
     ·simp only [putAll, Act.put, List.setIfInBounds_toArray, List.set_cons_zero, List.set_cons_succ]
      rfl
     refine one_ (i := 10) (N := none) (mB 12 2047) rfl rfl (one_of HT_.out (by kernel_rfl)) (by decide) (fun K hK => ?_)
     have hs55 : w54.cell? ⟨gb364, 0, none⟩ = some (.int .i64 0) := (blk_cell BK364.out 0).trans rfl
     have hfs55 := blk_frozen BK364.out 0
     have hns55_0 := NB348_364.out
     have hms55_0 := NB364_348.out
     have hs56 : w54.cell? ⟨gb364, 1, none⟩ = some (.int .i64 0) := (blk_cell BK364.out 1).trans rfl
     have hfs56 := blk_frozen BK364.out 1
     have hns56_0 := NB348_364.out
     have hms56_0 := NB364_348.out
     have hs58 : w54.cell? ⟨gb364, 2, none⟩ = some (.slice none 0 0) := (blk_cell BK364.out 2).trans rfl
     have hfs58 := blk_frozen BK364.out 2
     have hns58_0 := NB348_364.out
     have hms58_0 := NB364_348.out
     refine skip_ (w1 := ?_) (by rfl) rfl ?_ ?_
     rotate_left
     ·go_simp
      rfl
     refine hK.out _ _ ⟨((cell_far (p := ⟨gb364, _, none⟩) NB348_364.out _).trans (((cell_far (p := ⟨gb364, _, none⟩) NB348_364.out _).trans (((cell_far (p := ⟨gb364, _, none⟩) NB348_364.out _).trans (hHeld.1)))))), ((cell_far (p := ⟨gb364, _, none⟩) NB348_364.out _).trans (((cell_far (p := ⟨gb364, _, none⟩) NB348_364.out _).trans (((cell_far (p := ⟨gb364, _, none⟩) NB348_364.out _).trans (hHeld.2.1)))))), ((cell_far (p := ⟨gb364, _, none⟩) NB348_364.out _).trans (((cell_far (p := ⟨gb364, _, none⟩) NB348_364.out _).trans (((cell_far (p := ⟨gb364, _, none⟩) NB348_364.out _).trans (hHeld.2.2))))))⟩ (fun hHeld => ?_)
     clear hK K
     refine pu 11 (some 10) (mB 12 4095) HT_ ?_
     refine done_ (done_of HT_.out (by kernel_rfl)) ?_
     have hnb59 := NB364_348.out
     have hnc59 := NB348_364.out
     obtain ⟨hcz60_0, hcz60_1, hcz60_2, hfz60_0, hfz60_1, hfz60_2⟩ := cell3 BK364
     try go_wp2_with (first | ((with_reducible refine gC 18 rfl ?_); refine cG (some 45) Tryd.func18 #[.agg #[.int .i64 t358, .int .i64 t359, .slice Ao57 t360.length co57]] ?_; (with_reducible refine (recoupref04_Kernel.calls k t358 t359 _ _ t360 t365 t366 t367 t370 _ ?side1 ?side2 A9.out).mono ?_); (case side1 => refine (Kd.R_reads' (e := 5) (base := w.heap.size) (ok := fun k_ => True) (n := t360.length) (c := co57) ?_).2.2; exact (by (with_reducible repeat (first | apply Kd.R_alloc | apply Kd.R_drewN | apply Kd.R_drew)); exact (fRtal HO362.out BK364.out (.int .i64 t358) (.int .i64 t359) (.slice Ao57 t360.length co57)))); (case side2 => exact (Kd.R_reads' HO362.out).2.1); rintro e w61 ⟨v368, rfl, ho0, hb⟩; refine ⟨_, rfl, ?_⟩; replace HO357 := Aside0.mk (Kd.R_below (by (with_reducible repeat (first | apply Kd.R_alloc | apply Kd.R_drewN | apply Kd.R_drew)); exact (fRtal HO357.out BK364.out (.int .i64 t358) (.int .i64 t359) (.slice Ao57 t360.length co57))) hb); have HO369 := Aside0.mk (Kd.R_lower (Kd.R_new' ho0 (Kd.R_lt (by (with_reducible repeat (first | apply Kd.R_alloc | apply Kd.R_drewN | apply Kd.R_drew)); exact (fRtal HO362.out BK364.out (.int .i64 t358) (.int .i64 t359) (.slice Ao57 t360.length co57))))) (below_size (hbA HB.out))); replace HO362 := Aside0.mk (Kd.R_elder' (by (with_reducible repeat (first | apply Kd.R_alloc | apply Kd.R_drewN | apply Kd.R_drew)); exact (fRtal HO362.out BK364.out (.int .i64 t358) (.int .i64 t359) (.slice Ao57 t360.length co57))) (Kd.R_base ho0) hb); replace BK348 := Aside0.mk (blk_below (g := gb348) (o := .cells #[.int .i64 a0_0, .int .i64 a0_1, .slice A0_2 l0_2.length c0_2] 24 (0, 0)) (by refine bkR ?_; refine blk_far ?_ NB348_364.out _; refine bkR ?_; refine blk_far ?_ NB348_364.out _; refine bkR ?_; refine blk_far ?_ NB348_364.out _; refine bkR ?_; exact BK348.out) hb); replace BK364 := Aside0.mk (blk_below (g := gb364) (o := .cells #[.int .i64 t358, .int .i64 t359, .slice Ao57 t360.length co57] 24 (0, 0)) (by refine bkR ?_; refine blk_put (cs := #[.int .i64 t358, .int .i64 t359, .slice none 0 0]) ?_ 2 _ rfl; refine bkR ?_; refine blk_put (cs := #[.int .i64 t358, .int .i64 0, .slice none 0 0]) ?_ 1 _ rfl; refine bkR ?_; refine blk_put (cs := #[.int .i64 0, .int .i64 0, .slice none 0 0]) ?_ 0 _ rfl; refine bkR ?_; exact BK364.out) hb); replace HB := hbB HB hb; (try clear hb); (try clear hb2); (try clear hk); (try clear hi); (try clear ho0)) | ((with_reducible refine gD 11 rfl ?_); refine bE 11 #[.int .i64 0, .int .i64 0, .slice none 0 0] 24 ?_; intro gb371 hg w62 hbox hb; replace HO357 := kdB HO357 hb; replace HO362 := kdB HO362 hb; replace HO369 := kdB HO369 hb; have BK371 := Aside0.mk (hbox); have GW371 := hbS HB hg; have GE371 := hbS HB hg; replace HB := hbB HB hb; have NB348_371 := neL BK348 hg; have NB371_348 := neG BK348 hg; replace BK348 := bkB BK348 hb; have NB364_371 := neL BK364 hg; have NB371_364 := neG BK364 hg; replace BK364 := bkB BK364 hb; clear hb hbox hg; have hnb63 := NB371_348.out; have hnc63 := NB348_371.out; have hnb64 := NB371_364.out; have hnc64 := NB364_371.out; obtain ⟨hcz65_0, hcz65_1, hcz65_2, hfz65_0, hfz65_1, hfz65_2⟩ := cell3 BK371; obtain ⟨Ao66, co66, eo66⟩ := Kd.R_slice HO369.out; subst eo66) | ((with_reducible refine gC 14 rfl ?_); refine cG (some 48) Tryd.func14 #[] ?_; (with_reducible refine (recouplaw18_anchored.calls k  true _ A10.out (tBtal HT.out HB)).mono ?_); rintro e w67 ⟨rfl, hb⟩; refine ⟨_, rfl, ?_⟩; replace HO357 := Aside0.mk (Kd.R_below (by (with_reducible repeat (first | apply Kd.R_alloc | apply Kd.R_drewN | apply Kd.R_drew)); exact (fRtal HO357.out BK371.out (.int .i64 t365) (.int .i64 t366) (.slice Ao66 t367.length co66))) hb); replace HO362 := Aside0.mk (Kd.R_below (by (with_reducible repeat (first | apply Kd.R_alloc | apply Kd.R_drewN | apply Kd.R_drew)); exact (fRtal HO362.out BK371.out (.int .i64 t365) (.int .i64 t366) (.slice Ao66 t367.length co66))) hb); replace HO369 := Aside0.mk (Kd.R_below (by (with_reducible repeat (first | apply Kd.R_alloc | apply Kd.R_drewN | apply Kd.R_drew)); exact (fRtal HO369.out BK371.out (.int .i64 t365) (.int .i64 t366) (.slice Ao66 t367.length co66))) hb); replace BK348 := Aside0.mk (blk_below (g := gb348) (o := .cells #[.int .i64 a0_0, .int .i64 a0_1, .slice A0_2 l0_2.length c0_2] 24 (0, 0)) (by refine bkR ?_; refine blk_far ?_ NB348_371.out _; refine bkR ?_; refine blk_far ?_ NB348_371.out _; refine bkR ?_; refine blk_far ?_ NB348_371.out _; refine bkR ?_; exact BK348.out) hb); replace BK364 := Aside0.mk (blk_below (g := gb364) (o := .cells #[.int .i64 t358, .int .i64 t359, .slice Ao57 t360.length co57] 24 (0, 0)) (by refine bkR ?_; refine blk_far ?_ NB364_371.out _; refine bkR ?_; refine blk_far ?_ NB364_371.out _; refine bkR ?_; refine blk_far ?_ NB364_371.out _; refine bkR ?_; exact BK364.out) hb); replace BK371 := Aside0.mk (blk_below (g := gb371) (o := .cells #[.int .i64 t365, .int .i64 t366, .slice Ao66 t367.length co66] 24 (0, 0)) (by refine bkR ?_; refine blk_put (cs := #[.int .i64 t365, .int .i64 t366, .slice none 0 0]) ?_ 2 _ rfl; refine bkR ?_; refine blk_put (cs := #[.int .i64 t365, .int .i64 0, .slice none 0 0]) ?_ 1 _ rfl; refine bkR ?_; refine blk_put (cs := #[.int .i64 0, .int .i64 0, .slice none 0 0]) ?_ 0 _ rfl; refine bkR ?_; exact BK371.out) hb); replace HB := hbB HB hb; (try clear hb); (try clear hb2); (try clear hk); (try clear hi); obtain ⟨hcz68_0, hcz68_1, hcz68_2, hfz68_0, hfz68_1, hfz68_2⟩ := cell3 BK371))
     go_ret
     exact ⟨rfE, hbA HB.out⟩
   ·rw [if_neg c12] at H
    have c12b0 : (t350 == 0) = false := beq_eq_false_iff_ne.mpr c12
    have c12b1 : (t350 != 0) = true := bne_iff_ne.mpr c12
    obtain rfl := Option.some.inj H
    go_enter Tryd.func4, Tryd.ntmps4
    try go_wp2_with (first | ((with_reducible refine gD 2 rfl ?_); refine bE 2 #[.int .i64 a0_0, .int .i64 a0_1, .slice A0_2 l0_2.length c0_2] 24 ?_; intro gb348 hg w69 hbox hb; have BK348 := Aside0.mk (hbox); have GW348 := Aside0.mk ((by rw [hg]; exact (below_size (by repeat (first | (with_reducible first | exact HB.out | apply below_alloc | apply pw_below_drewN | apply below_drew1 | refine below_set ?_ (Aside0.out (by assumption))) | exact HB.out))) : w.heap.size ≤ gb348)); have GE348 := Aside0.mk ((by rw [hg]; exact (below_size (by repeat (first | (with_reducible first | exact HB.out | apply below_alloc | apply pw_below_drewN | apply below_drew1 | refine below_set ?_ (Aside0.out (by assumption))) | exact HB.out))) : w.heap.size ≤ gb348)); replace HB := Aside0.mk (below_step (by repeat (first | (with_reducible first | exact HB.out | apply below_alloc | apply pw_below_drewN | apply below_drew1 | refine below_set ?_ (Aside0.out (by assumption))) | exact HB.out)) hb); clear hb hbox hg; obtain ⟨hcz70_0, hcz70_1, hcz70_2, hfz70_0, hfz70_1, hfz70_2⟩ := cell3 BK348) | ((with_reducible refine gC 9 rfl ?_); refine cG (some 16) Tryd.func9 #[.agg #[.int .i64 a0_0, .int .i64 a0_1, .slice A0_2 l0_2.length c0_2], .int .u64 a1] ?_; (with_reducible refine (verdict_Recovers.calls k a0_0 a0_1 _ _ l0_2 a1 t349 t350 _ ?side1 ?side2 A3.out (tBtal HT.out HB)).mono ?_); (case side1 => exact kcB HR0_2 HB); (case side2 => exact HC0_2.out); rintro e w71 ⟨rfl, hb⟩; refine ⟨_, rfl, ?_⟩; replace BK348 := bkB BK348 hb; replace HB := hbB HB hb; (try clear hb); (try clear hb2); (try clear hk); (try clear hi); obtain ⟨hcz72_0, hcz72_1, hcz72_2, hfz72_0, hfz72_1, hfz72_2⟩ := cell3 BK348) | ((with_reducible refine gC 13 rfl ?_); refine cG (some 21) Tryd.func13 #[.agg #[.int .i64 a0_0, .int .i64 a0_1, .slice A0_2 l0_2.length c0_2], .int .u64 a1] ?_; (with_reducible refine (recouplaw18_generator.calls k a0_0 a0_1 _ _ l0_2 a1 true _ ?side1 ?side2 A4.out).mono ?_); (case side1 => exact kcB HR0_2 HB); (case side2 => exact HC0_2.out); rintro e w73 ⟨rfl, hb⟩; refine ⟨_, rfl, ?_⟩; replace BK348 := bkB BK348 hb; replace HB := hbB HB hb; (try clear hb); (try clear hb2); (try clear hk); (try clear hi); obtain ⟨hcz74_0, hcz74_1, hcz74_2, hfz74_0, hfz74_1, hfz74_2⟩ := cell3 BK348) | ((with_reducible refine gC 15 rfl ?_); refine cG (some 31) Tryd.func15 #[.int .i64 a0_0] ?_; (with_reducible refine (recoupref06_Full.calls k a0_0 t353 t354 _ A6.out).mono ?_); rintro e w' ⟨rfl, ⟨nd, rfl⟩⟩; refine ⟨_, rfl, ?_⟩; (try (rw [drewN_self w73]; generalize hq_ : World.drewN w73 _ = w73; have n0_ : Aside0 (w73.heap[gb348]? = some (.cells #[.int .i64 a0_0, .int .i64 a0_1, .slice A0_2 l0_2.length c0_2] 24 (0, 0))) := ⟨by rw [← hq_]; exact (bkA BK348.out)⟩; have n1_ : Aside0 (Below w.heap.size w w73) := ⟨by rw [← hq_]; exact (hbA HB.out)⟩; clear BK348 HB hq_; have BK348 := n0_; have HB := n1_; clear n0_ n1_))))
    replace BK348 := Aside0.mk (blk_drew BK348.out)
    replace HB := Aside0.mk (below_drew1 HB.out)
    refine start_ (n := 12) (S := fun w' => w'.cell? ⟨gb348, 0, none⟩ = some (.int .i64 a0_0) ∧ w'.cell? ⟨gb348, 1, none⟩ = some (.int .i64 a0_1) ∧ w'.cell? ⟨gb348, 2, none⟩ = some (.slice A0_2 l0_2.length c0_2)) (ds := []) (.replicate 12 false) (by kernel_rfl) rfl rfl ⟨(blk_cell BK348.out 0).trans rfl, (blk_cell BK348.out 1).trans rfl, (blk_cell BK348.out 2).trans rfl⟩ (fun hHeld => ?_); refine with_tabW recouplaw18_VerdictFatal.tab5 recouplaw18_VerdictFatal.bits5 (fun HT_ HW_ => ?_)
    generalize w73.drew = w75 at BK348 HB hHeld ⊢
    refine pu 1 (some 36) (mB 12 2) HT_ ?_
    refine pu 2 (some 37) (mB 12 6) HT_ ?_
    refine pu 3 (some 38) (mB 12 14) HT_ ?_
    refine tk3 0 (some 35) (mB 12 15) HT_ HW_ hHeld ?_
    refine join_ (σ := Value × Value × Nat) 2 (mB 12 1023) (fun s_ => [(39, s_.1), (40, .tuple #[.agg #[.int .i64 t358, .int .i64 t359, s_.2.1], .int .i64 t363]), (9, .pointer (some ⟨s_.2.2, 0, none⟩)), (34, .tuple #[.agg #[.int .i64 t358, .int .i64 t359, s_.2.1], .int .i64 t363]), (41, .agg #[.int .i64 t358, .int .i64 t359, s_.2.1]), (42, .int .i64 t363)]) (fun s_ w' => (w'.cell? ⟨gb348, 0, none⟩ = some (.int .i64 a0_0) ∧ w'.cell? ⟨gb348, 1, none⟩ = some (.int .i64 a0_1) ∧ w'.cell? ⟨gb348, 2, none⟩ = some (.slice A0_2 l0_2.length c0_2)) ∧ (Kd.R (Kd.int .i64) 3 w' w.heap.size (fun _ => True) s_.1 t355) ∧ (Kd.R (Kd.int .u8) 5 w' w.heap.size (fun _ => True) s_.2.1 t360) ∧ (w'.heap[gb348]? = some (.cells #[.int .i64 a0_0, .int .i64 a0_1, .slice A0_2 l0_2.length c0_2] 24 (0, 0))) ∧ (w'.heap[s_.2.2]? = some (.cells #[.int .i64 0, .int .i64 0, .slice none 0 0] 24 (0, 0))) ∧ (w.heap.size ≤ s_.2.2) ∧ (w.heap.size ≤ s_.2.2) ∧ (gb348 ≠ s_.2.2) ∧ (s_.2.2 ≠ gb348) ∧ (Below w.heap.size w w')) ?_ ?_
    rotate_left
    ·intro hCont
     refine two_ (i := 4) (j := 9) (Ni := some 39) (Nj := some 9) (mB 12 31) (mB 12 527) rfl rfl rfl rfl (two_of HT_.out (by kernel_rfl)) (by decide) (by decide) (fun K hK => ?_) (fun K hK => ?_)
     ·skip
      refine goes_ Tryd.func17 (by kernel_rfl) rfl #[.int .u64 (Go.bits .andNot .u64 t353 a1)] (by rfl) rfl rfl (by (try simp only [List.map_toArray, List.map_cons, List.map_nil]); first | done | rfl | (simp only [List.length_drop, List.length_take]; rfl)) ?_
      with_reducible refine (recoupref06_List.calls k (Go.bits .andNot .u64 t353 a1) t355 _ A7.out).mono ?_
      rintro e w76 ⟨v356, rfl, ho0, hb⟩
      refine ⟨_, rfl, ?_⟩
      have HO357 := Aside0.mk (Kd.R_lower ho0 (below_size (hbA HB.out)))
      replace BK348 := bkB BK348 hb
      replace HB := hbB HB hb
      (try clear hb)
      (try clear hb2)
      (try clear hk)
      (try clear hi)
      (try clear ho0)
      obtain ⟨Ao77, co77, eo77⟩ := Kd.R_slice HO357.out
      (first | subst eo77 | (injection eo77 with f1_ f2_ f3_; have f4_ := f1_.symm; have f5_ := f3_.symm; clear f1_ f2_ f3_; subst f4_; subst f5_))
      refine hK.out _ _ ⟨(blk_cell BK348.out 0).trans rfl, (blk_cell BK348.out 1).trans rfl, (blk_cell BK348.out 2).trans rfl⟩ (fun hHeld => ?_)
      clear hK K
      refine norm_ (a' := ?_) ?_ ?_
      rotate_left
      ·show Act.put _ (some 39) _ = _
       simp only [Act.put, List.setIfInBounds_toArray, List.set_cons_zero, List.set_cons_succ, i64_w, i32_w]
       rfl
      refine two_ (i := 5) (j := 9) (Ni := some 40) (Nj := some 9) (mB 12 63) (mB 12 543) rfl rfl rfl rfl (two_of HT_.out (by kernel_rfl)) (by decide) (by decide) (fun K hK => ?_) (fun K hK => ?_)
      ·skip
       refine goes_ Tryd.func16 (by kernel_rfl) rfl #[.agg #[.int .i64 a0_0, .int .i64 a0_1, .slice A0_2 l0_2.length c0_2], .slice Ao77 t355.length co77] (by rfl) rfl rfl (by (try simp only [List.map_toArray, List.map_cons, List.map_nil]); first | done | rfl | (simp only [List.length_drop, List.length_take]; rfl)) ?_
       with_reducible refine (recoupref03_Pick.calls k a0_0 a0_1 _ _ l0_2 _ _ t355 t358 t359 t360 t363 _ ?side1 ?side2 ?side3 ?side4 A8.out).mono ?_
       (case side1 => exact kcB HR0_2 HB)
       (case side2 => exact HC0_2.out)
       (case side3 => exact kcA (Kd.R_reads' HO357.out).2.2)
       (case side4 => exact (Kd.R_reads' HO357.out).2.1)
       rintro e w78 ⟨v361, rfl, ho0, hb⟩
       refine ⟨_, rfl, ?_⟩
       replace HO357 := kdB HO357 hb
       have HO362 := Aside0.mk (Kd.R_lower ho0 (below_size (hbA HB.out)))
       replace BK348 := bkB BK348 hb
       replace HB := hbB HB hb
       (try clear hb)
       (try clear hb2)
       (try clear hk)
       (try clear hi)
       (try clear ho0)
       refine hK.out _ _ ⟨(blk_cell BK348.out 0).trans rfl, (blk_cell BK348.out 1).trans rfl, (blk_cell BK348.out 2).trans rfl⟩ (fun hHeld => ?_)
       clear hK K
       refine norm_ (a' := ?_) ?_ ?_
       rotate_left
       ·show Act.put _ (some 40) _ = _
        simp only [Act.put, List.setIfInBounds_toArray, List.set_cons_zero, List.set_cons_succ, i64_w, i32_w]
        rfl
       refine pu 6 (some 34) (mB 12 127) HT_ ?_
       refine pu 7 (some 41) (mB 12 255) HT_ ?_
       refine pu 8 (some 42) (mB 12 511) HT_ ?_
       refine one_ (i := 9) (N := some 9) (mB 12 1023) rfl rfl (one_of HT_.out (by kernel_rfl)) (by decide) (fun K hK => ?_)
       refine box_step ?hg (N := 9) ?hd (cs := #[.int .i64 0, .int .i64 0, .slice none 0 0]) (t := 24) ?hr ?_; (case hd => rfl); (case hg => rfl); (case hr => first | (go_simp; done) | (go_simp; rfl))
       intro gb364 hg w79 hbox hb
       replace HO357 := kdB HO357 hb
       replace HO362 := kdB HO362 hb
       have BK364 := Aside0.mk (hbox)
       have GW364 := hbS HB hg
       have GE364 := hbS HB hg
       replace HB := hbB HB hb
       have NB348_364 := neL BK348 hg
       have NB364_348 := neG BK348 hg
       replace BK348 := bkB BK348 hb
       clear hb hbox hg
       refine hK.out _ _ ⟨(blk_cell BK348.out 0).trans rfl, (blk_cell BK348.out 1).trans rfl, (blk_cell BK348.out 2).trans rfl⟩ (fun hHeld => ?_)
       clear hK K
       refine norm_ (a' := ?_) ?_ ?_
       rotate_left
       ·show Act.put _ (some 9) _ = _
        simp only [Act.put, List.setIfInBounds_toArray, List.set_cons_zero, List.set_cons_succ, i64_w, i32_w]
        rfl
       exact norm_ (by simp only [putAll, Act.put, List.setIfInBounds_toArray, List.set_cons_zero, List.set_cons_succ]) (hCont (.slice Ao77 t355.length co77, v361, gb364) _ ⟨hHeld, (kdA HO357.out), (kdA HO362.out), (bkA BK348.out), (bkA BK364.out), GW364.out, GE364.out, NB348_364.out, NB364_348.out, (hbA HB.out)⟩)
      ·skip
       refine box_step ?hg (N := 9) ?hd (cs := #[.int .i64 0, .int .i64 0, .slice none 0 0]) (t := 24) ?hr ?_; (case hd => rfl); (case hg => rfl); (case hr => first | (go_simp; done) | (go_simp; rfl))
       intro gb364 hg w77 hbox hb
       replace HO357 := kdB HO357 hb
       have BK364 := Aside0.mk (hbox)
       have GW364 := hbS HB hg
       have GE364 := hbS HB hg
       replace HB := hbB HB hb
       have NB348_364 := neL BK348 hg
       have NB364_348 := neG BK348 hg
       replace BK348 := bkB BK348 hb
       clear hb hbox hg
       obtain ⟨Ao78, co78, eo78⟩ := Kd.R_slice HO357.out
       (first | subst eo78 | (injection eo78 with f1_ f2_ f3_; have f4_ := f1_.symm; have f5_ := f3_.symm; clear f1_ f2_ f3_; subst f4_; subst f5_))
       refine hK.out _ _ ⟨(blk_cell BK348.out 0).trans rfl, (blk_cell BK348.out 1).trans rfl, (blk_cell BK348.out 2).trans rfl⟩ (fun hHeld => ?_)
       clear hK K
       refine norm_ (a' := ?_) ?_ ?_
       rotate_left
       ·show Act.put _ (some 9) _ = _
        simp only [Act.put, List.setIfInBounds_toArray, List.set_cons_zero, List.set_cons_succ, i64_w, i32_w]
        rfl
       refine one_ (i := 5) (N := some 40) (mB 12 575) rfl rfl (one_of HT_.out (by kernel_rfl)) (by decide) (fun K hK => ?_)
       refine goes_ Tryd.func16 (by kernel_rfl) rfl #[.agg #[.int .i64 a0_0, .int .i64 a0_1, .slice A0_2 l0_2.length c0_2], .slice Ao78 t355.length co78] (by rfl) rfl rfl (by (try simp only [List.map_toArray, List.map_cons, List.map_nil]); first | done | rfl | (simp only [List.length_drop, List.length_take]; rfl)) ?_
       with_reducible refine (recoupref03_Pick.calls k a0_0 a0_1 _ _ l0_2 _ _ t355 t358 t359 t360 t363 _ ?side1 ?side2 ?side3 ?side4 A8.out).mono ?_
       (case side1 => exact kcB HR0_2 HB)
       (case side2 => exact HC0_2.out)
       (case side3 => exact kcA (Kd.R_reads' HO357.out).2.2)
       (case side4 => exact (Kd.R_reads' HO357.out).2.1)
       rintro e w79 ⟨v361, rfl, ho0, hb⟩
       refine ⟨_, rfl, ?_⟩
       replace HO357 := kdB HO357 hb
       have HO362 := Aside0.mk (Kd.R_lower ho0 (below_size (hbA HB.out)))
       replace BK348 := bkB BK348 hb
       replace BK364 := bkB BK364 hb
       replace HB := hbB HB hb
       (try clear hb)
       (try clear hb2)
       (try clear hk)
       (try clear hi)
       (try clear ho0)
       refine hK.out _ _ ⟨(blk_cell BK348.out 0).trans rfl, (blk_cell BK348.out 1).trans rfl, (blk_cell BK348.out 2).trans rfl⟩ (fun hHeld => ?_)
       clear hK K
       refine norm_ (a' := ?_) ?_ ?_
       rotate_left
       ·show Act.put _ (some 40) _ = _
        simp only [Act.put, List.setIfInBounds_toArray, List.set_cons_zero, List.set_cons_succ, i64_w, i32_w]
        rfl
       refine pu 6 (some 34) (mB 12 639) HT_ ?_
       refine pu 7 (some 41) (mB 12 767) HT_ ?_
       refine pu 8 (some 42) (mB 12 1023) HT_ ?_
       exact norm_ (by simp only [putAll, Act.put, List.setIfInBounds_toArray, List.set_cons_zero, List.set_cons_succ]) (hCont (.slice Ao78 t355.length co78, v361, gb364) _ ⟨hHeld, (kdA HO357.out), (kdA HO362.out), (bkA BK348.out), (bkA BK364.out), GW364.out, GE364.out, NB348_364.out, NB364_348.out, (hbA HB.out)⟩)
     ·skip
      refine box_step ?hg (N := 9) ?hd (cs := #[.int .i64 0, .int .i64 0, .slice none 0 0]) (t := 24) ?hr ?_; (case hd => rfl); (case hg => rfl); (case hr => first | (go_simp; done) | (go_simp; rfl))
      intro gb364 hg w76 hbox hb
      have BK364 := Aside0.mk (hbox)
      have GW364 := hbS HB hg
      have GE364 := hbS HB hg
      replace HB := hbB HB hb
      have NB348_364 := neL BK348 hg
      have NB364_348 := neG BK348 hg
      replace BK348 := bkB BK348 hb
      clear hb hbox hg
      refine hK.out _ _ ⟨(blk_cell BK348.out 0).trans rfl, (blk_cell BK348.out 1).trans rfl, (blk_cell BK348.out 2).trans rfl⟩ (fun hHeld => ?_)
      clear hK K
      refine norm_ (a' := ?_) ?_ ?_
      rotate_left
      ·show Act.put _ (some 9) _ = _
       simp only [Act.put, List.setIfInBounds_toArray, List.set_cons_zero, List.set_cons_succ, i64_w, i32_w]
       rfl
      refine one_ (i := 4) (N := some 39) (mB 12 543) rfl rfl (one_of HT_.out (by kernel_rfl)) (by decide) (fun K hK => ?_)
      refine goes_ Tryd.func17 (by kernel_rfl) rfl #[.int .u64 (Go.bits .andNot .u64 t353 a1)] (by rfl) rfl rfl (by (try simp only [List.map_toArray, List.map_cons, List.map_nil]); first | done | rfl | (simp only [List.length_drop, List.length_take]; rfl)) ?_
      with_reducible refine (recoupref06_List.calls k (Go.bits .andNot .u64 t353 a1) t355 _ A7.out).mono ?_
      rintro e w77 ⟨v356, rfl, ho0, hb⟩
      refine ⟨_, rfl, ?_⟩
      have HO357 := Aside0.mk (Kd.R_lower ho0 (below_size (hbA HB.out)))
      replace BK348 := bkB BK348 hb
      replace BK364 := bkB BK364 hb
      replace HB := hbB HB hb
      (try clear hb)
      (try clear hb2)
      (try clear hk)
      (try clear hi)
      (try clear ho0)
      obtain ⟨Ao78, co78, eo78⟩ := Kd.R_slice HO357.out
      (first | subst eo78 | (injection eo78 with f1_ f2_ f3_; have f4_ := f1_.symm; have f5_ := f3_.symm; clear f1_ f2_ f3_; subst f4_; subst f5_))
      refine hK.out _ _ ⟨(blk_cell BK348.out 0).trans rfl, (blk_cell BK348.out 1).trans rfl, (blk_cell BK348.out 2).trans rfl⟩ (fun hHeld => ?_)
      clear hK K
      refine norm_ (a' := ?_) ?_ ?_
      rotate_left
      ·show Act.put _ (some 39) _ = _
       simp only [Act.put, List.setIfInBounds_toArray, List.set_cons_zero, List.set_cons_succ, i64_w, i32_w]
       rfl
      refine one_ (i := 5) (N := some 40) (mB 12 575) rfl rfl (one_of HT_.out (by kernel_rfl)) (by decide) (fun K hK => ?_)
      refine goes_ Tryd.func16 (by kernel_rfl) rfl #[.agg #[.int .i64 a0_0, .int .i64 a0_1, .slice A0_2 l0_2.length c0_2], .slice Ao78 t355.length co78] (by rfl) rfl rfl (by (try simp only [List.map_toArray, List.map_cons, List.map_nil]); first | done | rfl | (simp only [List.length_drop, List.length_take]; rfl)) ?_
      with_reducible refine (recoupref03_Pick.calls k a0_0 a0_1 _ _ l0_2 _ _ t355 t358 t359 t360 t363 _ ?side1 ?side2 ?side3 ?side4 A8.out).mono ?_
      (case side1 => exact kcB HR0_2 HB)
      (case side2 => exact HC0_2.out)
      (case side3 => exact kcA (Kd.R_reads' HO357.out).2.2)
      (case side4 => exact (Kd.R_reads' HO357.out).2.1)
      rintro e w79 ⟨v361, rfl, ho0, hb⟩
      refine ⟨_, rfl, ?_⟩
      replace HO357 := kdB HO357 hb
      have HO362 := Aside0.mk (Kd.R_lower ho0 (below_size (hbA HB.out)))
      replace BK348 := bkB BK348 hb
      replace BK364 := bkB BK364 hb
      replace HB := hbB HB hb
      (try clear hb)
      (try clear hb2)
      (try clear hk)
      (try clear hi)
      (try clear ho0)
      refine hK.out _ _ ⟨(blk_cell BK348.out 0).trans rfl, (blk_cell BK348.out 1).trans rfl, (blk_cell BK348.out 2).trans rfl⟩ (fun hHeld => ?_)
      clear hK K
      refine norm_ (a' := ?_) ?_ ?_
      rotate_left
      ·show Act.put _ (some 40) _ = _
       simp only [Act.put, List.setIfInBounds_toArray, List.set_cons_zero, List.set_cons_succ, i64_w, i32_w]
       rfl
      refine pu 6 (some 34) (mB 12 639) HT_ ?_
      refine pu 7 (some 41) (mB 12 767) HT_ ?_
      refine pu 8 (some 42) (mB 12 1023) HT_ ?_
      exact norm_ (by simp only [putAll, Act.put, List.setIfInBounds_toArray, List.set_cons_zero, List.set_cons_succ]) (hCont (.slice Ao78 t355.length co78, v361, gb364) _ ⟨hHeld, (kdA HO357.out), (kdA HO362.out), (bkA BK348.out), (bkA BK364.out), GW364.out, GE364.out, NB348_364.out, NB364_348.out, (hbA HB.out)⟩)
    rintro ⟨v356, v361, gb364⟩ w80 ⟨hS_, h0_, h1_, h2_, h3_, h4_, h5_, h6_, h7_, h8_⟩
    have n0_ : Aside0 (Kd.R (Kd.int .i64) 3 w80 w.heap.size (fun _ => True) v356 t355) := ⟨h0_⟩
    have n1_ : Aside0 (Kd.R (Kd.int .u8) 5 w80 w.heap.size (fun _ => True) v361 t360) := ⟨h1_⟩
    have n2_ : Aside0 (w80.heap[gb348]? = some (.cells #[.int .i64 a0_0, .int .i64 a0_1, .slice A0_2 l0_2.length c0_2] 24 (0, 0))) := ⟨h2_⟩
    have n3_ : Aside0 (w80.heap[gb364]? = some (.cells #[.int .i64 0, .int .i64 0, .slice none 0 0] 24 (0, 0))) := ⟨h3_⟩
    have n4_ : Aside0 (w.heap.size ≤ gb364) := ⟨h4_⟩
    have n5_ : Aside0 (w.heap.size ≤ gb364) := ⟨h5_⟩
    have n6_ : Aside0 (gb348 ≠ gb364) := ⟨h6_⟩
    have n7_ : Aside0 (gb364 ≠ gb348) := ⟨h7_⟩
    have n8_ : Aside0 (Below w.heap.size w w80) := ⟨h8_⟩
    clear BK348
    clear HB
    clear h0_ h1_ h2_ h3_ h4_ h5_ h6_ h7_ h8_
    have HO357 := n0_
    have HO362 := n1_
    have BK348 := n2_
    have BK364 := n3_
    have GW364 := n4_
    have GE364 := n5_
    have NB348_364 := n6_
    have NB364_348 := n7_
    have HB := n8_
    clear n0_ n1_ n2_ n3_ n4_ n5_ n6_ n7_ n8_
    have hHeld : w80.cell? ⟨gb348, 0, none⟩ = some (.int .i64 a0_0) ∧ w80.cell? ⟨gb348, 1, none⟩ = some (.int .i64 a0_1) ∧ w80.cell? ⟨gb348, 2, none⟩ = some (.slice A0_2 l0_2.length c0_2) := hS_
    obtain ⟨Ao83, co83, eo83⟩ := Kd.R_slice HO362.out
    (first | subst eo83 | (injection eo83 with f1_ f2_ f3_; have f4_ := f1_.symm; have f5_ := f3_.symm; clear f1_ f2_ f3_; subst f4_; subst f5_))
    refine norm_ (a' := ?_) ?_ ?_
    rotate_left
    ·simp only [putAll, Act.put, List.setIfInBounds_toArray, List.set_cons_zero, List.set_cons_succ]
     rfl
    refine one_ (i := 10) (N := none) (mB 12 2047) rfl rfl (one_of HT_.out (by kernel_rfl)) (by decide) (fun K hK => ?_)
    have hs81 : w80.cell? ⟨gb364, 0, none⟩ = some (.int .i64 0) := (blk_cell BK364.out 0).trans rfl
    have hfs81 := blk_frozen BK364.out 0
    have hns81_0 := NB348_364.out
    have hms81_0 := NB364_348.out
    have hs82 : w80.cell? ⟨gb364, 1, none⟩ = some (.int .i64 0) := (blk_cell BK364.out 1).trans rfl
    have hfs82 := blk_frozen BK364.out 1
    have hns82_0 := NB348_364.out
    have hms82_0 := NB364_348.out
    have hs84 : w80.cell? ⟨gb364, 2, none⟩ = some (.slice none 0 0) := (blk_cell BK364.out 2).trans rfl
    have hfs84 := blk_frozen BK364.out 2
    have hns84_0 := NB348_364.out
    have hms84_0 := NB364_348.out
    refine skip_ (w1 := ?_) (by rfl) rfl ?_ ?_
    rotate_left
    ·go_simp
     rfl
    refine hK.out _ _ ⟨((cell_far (p := ⟨gb364, _, none⟩) NB348_364.out _).trans (((cell_far (p := ⟨gb364, _, none⟩) NB348_364.out _).trans (((cell_far (p := ⟨gb364, _, none⟩) NB348_364.out _).trans (hHeld.1)))))), ((cell_far (p := ⟨gb364, _, none⟩) NB348_364.out _).trans (((cell_far (p := ⟨gb364, _, none⟩) NB348_364.out _).trans (((cell_far (p := ⟨gb364, _, none⟩) NB348_364.out _).trans (hHeld.2.1)))))), ((cell_far (p := ⟨gb364, _, none⟩) NB348_364.out _).trans (((cell_far (p := ⟨gb364, _, none⟩) NB348_364.out _).trans (((cell_far (p := ⟨gb364, _, none⟩) NB348_364.out _).trans (hHeld.2.2))))))⟩ (fun hHeld => ?_)
    clear hK K
    refine pu 11 (some 10) (mB 12 4095) HT_ ?_
    refine done_ (done_of HT_.out (by kernel_rfl)) ?_
    have hnb85 := NB364_348.out
    have hnc85 := NB348_364.out
    obtain ⟨hcz86_0, hcz86_1, hcz86_2, hfz86_0, hfz86_1, hfz86_2⟩ := cell3 BK364
    try go_wp2_with (first | ((with_reducible refine gC 18 rfl ?_); refine cG (some 45) Tryd.func18 #[.agg #[.int .i64 t358, .int .i64 t359, .slice Ao83 t360.length co83]] ?_; (with_reducible refine (recoupref04_Kernel.calls k t358 t359 _ _ t360 t365 t366 t367 t370 _ ?side1 ?side2 A9.out).mono ?_); (case side1 => refine (Kd.R_reads' (e := 5) (base := w.heap.size) (ok := fun k_ => True) (n := t360.length) (c := co83) ?_).2.2; exact (by (with_reducible repeat (first | apply Kd.R_alloc | apply Kd.R_drewN | apply Kd.R_drew)); exact (fRtal HO362.out BK364.out (.int .i64 t358) (.int .i64 t359) (.slice Ao83 t360.length co83)))); (case side2 => exact (Kd.R_reads' HO362.out).2.1); rintro e w87 ⟨v368, rfl, ho0, hb⟩; refine ⟨_, rfl, ?_⟩; replace HO357 := Aside0.mk (Kd.R_below (by (with_reducible repeat (first | apply Kd.R_alloc | apply Kd.R_drewN | apply Kd.R_drew)); exact (fRtal HO357.out BK364.out (.int .i64 t358) (.int .i64 t359) (.slice Ao83 t360.length co83))) hb); have HO369 := Aside0.mk (Kd.R_lower (Kd.R_new' ho0 (Kd.R_lt (by (with_reducible repeat (first | apply Kd.R_alloc | apply Kd.R_drewN | apply Kd.R_drew)); exact (fRtal HO362.out BK364.out (.int .i64 t358) (.int .i64 t359) (.slice Ao83 t360.length co83))))) (below_size (hbA HB.out))); replace HO362 := Aside0.mk (Kd.R_elder' (by (with_reducible repeat (first | apply Kd.R_alloc | apply Kd.R_drewN | apply Kd.R_drew)); exact (fRtal HO362.out BK364.out (.int .i64 t358) (.int .i64 t359) (.slice Ao83 t360.length co83))) (Kd.R_base ho0) hb); replace BK348 := Aside0.mk (blk_below (g := gb348) (o := .cells #[.int .i64 a0_0, .int .i64 a0_1, .slice A0_2 l0_2.length c0_2] 24 (0, 0)) (by refine bkR ?_; refine blk_far ?_ NB348_364.out _; refine bkR ?_; refine blk_far ?_ NB348_364.out _; refine bkR ?_; refine blk_far ?_ NB348_364.out _; refine bkR ?_; exact BK348.out) hb); replace BK364 := Aside0.mk (blk_below (g := gb364) (o := .cells #[.int .i64 t358, .int .i64 t359, .slice Ao83 t360.length co83] 24 (0, 0)) (by refine bkR ?_; refine blk_put (cs := #[.int .i64 t358, .int .i64 t359, .slice none 0 0]) ?_ 2 _ rfl; refine bkR ?_; refine blk_put (cs := #[.int .i64 t358, .int .i64 0, .slice none 0 0]) ?_ 1 _ rfl; refine bkR ?_; refine blk_put (cs := #[.int .i64 0, .int .i64 0, .slice none 0 0]) ?_ 0 _ rfl; refine bkR ?_; exact BK364.out) hb); replace HB := hbB HB hb; (try clear hb); (try clear hb2); (try clear hk); (try clear hi); (try clear ho0)) | ((with_reducible refine gD 11 rfl ?_); refine bE 11 #[.int .i64 0, .int .i64 0, .slice none 0 0] 24 ?_; intro gb371 hg w88 hbox hb; replace HO357 := kdB HO357 hb; replace HO362 := kdB HO362 hb; replace HO369 := kdB HO369 hb; have BK371 := Aside0.mk (hbox); have GW371 := hbS HB hg; have GE371 := hbS HB hg; replace HB := hbB HB hb; have NB348_371 := neL BK348 hg; have NB371_348 := neG BK348 hg; replace BK348 := bkB BK348 hb; have NB364_371 := neL BK364 hg; have NB371_364 := neG BK364 hg; replace BK364 := bkB BK364 hb; clear hb hbox hg; have hnb89 := NB371_348.out; have hnc89 := NB348_371.out; have hnb90 := NB371_364.out; have hnc90 := NB364_371.out; obtain ⟨hcz91_0, hcz91_1, hcz91_2, hfz91_0, hfz91_1, hfz91_2⟩ := cell3 BK371; obtain ⟨Ao92, co92, eo92⟩ := Kd.R_slice HO369.out; subst eo92) | ((with_reducible refine gC 14 rfl ?_); refine cG (some 48) Tryd.func14 #[] ?_; (with_reducible refine (recouplaw18_anchored.calls k  true _ A10.out (tBtal HT.out HB)).mono ?_); rintro e w93 ⟨rfl, hb⟩; refine ⟨_, rfl, ?_⟩; replace HO357 := Aside0.mk (Kd.R_below (by (with_reducible repeat (first | apply Kd.R_alloc | apply Kd.R_drewN | apply Kd.R_drew)); exact (fRtal HO357.out BK371.out (.int .i64 t365) (.int .i64 t366) (.slice Ao92 t367.length co92))) hb); replace HO362 := Aside0.mk (Kd.R_below (by (with_reducible repeat (first | apply Kd.R_alloc | apply Kd.R_drewN | apply Kd.R_drew)); exact (fRtal HO362.out BK371.out (.int .i64 t365) (.int .i64 t366) (.slice Ao92 t367.length co92))) hb); replace HO369 := Aside0.mk (Kd.R_below (by (with_reducible repeat (first | apply Kd.R_alloc | apply Kd.R_drewN | apply Kd.R_drew)); exact (fRtal HO369.out BK371.out (.int .i64 t365) (.int .i64 t366) (.slice Ao92 t367.length co92))) hb); replace BK348 := Aside0.mk (blk_below (g := gb348) (o := .cells #[.int .i64 a0_0, .int .i64 a0_1, .slice A0_2 l0_2.length c0_2] 24 (0, 0)) (by refine bkR ?_; refine blk_far ?_ NB348_371.out _; refine bkR ?_; refine blk_far ?_ NB348_371.out _; refine bkR ?_; refine blk_far ?_ NB348_371.out _; refine bkR ?_; exact BK348.out) hb); replace BK364 := Aside0.mk (blk_below (g := gb364) (o := .cells #[.int .i64 t358, .int .i64 t359, .slice Ao83 t360.length co83] 24 (0, 0)) (by refine bkR ?_; refine blk_far ?_ NB364_371.out _; refine bkR ?_; refine blk_far ?_ NB364_371.out _; refine bkR ?_; refine blk_far ?_ NB364_371.out _; refine bkR ?_; exact BK364.out) hb); replace BK371 := Aside0.mk (blk_below (g := gb371) (o := .cells #[.int .i64 t365, .int .i64 t366, .slice Ao92 t367.length co92] 24 (0, 0)) (by refine bkR ?_; refine blk_put (cs := #[.int .i64 t365, .int .i64 t366, .slice none 0 0]) ?_ 2 _ rfl; refine bkR ?_; refine blk_put (cs := #[.int .i64 t365, .int .i64 0, .slice none 0 0]) ?_ 1 _ rfl; refine bkR ?_; refine blk_put (cs := #[.int .i64 0, .int .i64 0, .slice none 0 0]) ?_ 0 _ rfl; refine bkR ?_; exact BK371.out) hb); replace HB := hbB HB hb; (try clear hb); (try clear hb2); (try clear hk); (try clear hi)))
    go_ret
    exact ⟨rfE, hbA HB.out⟩
  ·replace c11 := Bool.eq_false_iff.mpr c11
   subst c11
   rw [if_neg nofT] at H
   obtain rfl := Option.some.inj H
   go_enter Tryd.func4, Tryd.ntmps4
   try go_wp2_with (first | ((with_reducible refine gD 2 rfl ?_); refine bE 2 #[.int .i64 a0_0, .int .i64 a0_1, .slice A0_2 l0_2.length c0_2] 24 ?_; intro gb348 hg w94 hbox hb; have BK348 := Aside0.mk (hbox); have GW348 := Aside0.mk ((by rw [hg]; exact (below_size (by repeat (first | (with_reducible first | exact HB.out | apply below_alloc | apply pw_below_drewN | apply below_drew1 | refine below_set ?_ (Aside0.out (by assumption))) | exact HB.out))) : w.heap.size ≤ gb348)); have GE348 := Aside0.mk ((by rw [hg]; exact (below_size (by repeat (first | (with_reducible first | exact HB.out | apply below_alloc | apply pw_below_drewN | apply below_drew1 | refine below_set ?_ (Aside0.out (by assumption))) | exact HB.out))) : w.heap.size ≤ gb348)); replace HB := Aside0.mk (below_step (by repeat (first | (with_reducible first | exact HB.out | apply below_alloc | apply pw_below_drewN | apply below_drew1 | refine below_set ?_ (Aside0.out (by assumption))) | exact HB.out)) hb); clear hb hbox hg; obtain ⟨hcz95_0, hcz95_1, hcz95_2, hfz95_0, hfz95_1, hfz95_2⟩ := cell3 BK348) | ((with_reducible refine gC 9 rfl ?_); refine cG (some 16) Tryd.func9 #[.agg #[.int .i64 a0_0, .int .i64 a0_1, .slice A0_2 l0_2.length c0_2], .int .u64 a1] ?_; (with_reducible refine (verdict_Recovers.calls k a0_0 a0_1 _ _ l0_2 a1 t349 t350 _ ?side1 ?side2 A3.out (tBtal HT.out HB)).mono ?_); (case side1 => exact kcB HR0_2 HB); (case side2 => exact HC0_2.out); rintro e w96 ⟨rfl, hb⟩; refine ⟨_, rfl, ?_⟩; replace BK348 := bkB BK348 hb; replace HB := hbB HB hb; (try clear hb); (try clear hb2); (try clear hk); (try clear hi); obtain ⟨hcz97_0, hcz97_1, hcz97_2, hfz97_0, hfz97_1, hfz97_2⟩ := cell3 BK348) | ((with_reducible refine gC 13 rfl ?_); refine cG (some 21) Tryd.func13 #[.agg #[.int .i64 a0_0, .int .i64 a0_1, .slice A0_2 l0_2.length c0_2], .int .u64 a1] ?_; (with_reducible refine (recouplaw18_generator.calls k a0_0 a0_1 _ _ l0_2 a1 true _ ?side1 ?side2 A4.out).mono ?_); (case side1 => exact kcB HR0_2 HB); (case side2 => exact HC0_2.out); rintro e w98 ⟨rfl, hb⟩; refine ⟨_, rfl, ?_⟩; replace BK348 := bkB BK348 hb; replace HB := hbB HB hb; (try clear hb); (try clear hb2); (try clear hk); (try clear hi); obtain ⟨hcz99_0, hcz99_1, hcz99_2, hfz99_0, hfz99_1, hfz99_2⟩ := cell3 BK348) | ((with_reducible refine gC 15 rfl ?_); refine cG (some 31) Tryd.func15 #[.int .i64 a0_0] ?_; (with_reducible refine (recoupref06_Full.calls k a0_0 t353 t354 _ A6.out).mono ?_); rintro e w' ⟨rfl, ⟨nd, rfl⟩⟩; refine ⟨_, rfl, ?_⟩; (try (rw [drewN_self w98]; generalize hq_ : World.drewN w98 _ = w98; have n0_ : Aside0 (w98.heap[gb348]? = some (.cells #[.int .i64 a0_0, .int .i64 a0_1, .slice A0_2 l0_2.length c0_2] 24 (0, 0))) := ⟨by rw [← hq_]; exact (bkA BK348.out)⟩; have n1_ : Aside0 (Below w.heap.size w w98) := ⟨by rw [← hq_]; exact (hbA HB.out)⟩; clear BK348 HB hq_; have BK348 := n0_; have HB := n1_; clear n0_ n1_))))
   replace BK348 := Aside0.mk (blk_drew BK348.out)
   replace HB := Aside0.mk (below_drew1 HB.out)
   refine start_ (n := 12) (S := fun w' => w'.cell? ⟨gb348, 0, none⟩ = some (.int .i64 a0_0) ∧ w'.cell? ⟨gb348, 1, none⟩ = some (.int .i64 a0_1) ∧ w'.cell? ⟨gb348, 2, none⟩ = some (.slice A0_2 l0_2.length c0_2)) (ds := []) (.replicate 12 false) (by kernel_rfl) rfl rfl ⟨(blk_cell BK348.out 0).trans rfl, (blk_cell BK348.out 1).trans rfl, (blk_cell BK348.out 2).trans rfl⟩ (fun hHeld => ?_); refine with_tabW recouplaw18_VerdictFatal.tab5 recouplaw18_VerdictFatal.bits5 (fun HT_ HW_ => ?_)
   generalize w98.drew = w100 at BK348 HB hHeld ⊢
   refine pu 1 (some 36) (mB 12 2) HT_ ?_
   refine pu 2 (some 37) (mB 12 6) HT_ ?_
   refine pu 3 (some 38) (mB 12 14) HT_ ?_
   refine tk3 0 (some 35) (mB 12 15) HT_ HW_ hHeld ?_
   refine join_ (σ := Value × Value × Nat) 2 (mB 12 1023) (fun s_ => [(39, s_.1), (40, .tuple #[.agg #[.int .i64 t358, .int .i64 t359, s_.2.1], .int .i64 t363]), (9, .pointer (some ⟨s_.2.2, 0, none⟩)), (34, .tuple #[.agg #[.int .i64 t358, .int .i64 t359, s_.2.1], .int .i64 t363]), (41, .agg #[.int .i64 t358, .int .i64 t359, s_.2.1]), (42, .int .i64 t363)]) (fun s_ w' => (w'.cell? ⟨gb348, 0, none⟩ = some (.int .i64 a0_0) ∧ w'.cell? ⟨gb348, 1, none⟩ = some (.int .i64 a0_1) ∧ w'.cell? ⟨gb348, 2, none⟩ = some (.slice A0_2 l0_2.length c0_2)) ∧ (Kd.R (Kd.int .i64) 3 w' w.heap.size (fun _ => True) s_.1 t355) ∧ (Kd.R (Kd.int .u8) 5 w' w.heap.size (fun _ => True) s_.2.1 t360) ∧ (w'.heap[gb348]? = some (.cells #[.int .i64 a0_0, .int .i64 a0_1, .slice A0_2 l0_2.length c0_2] 24 (0, 0))) ∧ (w'.heap[s_.2.2]? = some (.cells #[.int .i64 0, .int .i64 0, .slice none 0 0] 24 (0, 0))) ∧ (w.heap.size ≤ s_.2.2) ∧ (w.heap.size ≤ s_.2.2) ∧ (gb348 ≠ s_.2.2) ∧ (s_.2.2 ≠ gb348) ∧ (Below w.heap.size w w')) ?_ ?_
   rotate_left
   ·intro hCont
    refine two_ (i := 4) (j := 9) (Ni := some 39) (Nj := some 9) (mB 12 31) (mB 12 527) rfl rfl rfl rfl (two_of HT_.out (by kernel_rfl)) (by decide) (by decide) (fun K hK => ?_) (fun K hK => ?_)
    ·skip
     refine goes_ Tryd.func17 (by kernel_rfl) rfl #[.int .u64 (Go.bits .andNot .u64 t353 a1)] (by rfl) rfl rfl (by (try simp only [List.map_toArray, List.map_cons, List.map_nil]); first | done | rfl | (simp only [List.length_drop, List.length_take]; rfl)) ?_
     with_reducible refine (recoupref06_List.calls k (Go.bits .andNot .u64 t353 a1) t355 _ A7.out).mono ?_
     rintro e w101 ⟨v356, rfl, ho0, hb⟩
     refine ⟨_, rfl, ?_⟩
     have HO357 := Aside0.mk (Kd.R_lower ho0 (below_size (hbA HB.out)))
     replace BK348 := bkB BK348 hb
     replace HB := hbB HB hb
     (try clear hb)
     (try clear hb2)
     (try clear hk)
     (try clear hi)
     (try clear ho0)
     obtain ⟨Ao102, co102, eo102⟩ := Kd.R_slice HO357.out
     (first | subst eo102 | (injection eo102 with f1_ f2_ f3_; have f4_ := f1_.symm; have f5_ := f3_.symm; clear f1_ f2_ f3_; subst f4_; subst f5_))
     refine hK.out _ _ ⟨(blk_cell BK348.out 0).trans rfl, (blk_cell BK348.out 1).trans rfl, (blk_cell BK348.out 2).trans rfl⟩ (fun hHeld => ?_)
     clear hK K
     refine norm_ (a' := ?_) ?_ ?_
     rotate_left
     ·show Act.put _ (some 39) _ = _
      simp only [Act.put, List.setIfInBounds_toArray, List.set_cons_zero, List.set_cons_succ, i64_w, i32_w]
      rfl
     refine two_ (i := 5) (j := 9) (Ni := some 40) (Nj := some 9) (mB 12 63) (mB 12 543) rfl rfl rfl rfl (two_of HT_.out (by kernel_rfl)) (by decide) (by decide) (fun K hK => ?_) (fun K hK => ?_)
     ·skip
      refine goes_ Tryd.func16 (by kernel_rfl) rfl #[.agg #[.int .i64 a0_0, .int .i64 a0_1, .slice A0_2 l0_2.length c0_2], .slice Ao102 t355.length co102] (by rfl) rfl rfl (by (try simp only [List.map_toArray, List.map_cons, List.map_nil]); first | done | rfl | (simp only [List.length_drop, List.length_take]; rfl)) ?_
      with_reducible refine (recoupref03_Pick.calls k a0_0 a0_1 _ _ l0_2 _ _ t355 t358 t359 t360 t363 _ ?side1 ?side2 ?side3 ?side4 A8.out).mono ?_
      (case side1 => exact kcB HR0_2 HB)
      (case side2 => exact HC0_2.out)
      (case side3 => exact kcA (Kd.R_reads' HO357.out).2.2)
      (case side4 => exact (Kd.R_reads' HO357.out).2.1)
      rintro e w103 ⟨v361, rfl, ho0, hb⟩
      refine ⟨_, rfl, ?_⟩
      replace HO357 := kdB HO357 hb
      have HO362 := Aside0.mk (Kd.R_lower ho0 (below_size (hbA HB.out)))
      replace BK348 := bkB BK348 hb
      replace HB := hbB HB hb
      (try clear hb)
      (try clear hb2)
      (try clear hk)
      (try clear hi)
      (try clear ho0)
      refine hK.out _ _ ⟨(blk_cell BK348.out 0).trans rfl, (blk_cell BK348.out 1).trans rfl, (blk_cell BK348.out 2).trans rfl⟩ (fun hHeld => ?_)
      clear hK K
      refine norm_ (a' := ?_) ?_ ?_
      rotate_left
      ·show Act.put _ (some 40) _ = _
       simp only [Act.put, List.setIfInBounds_toArray, List.set_cons_zero, List.set_cons_succ, i64_w, i32_w]
       rfl
      refine pu 6 (some 34) (mB 12 127) HT_ ?_
      refine pu 7 (some 41) (mB 12 255) HT_ ?_
      refine pu 8 (some 42) (mB 12 511) HT_ ?_
      refine one_ (i := 9) (N := some 9) (mB 12 1023) rfl rfl (one_of HT_.out (by kernel_rfl)) (by decide) (fun K hK => ?_)
      refine box_step ?hg (N := 9) ?hd (cs := #[.int .i64 0, .int .i64 0, .slice none 0 0]) (t := 24) ?hr ?_; (case hd => rfl); (case hg => rfl); (case hr => first | (go_simp; done) | (go_simp; rfl))
      intro gb364 hg w104 hbox hb
      replace HO357 := kdB HO357 hb
      replace HO362 := kdB HO362 hb
      have BK364 := Aside0.mk (hbox)
      have GW364 := hbS HB hg
      have GE364 := hbS HB hg
      replace HB := hbB HB hb
      have NB348_364 := neL BK348 hg
      have NB364_348 := neG BK348 hg
      replace BK348 := bkB BK348 hb
      clear hb hbox hg
      refine hK.out _ _ ⟨(blk_cell BK348.out 0).trans rfl, (blk_cell BK348.out 1).trans rfl, (blk_cell BK348.out 2).trans rfl⟩ (fun hHeld => ?_)
      clear hK K
      refine norm_ (a' := ?_) ?_ ?_
      rotate_left
      ·show Act.put _ (some 9) _ = _
       simp only [Act.put, List.setIfInBounds_toArray, List.set_cons_zero, List.set_cons_succ, i64_w, i32_w]
       rfl
      exact norm_ (by simp only [putAll, Act.put, List.setIfInBounds_toArray, List.set_cons_zero, List.set_cons_succ]) (hCont (.slice Ao102 t355.length co102, v361, gb364) _ ⟨hHeld, (kdA HO357.out), (kdA HO362.out), (bkA BK348.out), (bkA BK364.out), GW364.out, GE364.out, NB348_364.out, NB364_348.out, (hbA HB.out)⟩)
     ·skip
      refine box_step ?hg (N := 9) ?hd (cs := #[.int .i64 0, .int .i64 0, .slice none 0 0]) (t := 24) ?hr ?_; (case hd => rfl); (case hg => rfl); (case hr => first | (go_simp; done) | (go_simp; rfl))
      intro gb364 hg w102 hbox hb
      replace HO357 := kdB HO357 hb
      have BK364 := Aside0.mk (hbox)
      have GW364 := hbS HB hg
      have GE364 := hbS HB hg
      replace HB := hbB HB hb
      have NB348_364 := neL BK348 hg
      have NB364_348 := neG BK348 hg
      replace BK348 := bkB BK348 hb
      clear hb hbox hg
      obtain ⟨Ao103, co103, eo103⟩ := Kd.R_slice HO357.out
      (first | subst eo103 | (injection eo103 with f1_ f2_ f3_; have f4_ := f1_.symm; have f5_ := f3_.symm; clear f1_ f2_ f3_; subst f4_; subst f5_))
      refine hK.out _ _ ⟨(blk_cell BK348.out 0).trans rfl, (blk_cell BK348.out 1).trans rfl, (blk_cell BK348.out 2).trans rfl⟩ (fun hHeld => ?_)
      clear hK K
      refine norm_ (a' := ?_) ?_ ?_
      rotate_left
      ·show Act.put _ (some 9) _ = _
       simp only [Act.put, List.setIfInBounds_toArray, List.set_cons_zero, List.set_cons_succ, i64_w, i32_w]
       rfl
      refine one_ (i := 5) (N := some 40) (mB 12 575) rfl rfl (one_of HT_.out (by kernel_rfl)) (by decide) (fun K hK => ?_)
      refine goes_ Tryd.func16 (by kernel_rfl) rfl #[.agg #[.int .i64 a0_0, .int .i64 a0_1, .slice A0_2 l0_2.length c0_2], .slice Ao103 t355.length co103] (by rfl) rfl rfl (by (try simp only [List.map_toArray, List.map_cons, List.map_nil]); first | done | rfl | (simp only [List.length_drop, List.length_take]; rfl)) ?_
      with_reducible refine (recoupref03_Pick.calls k a0_0 a0_1 _ _ l0_2 _ _ t355 t358 t359 t360 t363 _ ?side1 ?side2 ?side3 ?side4 A8.out).mono ?_
      (case side1 => exact kcB HR0_2 HB)
      (case side2 => exact HC0_2.out)
      (case side3 => exact kcA (Kd.R_reads' HO357.out).2.2)
      (case side4 => exact (Kd.R_reads' HO357.out).2.1)
      rintro e w104 ⟨v361, rfl, ho0, hb⟩
      refine ⟨_, rfl, ?_⟩
      replace HO357 := kdB HO357 hb
      have HO362 := Aside0.mk (Kd.R_lower ho0 (below_size (hbA HB.out)))
      replace BK348 := bkB BK348 hb
      replace BK364 := bkB BK364 hb
      replace HB := hbB HB hb
      (try clear hb)
      (try clear hb2)
      (try clear hk)
      (try clear hi)
      (try clear ho0)
      refine hK.out _ _ ⟨(blk_cell BK348.out 0).trans rfl, (blk_cell BK348.out 1).trans rfl, (blk_cell BK348.out 2).trans rfl⟩ (fun hHeld => ?_)
      clear hK K
      refine norm_ (a' := ?_) ?_ ?_
      rotate_left
      ·show Act.put _ (some 40) _ = _
       simp only [Act.put, List.setIfInBounds_toArray, List.set_cons_zero, List.set_cons_succ, i64_w, i32_w]
       rfl
      refine pu 6 (some 34) (mB 12 639) HT_ ?_
      refine pu 7 (some 41) (mB 12 767) HT_ ?_
      refine pu 8 (some 42) (mB 12 1023) HT_ ?_
      exact norm_ (by simp only [putAll, Act.put, List.setIfInBounds_toArray, List.set_cons_zero, List.set_cons_succ]) (hCont (.slice Ao103 t355.length co103, v361, gb364) _ ⟨hHeld, (kdA HO357.out), (kdA HO362.out), (bkA BK348.out), (bkA BK364.out), GW364.out, GE364.out, NB348_364.out, NB364_348.out, (hbA HB.out)⟩)
    ·skip
     refine box_step ?hg (N := 9) ?hd (cs := #[.int .i64 0, .int .i64 0, .slice none 0 0]) (t := 24) ?hr ?_; (case hd => rfl); (case hg => rfl); (case hr => first | (go_simp; done) | (go_simp; rfl))
     intro gb364 hg w101 hbox hb
     have BK364 := Aside0.mk (hbox)
     have GW364 := hbS HB hg
     have GE364 := hbS HB hg
     replace HB := hbB HB hb
     have NB348_364 := neL BK348 hg
     have NB364_348 := neG BK348 hg
     replace BK348 := bkB BK348 hb
     clear hb hbox hg
     refine hK.out _ _ ⟨(blk_cell BK348.out 0).trans rfl, (blk_cell BK348.out 1).trans rfl, (blk_cell BK348.out 2).trans rfl⟩ (fun hHeld => ?_)
     clear hK K
     refine norm_ (a' := ?_) ?_ ?_
     rotate_left
     ·show Act.put _ (some 9) _ = _
      simp only [Act.put, List.setIfInBounds_toArray, List.set_cons_zero, List.set_cons_succ, i64_w, i32_w]
      rfl
     refine one_ (i := 4) (N := some 39) (mB 12 543) rfl rfl (one_of HT_.out (by kernel_rfl)) (by decide) (fun K hK => ?_)
     refine goes_ Tryd.func17 (by kernel_rfl) rfl #[.int .u64 (Go.bits .andNot .u64 t353 a1)] (by rfl) rfl rfl (by (try simp only [List.map_toArray, List.map_cons, List.map_nil]); first | done | rfl | (simp only [List.length_drop, List.length_take]; rfl)) ?_
     with_reducible refine (recoupref06_List.calls k (Go.bits .andNot .u64 t353 a1) t355 _ A7.out).mono ?_
     rintro e w102 ⟨v356, rfl, ho0, hb⟩
     refine ⟨_, rfl, ?_⟩
     have HO357 := Aside0.mk (Kd.R_lower ho0 (below_size (hbA HB.out)))
     replace BK348 := bkB BK348 hb
     replace BK364 := bkB BK364 hb
     replace HB := hbB HB hb
     (try clear hb)
     (try clear hb2)
     (try clear hk)
     (try clear hi)
     (try clear ho0)
     obtain ⟨Ao103, co103, eo103⟩ := Kd.R_slice HO357.out
     (first | subst eo103 | (injection eo103 with f1_ f2_ f3_; have f4_ := f1_.symm; have f5_ := f3_.symm; clear f1_ f2_ f3_; subst f4_; subst f5_))
     refine hK.out _ _ ⟨(blk_cell BK348.out 0).trans rfl, (blk_cell BK348.out 1).trans rfl, (blk_cell BK348.out 2).trans rfl⟩ (fun hHeld => ?_)
     clear hK K
     refine norm_ (a' := ?_) ?_ ?_
     rotate_left
     ·show Act.put _ (some 39) _ = _
      simp only [Act.put, List.setIfInBounds_toArray, List.set_cons_zero, List.set_cons_succ, i64_w, i32_w]
      rfl
     refine one_ (i := 5) (N := some 40) (mB 12 575) rfl rfl (one_of HT_.out (by kernel_rfl)) (by decide) (fun K hK => ?_)
     refine goes_ Tryd.func16 (by kernel_rfl) rfl #[.agg #[.int .i64 a0_0, .int .i64 a0_1, .slice A0_2 l0_2.length c0_2], .slice Ao103 t355.length co103] (by rfl) rfl rfl (by (try simp only [List.map_toArray, List.map_cons, List.map_nil]); first | done | rfl | (simp only [List.length_drop, List.length_take]; rfl)) ?_
     with_reducible refine (recoupref03_Pick.calls k a0_0 a0_1 _ _ l0_2 _ _ t355 t358 t359 t360 t363 _ ?side1 ?side2 ?side3 ?side4 A8.out).mono ?_
     (case side1 => exact kcB HR0_2 HB)
     (case side2 => exact HC0_2.out)
     (case side3 => exact kcA (Kd.R_reads' HO357.out).2.2)
     (case side4 => exact (Kd.R_reads' HO357.out).2.1)
     rintro e w104 ⟨v361, rfl, ho0, hb⟩
     refine ⟨_, rfl, ?_⟩
     replace HO357 := kdB HO357 hb
     have HO362 := Aside0.mk (Kd.R_lower ho0 (below_size (hbA HB.out)))
     replace BK348 := bkB BK348 hb
     replace BK364 := bkB BK364 hb
     replace HB := hbB HB hb
     (try clear hb)
     (try clear hb2)
     (try clear hk)
     (try clear hi)
     (try clear ho0)
     refine hK.out _ _ ⟨(blk_cell BK348.out 0).trans rfl, (blk_cell BK348.out 1).trans rfl, (blk_cell BK348.out 2).trans rfl⟩ (fun hHeld => ?_)
     clear hK K
     refine norm_ (a' := ?_) ?_ ?_
     rotate_left
     ·show Act.put _ (some 40) _ = _
      simp only [Act.put, List.setIfInBounds_toArray, List.set_cons_zero, List.set_cons_succ, i64_w, i32_w]
      rfl
     refine pu 6 (some 34) (mB 12 639) HT_ ?_
     refine pu 7 (some 41) (mB 12 767) HT_ ?_
     refine pu 8 (some 42) (mB 12 1023) HT_ ?_
     exact norm_ (by simp only [putAll, Act.put, List.setIfInBounds_toArray, List.set_cons_zero, List.set_cons_succ]) (hCont (.slice Ao103 t355.length co103, v361, gb364) _ ⟨hHeld, (kdA HO357.out), (kdA HO362.out), (bkA BK348.out), (bkA BK364.out), GW364.out, GE364.out, NB348_364.out, NB364_348.out, (hbA HB.out)⟩)
   rintro ⟨v356, v361, gb364⟩ w105 ⟨hS_, h0_, h1_, h2_, h3_, h4_, h5_, h6_, h7_, h8_⟩
   have n0_ : Aside0 (Kd.R (Kd.int .i64) 3 w105 w.heap.size (fun _ => True) v356 t355) := ⟨h0_⟩
   have n1_ : Aside0 (Kd.R (Kd.int .u8) 5 w105 w.heap.size (fun _ => True) v361 t360) := ⟨h1_⟩
   have n2_ : Aside0 (w105.heap[gb348]? = some (.cells #[.int .i64 a0_0, .int .i64 a0_1, .slice A0_2 l0_2.length c0_2] 24 (0, 0))) := ⟨h2_⟩
   have n3_ : Aside0 (w105.heap[gb364]? = some (.cells #[.int .i64 0, .int .i64 0, .slice none 0 0] 24 (0, 0))) := ⟨h3_⟩
   have n4_ : Aside0 (w.heap.size ≤ gb364) := ⟨h4_⟩
   have n5_ : Aside0 (w.heap.size ≤ gb364) := ⟨h5_⟩
   have n6_ : Aside0 (gb348 ≠ gb364) := ⟨h6_⟩
   have n7_ : Aside0 (gb364 ≠ gb348) := ⟨h7_⟩
   have n8_ : Aside0 (Below w.heap.size w w105) := ⟨h8_⟩
   clear BK348
   clear HB
   clear h0_ h1_ h2_ h3_ h4_ h5_ h6_ h7_ h8_
   have HO357 := n0_
   have HO362 := n1_
   have BK348 := n2_
   have BK364 := n3_
   have GW364 := n4_
   have GE364 := n5_
   have NB348_364 := n6_
   have NB364_348 := n7_
   have HB := n8_
   clear n0_ n1_ n2_ n3_ n4_ n5_ n6_ n7_ n8_
   have hHeld : w105.cell? ⟨gb348, 0, none⟩ = some (.int .i64 a0_0) ∧ w105.cell? ⟨gb348, 1, none⟩ = some (.int .i64 a0_1) ∧ w105.cell? ⟨gb348, 2, none⟩ = some (.slice A0_2 l0_2.length c0_2) := hS_
   obtain ⟨Ao108, co108, eo108⟩ := Kd.R_slice HO362.out
   (first | subst eo108 | (injection eo108 with f1_ f2_ f3_; have f4_ := f1_.symm; have f5_ := f3_.symm; clear f1_ f2_ f3_; subst f4_; subst f5_))
   refine norm_ (a' := ?_) ?_ ?_
   rotate_left
   ·simp only [putAll, Act.put, List.setIfInBounds_toArray, List.set_cons_zero, List.set_cons_succ]
    rfl
   refine one_ (i := 10) (N := none) (mB 12 2047) rfl rfl (one_of HT_.out (by kernel_rfl)) (by decide) (fun K hK => ?_)
   have hs106 : w105.cell? ⟨gb364, 0, none⟩ = some (.int .i64 0) := (blk_cell BK364.out 0).trans rfl
   have hfs106 := blk_frozen BK364.out 0
   have hns106_0 := NB348_364.out
   have hms106_0 := NB364_348.out
   have hs107 : w105.cell? ⟨gb364, 1, none⟩ = some (.int .i64 0) := (blk_cell BK364.out 1).trans rfl
   have hfs107 := blk_frozen BK364.out 1
   have hns107_0 := NB348_364.out
   have hms107_0 := NB364_348.out
   have hs109 : w105.cell? ⟨gb364, 2, none⟩ = some (.slice none 0 0) := (blk_cell BK364.out 2).trans rfl
   have hfs109 := blk_frozen BK364.out 2
   have hns109_0 := NB348_364.out
   have hms109_0 := NB364_348.out
   refine skip_ (w1 := ?_) (by rfl) rfl ?_ ?_
   rotate_left
   ·go_simp
    rfl
   refine hK.out _ _ ⟨((cell_far (p := ⟨gb364, _, none⟩) NB348_364.out _).trans (((cell_far (p := ⟨gb364, _, none⟩) NB348_364.out _).trans (((cell_far (p := ⟨gb364, _, none⟩) NB348_364.out _).trans (hHeld.1)))))), ((cell_far (p := ⟨gb364, _, none⟩) NB348_364.out _).trans (((cell_far (p := ⟨gb364, _, none⟩) NB348_364.out _).trans (((cell_far (p := ⟨gb364, _, none⟩) NB348_364.out _).trans (hHeld.2.1)))))), ((cell_far (p := ⟨gb364, _, none⟩) NB348_364.out _).trans (((cell_far (p := ⟨gb364, _, none⟩) NB348_364.out _).trans (((cell_far (p := ⟨gb364, _, none⟩) NB348_364.out _).trans (hHeld.2.2))))))⟩ (fun hHeld => ?_)
   clear hK K
   refine pu 11 (some 10) (mB 12 4095) HT_ ?_
   refine done_ (done_of HT_.out (by kernel_rfl)) ?_
   have hnb110 := NB364_348.out
   have hnc110 := NB348_364.out
   obtain ⟨hcz111_0, hcz111_1, hcz111_2, hfz111_0, hfz111_1, hfz111_2⟩ := cell3 BK364
   try go_wp2_with (first | ((with_reducible refine gC 18 rfl ?_); refine cG (some 45) Tryd.func18 #[.agg #[.int .i64 t358, .int .i64 t359, .slice Ao108 t360.length co108]] ?_; (with_reducible refine (recoupref04_Kernel.calls k t358 t359 _ _ t360 t365 t366 t367 t370 _ ?side1 ?side2 A9.out).mono ?_); (case side1 => refine (Kd.R_reads' (e := 5) (base := w.heap.size) (ok := fun k_ => True) (n := t360.length) (c := co108) ?_).2.2; exact (by (with_reducible repeat (first | apply Kd.R_alloc | apply Kd.R_drewN | apply Kd.R_drew)); exact (fRtal HO362.out BK364.out (.int .i64 t358) (.int .i64 t359) (.slice Ao108 t360.length co108)))); (case side2 => exact (Kd.R_reads' HO362.out).2.1); rintro e w112 ⟨v368, rfl, ho0, hb⟩; refine ⟨_, rfl, ?_⟩; replace HO357 := Aside0.mk (Kd.R_below (by (with_reducible repeat (first | apply Kd.R_alloc | apply Kd.R_drewN | apply Kd.R_drew)); exact (fRtal HO357.out BK364.out (.int .i64 t358) (.int .i64 t359) (.slice Ao108 t360.length co108))) hb); have HO369 := Aside0.mk (Kd.R_lower (Kd.R_new' ho0 (Kd.R_lt (by (with_reducible repeat (first | apply Kd.R_alloc | apply Kd.R_drewN | apply Kd.R_drew)); exact (fRtal HO362.out BK364.out (.int .i64 t358) (.int .i64 t359) (.slice Ao108 t360.length co108))))) (below_size (hbA HB.out))); replace HO362 := Aside0.mk (Kd.R_elder' (by (with_reducible repeat (first | apply Kd.R_alloc | apply Kd.R_drewN | apply Kd.R_drew)); exact (fRtal HO362.out BK364.out (.int .i64 t358) (.int .i64 t359) (.slice Ao108 t360.length co108))) (Kd.R_base ho0) hb); replace BK348 := Aside0.mk (blk_below (g := gb348) (o := .cells #[.int .i64 a0_0, .int .i64 a0_1, .slice A0_2 l0_2.length c0_2] 24 (0, 0)) (by refine bkR ?_; refine blk_far ?_ NB348_364.out _; refine bkR ?_; refine blk_far ?_ NB348_364.out _; refine bkR ?_; refine blk_far ?_ NB348_364.out _; refine bkR ?_; exact BK348.out) hb); replace BK364 := Aside0.mk (blk_below (g := gb364) (o := .cells #[.int .i64 t358, .int .i64 t359, .slice Ao108 t360.length co108] 24 (0, 0)) (by refine bkR ?_; refine blk_put (cs := #[.int .i64 t358, .int .i64 t359, .slice none 0 0]) ?_ 2 _ rfl; refine bkR ?_; refine blk_put (cs := #[.int .i64 t358, .int .i64 0, .slice none 0 0]) ?_ 1 _ rfl; refine bkR ?_; refine blk_put (cs := #[.int .i64 0, .int .i64 0, .slice none 0 0]) ?_ 0 _ rfl; refine bkR ?_; exact BK364.out) hb); replace HB := hbB HB hb; (try clear hb); (try clear hb2); (try clear hk); (try clear hi); (try clear ho0)) | ((with_reducible refine gD 11 rfl ?_); refine bE 11 #[.int .i64 0, .int .i64 0, .slice none 0 0] 24 ?_; intro gb371 hg w113 hbox hb; replace HO357 := kdB HO357 hb; replace HO362 := kdB HO362 hb; replace HO369 := kdB HO369 hb; have BK371 := Aside0.mk (hbox); have GW371 := hbS HB hg; have GE371 := hbS HB hg; replace HB := hbB HB hb; have NB348_371 := neL BK348 hg; have NB371_348 := neG BK348 hg; replace BK348 := bkB BK348 hb; have NB364_371 := neL BK364 hg; have NB371_364 := neG BK364 hg; replace BK364 := bkB BK364 hb; clear hb hbox hg; have hnb114 := NB371_348.out; have hnc114 := NB348_371.out; have hnb115 := NB371_364.out; have hnc115 := NB364_371.out; obtain ⟨hcz116_0, hcz116_1, hcz116_2, hfz116_0, hfz116_1, hfz116_2⟩ := cell3 BK371; obtain ⟨Ao117, co117, eo117⟩ := Kd.R_slice HO369.out; subst eo117) | ((with_reducible refine gC 14 rfl ?_); refine cG (some 48) Tryd.func14 #[] ?_; (with_reducible refine (recouplaw18_anchored.calls k  false _ A10.out (tBtal HT.out HB)).mono ?_); rintro e w118 ⟨rfl, hb⟩; refine ⟨_, rfl, ?_⟩; replace HO357 := Aside0.mk (Kd.R_below (by (with_reducible repeat (first | apply Kd.R_alloc | apply Kd.R_drewN | apply Kd.R_drew)); exact (fRtal HO357.out BK371.out (.int .i64 t365) (.int .i64 t366) (.slice Ao117 t367.length co117))) hb); replace HO362 := Aside0.mk (Kd.R_below (by (with_reducible repeat (first | apply Kd.R_alloc | apply Kd.R_drewN | apply Kd.R_drew)); exact (fRtal HO362.out BK371.out (.int .i64 t365) (.int .i64 t366) (.slice Ao117 t367.length co117))) hb); replace HO369 := Aside0.mk (Kd.R_below (by (with_reducible repeat (first | apply Kd.R_alloc | apply Kd.R_drewN | apply Kd.R_drew)); exact (fRtal HO369.out BK371.out (.int .i64 t365) (.int .i64 t366) (.slice Ao117 t367.length co117))) hb); replace BK348 := Aside0.mk (blk_below (g := gb348) (o := .cells #[.int .i64 a0_0, .int .i64 a0_1, .slice A0_2 l0_2.length c0_2] 24 (0, 0)) (by refine bkR ?_; refine blk_far ?_ NB348_371.out _; refine bkR ?_; refine blk_far ?_ NB348_371.out _; refine bkR ?_; refine blk_far ?_ NB348_371.out _; refine bkR ?_; exact BK348.out) hb); replace BK364 := Aside0.mk (blk_below (g := gb364) (o := .cells #[.int .i64 t358, .int .i64 t359, .slice Ao108 t360.length co108] 24 (0, 0)) (by refine bkR ?_; refine blk_far ?_ NB364_371.out _; refine bkR ?_; refine blk_far ?_ NB364_371.out _; refine bkR ?_; refine blk_far ?_ NB364_371.out _; refine bkR ?_; exact BK364.out) hb); replace BK371 := Aside0.mk (blk_below (g := gb371) (o := .cells #[.int .i64 t365, .int .i64 t366, .slice Ao117 t367.length co117] 24 (0, 0)) (by refine bkR ?_; refine blk_put (cs := #[.int .i64 t365, .int .i64 t366, .slice none 0 0]) ?_ 2 _ rfl; refine bkR ?_; refine blk_put (cs := #[.int .i64 t365, .int .i64 0, .slice none 0 0]) ?_ 1 _ rfl; refine bkR ?_; refine blk_put (cs := #[.int .i64 0, .int .i64 0, .slice none 0 0]) ?_ 0 _ rfl; refine bkR ?_; exact BK371.out) hb); replace HB := hbB HB hb; (try clear hb); (try clear hb2); (try clear hk); (try clear hi)))
   go_ret
   exact ⟨rfE, hbA HB.out⟩
 ·replace c5 := Bool.eq_false_iff.mpr c5
  subst c5
  rw [if_neg nofT] at H
  obtain ⟨t352, A119, H⟩ := bindO H
  (try dsimp only at H)
  by_cases c120 : t352 = true
  ·subst c120
   rw [if_pos rfl] at H
   obtain rfl := Option.some.inj H
   go_enter Tryd.func4, Tryd.ntmps4
   go_wp2_with (first | ((with_reducible refine gD 2 rfl ?_); refine bE 2 #[.int .i64 a0_0, .int .i64 a0_1, .slice A0_2 l0_2.length c0_2] 24 ?_; intro gb348 hg w121 hbox hb; have BK348 := Aside0.mk (hbox); have GW348 := Aside0.mk ((by rw [hg]; exact (below_size (by repeat (first | (with_reducible first | exact HB.out | apply below_alloc | apply pw_below_drewN | apply below_drew1 | refine below_set ?_ (Aside0.out (by assumption))) | exact HB.out))) : w.heap.size ≤ gb348)); have GE348 := Aside0.mk ((by rw [hg]; exact (below_size (by repeat (first | (with_reducible first | exact HB.out | apply below_alloc | apply pw_below_drewN | apply below_drew1 | refine below_set ?_ (Aside0.out (by assumption))) | exact HB.out))) : w.heap.size ≤ gb348)); replace HB := Aside0.mk (below_step (by repeat (first | (with_reducible first | exact HB.out | apply below_alloc | apply pw_below_drewN | apply below_drew1 | refine below_set ?_ (Aside0.out (by assumption))) | exact HB.out)) hb); clear hb hbox hg; obtain ⟨hcz122_0, hcz122_1, hcz122_2, hfz122_0, hfz122_1, hfz122_2⟩ := cell3 BK348) | ((with_reducible refine gC 9 rfl ?_); refine cG (some 16) Tryd.func9 #[.agg #[.int .i64 a0_0, .int .i64 a0_1, .slice A0_2 l0_2.length c0_2], .int .u64 a1] ?_; (with_reducible refine (verdict_Recovers.calls k a0_0 a0_1 _ _ l0_2 a1 t349 t350 _ ?side1 ?side2 A3.out (tBtal HT.out HB)).mono ?_); (case side1 => exact kcB HR0_2 HB); (case side2 => exact HC0_2.out); rintro e w123 ⟨rfl, hb⟩; refine ⟨_, rfl, ?_⟩; replace BK348 := bkB BK348 hb; replace HB := hbB HB hb; (try clear hb); (try clear hb2); (try clear hk); (try clear hi); obtain ⟨hcz124_0, hcz124_1, hcz124_2, hfz124_0, hfz124_1, hfz124_2⟩ := cell3 BK348) | ((with_reducible refine gC 13 rfl ?_); refine cG (some 21) Tryd.func13 #[.agg #[.int .i64 a0_0, .int .i64 a0_1, .slice A0_2 l0_2.length c0_2], .int .u64 a1] ?_; (with_reducible refine (recouplaw18_generator.calls k a0_0 a0_1 _ _ l0_2 a1 false _ ?side1 ?side2 A4.out).mono ?_); (case side1 => exact kcB HR0_2 HB); (case side2 => exact HC0_2.out); rintro e w125 ⟨rfl, hb⟩; refine ⟨_, rfl, ?_⟩; replace BK348 := bkB BK348 hb; replace HB := hbB HB hb; (try clear hb); (try clear hb2); (try clear hk); (try clear hi)) | ((with_reducible refine gC 14 rfl ?_); refine cG (some 23) Tryd.func14 #[] ?_; (with_reducible refine (recouplaw18_anchored.calls k  true _ A119.out (tBtal HT.out HB)).mono ?_); rintro e w126 ⟨rfl, hb⟩; refine ⟨_, rfl, ?_⟩; replace BK348 := bkB BK348 hb; replace HB := hbB HB hb; (try clear hb); (try clear hb2); (try clear hk); (try clear hi)))
   go_ret
   exact ⟨rfE, hbA HB.out⟩
  ·replace c120 := Bool.eq_false_iff.mpr c120
   subst c120
   rw [if_neg nofT] at H
   obtain rfl := Option.some.inj H
   go_enter Tryd.func4, Tryd.ntmps4
   go_wp2_with (first | ((with_reducible refine gD 2 rfl ?_); refine bE 2 #[.int .i64 a0_0, .int .i64 a0_1, .slice A0_2 l0_2.length c0_2] 24 ?_; intro gb348 hg w127 hbox hb; have BK348 := Aside0.mk (hbox); have GW348 := Aside0.mk ((by rw [hg]; exact (below_size (by repeat (first | (with_reducible first | exact HB.out | apply below_alloc | apply pw_below_drewN | apply below_drew1 | refine below_set ?_ (Aside0.out (by assumption))) | exact HB.out))) : w.heap.size ≤ gb348)); have GE348 := Aside0.mk ((by rw [hg]; exact (below_size (by repeat (first | (with_reducible first | exact HB.out | apply below_alloc | apply pw_below_drewN | apply below_drew1 | refine below_set ?_ (Aside0.out (by assumption))) | exact HB.out))) : w.heap.size ≤ gb348)); replace HB := Aside0.mk (below_step (by repeat (first | (with_reducible first | exact HB.out | apply below_alloc | apply pw_below_drewN | apply below_drew1 | refine below_set ?_ (Aside0.out (by assumption))) | exact HB.out)) hb); clear hb hbox hg; obtain ⟨hcz128_0, hcz128_1, hcz128_2, hfz128_0, hfz128_1, hfz128_2⟩ := cell3 BK348) | ((with_reducible refine gC 9 rfl ?_); refine cG (some 16) Tryd.func9 #[.agg #[.int .i64 a0_0, .int .i64 a0_1, .slice A0_2 l0_2.length c0_2], .int .u64 a1] ?_; (with_reducible refine (verdict_Recovers.calls k a0_0 a0_1 _ _ l0_2 a1 t349 t350 _ ?side1 ?side2 A3.out (tBtal HT.out HB)).mono ?_); (case side1 => exact kcB HR0_2 HB); (case side2 => exact HC0_2.out); rintro e w129 ⟨rfl, hb⟩; refine ⟨_, rfl, ?_⟩; replace BK348 := bkB BK348 hb; replace HB := hbB HB hb; (try clear hb); (try clear hb2); (try clear hk); (try clear hi); obtain ⟨hcz130_0, hcz130_1, hcz130_2, hfz130_0, hfz130_1, hfz130_2⟩ := cell3 BK348) | ((with_reducible refine gC 13 rfl ?_); refine cG (some 21) Tryd.func13 #[.agg #[.int .i64 a0_0, .int .i64 a0_1, .slice A0_2 l0_2.length c0_2], .int .u64 a1] ?_; (with_reducible refine (recouplaw18_generator.calls k a0_0 a0_1 _ _ l0_2 a1 false _ ?side1 ?side2 A4.out).mono ?_); (case side1 => exact kcB HR0_2 HB); (case side2 => exact HC0_2.out); rintro e w131 ⟨rfl, hb⟩; refine ⟨_, rfl, ?_⟩; replace BK348 := bkB BK348 hb; replace HB := hbB HB hb; (try clear hb); (try clear hb2); (try clear hk); (try clear hi)) | ((with_reducible refine gC 14 rfl ?_); refine cG (some 23) Tryd.func14 #[] ?_; (with_reducible refine (recouplaw18_anchored.calls k  false _ A119.out (tBtal HT.out HB)).mono ?_); rintro e w132 ⟨rfl, hb⟩; refine ⟨_, rfl, ?_⟩; replace BK348 := bkB BK348 hb; replace HB := hbB HB hb; (try clear hb); (try clear hb2); (try clear hk); (try clear hi)))
   go_ret
   exact ⟨rfE, hbA HB.out⟩
end Go.Proofs.YtkagobkedifhkaaDoor.Q
