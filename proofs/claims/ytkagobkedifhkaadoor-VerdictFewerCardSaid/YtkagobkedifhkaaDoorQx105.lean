/- Written by drive.py (a program of this repo, over the kit's print): each Go function named here answers what the Lean function beside it answers, wherever that one answers, in every world that meets the stated premises. -/
import Derived.Test.YtkagobkedifhkaaDoorQx0
import Derived.Test.YtkagobkedifhkaaDoorQx109
import Derived.Test.YtkagobkedifhkaaDoorQx111
import Derived.Test.YtkagobkedifhkaaDoorQx113
import Derived.Test.YtkagobkedifhkaaDoorQx114
import Derived.Test.YtkagobkedifhkaaDoorQx126
namespace Go.Proofs.YtkagobkedifhkaaDoor.Q
open Go.RowKit Go.Proofs.YtkagobkedifhkaaDoorW.PrintWords Go.Proofs.YtkagobkedifhkaaDoorW.PrintLast Go.Proofs.YtkagobkedifhkaaDoorW.PrintMore
attribute [local go_sem] max2_int min2_int max_two min_two max_three min_three max_four min_four   -- for this text's walks alone
set_option linter.unusedVariables false
set_option linter.unusedSimpArgs false
theorem tBwer {g : Nat} {tab : List Nat} {w W0 W : World} (h : TabAt g tab w) (B : Aside0 (Below w.heap.size w W0)) (k : Below w.heap.size w W0 → Below w.heap.size w W := by intro h_; repeat (first | (with_reducible first | exact h_ | apply below_alloc | apply pw_below_drewN | apply below_drew1 | refine below_set ?_ (Aside0.out (by assumption))) | exact h_)) : TabAt g tab W := tab_below h (k B.out)
theorem pOwer {P : Program} {ops : Array Oper} {Q : Exit → Act → World → Prop} {md : Region.Mode} {S : World → Prop} {ds : List Nat} {T : Bool × List (List Nat × List Nat)} {oi : Oper} {fuel : Nat} {l : Array Bool} {a a' : Act} {w : World} (i : Nat) (N : Option Tmp) (l' : Array Bool) (hT : Aside0 (rtab md ops = T)) (h : wpAnyLast P md ops Q S ds fuel l' a' w) (hi : ops[i]? = some oi := by exact rfl) (hN : oi.dst = N := by exact rfl) (hc : anyT T l.toList l'.toList i = true := by kernel_rfl) (hQ : ∀ c a w, Q (.panic c) (a.put oi.dst undef) w → Q (.panic c) a w := by exact (fun _ _ _ h => h)) (hy : Yields P ops oi undef a := by exact (Or.inr ⟨by rfl, rfl⟩)) (ha : a.put N undef = a' := by (simp only [Act.put, List.setIfInBounds_toArray, List.set_cons_zero, List.set_cons_succ, i64_w, i32_w]; rfl)) : wpAnyLast P md ops Q S ds (fuel + 1) l a w :=
  pure_ l' hi hN (any_of hT.out hc) hQ hy ha h
def recouplaw18_VerdictFewer.f (k : Nat) (a0_0 : Int) (a0_1 : Int) (l0_2 : List Int) (a1 : Int) (a2 : Int) : Option (Bool) := (verdict_Recovers.f k a0_0 a0_1 l0_2 a1).bind fun bt375 => ((recouplaw18_generator.f k a0_0 a0_1 l0_2 a1).bind fun t377 => (if t377 = true then ((verdict_Recovers.f k a0_0 a0_1 l0_2 (Go.bits .and .u64 a1 a2)).bind fun bt379 => ((verdict_Sources.f k a0_0 a0_1 l0_2 a1).bind fun bt381 => ((recouplaw18_anchored.f k).bind fun t384 => (if t384 = true then (if bt375.2 = 0 then (if bt379.2 = 0 then (if bt381.2.2 = 0 then (if bt375.1 = true then (if bt379.1 = true then (if (bt381.2.1 == bt375.1) = true then (if (Go.bits .and .u64 bt381.1 a1) = 0 then (if bt381.2.1 = true then ((recoupref06_List.f k bt381.1).bind fun t385 => (some ((t385.length : Int) == a0_1))) else (if bt381.1 = 0 then (some true) else (some false))) else (some false)) else (some false)) else (some false)) else (if (bt381.2.1 == bt375.1) = true then (if (Go.bits .and .u64 bt381.1 a1) = 0 then (if bt381.2.1 = true then ((recoupref06_List.f k bt381.1).bind fun t388 => (some ((t388.length : Int) == a0_1))) else (if bt381.1 = 0 then (some true) else (some false))) else (some false)) else (some false))) else (some false)) else (some false)) else (some false)) else (some false))))) else ((recouplaw18_anchored.f k).bind fun t378 => (if t378 = true then (some (bt375.2 != 0)) else (some false)))))
def recouplaw18_VerdictFewer.T6 : Bool × List (List Nat × List Nat) := (true, [([], []), ([0, 0], [0]), ([1], [1]), ([2, 1], [1, 2]), ([1, 3], [1, 3]), ([4, 1], [4]), ([5], [5]), ([6, 5], [5, 6]), ([5, 7], [5, 7]), ([8, 5], [8]), ([9], [9]), ([10, 9], [9, 10]), ([9, 11], [9, 11]), ([12, 9], [12]), ([13], [13]), ([14, 13], [13, 14]), ([15, 13, 13], [13, 15]), ([16], [16]), ([16, 17, 13], [13, 16, 17]), ([13, 18], [13, 18]), ([19, 16], [19]), ([20], [20]), ([20], [20]), ([21, 22, 20], [20, 21, 22]), ([20, 23], [20, 23]), ([24, 20], [24]), ([25], [25]), ([25], [25]), ([26, 27, 25], [25, 26, 27]), ([28, 25], [25, 28]), ([25, 29], [25, 29]), ([30, 25], [30]), ([31], [31]), ([32, 31], [31, 32]), ([33, 31, 31], [31, 33]), ([34], [34]), ([35, 34], [34, 35]), ([34, 36, 31], [31, 34, 36]), ([37, 34, 31], [31, 37]), ([38], [38]), ([39, 38, 38], [38, 39]), ([40], [40]), ([41, 40, 40], [40, 41]), ([42, 40], [40, 42]), ([40], [40]), ([44, 40], [40, 44]), ([43, 45, 40], [40, 43, 45]), ([40, 46, 38], [38, 40, 46]), ([38, 47, 31], [31, 38, 47]), ([31, 48], [31, 48]), ([49, 42, 0, 1, 2, 3, 4, 5, 6, 7, 8, 9, 10, 11, 12, 13, 14, 15, 16, 17, 18, 19, 20, 21, 22, 23, 24, 25, 26, 27, 28, 29, 30, 31, 32, 33, 34, 35, 36, 37, 38, 39, 40, 41, 42, 43, 44, 45, 46, 47, 48, 49], [49])])
def recouplaw18_VerdictFewer.B6 : List Nat := [0, 1, 3, 7, 15, 31, 63, 127, 255, 511, 1023, 2047, 4095, 8191, 16383, 32767, 65535, 131071, 262143, 524287, 1048575, 2097151, 2097151, 8388607, 16777215, 33554431, 67108863, 67108863, 268435455, 536870911, 1073741823, 2147483647, 4294967295, 8589934591, 17179869183, 34359738367, 68719476735, 137438953471, 274877906943, 549755813887, 1099511627775, 2199023255551, 4398046511103, 8796093022207, 2199023255551, 19791209299967, 70368744177663, 140737488355327, 281474976710655, 562949953421311, 1125899906842623]
theorem recouplaw18_VerdictFewer.tab6 : rtab .any (opsOf Tryd.f5 6) = recouplaw18_VerdictFewer.T6 := by kernel_rfl
theorem recouplaw18_VerdictFewer.bits6 : waitsOk recouplaw18_VerdictFewer.T6.2 recouplaw18_VerdictFewer.B6 = true := by kernel_rfl
set_option maxHeartbeats 8000000 in
set_option maxRecDepth 100000 in
theorem recouplaw18_VerdictFewer.calls (k : Nat) (a0_0 : Int) (a0_1 : Int) (A0_2 : Option Addr) (c0_2 : Nat) (l0_2 : List Int) (a1 : Int) (a2 : Int) (r : Bool) (w : World) (hr0_2 : Kd.C (Kd.int .u8) w A0_2 l0_2.length l0_2) (hc0_2 : l0_2.length ≤ c0_2) (h : recouplaw18_VerdictFewer.f k a0_0 a0_1 l0_2 a1 a2 = some r) (hT : TabAt 0 Lib.deBruijn64tab w) :
  Calls Tryd.prog 5 #[.agg #[.int .i64 a0_0, .int .i64 a0_1, .slice A0_2 l0_2.length c0_2], .int .u64 a1, .int .u64 a2] w fun e w' => e = .returned (.bool r) ∧ Below w.heap.size w w' := by
 have HT := Aside0.mk hT
 clear hT
 have hu24 := Tryd.underlying24
 have HR0_2 := Aside0.mk hr0_2
 have HC0_2 := Aside0.mk hc0_2
 clear hr0_2 hc0_2
 have HB := Aside0.mk (Below.refl w.heap.size w)
 have H : ((verdict_Recovers.f k a0_0 a0_1 l0_2 a1).bind fun bt375 => ((recouplaw18_generator.f k a0_0 a0_1 l0_2 a1).bind fun t377 => (if t377 = true then ((verdict_Recovers.f k a0_0 a0_1 l0_2 (Go.bits .and .u64 a1 a2)).bind fun bt379 => ((verdict_Sources.f k a0_0 a0_1 l0_2 a1).bind fun bt381 => ((recouplaw18_anchored.f k).bind fun t384 => (if t384 = true then (if bt375.2 = 0 then (if bt379.2 = 0 then (if bt381.2.2 = 0 then (if bt375.1 = true then (if bt379.1 = true then (if (bt381.2.1 == bt375.1) = true then (if (Go.bits .and .u64 bt381.1 a1) = 0 then (if bt381.2.1 = true then ((recoupref06_List.f k bt381.1).bind fun t385 => (some ((t385.length : Int) == a0_1))) else (if bt381.1 = 0 then (some true) else (some false))) else (some false)) else (some false)) else (some false)) else (if (bt381.2.1 == bt375.1) = true then (if (Go.bits .and .u64 bt381.1 a1) = 0 then (if bt381.2.1 = true then ((recoupref06_List.f k bt381.1).bind fun t388 => (some ((t388.length : Int) == a0_1))) else (if bt381.1 = 0 then (some true) else (some false))) else (some false)) else (some false))) else (some false)) else (some false)) else (some false)) else (some false))))) else ((recouplaw18_anchored.f k).bind fun t378 => (if t378 = true then (some (bt375.2 != 0)) else (some false)))))) = some r := h
 clear h
 obtain ⟨⟨t375, t376⟩, A4, H⟩ := bindO H
 (try dsimp only at H)
 obtain ⟨t377, A5, H⟩ := bindO H
 (try dsimp only at H)
 by_cases c6 : t377 = true
 ·subst c6
  rw [if_pos rfl] at H
  obtain ⟨⟨t379, t380⟩, A7, H⟩ := bindO H
  (try dsimp only at H)
  obtain ⟨⟨t381, t382, t383⟩, A8, H⟩ := bindO H
  (try dsimp only at H)
  obtain ⟨t384, A9, H⟩ := bindO H
  (try dsimp only at H)
  by_cases c10 : t384 = true
  ·subst c10
   rw [if_pos rfl] at H
   by_cases c11 : t376 = 0
   ·rw [if_pos c11] at H
    have c11b0 : (t376 == 0) = true := beq_iff_eq.mpr c11
    have c11b1 : (t376 != 0) = false := bne_eq_false_iff_eq.mpr c11
    clear c11
    by_cases c12 : t380 = 0
    ·rw [if_pos c12] at H
     have c12b0 : (t380 == 0) = true := beq_iff_eq.mpr c12
     have c12b1 : (t380 != 0) = false := bne_eq_false_iff_eq.mpr c12
     clear c12
     by_cases c13 : t383 = 0
     ·rw [if_pos c13] at H
      have c13b0 : (t383 == 0) = true := beq_iff_eq.mpr c13
      have c13b1 : (t383 != 0) = false := bne_eq_false_iff_eq.mpr c13
      clear c13
      by_cases c14 : t375 = true
      ·subst c14
       rw [if_pos rfl] at H
       by_cases c15 : t379 = true
       ·subst c15
        rw [if_pos rfl] at H
        by_cases c16 : (t382 == true) = true
        ·rw [if_pos c16] at H
         have c16b0 : (t382 == true) = true := c16
         (try (have c16b1 : decide (t382 = true) = true := by simpa using c16))
         (try (have c16b2 : (t382 == true) = true := by simpa using c16))
         clear c16
         by_cases c17 : (Go.bits .and .u64 t381 a1) = 0
         ·rw [if_pos c17] at H
          have c17b0 : ((Go.bits .and .u64 t381 a1) == 0) = true := beq_iff_eq.mpr c17
          have c17b1 : ((Go.bits .and .u64 t381 a1) != 0) = false := bne_eq_false_iff_eq.mpr c17
          clear c17
          by_cases c18 : t382 = true
          ·subst c18
           rw [if_pos rfl] at H
           obtain ⟨t385, A19, H⟩ := bindO H
           (try dsimp only at H)
           obtain rfl := Option.some.inj H
           go_enter Tryd.func5, Tryd.ntmps5
           try go_wp2_with (first | ((with_reducible refine gD 3 rfl ?_); (try (refine gate_guard (by rfl) ?_; dsimp only)); refine bE 3 #[.int .i64 a0_0, .int .i64 a0_1, .slice A0_2 l0_2.length c0_2] 24 ?_; intro gb374 hg w20 hbox hb; have BK374 := Aside0.mk (hbox); have GW374 := Aside0.mk ((by rw [hg]; exact (below_size (by repeat (first | (with_reducible first | exact HB.out | apply below_alloc | apply pw_below_drewN | apply below_drew1 | refine below_set ?_ (Aside0.out (by assumption))) | exact HB.out))) : w.heap.size ≤ gb374)); have GE374 := Aside0.mk ((by rw [hg]; exact (below_size (by repeat (first | (with_reducible first | exact HB.out | apply below_alloc | apply pw_below_drewN | apply below_drew1 | refine below_set ?_ (Aside0.out (by assumption))) | exact HB.out))) : w.heap.size ≤ gb374)); replace HB := Aside0.mk (below_step (by repeat (first | (with_reducible first | exact HB.out | apply below_alloc | apply pw_below_drewN | apply below_drew1 | refine below_set ?_ (Aside0.out (by assumption))) | exact HB.out)) hb); clear hb hbox hg; obtain ⟨hcz21_0, hcz21_1, hcz21_2, hfz21_0, hfz21_1, hfz21_2⟩ := cell3 BK374) | ((with_reducible refine gC 9 rfl ?_); refine cG (some 17) Tryd.func9 #[.agg #[.int .i64 a0_0, .int .i64 a0_1, .slice A0_2 l0_2.length c0_2], .int .u64 a1] ?_; (with_reducible refine (verdict_Recovers.calls k a0_0 a0_1 _ _ l0_2 a1 true t376 _ ?side1 ?side2 A4.out (tBwer HT.out HB)).mono ?_); (case side1 => exact kcB HR0_2 HB); (case side2 => exact HC0_2.out); rintro e w22 ⟨rfl, hb⟩; refine ⟨_, rfl, ?_⟩; replace BK374 := bkB BK374 hb; replace HB := hbB HB hb; (try clear hb); (try clear hb2); (try clear hk); (try clear hi); obtain ⟨hcz23_0, hcz23_1, hcz23_2, hfz23_0, hfz23_1, hfz23_2⟩ := cell3 BK374) | ((with_reducible refine gC 13 rfl ?_); refine cG (some 22) Tryd.func13 #[.agg #[.int .i64 a0_0, .int .i64 a0_1, .slice A0_2 l0_2.length c0_2], .int .u64 a1] ?_; (with_reducible refine (recouplaw18_generator.calls k a0_0 a0_1 _ _ l0_2 a1 true _ ?side1 ?side2 A5.out).mono ?_); (case side1 => exact kcB HR0_2 HB); (case side2 => exact HC0_2.out); rintro e w24 ⟨rfl, hb⟩; refine ⟨_, rfl, ?_⟩; replace BK374 := bkB BK374 hb; replace HB := hbB HB hb; (try clear hb); (try clear hb2); (try clear hk); (try clear hi); obtain ⟨hcz25_0, hcz25_1, hcz25_2, hfz25_0, hfz25_1, hfz25_2⟩ := cell3 BK374) | ((with_reducible refine gC 9 rfl ?_); refine cG (some 34) Tryd.func9 #[.agg #[.int .i64 a0_0, .int .i64 a0_1, .slice A0_2 l0_2.length c0_2], .int .u64 (Go.bits .and .u64 a1 a2)] ?_; (with_reducible refine (verdict_Recovers.calls k a0_0 a0_1 _ _ l0_2 (Go.bits .and .u64 a1 a2) true t380 _ ?side1 ?side2 A7.out (tBwer HT.out HB)).mono ?_); (case side1 => exact kcB HR0_2 HB); (case side2 => exact HC0_2.out); rintro e w26 ⟨rfl, hb⟩; refine ⟨_, rfl, ?_⟩; replace BK374 := bkB BK374 hb; replace HB := hbB HB hb; (try clear hb); (try clear hb2); (try clear hk); (try clear hi); obtain ⟨hcz27_0, hcz27_1, hcz27_2, hfz27_0, hfz27_1, hfz27_2⟩ := cell3 BK374) | ((with_reducible refine gC 11 rfl ?_); refine cG (some 40) Tryd.func11 #[.agg #[.int .i64 a0_0, .int .i64 a0_1, .slice A0_2 l0_2.length c0_2], .int .u64 a1] ?_; (with_reducible refine (verdict_Sources.calls k a0_0 a0_1 _ _ l0_2 a1 t381 true t383 _ ?side1 ?side2 A8.out (tBwer HT.out HB)).mono ?_); (case side1 => exact kcB HR0_2 HB); (case side2 => exact HC0_2.out); rintro e w28 ⟨rfl, hb⟩; refine ⟨_, rfl, ?_⟩; replace BK374 := bkB BK374 hb; replace HB := hbB HB hb; (try clear hb); (try clear hb2); (try clear hk); (try clear hi)))
           replace BK374 := Aside0.mk (blk_drew BK374.out)
           replace HB := Aside0.mk (below_drew1 HB.out)
           refine start_ (n := 51) (S := fun w' => w'.cell? ⟨gb374, 0, none⟩ = some (.int .i64 a0_0) ∧ w'.cell? ⟨gb374, 1, none⟩ = some (.int .i64 a0_1) ∧ w'.cell? ⟨gb374, 2, none⟩ = some (.slice A0_2 l0_2.length c0_2)) (ds := []) (.replicate 51 false) (by kernel_rfl) rfl rfl ⟨(blk_cell BK374.out 0).trans rfl, (blk_cell BK374.out 1).trans rfl, (blk_cell BK374.out 2).trans rfl⟩ (fun hHeld => ?_); refine with_tabW recouplaw18_VerdictFewer.tab6 recouplaw18_VerdictFewer.bits6 (fun HT_ HW_ => ?_)
           generalize w28.drew = w29 at BK374 HB hHeld ⊢
           refine one_ (i := 0) (N := some 44) (mB 51 1) rfl rfl (one_of HT_.out (by kernel_rfl)) (by decide) (fun K hK => ?_)
           refine goes_ Tryd.func14 (by kernel_rfl) rfl #[] (by rfl) rfl rfl (by (try simp only [List.map_toArray, List.map_cons, List.map_nil]); first | done | rfl | (simp only [List.length_drop, List.length_take]; rfl)) ?_
           with_reducible refine (recouplaw18_anchored.calls k  true _ A9.out (tBwer HT.out HB)).mono ?_
           rintro e w30 ⟨rfl, hb⟩
           refine ⟨_, rfl, ?_⟩
           replace BK374 := bkB BK374 hb
           replace HB := hbB HB hb
           (try clear hb)
           (try clear hb2)
           (try clear hk)
           (try clear hi)
           refine hK.out _ _ ⟨(blk_cell BK374.out 0).trans rfl, (blk_cell BK374.out 1).trans rfl, (blk_cell BK374.out 2).trans rfl⟩ (fun hHeld => ?_)
           clear hK K
           refine norm_ (a' := ?_) ?_ ?_
           rotate_left
           ·show Act.put _ (some 44) _ = _
            simp only [Act.put, List.setIfInBounds_toArray, List.set_cons_zero, List.set_cons_succ, i64_w, i32_w]
            rfl
           refine pu 1 (some 45) (mB 51 3) HT_ ?_
           refine pu 2 (some 46) (mB 51 7) HT_ ?_
           refine pu 3 (some 47) (mB 51 15) HT_ ?_
           refine pu 4 (some 48) (mB 51 31) HT_ ?_
           refine pu 5 (some 49) (mB 51 63) HT_ ?_
           refine pu 6 (some 50) (mB 51 127) HT_ ?_
           refine pu 7 (some 51) (mB 51 255) HT_ ?_
           refine pu 8 (some 52) (mB 51 511) HT_ ?_
           refine pu 9 (some 53) (mB 51 1023) HT_ ?_
           refine pu 10 (some 54) (mB 51 2047) HT_ ?_
           refine pu 11 (some 55) (mB 51 4095) HT_ ?_
           refine pu 12 (some 56) (mB 51 8191) HT_ ?_
           refine pu 13 (some 57) (mB 51 16383) HT_ ?_
           refine pu 14 (some 58) (mB 51 32767) HT_ ?_
           refine pu 15 (some 59) (mB 51 65535) HT_ ?_
           refine pu 16 (some 60) (mB 51 131071) HT_ ?_
           refine pu 17 (some 61) (mB 51 262143) HT_ ?_
           refine pu 18 (some 62) (mB 51 524287) HT_ ?_
           refine pu 19 (some 63) (mB 51 1048575) HT_ ?_
           refine pu 20 (some 64) (mB 51 2097151) HT_ ?_
           refine pu 21 (some 65) (mB 51 4194303) HT_ ?_
           refine pu 22 (some 66) (mB 51 8388607) HT_ ?_
           refine pu 23 (some 67) (mB 51 16777215) HT_ ?_
           refine pu 24 (some 68) (mB 51 33554431) HT_ ?_
           refine pu 25 (some 69) (mB 51 67108863) HT_ ?_
           refine pu 26 (some 70) (mB 51 134217727) HT_ ?_
           refine pu 27 (some 71) (mB 51 268435455) HT_ ?_
           refine pu 28 (some 72) (mB 51 536870911) HT_ ?_
           refine pu 29 (some 73) (mB 51 1073741823) HT_ ?_
           refine pu 30 (some 74) (mB 51 2147483647) HT_ ?_
           refine pu 31 (some 75) (mB 51 4294967295) HT_ ?_
           refine pu 32 (some 76) (mB 51 8589934591) HT_ ?_
           refine pu 33 (some 77) (mB 51 17179869183) HT_ ?_
           refine pu 34 (some 78) (mB 51 34359738367) HT_ ?_
           refine pOwer 35 (some 79) (mB 51 68719476735) HT_ ?_
           refine pOwer 36 (some 80) (mB 51 137438953471) HT_ ?_
           refine pu 37 (some 81) (mB 51 274877906943) HT_ ?_
           refine pu 38 (some 82) (mB 51 549755813887) HT_ ?_
           refine pu 39 (some 83) (mB 51 1099511627775) HT_ ?_
           refine pu 40 (some 84) (mB 51 2199023255551) HT_ ?_
           refine pu 41 (some 85) (mB 51 4398046511103) HT_ ?_
           refine pu 44 (some 88) (mB 51 21990232555519) HT_ ?_
           refine tk3 45 (some 89) (mB 51 57174604644351) HT_ HW_ hHeld ?_
           refine one_ (i := 42) (N := some 86) (mB 51 61572651155455) rfl rfl (one_of HT_.out (by kernel_rfl)) (by decide) (fun K hK => ?_)
           refine goes_ Tryd.func17 (by kernel_rfl) rfl #[.int .u64 t381] (by rfl) rfl rfl (by (try simp only [List.map_toArray, List.map_cons, List.map_nil]); first | done | rfl | (simp only [List.length_drop, List.length_take]; rfl)) ?_
           with_reducible refine (recoupref06_List.calls k t381 t385 _ A19.out).mono ?_
           rintro e w31 ⟨v386, rfl, ho0, hb⟩
           refine ⟨_, rfl, ?_⟩
           have HO387 := Aside0.mk (Kd.R_lower ho0 (below_size (hbA HB.out)))
           replace BK374 := bkB BK374 hb
           replace HB := hbB HB hb
           (try clear hb)
           (try clear hb2)
           (try clear hk)
           (try clear hi)
           (try clear ho0)
           obtain ⟨Ao32, co32, eo32⟩ := Kd.R_slice HO387.out
           (first | subst eo32 | (injection eo32 with f1_ f2_ f3_; have f4_ := f1_.symm; have f5_ := f3_.symm; clear f1_ f2_ f3_; subst f4_; subst f5_))
           refine hK.out _ _ ⟨(blk_cell BK374.out 0).trans rfl, (blk_cell BK374.out 1).trans rfl, (blk_cell BK374.out 2).trans rfl⟩ (fun hHeld => ?_)
           clear hK K
           refine norm_ (a' := ?_) ?_ ?_
           rotate_left
           ·show Act.put _ (some 86) _ = _
            simp only [Act.put, List.setIfInBounds_toArray, List.set_cons_zero, List.set_cons_succ, i64_w, i32_w]
            rfl
           refine pu 43 (some 87) (mB 51 70368744177663) HT_ ?_
           refine pu 46 (some 90) (mB 51 140737488355327) HT_ ?_
           refine pu 47 (some 91) (mB 51 281474976710655) HT_ ?_
           refine pu 48 (some 92) (mB 51 562949953421311) HT_ ?_
           refine pu 49 (some 93) (mB 51 1125899906842623) HT_ ?_
           refine pu 50 (some 6) (mB 51 2251799813685247) HT_ ?_
           refine done_ (done_of HT_.out (by kernel_rfl)) ?_
           try go_wp2
           go_ret
           exact ⟨rfE, hbA HB.out⟩
          ·replace c18 := Bool.eq_false_iff.mpr c18
           subst c18
           rw [if_neg nofT] at H
           by_cases c33 : t381 = 0
           ·rw [if_pos c33] at H
            have c33b0 : (t381 == 0) = true := beq_iff_eq.mpr c33
            have c33b1 : (t381 != 0) = false := bne_eq_false_iff_eq.mpr c33
            clear c33
            obtain rfl := Option.some.inj H
            go_enter Tryd.func5, Tryd.ntmps5
            try go_wp2_with (first | ((with_reducible refine gD 3 rfl ?_); (try (refine gate_guard (by rfl) ?_; dsimp only)); refine bE 3 #[.int .i64 a0_0, .int .i64 a0_1, .slice A0_2 l0_2.length c0_2] 24 ?_; intro gb374 hg w34 hbox hb; have BK374 := Aside0.mk (hbox); have GW374 := Aside0.mk ((by rw [hg]; exact (below_size (by repeat (first | (with_reducible first | exact HB.out | apply below_alloc | apply pw_below_drewN | apply below_drew1 | refine below_set ?_ (Aside0.out (by assumption))) | exact HB.out))) : w.heap.size ≤ gb374)); have GE374 := Aside0.mk ((by rw [hg]; exact (below_size (by repeat (first | (with_reducible first | exact HB.out | apply below_alloc | apply pw_below_drewN | apply below_drew1 | refine below_set ?_ (Aside0.out (by assumption))) | exact HB.out))) : w.heap.size ≤ gb374)); replace HB := Aside0.mk (below_step (by repeat (first | (with_reducible first | exact HB.out | apply below_alloc | apply pw_below_drewN | apply below_drew1 | refine below_set ?_ (Aside0.out (by assumption))) | exact HB.out)) hb); clear hb hbox hg; obtain ⟨hcz35_0, hcz35_1, hcz35_2, hfz35_0, hfz35_1, hfz35_2⟩ := cell3 BK374) | ((with_reducible refine gC 9 rfl ?_); refine cG (some 17) Tryd.func9 #[.agg #[.int .i64 a0_0, .int .i64 a0_1, .slice A0_2 l0_2.length c0_2], .int .u64 a1] ?_; (with_reducible refine (verdict_Recovers.calls k a0_0 a0_1 _ _ l0_2 a1 true t376 _ ?side1 ?side2 A4.out (tBwer HT.out HB)).mono ?_); (case side1 => exact kcB HR0_2 HB); (case side2 => exact HC0_2.out); rintro e w36 ⟨rfl, hb⟩; refine ⟨_, rfl, ?_⟩; replace BK374 := bkB BK374 hb; replace HB := hbB HB hb; (try clear hb); (try clear hb2); (try clear hk); (try clear hi); obtain ⟨hcz37_0, hcz37_1, hcz37_2, hfz37_0, hfz37_1, hfz37_2⟩ := cell3 BK374) | ((with_reducible refine gC 13 rfl ?_); refine cG (some 22) Tryd.func13 #[.agg #[.int .i64 a0_0, .int .i64 a0_1, .slice A0_2 l0_2.length c0_2], .int .u64 a1] ?_; (with_reducible refine (recouplaw18_generator.calls k a0_0 a0_1 _ _ l0_2 a1 true _ ?side1 ?side2 A5.out).mono ?_); (case side1 => exact kcB HR0_2 HB); (case side2 => exact HC0_2.out); rintro e w38 ⟨rfl, hb⟩; refine ⟨_, rfl, ?_⟩; replace BK374 := bkB BK374 hb; replace HB := hbB HB hb; (try clear hb); (try clear hb2); (try clear hk); (try clear hi); obtain ⟨hcz39_0, hcz39_1, hcz39_2, hfz39_0, hfz39_1, hfz39_2⟩ := cell3 BK374) | ((with_reducible refine gC 9 rfl ?_); refine cG (some 34) Tryd.func9 #[.agg #[.int .i64 a0_0, .int .i64 a0_1, .slice A0_2 l0_2.length c0_2], .int .u64 (Go.bits .and .u64 a1 a2)] ?_; (with_reducible refine (verdict_Recovers.calls k a0_0 a0_1 _ _ l0_2 (Go.bits .and .u64 a1 a2) true t380 _ ?side1 ?side2 A7.out (tBwer HT.out HB)).mono ?_); (case side1 => exact kcB HR0_2 HB); (case side2 => exact HC0_2.out); rintro e w40 ⟨rfl, hb⟩; refine ⟨_, rfl, ?_⟩; replace BK374 := bkB BK374 hb; replace HB := hbB HB hb; (try clear hb); (try clear hb2); (try clear hk); (try clear hi); obtain ⟨hcz41_0, hcz41_1, hcz41_2, hfz41_0, hfz41_1, hfz41_2⟩ := cell3 BK374) | ((with_reducible refine gC 11 rfl ?_); refine cG (some 40) Tryd.func11 #[.agg #[.int .i64 a0_0, .int .i64 a0_1, .slice A0_2 l0_2.length c0_2], .int .u64 a1] ?_; (with_reducible refine (verdict_Sources.calls k a0_0 a0_1 _ _ l0_2 a1 t381 false t383 _ ?side1 ?side2 A8.out (tBwer HT.out HB)).mono ?_); (case side1 => exact kcB HR0_2 HB); (case side2 => exact HC0_2.out); rintro e w42 ⟨rfl, hb⟩; refine ⟨_, rfl, ?_⟩; replace BK374 := bkB BK374 hb; replace HB := hbB HB hb; (try clear hb); (try clear hb2); (try clear hk); (try clear hi)))
            replace BK374 := Aside0.mk (blk_drew BK374.out)
            replace HB := Aside0.mk (below_drew1 HB.out)
            refine start_ (n := 51) (S := fun w' => True) (ds := []) (.replicate 51 false) (by kernel_rfl) rfl rfl trivial (fun hHeld => ?_); refine with_tabW recouplaw18_VerdictFewer.tab6 recouplaw18_VerdictFewer.bits6 (fun HT_ HW_ => ?_)
            generalize w42.drew = w43 at BK374 HB hHeld ⊢
            refine one_ (i := 0) (N := some 44) (mB 51 1) rfl rfl (one_of HT_.out (by kernel_rfl)) (by decide) (fun K hK => ?_)
            refine goes_ Tryd.func14 (by kernel_rfl) rfl #[] (by rfl) rfl rfl (by (try simp only [List.map_toArray, List.map_cons, List.map_nil]); first | done | rfl | (simp only [List.length_drop, List.length_take]; rfl)) ?_
            with_reducible refine (recouplaw18_anchored.calls k  true _ A9.out (tBwer HT.out HB)).mono ?_
            rintro e w44 ⟨rfl, hb⟩
            refine ⟨_, rfl, ?_⟩
            replace BK374 := bkB BK374 hb
            replace HB := hbB HB hb
            (try clear hb)
            (try clear hb2)
            (try clear hk)
            (try clear hi)
            refine hK.out _ _ trivial (fun hHeld => ?_)
            clear hK K
            refine norm_ (a' := ?_) ?_ ?_
            rotate_left
            ·show Act.put _ (some 44) _ = _
             simp only [Act.put, List.setIfInBounds_toArray, List.set_cons_zero, List.set_cons_succ, i64_w, i32_w]
             rfl
            refine pu 1 (some 45) (mB 51 3) HT_ ?_
            refine pu 2 (some 46) (mB 51 7) HT_ ?_
            refine pu 3 (some 47) (mB 51 15) HT_ ?_
            refine pu 4 (some 48) (mB 51 31) HT_ ?_
            refine pu 5 (some 49) (mB 51 63) HT_ ?_
            refine pu 6 (some 50) (mB 51 127) HT_ ?_
            refine pu 7 (some 51) (mB 51 255) HT_ ?_
            refine pu 8 (some 52) (mB 51 511) HT_ ?_
            refine pu 9 (some 53) (mB 51 1023) HT_ ?_
            refine pu 10 (some 54) (mB 51 2047) HT_ ?_
            refine pu 11 (some 55) (mB 51 4095) HT_ ?_
            refine pu 12 (some 56) (mB 51 8191) HT_ ?_
            refine pu 13 (some 57) (mB 51 16383) HT_ ?_
            refine pu 14 (some 58) (mB 51 32767) HT_ ?_
            refine pu 15 (some 59) (mB 51 65535) HT_ ?_
            refine pu 16 (some 60) (mB 51 131071) HT_ ?_
            refine pu 17 (some 61) (mB 51 262143) HT_ ?_
            refine pu 18 (some 62) (mB 51 524287) HT_ ?_
            refine pu 19 (some 63) (mB 51 1048575) HT_ ?_
            refine pu 20 (some 64) (mB 51 2097151) HT_ ?_
            refine pu 21 (some 65) (mB 51 4194303) HT_ ?_
            refine pu 22 (some 66) (mB 51 8388607) HT_ ?_
            refine pu 23 (some 67) (mB 51 16777215) HT_ ?_
            refine pu 24 (some 68) (mB 51 33554431) HT_ ?_
            refine pu 25 (some 69) (mB 51 67108863) HT_ ?_
            refine pu 26 (some 70) (mB 51 134217727) HT_ ?_
            refine pu 27 (some 71) (mB 51 268435455) HT_ ?_
            refine pu 28 (some 72) (mB 51 536870911) HT_ ?_
            refine pu 29 (some 73) (mB 51 1073741823) HT_ ?_
            refine pu 30 (some 74) (mB 51 2147483647) HT_ ?_
            refine pu 31 (some 75) (mB 51 4294967295) HT_ ?_
            refine pu 32 (some 76) (mB 51 8589934591) HT_ ?_
            refine pu 33 (some 77) (mB 51 17179869183) HT_ ?_
            refine pu 34 (some 78) (mB 51 34359738367) HT_ ?_
            refine pu 35 (some 79) (mB 51 68719476735) HT_ ?_
            refine pu 36 (some 80) (mB 51 137438953471) HT_ ?_
            refine pu 37 (some 81) (mB 51 274877906943) HT_ ?_
            refine pu 38 (some 82) (mB 51 549755813887) HT_ ?_
            refine pOwer 39 (some 83) (mB 51 1099511627775) HT_ ?_
            refine pOwer 40 (some 84) (mB 51 2199023255551) HT_ ?_
            refine pOwer 41 (some 85) (mB 51 4398046511103) HT_ ?_
            refine pOwer 42 (some 86) (mB 51 8796093022207) HT_ ?_
            refine pOwer 43 (some 87) (mB 51 17592186044415) HT_ ?_
            refine pOwer 44 (some 88) (mB 51 35184372088831) HT_ ?_
            refine pOwer 45 (some 89) (mB 51 70368744177663) HT_ ?_
            refine pOwer 46 (some 90) (mB 51 140737488355327) HT_ ?_
            refine pOwer 47 (some 91) (mB 51 281474976710655) HT_ ?_
            refine pu 48 (some 92) (mB 51 562949953421311) HT_ ?_
            refine pu 49 (some 93) (mB 51 1125899906842623) HT_ ?_
            refine pu 50 (some 6) (mB 51 2251799813685247) HT_ ?_
            refine done_ (done_of HT_.out (by kernel_rfl)) ?_
            try go_wp2
            go_ret
            exact ⟨rfE, hbA HB.out⟩
           ·rw [if_neg c33] at H
            have c33b0 : (t381 == 0) = false := beq_eq_false_iff_ne.mpr c33
            have c33b1 : (t381 != 0) = true := bne_iff_ne.mpr c33
            obtain rfl := Option.some.inj H
            go_enter Tryd.func5, Tryd.ntmps5
            try go_wp2_with (first | ((with_reducible refine gD 3 rfl ?_); (try (refine gate_guard (by rfl) ?_; dsimp only)); refine bE 3 #[.int .i64 a0_0, .int .i64 a0_1, .slice A0_2 l0_2.length c0_2] 24 ?_; intro gb374 hg w45 hbox hb; have BK374 := Aside0.mk (hbox); have GW374 := Aside0.mk ((by rw [hg]; exact (below_size (by repeat (first | (with_reducible first | exact HB.out | apply below_alloc | apply pw_below_drewN | apply below_drew1 | refine below_set ?_ (Aside0.out (by assumption))) | exact HB.out))) : w.heap.size ≤ gb374)); have GE374 := Aside0.mk ((by rw [hg]; exact (below_size (by repeat (first | (with_reducible first | exact HB.out | apply below_alloc | apply pw_below_drewN | apply below_drew1 | refine below_set ?_ (Aside0.out (by assumption))) | exact HB.out))) : w.heap.size ≤ gb374)); replace HB := Aside0.mk (below_step (by repeat (first | (with_reducible first | exact HB.out | apply below_alloc | apply pw_below_drewN | apply below_drew1 | refine below_set ?_ (Aside0.out (by assumption))) | exact HB.out)) hb); clear hb hbox hg; obtain ⟨hcz46_0, hcz46_1, hcz46_2, hfz46_0, hfz46_1, hfz46_2⟩ := cell3 BK374) | ((with_reducible refine gC 9 rfl ?_); refine cG (some 17) Tryd.func9 #[.agg #[.int .i64 a0_0, .int .i64 a0_1, .slice A0_2 l0_2.length c0_2], .int .u64 a1] ?_; (with_reducible refine (verdict_Recovers.calls k a0_0 a0_1 _ _ l0_2 a1 true t376 _ ?side1 ?side2 A4.out (tBwer HT.out HB)).mono ?_); (case side1 => exact kcB HR0_2 HB); (case side2 => exact HC0_2.out); rintro e w47 ⟨rfl, hb⟩; refine ⟨_, rfl, ?_⟩; replace BK374 := bkB BK374 hb; replace HB := hbB HB hb; (try clear hb); (try clear hb2); (try clear hk); (try clear hi); obtain ⟨hcz48_0, hcz48_1, hcz48_2, hfz48_0, hfz48_1, hfz48_2⟩ := cell3 BK374) | ((with_reducible refine gC 13 rfl ?_); refine cG (some 22) Tryd.func13 #[.agg #[.int .i64 a0_0, .int .i64 a0_1, .slice A0_2 l0_2.length c0_2], .int .u64 a1] ?_; (with_reducible refine (recouplaw18_generator.calls k a0_0 a0_1 _ _ l0_2 a1 true _ ?side1 ?side2 A5.out).mono ?_); (case side1 => exact kcB HR0_2 HB); (case side2 => exact HC0_2.out); rintro e w49 ⟨rfl, hb⟩; refine ⟨_, rfl, ?_⟩; replace BK374 := bkB BK374 hb; replace HB := hbB HB hb; (try clear hb); (try clear hb2); (try clear hk); (try clear hi); obtain ⟨hcz50_0, hcz50_1, hcz50_2, hfz50_0, hfz50_1, hfz50_2⟩ := cell3 BK374) | ((with_reducible refine gC 9 rfl ?_); refine cG (some 34) Tryd.func9 #[.agg #[.int .i64 a0_0, .int .i64 a0_1, .slice A0_2 l0_2.length c0_2], .int .u64 (Go.bits .and .u64 a1 a2)] ?_; (with_reducible refine (verdict_Recovers.calls k a0_0 a0_1 _ _ l0_2 (Go.bits .and .u64 a1 a2) true t380 _ ?side1 ?side2 A7.out (tBwer HT.out HB)).mono ?_); (case side1 => exact kcB HR0_2 HB); (case side2 => exact HC0_2.out); rintro e w51 ⟨rfl, hb⟩; refine ⟨_, rfl, ?_⟩; replace BK374 := bkB BK374 hb; replace HB := hbB HB hb; (try clear hb); (try clear hb2); (try clear hk); (try clear hi); obtain ⟨hcz52_0, hcz52_1, hcz52_2, hfz52_0, hfz52_1, hfz52_2⟩ := cell3 BK374) | ((with_reducible refine gC 11 rfl ?_); refine cG (some 40) Tryd.func11 #[.agg #[.int .i64 a0_0, .int .i64 a0_1, .slice A0_2 l0_2.length c0_2], .int .u64 a1] ?_; (with_reducible refine (verdict_Sources.calls k a0_0 a0_1 _ _ l0_2 a1 t381 false t383 _ ?side1 ?side2 A8.out (tBwer HT.out HB)).mono ?_); (case side1 => exact kcB HR0_2 HB); (case side2 => exact HC0_2.out); rintro e w53 ⟨rfl, hb⟩; refine ⟨_, rfl, ?_⟩; replace BK374 := bkB BK374 hb; replace HB := hbB HB hb; (try clear hb); (try clear hb2); (try clear hk); (try clear hi)))
            replace BK374 := Aside0.mk (blk_drew BK374.out)
            replace HB := Aside0.mk (below_drew1 HB.out)
            refine start_ (n := 51) (S := fun w' => True) (ds := []) (.replicate 51 false) (by kernel_rfl) rfl rfl trivial (fun hHeld => ?_); refine with_tabW recouplaw18_VerdictFewer.tab6 recouplaw18_VerdictFewer.bits6 (fun HT_ HW_ => ?_)
            generalize w53.drew = w54 at BK374 HB hHeld ⊢
            refine one_ (i := 0) (N := some 44) (mB 51 1) rfl rfl (one_of HT_.out (by kernel_rfl)) (by decide) (fun K hK => ?_)
            refine goes_ Tryd.func14 (by kernel_rfl) rfl #[] (by rfl) rfl rfl (by (try simp only [List.map_toArray, List.map_cons, List.map_nil]); first | done | rfl | (simp only [List.length_drop, List.length_take]; rfl)) ?_
            with_reducible refine (recouplaw18_anchored.calls k  true _ A9.out (tBwer HT.out HB)).mono ?_
            rintro e w55 ⟨rfl, hb⟩
            refine ⟨_, rfl, ?_⟩
            replace BK374 := bkB BK374 hb
            replace HB := hbB HB hb
            (try clear hb)
            (try clear hb2)
            (try clear hk)
            (try clear hi)
            refine hK.out _ _ trivial (fun hHeld => ?_)
            clear hK K
            refine norm_ (a' := ?_) ?_ ?_
            rotate_left
            ·show Act.put _ (some 44) _ = _
             simp only [Act.put, List.setIfInBounds_toArray, List.set_cons_zero, List.set_cons_succ, i64_w, i32_w]
             rfl
            refine pu 1 (some 45) (mB 51 3) HT_ ?_
            refine pu 2 (some 46) (mB 51 7) HT_ ?_
            refine pu 3 (some 47) (mB 51 15) HT_ ?_
            refine pu 4 (some 48) (mB 51 31) HT_ ?_
            refine pu 5 (some 49) (mB 51 63) HT_ ?_
            refine pu 6 (some 50) (mB 51 127) HT_ ?_
            refine pu 7 (some 51) (mB 51 255) HT_ ?_
            refine pu 8 (some 52) (mB 51 511) HT_ ?_
            refine pu 9 (some 53) (mB 51 1023) HT_ ?_
            refine pu 10 (some 54) (mB 51 2047) HT_ ?_
            refine pu 11 (some 55) (mB 51 4095) HT_ ?_
            refine pu 12 (some 56) (mB 51 8191) HT_ ?_
            refine pu 13 (some 57) (mB 51 16383) HT_ ?_
            refine pu 14 (some 58) (mB 51 32767) HT_ ?_
            refine pu 15 (some 59) (mB 51 65535) HT_ ?_
            refine pu 16 (some 60) (mB 51 131071) HT_ ?_
            refine pu 17 (some 61) (mB 51 262143) HT_ ?_
            refine pu 18 (some 62) (mB 51 524287) HT_ ?_
            refine pu 19 (some 63) (mB 51 1048575) HT_ ?_
            refine pu 20 (some 64) (mB 51 2097151) HT_ ?_
            refine pu 21 (some 65) (mB 51 4194303) HT_ ?_
            refine pu 22 (some 66) (mB 51 8388607) HT_ ?_
            refine pu 23 (some 67) (mB 51 16777215) HT_ ?_
            refine pu 24 (some 68) (mB 51 33554431) HT_ ?_
            refine pu 25 (some 69) (mB 51 67108863) HT_ ?_
            refine pu 26 (some 70) (mB 51 134217727) HT_ ?_
            refine pu 27 (some 71) (mB 51 268435455) HT_ ?_
            refine pu 28 (some 72) (mB 51 536870911) HT_ ?_
            refine pu 29 (some 73) (mB 51 1073741823) HT_ ?_
            refine pu 30 (some 74) (mB 51 2147483647) HT_ ?_
            refine pu 31 (some 75) (mB 51 4294967295) HT_ ?_
            refine pu 32 (some 76) (mB 51 8589934591) HT_ ?_
            refine pu 33 (some 77) (mB 51 17179869183) HT_ ?_
            refine pu 34 (some 78) (mB 51 34359738367) HT_ ?_
            refine pu 35 (some 79) (mB 51 68719476735) HT_ ?_
            refine pu 36 (some 80) (mB 51 137438953471) HT_ ?_
            refine pu 37 (some 81) (mB 51 274877906943) HT_ ?_
            refine pu 38 (some 82) (mB 51 549755813887) HT_ ?_
            refine pu 39 (some 83) (mB 51 1099511627775) HT_ ?_
            refine pu 40 (some 84) (mB 51 2199023255551) HT_ ?_
            refine pOwer 41 (some 85) (mB 51 4398046511103) HT_ ?_
            refine pOwer 42 (some 86) (mB 51 8796093022207) HT_ ?_
            refine pOwer 43 (some 87) (mB 51 17592186044415) HT_ ?_
            refine pOwer 44 (some 88) (mB 51 35184372088831) HT_ ?_
            refine pOwer 45 (some 89) (mB 51 70368744177663) HT_ ?_
            refine pOwer 46 (some 90) (mB 51 140737488355327) HT_ ?_
            refine pu 47 (some 91) (mB 51 281474976710655) HT_ ?_
            refine pu 48 (some 92) (mB 51 562949953421311) HT_ ?_
            refine pu 49 (some 93) (mB 51 1125899906842623) HT_ ?_
            refine pu 50 (some 6) (mB 51 2251799813685247) HT_ ?_
            refine done_ (done_of HT_.out (by kernel_rfl)) ?_
            try go_wp2
            go_ret
            exact ⟨rfE, hbA HB.out⟩
         ·rw [if_neg c17] at H
          have c17b0 : ((Go.bits .and .u64 t381 a1) == 0) = false := beq_eq_false_iff_ne.mpr c17
          have c17b1 : ((Go.bits .and .u64 t381 a1) != 0) = true := bne_iff_ne.mpr c17
          obtain rfl := Option.some.inj H
          go_enter Tryd.func5, Tryd.ntmps5
          try go_wp2_with (first | ((with_reducible refine gD 3 rfl ?_); (try (refine gate_guard (by rfl) ?_; dsimp only)); refine bE 3 #[.int .i64 a0_0, .int .i64 a0_1, .slice A0_2 l0_2.length c0_2] 24 ?_; intro gb374 hg w56 hbox hb; have BK374 := Aside0.mk (hbox); have GW374 := Aside0.mk ((by rw [hg]; exact (below_size (by repeat (first | (with_reducible first | exact HB.out | apply below_alloc | apply pw_below_drewN | apply below_drew1 | refine below_set ?_ (Aside0.out (by assumption))) | exact HB.out))) : w.heap.size ≤ gb374)); have GE374 := Aside0.mk ((by rw [hg]; exact (below_size (by repeat (first | (with_reducible first | exact HB.out | apply below_alloc | apply pw_below_drewN | apply below_drew1 | refine below_set ?_ (Aside0.out (by assumption))) | exact HB.out))) : w.heap.size ≤ gb374)); replace HB := Aside0.mk (below_step (by repeat (first | (with_reducible first | exact HB.out | apply below_alloc | apply pw_below_drewN | apply below_drew1 | refine below_set ?_ (Aside0.out (by assumption))) | exact HB.out)) hb); clear hb hbox hg; obtain ⟨hcz57_0, hcz57_1, hcz57_2, hfz57_0, hfz57_1, hfz57_2⟩ := cell3 BK374) | ((with_reducible refine gC 9 rfl ?_); refine cG (some 17) Tryd.func9 #[.agg #[.int .i64 a0_0, .int .i64 a0_1, .slice A0_2 l0_2.length c0_2], .int .u64 a1] ?_; (with_reducible refine (verdict_Recovers.calls k a0_0 a0_1 _ _ l0_2 a1 true t376 _ ?side1 ?side2 A4.out (tBwer HT.out HB)).mono ?_); (case side1 => exact kcB HR0_2 HB); (case side2 => exact HC0_2.out); rintro e w58 ⟨rfl, hb⟩; refine ⟨_, rfl, ?_⟩; replace BK374 := bkB BK374 hb; replace HB := hbB HB hb; (try clear hb); (try clear hb2); (try clear hk); (try clear hi); obtain ⟨hcz59_0, hcz59_1, hcz59_2, hfz59_0, hfz59_1, hfz59_2⟩ := cell3 BK374) | ((with_reducible refine gC 13 rfl ?_); refine cG (some 22) Tryd.func13 #[.agg #[.int .i64 a0_0, .int .i64 a0_1, .slice A0_2 l0_2.length c0_2], .int .u64 a1] ?_; (with_reducible refine (recouplaw18_generator.calls k a0_0 a0_1 _ _ l0_2 a1 true _ ?side1 ?side2 A5.out).mono ?_); (case side1 => exact kcB HR0_2 HB); (case side2 => exact HC0_2.out); rintro e w60 ⟨rfl, hb⟩; refine ⟨_, rfl, ?_⟩; replace BK374 := bkB BK374 hb; replace HB := hbB HB hb; (try clear hb); (try clear hb2); (try clear hk); (try clear hi); obtain ⟨hcz61_0, hcz61_1, hcz61_2, hfz61_0, hfz61_1, hfz61_2⟩ := cell3 BK374) | ((with_reducible refine gC 9 rfl ?_); refine cG (some 34) Tryd.func9 #[.agg #[.int .i64 a0_0, .int .i64 a0_1, .slice A0_2 l0_2.length c0_2], .int .u64 (Go.bits .and .u64 a1 a2)] ?_; (with_reducible refine (verdict_Recovers.calls k a0_0 a0_1 _ _ l0_2 (Go.bits .and .u64 a1 a2) true t380 _ ?side1 ?side2 A7.out (tBwer HT.out HB)).mono ?_); (case side1 => exact kcB HR0_2 HB); (case side2 => exact HC0_2.out); rintro e w62 ⟨rfl, hb⟩; refine ⟨_, rfl, ?_⟩; replace BK374 := bkB BK374 hb; replace HB := hbB HB hb; (try clear hb); (try clear hb2); (try clear hk); (try clear hi); obtain ⟨hcz63_0, hcz63_1, hcz63_2, hfz63_0, hfz63_1, hfz63_2⟩ := cell3 BK374) | ((with_reducible refine gC 11 rfl ?_); refine cG (some 40) Tryd.func11 #[.agg #[.int .i64 a0_0, .int .i64 a0_1, .slice A0_2 l0_2.length c0_2], .int .u64 a1] ?_; (with_reducible refine (verdict_Sources.calls k a0_0 a0_1 _ _ l0_2 a1 t381 t382 t383 _ ?side1 ?side2 A8.out (tBwer HT.out HB)).mono ?_); (case side1 => exact kcB HR0_2 HB); (case side2 => exact HC0_2.out); rintro e w64 ⟨rfl, hb⟩; refine ⟨_, rfl, ?_⟩; replace BK374 := bkB BK374 hb; replace HB := hbB HB hb; (try clear hb); (try clear hb2); (try clear hk); (try clear hi)))
          replace BK374 := Aside0.mk (blk_drew BK374.out)
          replace HB := Aside0.mk (below_drew1 HB.out)
          refine start_ (n := 51) (S := fun w' => True) (ds := []) (.replicate 51 false) (by kernel_rfl) rfl rfl trivial (fun hHeld => ?_); refine with_tabW recouplaw18_VerdictFewer.tab6 recouplaw18_VerdictFewer.bits6 (fun HT_ HW_ => ?_)
          generalize w64.drew = w65 at BK374 HB hHeld ⊢
          refine one_ (i := 0) (N := some 44) (mB 51 1) rfl rfl (one_of HT_.out (by kernel_rfl)) (by decide) (fun K hK => ?_)
          refine goes_ Tryd.func14 (by kernel_rfl) rfl #[] (by rfl) rfl rfl (by (try simp only [List.map_toArray, List.map_cons, List.map_nil]); first | done | rfl | (simp only [List.length_drop, List.length_take]; rfl)) ?_
          with_reducible refine (recouplaw18_anchored.calls k  true _ A9.out (tBwer HT.out HB)).mono ?_
          rintro e w66 ⟨rfl, hb⟩
          refine ⟨_, rfl, ?_⟩
          replace BK374 := bkB BK374 hb
          replace HB := hbB HB hb
          (try clear hb)
          (try clear hb2)
          (try clear hk)
          (try clear hi)
          refine hK.out _ _ trivial (fun hHeld => ?_)
          clear hK K
          refine norm_ (a' := ?_) ?_ ?_
          rotate_left
          ·show Act.put _ (some 44) _ = _
           simp only [Act.put, List.setIfInBounds_toArray, List.set_cons_zero, List.set_cons_succ, i64_w, i32_w]
           rfl
          refine pu 1 (some 45) (mB 51 3) HT_ ?_
          refine pu 2 (some 46) (mB 51 7) HT_ ?_
          refine pu 3 (some 47) (mB 51 15) HT_ ?_
          refine pu 4 (some 48) (mB 51 31) HT_ ?_
          refine pu 5 (some 49) (mB 51 63) HT_ ?_
          refine pu 6 (some 50) (mB 51 127) HT_ ?_
          refine pu 7 (some 51) (mB 51 255) HT_ ?_
          refine pu 8 (some 52) (mB 51 511) HT_ ?_
          refine pu 9 (some 53) (mB 51 1023) HT_ ?_
          refine pu 10 (some 54) (mB 51 2047) HT_ ?_
          refine pu 11 (some 55) (mB 51 4095) HT_ ?_
          refine pu 12 (some 56) (mB 51 8191) HT_ ?_
          refine pu 13 (some 57) (mB 51 16383) HT_ ?_
          refine pu 14 (some 58) (mB 51 32767) HT_ ?_
          refine pu 15 (some 59) (mB 51 65535) HT_ ?_
          refine pu 16 (some 60) (mB 51 131071) HT_ ?_
          refine pu 17 (some 61) (mB 51 262143) HT_ ?_
          refine pu 18 (some 62) (mB 51 524287) HT_ ?_
          refine pu 19 (some 63) (mB 51 1048575) HT_ ?_
          refine pu 20 (some 64) (mB 51 2097151) HT_ ?_
          refine pu 21 (some 65) (mB 51 4194303) HT_ ?_
          refine pu 22 (some 66) (mB 51 8388607) HT_ ?_
          refine pu 23 (some 67) (mB 51 16777215) HT_ ?_
          refine pu 24 (some 68) (mB 51 33554431) HT_ ?_
          refine pu 25 (some 69) (mB 51 67108863) HT_ ?_
          refine pu 26 (some 70) (mB 51 134217727) HT_ ?_
          refine pu 27 (some 71) (mB 51 268435455) HT_ ?_
          refine pu 28 (some 72) (mB 51 536870911) HT_ ?_
          refine pu 29 (some 73) (mB 51 1073741823) HT_ ?_
          refine pu 30 (some 74) (mB 51 2147483647) HT_ ?_
          refine pu 31 (some 75) (mB 51 4294967295) HT_ ?_
          refine pOwer 32 (some 76) (mB 51 8589934591) HT_ ?_
          refine pOwer 33 (some 77) (mB 51 17179869183) HT_ ?_
          refine pOwer 34 (some 78) (mB 51 34359738367) HT_ ?_
          refine pOwer 35 (some 79) (mB 51 68719476735) HT_ ?_
          refine pOwer 36 (some 80) (mB 51 137438953471) HT_ ?_
          refine pOwer 37 (some 81) (mB 51 274877906943) HT_ ?_
          refine pOwer 38 (some 82) (mB 51 549755813887) HT_ ?_
          refine pOwer 39 (some 83) (mB 51 1099511627775) HT_ ?_
          refine pOwer 40 (some 84) (mB 51 2199023255551) HT_ ?_
          refine pOwer 41 (some 85) (mB 51 4398046511103) HT_ ?_
          refine pOwer 42 (some 86) (mB 51 8796093022207) HT_ ?_
          refine pOwer 43 (some 87) (mB 51 17592186044415) HT_ ?_
          refine pOwer 44 (some 88) (mB 51 35184372088831) HT_ ?_
          refine pOwer 45 (some 89) (mB 51 70368744177663) HT_ ?_
          refine pOwer 46 (some 90) (mB 51 140737488355327) HT_ ?_
          refine pOwer 47 (some 91) (mB 51 281474976710655) HT_ ?_
          refine pOwer 48 (some 92) (mB 51 562949953421311) HT_ ?_
          refine pu 49 (some 93) (mB 51 1125899906842623) HT_ ?_
          refine pu 50 (some 6) (mB 51 2251799813685247) HT_ ?_
          refine done_ (done_of HT_.out (by kernel_rfl)) ?_
          try go_wp2
          go_ret
          exact ⟨rfE, hbA HB.out⟩
        ·rw [if_neg c16] at H
         have c16b0 : (t382 == true) = false := by simpa using c16
         (try (have c16b1 : decide (t382 = true) = false := by simpa using c16))
         (try (have c16b2 : (t382 == true) = false := by simpa using c16))
         (try (have c16b3 : ¬ (t382 = true) := by simpa using c16))
         clear c16
         obtain rfl := Option.some.inj H
         go_enter Tryd.func5, Tryd.ntmps5
         try go_wp2_with (first | ((with_reducible refine gD 3 rfl ?_); (try (refine gate_guard (by rfl) ?_; dsimp only)); refine bE 3 #[.int .i64 a0_0, .int .i64 a0_1, .slice A0_2 l0_2.length c0_2] 24 ?_; intro gb374 hg w67 hbox hb; have BK374 := Aside0.mk (hbox); have GW374 := Aside0.mk ((by rw [hg]; exact (below_size (by repeat (first | (with_reducible first | exact HB.out | apply below_alloc | apply pw_below_drewN | apply below_drew1 | refine below_set ?_ (Aside0.out (by assumption))) | exact HB.out))) : w.heap.size ≤ gb374)); have GE374 := Aside0.mk ((by rw [hg]; exact (below_size (by repeat (first | (with_reducible first | exact HB.out | apply below_alloc | apply pw_below_drewN | apply below_drew1 | refine below_set ?_ (Aside0.out (by assumption))) | exact HB.out))) : w.heap.size ≤ gb374)); replace HB := Aside0.mk (below_step (by repeat (first | (with_reducible first | exact HB.out | apply below_alloc | apply pw_below_drewN | apply below_drew1 | refine below_set ?_ (Aside0.out (by assumption))) | exact HB.out)) hb); clear hb hbox hg; obtain ⟨hcz68_0, hcz68_1, hcz68_2, hfz68_0, hfz68_1, hfz68_2⟩ := cell3 BK374) | ((with_reducible refine gC 9 rfl ?_); refine cG (some 17) Tryd.func9 #[.agg #[.int .i64 a0_0, .int .i64 a0_1, .slice A0_2 l0_2.length c0_2], .int .u64 a1] ?_; (with_reducible refine (verdict_Recovers.calls k a0_0 a0_1 _ _ l0_2 a1 true t376 _ ?side1 ?side2 A4.out (tBwer HT.out HB)).mono ?_); (case side1 => exact kcB HR0_2 HB); (case side2 => exact HC0_2.out); rintro e w69 ⟨rfl, hb⟩; refine ⟨_, rfl, ?_⟩; replace BK374 := bkB BK374 hb; replace HB := hbB HB hb; (try clear hb); (try clear hb2); (try clear hk); (try clear hi); obtain ⟨hcz70_0, hcz70_1, hcz70_2, hfz70_0, hfz70_1, hfz70_2⟩ := cell3 BK374) | ((with_reducible refine gC 13 rfl ?_); refine cG (some 22) Tryd.func13 #[.agg #[.int .i64 a0_0, .int .i64 a0_1, .slice A0_2 l0_2.length c0_2], .int .u64 a1] ?_; (with_reducible refine (recouplaw18_generator.calls k a0_0 a0_1 _ _ l0_2 a1 true _ ?side1 ?side2 A5.out).mono ?_); (case side1 => exact kcB HR0_2 HB); (case side2 => exact HC0_2.out); rintro e w71 ⟨rfl, hb⟩; refine ⟨_, rfl, ?_⟩; replace BK374 := bkB BK374 hb; replace HB := hbB HB hb; (try clear hb); (try clear hb2); (try clear hk); (try clear hi); obtain ⟨hcz72_0, hcz72_1, hcz72_2, hfz72_0, hfz72_1, hfz72_2⟩ := cell3 BK374) | ((with_reducible refine gC 9 rfl ?_); refine cG (some 34) Tryd.func9 #[.agg #[.int .i64 a0_0, .int .i64 a0_1, .slice A0_2 l0_2.length c0_2], .int .u64 (Go.bits .and .u64 a1 a2)] ?_; (with_reducible refine (verdict_Recovers.calls k a0_0 a0_1 _ _ l0_2 (Go.bits .and .u64 a1 a2) true t380 _ ?side1 ?side2 A7.out (tBwer HT.out HB)).mono ?_); (case side1 => exact kcB HR0_2 HB); (case side2 => exact HC0_2.out); rintro e w73 ⟨rfl, hb⟩; refine ⟨_, rfl, ?_⟩; replace BK374 := bkB BK374 hb; replace HB := hbB HB hb; (try clear hb); (try clear hb2); (try clear hk); (try clear hi); obtain ⟨hcz74_0, hcz74_1, hcz74_2, hfz74_0, hfz74_1, hfz74_2⟩ := cell3 BK374) | ((with_reducible refine gC 11 rfl ?_); refine cG (some 40) Tryd.func11 #[.agg #[.int .i64 a0_0, .int .i64 a0_1, .slice A0_2 l0_2.length c0_2], .int .u64 a1] ?_; (with_reducible refine (verdict_Sources.calls k a0_0 a0_1 _ _ l0_2 a1 t381 t382 t383 _ ?side1 ?side2 A8.out (tBwer HT.out HB)).mono ?_); (case side1 => exact kcB HR0_2 HB); (case side2 => exact HC0_2.out); rintro e w75 ⟨rfl, hb⟩; refine ⟨_, rfl, ?_⟩; replace BK374 := bkB BK374 hb; replace HB := hbB HB hb; (try clear hb); (try clear hb2); (try clear hk); (try clear hi)))
         replace BK374 := Aside0.mk (blk_drew BK374.out)
         replace HB := Aside0.mk (below_drew1 HB.out)
         refine start_ (n := 51) (S := fun w' => True) (ds := []) (.replicate 51 false) (by kernel_rfl) rfl rfl trivial (fun hHeld => ?_); refine with_tabW recouplaw18_VerdictFewer.tab6 recouplaw18_VerdictFewer.bits6 (fun HT_ HW_ => ?_)
         generalize w75.drew = w76 at BK374 HB hHeld ⊢
         refine one_ (i := 0) (N := some 44) (mB 51 1) rfl rfl (one_of HT_.out (by kernel_rfl)) (by decide) (fun K hK => ?_)
         refine goes_ Tryd.func14 (by kernel_rfl) rfl #[] (by rfl) rfl rfl (by (try simp only [List.map_toArray, List.map_cons, List.map_nil]); first | done | rfl | (simp only [List.length_drop, List.length_take]; rfl)) ?_
         with_reducible refine (recouplaw18_anchored.calls k  true _ A9.out (tBwer HT.out HB)).mono ?_
         rintro e w77 ⟨rfl, hb⟩
         refine ⟨_, rfl, ?_⟩
         replace BK374 := bkB BK374 hb
         replace HB := hbB HB hb
         (try clear hb)
         (try clear hb2)
         (try clear hk)
         (try clear hi)
         refine hK.out _ _ trivial (fun hHeld => ?_)
         clear hK K
         refine norm_ (a' := ?_) ?_ ?_
         rotate_left
         ·show Act.put _ (some 44) _ = _
          simp only [Act.put, List.setIfInBounds_toArray, List.set_cons_zero, List.set_cons_succ, i64_w, i32_w]
          rfl
         refine pu 1 (some 45) (mB 51 3) HT_ ?_
         refine pu 2 (some 46) (mB 51 7) HT_ ?_
         refine pu 3 (some 47) (mB 51 15) HT_ ?_
         refine pu 4 (some 48) (mB 51 31) HT_ ?_
         refine pu 5 (some 49) (mB 51 63) HT_ ?_
         refine pu 6 (some 50) (mB 51 127) HT_ ?_
         refine pu 7 (some 51) (mB 51 255) HT_ ?_
         refine pu 8 (some 52) (mB 51 511) HT_ ?_
         refine pu 9 (some 53) (mB 51 1023) HT_ ?_
         refine pu 10 (some 54) (mB 51 2047) HT_ ?_
         refine pu 11 (some 55) (mB 51 4095) HT_ ?_
         refine pu 12 (some 56) (mB 51 8191) HT_ ?_
         refine pu 13 (some 57) (mB 51 16383) HT_ ?_
         refine pu 14 (some 58) (mB 51 32767) HT_ ?_
         refine pu 15 (some 59) (mB 51 65535) HT_ ?_
         refine pu 16 (some 60) (mB 51 131071) HT_ ?_
         refine pu 17 (some 61) (mB 51 262143) HT_ ?_
         refine pu 18 (some 62) (mB 51 524287) HT_ ?_
         refine pu 19 (some 63) (mB 51 1048575) HT_ ?_
         refine pu 20 (some 64) (mB 51 2097151) HT_ ?_
         refine pu 21 (some 65) (mB 51 4194303) HT_ ?_
         refine pu 22 (some 66) (mB 51 8388607) HT_ ?_
         refine pu 23 (some 67) (mB 51 16777215) HT_ ?_
         refine pu 24 (some 68) (mB 51 33554431) HT_ ?_
         refine pu 25 (some 69) (mB 51 67108863) HT_ ?_
         refine pOwer 26 (some 70) (mB 51 134217727) HT_ ?_
         refine pOwer 27 (some 71) (mB 51 268435455) HT_ ?_
         refine pOwer 28 (some 72) (mB 51 536870911) HT_ ?_
         refine pOwer 29 (some 73) (mB 51 1073741823) HT_ ?_
         refine pu 30 (some 74) (mB 51 2147483647) HT_ ?_
         refine pu 31 (some 75) (mB 51 4294967295) HT_ ?_
         refine pOwer 32 (some 76) (mB 51 8589934591) HT_ ?_
         refine pOwer 33 (some 77) (mB 51 17179869183) HT_ ?_
         refine pOwer 34 (some 78) (mB 51 34359738367) HT_ ?_
         refine pOwer 35 (some 79) (mB 51 68719476735) HT_ ?_
         refine pOwer 36 (some 80) (mB 51 137438953471) HT_ ?_
         refine pOwer 37 (some 81) (mB 51 274877906943) HT_ ?_
         refine pOwer 38 (some 82) (mB 51 549755813887) HT_ ?_
         refine pOwer 39 (some 83) (mB 51 1099511627775) HT_ ?_
         refine pOwer 40 (some 84) (mB 51 2199023255551) HT_ ?_
         refine pOwer 41 (some 85) (mB 51 4398046511103) HT_ ?_
         refine pOwer 42 (some 86) (mB 51 8796093022207) HT_ ?_
         refine pOwer 43 (some 87) (mB 51 17592186044415) HT_ ?_
         refine pOwer 44 (some 88) (mB 51 35184372088831) HT_ ?_
         refine pOwer 45 (some 89) (mB 51 70368744177663) HT_ ?_
         refine pOwer 46 (some 90) (mB 51 140737488355327) HT_ ?_
         refine pOwer 47 (some 91) (mB 51 281474976710655) HT_ ?_
         refine pOwer 48 (some 92) (mB 51 562949953421311) HT_ ?_
         refine pu 49 (some 93) (mB 51 1125899906842623) HT_ ?_
         refine pu 50 (some 6) (mB 51 2251799813685247) HT_ ?_
         refine done_ (done_of HT_.out (by kernel_rfl)) ?_
         try go_wp2
         go_ret
         exact ⟨rfE, hbA HB.out⟩
       ·replace c15 := Bool.eq_false_iff.mpr c15
        subst c15
        rw [if_neg nofT] at H
        obtain rfl := Option.some.inj H
        go_enter Tryd.func5, Tryd.ntmps5
        try go_wp2_with (first | ((with_reducible refine gD 3 rfl ?_); (try (refine gate_guard (by rfl) ?_; dsimp only)); refine bE 3 #[.int .i64 a0_0, .int .i64 a0_1, .slice A0_2 l0_2.length c0_2] 24 ?_; intro gb374 hg w78 hbox hb; have BK374 := Aside0.mk (hbox); have GW374 := Aside0.mk ((by rw [hg]; exact (below_size (by repeat (first | (with_reducible first | exact HB.out | apply below_alloc | apply pw_below_drewN | apply below_drew1 | refine below_set ?_ (Aside0.out (by assumption))) | exact HB.out))) : w.heap.size ≤ gb374)); have GE374 := Aside0.mk ((by rw [hg]; exact (below_size (by repeat (first | (with_reducible first | exact HB.out | apply below_alloc | apply pw_below_drewN | apply below_drew1 | refine below_set ?_ (Aside0.out (by assumption))) | exact HB.out))) : w.heap.size ≤ gb374)); replace HB := Aside0.mk (below_step (by repeat (first | (with_reducible first | exact HB.out | apply below_alloc | apply pw_below_drewN | apply below_drew1 | refine below_set ?_ (Aside0.out (by assumption))) | exact HB.out)) hb); clear hb hbox hg; obtain ⟨hcz79_0, hcz79_1, hcz79_2, hfz79_0, hfz79_1, hfz79_2⟩ := cell3 BK374) | ((with_reducible refine gC 9 rfl ?_); refine cG (some 17) Tryd.func9 #[.agg #[.int .i64 a0_0, .int .i64 a0_1, .slice A0_2 l0_2.length c0_2], .int .u64 a1] ?_; (with_reducible refine (verdict_Recovers.calls k a0_0 a0_1 _ _ l0_2 a1 true t376 _ ?side1 ?side2 A4.out (tBwer HT.out HB)).mono ?_); (case side1 => exact kcB HR0_2 HB); (case side2 => exact HC0_2.out); rintro e w80 ⟨rfl, hb⟩; refine ⟨_, rfl, ?_⟩; replace BK374 := bkB BK374 hb; replace HB := hbB HB hb; (try clear hb); (try clear hb2); (try clear hk); (try clear hi); obtain ⟨hcz81_0, hcz81_1, hcz81_2, hfz81_0, hfz81_1, hfz81_2⟩ := cell3 BK374) | ((with_reducible refine gC 13 rfl ?_); refine cG (some 22) Tryd.func13 #[.agg #[.int .i64 a0_0, .int .i64 a0_1, .slice A0_2 l0_2.length c0_2], .int .u64 a1] ?_; (with_reducible refine (recouplaw18_generator.calls k a0_0 a0_1 _ _ l0_2 a1 true _ ?side1 ?side2 A5.out).mono ?_); (case side1 => exact kcB HR0_2 HB); (case side2 => exact HC0_2.out); rintro e w82 ⟨rfl, hb⟩; refine ⟨_, rfl, ?_⟩; replace BK374 := bkB BK374 hb; replace HB := hbB HB hb; (try clear hb); (try clear hb2); (try clear hk); (try clear hi); obtain ⟨hcz83_0, hcz83_1, hcz83_2, hfz83_0, hfz83_1, hfz83_2⟩ := cell3 BK374) | ((with_reducible refine gC 9 rfl ?_); refine cG (some 34) Tryd.func9 #[.agg #[.int .i64 a0_0, .int .i64 a0_1, .slice A0_2 l0_2.length c0_2], .int .u64 (Go.bits .and .u64 a1 a2)] ?_; (with_reducible refine (verdict_Recovers.calls k a0_0 a0_1 _ _ l0_2 (Go.bits .and .u64 a1 a2) false t380 _ ?side1 ?side2 A7.out (tBwer HT.out HB)).mono ?_); (case side1 => exact kcB HR0_2 HB); (case side2 => exact HC0_2.out); rintro e w84 ⟨rfl, hb⟩; refine ⟨_, rfl, ?_⟩; replace BK374 := bkB BK374 hb; replace HB := hbB HB hb; (try clear hb); (try clear hb2); (try clear hk); (try clear hi); obtain ⟨hcz85_0, hcz85_1, hcz85_2, hfz85_0, hfz85_1, hfz85_2⟩ := cell3 BK374) | ((with_reducible refine gC 11 rfl ?_); refine cG (some 40) Tryd.func11 #[.agg #[.int .i64 a0_0, .int .i64 a0_1, .slice A0_2 l0_2.length c0_2], .int .u64 a1] ?_; (with_reducible refine (verdict_Sources.calls k a0_0 a0_1 _ _ l0_2 a1 t381 t382 t383 _ ?side1 ?side2 A8.out (tBwer HT.out HB)).mono ?_); (case side1 => exact kcB HR0_2 HB); (case side2 => exact HC0_2.out); rintro e w86 ⟨rfl, hb⟩; refine ⟨_, rfl, ?_⟩; replace BK374 := bkB BK374 hb; replace HB := hbB HB hb; (try clear hb); (try clear hb2); (try clear hk); (try clear hi)))
        replace BK374 := Aside0.mk (blk_drew BK374.out)
        replace HB := Aside0.mk (below_drew1 HB.out)
        refine start_ (n := 51) (S := fun w' => True) (ds := []) (.replicate 51 false) (by kernel_rfl) rfl rfl trivial (fun hHeld => ?_); refine with_tabW recouplaw18_VerdictFewer.tab6 recouplaw18_VerdictFewer.bits6 (fun HT_ HW_ => ?_)
        generalize w86.drew = w87 at BK374 HB hHeld ⊢
        refine one_ (i := 0) (N := some 44) (mB 51 1) rfl rfl (one_of HT_.out (by kernel_rfl)) (by decide) (fun K hK => ?_)
        refine goes_ Tryd.func14 (by kernel_rfl) rfl #[] (by rfl) rfl rfl (by (try simp only [List.map_toArray, List.map_cons, List.map_nil]); first | done | rfl | (simp only [List.length_drop, List.length_take]; rfl)) ?_
        with_reducible refine (recouplaw18_anchored.calls k  true _ A9.out (tBwer HT.out HB)).mono ?_
        rintro e w88 ⟨rfl, hb⟩
        refine ⟨_, rfl, ?_⟩
        replace BK374 := bkB BK374 hb
        replace HB := hbB HB hb
        (try clear hb)
        (try clear hb2)
        (try clear hk)
        (try clear hi)
        refine hK.out _ _ trivial (fun hHeld => ?_)
        clear hK K
        refine norm_ (a' := ?_) ?_ ?_
        rotate_left
        ·show Act.put _ (some 44) _ = _
         simp only [Act.put, List.setIfInBounds_toArray, List.set_cons_zero, List.set_cons_succ, i64_w, i32_w]
         rfl
        refine pu 1 (some 45) (mB 51 3) HT_ ?_
        refine pu 2 (some 46) (mB 51 7) HT_ ?_
        refine pu 3 (some 47) (mB 51 15) HT_ ?_
        refine pu 4 (some 48) (mB 51 31) HT_ ?_
        refine pu 5 (some 49) (mB 51 63) HT_ ?_
        refine pu 6 (some 50) (mB 51 127) HT_ ?_
        refine pu 7 (some 51) (mB 51 255) HT_ ?_
        refine pu 8 (some 52) (mB 51 511) HT_ ?_
        refine pu 9 (some 53) (mB 51 1023) HT_ ?_
        refine pu 10 (some 54) (mB 51 2047) HT_ ?_
        refine pu 11 (some 55) (mB 51 4095) HT_ ?_
        refine pu 12 (some 56) (mB 51 8191) HT_ ?_
        refine pu 13 (some 57) (mB 51 16383) HT_ ?_
        refine pu 14 (some 58) (mB 51 32767) HT_ ?_
        refine pu 15 (some 59) (mB 51 65535) HT_ ?_
        refine pu 16 (some 60) (mB 51 131071) HT_ ?_
        refine pu 17 (some 61) (mB 51 262143) HT_ ?_
        refine pu 18 (some 62) (mB 51 524287) HT_ ?_
        refine pu 19 (some 63) (mB 51 1048575) HT_ ?_
        refine pu 20 (some 64) (mB 51 2097151) HT_ ?_
        refine pOwer 21 (some 65) (mB 51 4194303) HT_ ?_
        refine pOwer 22 (some 66) (mB 51 8388607) HT_ ?_
        refine pOwer 23 (some 67) (mB 51 16777215) HT_ ?_
        refine pu 24 (some 68) (mB 51 33554431) HT_ ?_
        refine pu 25 (some 69) (mB 51 67108863) HT_ ?_
        refine pOwer 26 (some 70) (mB 51 134217727) HT_ ?_
        refine pOwer 27 (some 71) (mB 51 268435455) HT_ ?_
        refine pOwer 28 (some 72) (mB 51 536870911) HT_ ?_
        refine pOwer 29 (some 73) (mB 51 1073741823) HT_ ?_
        refine pu 30 (some 74) (mB 51 2147483647) HT_ ?_
        refine pu 31 (some 75) (mB 51 4294967295) HT_ ?_
        refine pOwer 32 (some 76) (mB 51 8589934591) HT_ ?_
        refine pOwer 33 (some 77) (mB 51 17179869183) HT_ ?_
        refine pOwer 34 (some 78) (mB 51 34359738367) HT_ ?_
        refine pOwer 35 (some 79) (mB 51 68719476735) HT_ ?_
        refine pOwer 36 (some 80) (mB 51 137438953471) HT_ ?_
        refine pOwer 37 (some 81) (mB 51 274877906943) HT_ ?_
        refine pOwer 38 (some 82) (mB 51 549755813887) HT_ ?_
        refine pOwer 39 (some 83) (mB 51 1099511627775) HT_ ?_
        refine pOwer 40 (some 84) (mB 51 2199023255551) HT_ ?_
        refine pOwer 41 (some 85) (mB 51 4398046511103) HT_ ?_
        refine pOwer 42 (some 86) (mB 51 8796093022207) HT_ ?_
        refine pOwer 43 (some 87) (mB 51 17592186044415) HT_ ?_
        refine pOwer 44 (some 88) (mB 51 35184372088831) HT_ ?_
        refine pOwer 45 (some 89) (mB 51 70368744177663) HT_ ?_
        refine pOwer 46 (some 90) (mB 51 140737488355327) HT_ ?_
        refine pOwer 47 (some 91) (mB 51 281474976710655) HT_ ?_
        refine pOwer 48 (some 92) (mB 51 562949953421311) HT_ ?_
        refine pu 49 (some 93) (mB 51 1125899906842623) HT_ ?_
        refine pu 50 (some 6) (mB 51 2251799813685247) HT_ ?_
        refine done_ (done_of HT_.out (by kernel_rfl)) ?_
        try go_wp2
        go_ret
        exact ⟨rfE, hbA HB.out⟩
      ·replace c14 := Bool.eq_false_iff.mpr c14
       subst c14
       rw [if_neg nofT] at H
       by_cases c89 : (t382 == false) = true
       ·rw [if_pos c89] at H
        have c89b0 : (t382 == false) = true := c89
        (try (have c89b1 : decide (t382 = false) = true := by simpa using c89))
        (try (have c89b2 : (t382 == false) = true := by simpa using c89))
        clear c89
        by_cases c90 : (Go.bits .and .u64 t381 a1) = 0
        ·rw [if_pos c90] at H
         have c90b0 : ((Go.bits .and .u64 t381 a1) == 0) = true := beq_iff_eq.mpr c90
         have c90b1 : ((Go.bits .and .u64 t381 a1) != 0) = false := bne_eq_false_iff_eq.mpr c90
         clear c90
         by_cases c91 : t382 = true
         ·subst c91
          rw [if_pos rfl] at H
          obtain ⟨t388, A92, H⟩ := bindO H
          (try dsimp only at H)
          obtain rfl := Option.some.inj H
          go_enter Tryd.func5, Tryd.ntmps5
          try go_wp2_with (first | ((with_reducible refine gD 3 rfl ?_); (try (refine gate_guard (by rfl) ?_; dsimp only)); refine bE 3 #[.int .i64 a0_0, .int .i64 a0_1, .slice A0_2 l0_2.length c0_2] 24 ?_; intro gb374 hg w93 hbox hb; have BK374 := Aside0.mk (hbox); have GW374 := Aside0.mk ((by rw [hg]; exact (below_size (by repeat (first | (with_reducible first | exact HB.out | apply below_alloc | apply pw_below_drewN | apply below_drew1 | refine below_set ?_ (Aside0.out (by assumption))) | exact HB.out))) : w.heap.size ≤ gb374)); have GE374 := Aside0.mk ((by rw [hg]; exact (below_size (by repeat (first | (with_reducible first | exact HB.out | apply below_alloc | apply pw_below_drewN | apply below_drew1 | refine below_set ?_ (Aside0.out (by assumption))) | exact HB.out))) : w.heap.size ≤ gb374)); replace HB := Aside0.mk (below_step (by repeat (first | (with_reducible first | exact HB.out | apply below_alloc | apply pw_below_drewN | apply below_drew1 | refine below_set ?_ (Aside0.out (by assumption))) | exact HB.out)) hb); clear hb hbox hg; obtain ⟨hcz94_0, hcz94_1, hcz94_2, hfz94_0, hfz94_1, hfz94_2⟩ := cell3 BK374) | ((with_reducible refine gC 9 rfl ?_); refine cG (some 17) Tryd.func9 #[.agg #[.int .i64 a0_0, .int .i64 a0_1, .slice A0_2 l0_2.length c0_2], .int .u64 a1] ?_; (with_reducible refine (verdict_Recovers.calls k a0_0 a0_1 _ _ l0_2 a1 false t376 _ ?side1 ?side2 A4.out (tBwer HT.out HB)).mono ?_); (case side1 => exact kcB HR0_2 HB); (case side2 => exact HC0_2.out); rintro e w95 ⟨rfl, hb⟩; refine ⟨_, rfl, ?_⟩; replace BK374 := bkB BK374 hb; replace HB := hbB HB hb; (try clear hb); (try clear hb2); (try clear hk); (try clear hi); obtain ⟨hcz96_0, hcz96_1, hcz96_2, hfz96_0, hfz96_1, hfz96_2⟩ := cell3 BK374) | ((with_reducible refine gC 13 rfl ?_); refine cG (some 22) Tryd.func13 #[.agg #[.int .i64 a0_0, .int .i64 a0_1, .slice A0_2 l0_2.length c0_2], .int .u64 a1] ?_; (with_reducible refine (recouplaw18_generator.calls k a0_0 a0_1 _ _ l0_2 a1 true _ ?side1 ?side2 A5.out).mono ?_); (case side1 => exact kcB HR0_2 HB); (case side2 => exact HC0_2.out); rintro e w97 ⟨rfl, hb⟩; refine ⟨_, rfl, ?_⟩; replace BK374 := bkB BK374 hb; replace HB := hbB HB hb; (try clear hb); (try clear hb2); (try clear hk); (try clear hi); obtain ⟨hcz98_0, hcz98_1, hcz98_2, hfz98_0, hfz98_1, hfz98_2⟩ := cell3 BK374) | ((with_reducible refine gC 9 rfl ?_); refine cG (some 34) Tryd.func9 #[.agg #[.int .i64 a0_0, .int .i64 a0_1, .slice A0_2 l0_2.length c0_2], .int .u64 (Go.bits .and .u64 a1 a2)] ?_; (with_reducible refine (verdict_Recovers.calls k a0_0 a0_1 _ _ l0_2 (Go.bits .and .u64 a1 a2) t379 t380 _ ?side1 ?side2 A7.out (tBwer HT.out HB)).mono ?_); (case side1 => exact kcB HR0_2 HB); (case side2 => exact HC0_2.out); rintro e w99 ⟨rfl, hb⟩; refine ⟨_, rfl, ?_⟩; replace BK374 := bkB BK374 hb; replace HB := hbB HB hb; (try clear hb); (try clear hb2); (try clear hk); (try clear hi); obtain ⟨hcz100_0, hcz100_1, hcz100_2, hfz100_0, hfz100_1, hfz100_2⟩ := cell3 BK374) | ((with_reducible refine gC 11 rfl ?_); refine cG (some 40) Tryd.func11 #[.agg #[.int .i64 a0_0, .int .i64 a0_1, .slice A0_2 l0_2.length c0_2], .int .u64 a1] ?_; (with_reducible refine (verdict_Sources.calls k a0_0 a0_1 _ _ l0_2 a1 t381 true t383 _ ?side1 ?side2 A8.out (tBwer HT.out HB)).mono ?_); (case side1 => exact kcB HR0_2 HB); (case side2 => exact HC0_2.out); rintro e w101 ⟨rfl, hb⟩; refine ⟨_, rfl, ?_⟩; replace BK374 := bkB BK374 hb; replace HB := hbB HB hb; (try clear hb); (try clear hb2); (try clear hk); (try clear hi)))
          replace BK374 := Aside0.mk (blk_drew BK374.out)
          replace HB := Aside0.mk (below_drew1 HB.out)
          refine start_ (n := 51) (S := fun w' => w'.cell? ⟨gb374, 0, none⟩ = some (.int .i64 a0_0) ∧ w'.cell? ⟨gb374, 1, none⟩ = some (.int .i64 a0_1) ∧ w'.cell? ⟨gb374, 2, none⟩ = some (.slice A0_2 l0_2.length c0_2)) (ds := []) (.replicate 51 false) (by kernel_rfl) rfl rfl ⟨(blk_cell BK374.out 0).trans rfl, (blk_cell BK374.out 1).trans rfl, (blk_cell BK374.out 2).trans rfl⟩ (fun hHeld => ?_); refine with_tabW recouplaw18_VerdictFewer.tab6 recouplaw18_VerdictFewer.bits6 (fun HT_ HW_ => ?_)
          generalize w101.drew = w102 at BK374 HB hHeld ⊢
          refine one_ (i := 0) (N := some 44) (mB 51 1) rfl rfl (one_of HT_.out (by kernel_rfl)) (by decide) (fun K hK => ?_)
          refine goes_ Tryd.func14 (by kernel_rfl) rfl #[] (by rfl) rfl rfl (by (try simp only [List.map_toArray, List.map_cons, List.map_nil]); first | done | rfl | (simp only [List.length_drop, List.length_take]; rfl)) ?_
          with_reducible refine (recouplaw18_anchored.calls k  true _ A9.out (tBwer HT.out HB)).mono ?_
          rintro e w103 ⟨rfl, hb⟩
          refine ⟨_, rfl, ?_⟩
          replace BK374 := bkB BK374 hb
          replace HB := hbB HB hb
          (try clear hb)
          (try clear hb2)
          (try clear hk)
          (try clear hi)
          refine hK.out _ _ ⟨(blk_cell BK374.out 0).trans rfl, (blk_cell BK374.out 1).trans rfl, (blk_cell BK374.out 2).trans rfl⟩ (fun hHeld => ?_)
          clear hK K
          refine norm_ (a' := ?_) ?_ ?_
          rotate_left
          ·show Act.put _ (some 44) _ = _
           simp only [Act.put, List.setIfInBounds_toArray, List.set_cons_zero, List.set_cons_succ, i64_w, i32_w]
           rfl
          refine pu 1 (some 45) (mB 51 3) HT_ ?_
          refine pu 2 (some 46) (mB 51 7) HT_ ?_
          refine pu 3 (some 47) (mB 51 15) HT_ ?_
          refine pu 4 (some 48) (mB 51 31) HT_ ?_
          refine pu 5 (some 49) (mB 51 63) HT_ ?_
          refine pu 6 (some 50) (mB 51 127) HT_ ?_
          refine pu 7 (some 51) (mB 51 255) HT_ ?_
          refine pu 8 (some 52) (mB 51 511) HT_ ?_
          refine pu 9 (some 53) (mB 51 1023) HT_ ?_
          refine pu 10 (some 54) (mB 51 2047) HT_ ?_
          refine pu 11 (some 55) (mB 51 4095) HT_ ?_
          refine pu 12 (some 56) (mB 51 8191) HT_ ?_
          refine pu 13 (some 57) (mB 51 16383) HT_ ?_
          refine pu 14 (some 58) (mB 51 32767) HT_ ?_
          refine pu 15 (some 59) (mB 51 65535) HT_ ?_
          refine pu 16 (some 60) (mB 51 131071) HT_ ?_
          refine pOwer 17 (some 61) (mB 51 262143) HT_ ?_
          refine pu 18 (some 62) (mB 51 524287) HT_ ?_
          refine pu 19 (some 63) (mB 51 1048575) HT_ ?_
          refine pu 20 (some 64) (mB 51 2097151) HT_ ?_
          refine pu 21 (some 65) (mB 51 4194303) HT_ ?_
          refine pu 22 (some 66) (mB 51 8388607) HT_ ?_
          refine pu 23 (some 67) (mB 51 16777215) HT_ ?_
          refine pu 24 (some 68) (mB 51 33554431) HT_ ?_
          refine pu 25 (some 69) (mB 51 67108863) HT_ ?_
          refine pu 26 (some 70) (mB 51 134217727) HT_ ?_
          refine pu 27 (some 71) (mB 51 268435455) HT_ ?_
          refine pu 28 (some 72) (mB 51 536870911) HT_ ?_
          refine pu 29 (some 73) (mB 51 1073741823) HT_ ?_
          refine pu 30 (some 74) (mB 51 2147483647) HT_ ?_
          refine pu 31 (some 75) (mB 51 4294967295) HT_ ?_
          refine pu 32 (some 76) (mB 51 8589934591) HT_ ?_
          refine pu 33 (some 77) (mB 51 17179869183) HT_ ?_
          refine pu 34 (some 78) (mB 51 34359738367) HT_ ?_
          refine pOwer 35 (some 79) (mB 51 68719476735) HT_ ?_
          refine pOwer 36 (some 80) (mB 51 137438953471) HT_ ?_
          refine pu 37 (some 81) (mB 51 274877906943) HT_ ?_
          refine pu 38 (some 82) (mB 51 549755813887) HT_ ?_
          refine pu 39 (some 83) (mB 51 1099511627775) HT_ ?_
          refine pu 40 (some 84) (mB 51 2199023255551) HT_ ?_
          refine pu 41 (some 85) (mB 51 4398046511103) HT_ ?_
          refine pu 44 (some 88) (mB 51 21990232555519) HT_ ?_
          refine tk3 45 (some 89) (mB 51 57174604644351) HT_ HW_ hHeld ?_
          refine one_ (i := 42) (N := some 86) (mB 51 61572651155455) rfl rfl (one_of HT_.out (by kernel_rfl)) (by decide) (fun K hK => ?_)
          refine goes_ Tryd.func17 (by kernel_rfl) rfl #[.int .u64 t381] (by rfl) rfl rfl (by (try simp only [List.map_toArray, List.map_cons, List.map_nil]); first | done | rfl | (simp only [List.length_drop, List.length_take]; rfl)) ?_
          with_reducible refine (recoupref06_List.calls k t381 t388 _ A92.out).mono ?_
          rintro e w104 ⟨v389, rfl, ho0, hb⟩
          refine ⟨_, rfl, ?_⟩
          have HO390 := Aside0.mk (Kd.R_lower ho0 (below_size (hbA HB.out)))
          replace BK374 := bkB BK374 hb
          replace HB := hbB HB hb
          (try clear hb)
          (try clear hb2)
          (try clear hk)
          (try clear hi)
          (try clear ho0)
          obtain ⟨Ao105, co105, eo105⟩ := Kd.R_slice HO390.out
          (first | subst eo105 | (injection eo105 with f1_ f2_ f3_; have f4_ := f1_.symm; have f5_ := f3_.symm; clear f1_ f2_ f3_; subst f4_; subst f5_))
          refine hK.out _ _ ⟨(blk_cell BK374.out 0).trans rfl, (blk_cell BK374.out 1).trans rfl, (blk_cell BK374.out 2).trans rfl⟩ (fun hHeld => ?_)
          clear hK K
          refine norm_ (a' := ?_) ?_ ?_
          rotate_left
          ·show Act.put _ (some 86) _ = _
           simp only [Act.put, List.setIfInBounds_toArray, List.set_cons_zero, List.set_cons_succ, i64_w, i32_w]
           rfl
          refine pu 43 (some 87) (mB 51 70368744177663) HT_ ?_
          refine pu 46 (some 90) (mB 51 140737488355327) HT_ ?_
          refine pu 47 (some 91) (mB 51 281474976710655) HT_ ?_
          refine pu 48 (some 92) (mB 51 562949953421311) HT_ ?_
          refine pu 49 (some 93) (mB 51 1125899906842623) HT_ ?_
          refine pu 50 (some 6) (mB 51 2251799813685247) HT_ ?_
          refine done_ (done_of HT_.out (by kernel_rfl)) ?_
          try go_wp2
          go_ret
          exact ⟨rfE, hbA HB.out⟩
         ·replace c91 := Bool.eq_false_iff.mpr c91
          subst c91
          rw [if_neg nofT] at H
          by_cases c106 : t381 = 0
          ·rw [if_pos c106] at H
           have c106b0 : (t381 == 0) = true := beq_iff_eq.mpr c106
           have c106b1 : (t381 != 0) = false := bne_eq_false_iff_eq.mpr c106
           clear c106
           obtain rfl := Option.some.inj H
           go_enter Tryd.func5, Tryd.ntmps5
           try go_wp2_with (first | ((with_reducible refine gD 3 rfl ?_); (try (refine gate_guard (by rfl) ?_; dsimp only)); refine bE 3 #[.int .i64 a0_0, .int .i64 a0_1, .slice A0_2 l0_2.length c0_2] 24 ?_; intro gb374 hg w107 hbox hb; have BK374 := Aside0.mk (hbox); have GW374 := Aside0.mk ((by rw [hg]; exact (below_size (by repeat (first | (with_reducible first | exact HB.out | apply below_alloc | apply pw_below_drewN | apply below_drew1 | refine below_set ?_ (Aside0.out (by assumption))) | exact HB.out))) : w.heap.size ≤ gb374)); have GE374 := Aside0.mk ((by rw [hg]; exact (below_size (by repeat (first | (with_reducible first | exact HB.out | apply below_alloc | apply pw_below_drewN | apply below_drew1 | refine below_set ?_ (Aside0.out (by assumption))) | exact HB.out))) : w.heap.size ≤ gb374)); replace HB := Aside0.mk (below_step (by repeat (first | (with_reducible first | exact HB.out | apply below_alloc | apply pw_below_drewN | apply below_drew1 | refine below_set ?_ (Aside0.out (by assumption))) | exact HB.out)) hb); clear hb hbox hg; obtain ⟨hcz108_0, hcz108_1, hcz108_2, hfz108_0, hfz108_1, hfz108_2⟩ := cell3 BK374) | ((with_reducible refine gC 9 rfl ?_); refine cG (some 17) Tryd.func9 #[.agg #[.int .i64 a0_0, .int .i64 a0_1, .slice A0_2 l0_2.length c0_2], .int .u64 a1] ?_; (with_reducible refine (verdict_Recovers.calls k a0_0 a0_1 _ _ l0_2 a1 false t376 _ ?side1 ?side2 A4.out (tBwer HT.out HB)).mono ?_); (case side1 => exact kcB HR0_2 HB); (case side2 => exact HC0_2.out); rintro e w109 ⟨rfl, hb⟩; refine ⟨_, rfl, ?_⟩; replace BK374 := bkB BK374 hb; replace HB := hbB HB hb; (try clear hb); (try clear hb2); (try clear hk); (try clear hi); obtain ⟨hcz110_0, hcz110_1, hcz110_2, hfz110_0, hfz110_1, hfz110_2⟩ := cell3 BK374) | ((with_reducible refine gC 13 rfl ?_); refine cG (some 22) Tryd.func13 #[.agg #[.int .i64 a0_0, .int .i64 a0_1, .slice A0_2 l0_2.length c0_2], .int .u64 a1] ?_; (with_reducible refine (recouplaw18_generator.calls k a0_0 a0_1 _ _ l0_2 a1 true _ ?side1 ?side2 A5.out).mono ?_); (case side1 => exact kcB HR0_2 HB); (case side2 => exact HC0_2.out); rintro e w111 ⟨rfl, hb⟩; refine ⟨_, rfl, ?_⟩; replace BK374 := bkB BK374 hb; replace HB := hbB HB hb; (try clear hb); (try clear hb2); (try clear hk); (try clear hi); obtain ⟨hcz112_0, hcz112_1, hcz112_2, hfz112_0, hfz112_1, hfz112_2⟩ := cell3 BK374) | ((with_reducible refine gC 9 rfl ?_); refine cG (some 34) Tryd.func9 #[.agg #[.int .i64 a0_0, .int .i64 a0_1, .slice A0_2 l0_2.length c0_2], .int .u64 (Go.bits .and .u64 a1 a2)] ?_; (with_reducible refine (verdict_Recovers.calls k a0_0 a0_1 _ _ l0_2 (Go.bits .and .u64 a1 a2) t379 t380 _ ?side1 ?side2 A7.out (tBwer HT.out HB)).mono ?_); (case side1 => exact kcB HR0_2 HB); (case side2 => exact HC0_2.out); rintro e w113 ⟨rfl, hb⟩; refine ⟨_, rfl, ?_⟩; replace BK374 := bkB BK374 hb; replace HB := hbB HB hb; (try clear hb); (try clear hb2); (try clear hk); (try clear hi); obtain ⟨hcz114_0, hcz114_1, hcz114_2, hfz114_0, hfz114_1, hfz114_2⟩ := cell3 BK374) | ((with_reducible refine gC 11 rfl ?_); refine cG (some 40) Tryd.func11 #[.agg #[.int .i64 a0_0, .int .i64 a0_1, .slice A0_2 l0_2.length c0_2], .int .u64 a1] ?_; (with_reducible refine (verdict_Sources.calls k a0_0 a0_1 _ _ l0_2 a1 t381 false t383 _ ?side1 ?side2 A8.out (tBwer HT.out HB)).mono ?_); (case side1 => exact kcB HR0_2 HB); (case side2 => exact HC0_2.out); rintro e w115 ⟨rfl, hb⟩; refine ⟨_, rfl, ?_⟩; replace BK374 := bkB BK374 hb; replace HB := hbB HB hb; (try clear hb); (try clear hb2); (try clear hk); (try clear hi)))
           replace BK374 := Aside0.mk (blk_drew BK374.out)
           replace HB := Aside0.mk (below_drew1 HB.out)
           refine start_ (n := 51) (S := fun w' => True) (ds := []) (.replicate 51 false) (by kernel_rfl) rfl rfl trivial (fun hHeld => ?_); refine with_tabW recouplaw18_VerdictFewer.tab6 recouplaw18_VerdictFewer.bits6 (fun HT_ HW_ => ?_)
           generalize w115.drew = w116 at BK374 HB hHeld ⊢
           refine one_ (i := 0) (N := some 44) (mB 51 1) rfl rfl (one_of HT_.out (by kernel_rfl)) (by decide) (fun K hK => ?_)
           refine goes_ Tryd.func14 (by kernel_rfl) rfl #[] (by rfl) rfl rfl (by (try simp only [List.map_toArray, List.map_cons, List.map_nil]); first | done | rfl | (simp only [List.length_drop, List.length_take]; rfl)) ?_
           with_reducible refine (recouplaw18_anchored.calls k  true _ A9.out (tBwer HT.out HB)).mono ?_
           rintro e w117 ⟨rfl, hb⟩
           refine ⟨_, rfl, ?_⟩
           replace BK374 := bkB BK374 hb
           replace HB := hbB HB hb
           (try clear hb)
           (try clear hb2)
           (try clear hk)
           (try clear hi)
           refine hK.out _ _ trivial (fun hHeld => ?_)
           clear hK K
           refine norm_ (a' := ?_) ?_ ?_
           rotate_left
           ·show Act.put _ (some 44) _ = _
            simp only [Act.put, List.setIfInBounds_toArray, List.set_cons_zero, List.set_cons_succ, i64_w, i32_w]
            rfl
           refine pu 1 (some 45) (mB 51 3) HT_ ?_
           refine pu 2 (some 46) (mB 51 7) HT_ ?_
           refine pu 3 (some 47) (mB 51 15) HT_ ?_
           refine pu 4 (some 48) (mB 51 31) HT_ ?_
           refine pu 5 (some 49) (mB 51 63) HT_ ?_
           refine pu 6 (some 50) (mB 51 127) HT_ ?_
           refine pu 7 (some 51) (mB 51 255) HT_ ?_
           refine pu 8 (some 52) (mB 51 511) HT_ ?_
           refine pu 9 (some 53) (mB 51 1023) HT_ ?_
           refine pu 10 (some 54) (mB 51 2047) HT_ ?_
           refine pu 11 (some 55) (mB 51 4095) HT_ ?_
           refine pu 12 (some 56) (mB 51 8191) HT_ ?_
           refine pu 13 (some 57) (mB 51 16383) HT_ ?_
           refine pu 14 (some 58) (mB 51 32767) HT_ ?_
           refine pu 15 (some 59) (mB 51 65535) HT_ ?_
           refine pu 16 (some 60) (mB 51 131071) HT_ ?_
           refine pOwer 17 (some 61) (mB 51 262143) HT_ ?_
           refine pu 18 (some 62) (mB 51 524287) HT_ ?_
           refine pu 19 (some 63) (mB 51 1048575) HT_ ?_
           refine pu 20 (some 64) (mB 51 2097151) HT_ ?_
           refine pu 21 (some 65) (mB 51 4194303) HT_ ?_
           refine pu 22 (some 66) (mB 51 8388607) HT_ ?_
           refine pu 23 (some 67) (mB 51 16777215) HT_ ?_
           refine pu 24 (some 68) (mB 51 33554431) HT_ ?_
           refine pu 25 (some 69) (mB 51 67108863) HT_ ?_
           refine pu 26 (some 70) (mB 51 134217727) HT_ ?_
           refine pu 27 (some 71) (mB 51 268435455) HT_ ?_
           refine pu 28 (some 72) (mB 51 536870911) HT_ ?_
           refine pu 29 (some 73) (mB 51 1073741823) HT_ ?_
           refine pu 30 (some 74) (mB 51 2147483647) HT_ ?_
           refine pu 31 (some 75) (mB 51 4294967295) HT_ ?_
           refine pu 32 (some 76) (mB 51 8589934591) HT_ ?_
           refine pu 33 (some 77) (mB 51 17179869183) HT_ ?_
           refine pu 34 (some 78) (mB 51 34359738367) HT_ ?_
           refine pu 35 (some 79) (mB 51 68719476735) HT_ ?_
           refine pu 36 (some 80) (mB 51 137438953471) HT_ ?_
           refine pu 37 (some 81) (mB 51 274877906943) HT_ ?_
           refine pu 38 (some 82) (mB 51 549755813887) HT_ ?_
           refine pOwer 39 (some 83) (mB 51 1099511627775) HT_ ?_
           refine pOwer 40 (some 84) (mB 51 2199023255551) HT_ ?_
           refine pOwer 41 (some 85) (mB 51 4398046511103) HT_ ?_
           refine pOwer 42 (some 86) (mB 51 8796093022207) HT_ ?_
           refine pOwer 43 (some 87) (mB 51 17592186044415) HT_ ?_
           refine pOwer 44 (some 88) (mB 51 35184372088831) HT_ ?_
           refine pOwer 45 (some 89) (mB 51 70368744177663) HT_ ?_
           refine pOwer 46 (some 90) (mB 51 140737488355327) HT_ ?_
           refine pOwer 47 (some 91) (mB 51 281474976710655) HT_ ?_
           refine pu 48 (some 92) (mB 51 562949953421311) HT_ ?_
           refine pu 49 (some 93) (mB 51 1125899906842623) HT_ ?_
           refine pu 50 (some 6) (mB 51 2251799813685247) HT_ ?_
           refine done_ (done_of HT_.out (by kernel_rfl)) ?_
           try go_wp2
           go_ret
           exact ⟨rfE, hbA HB.out⟩
          ·rw [if_neg c106] at H
           have c106b0 : (t381 == 0) = false := beq_eq_false_iff_ne.mpr c106
           have c106b1 : (t381 != 0) = true := bne_iff_ne.mpr c106
           obtain rfl := Option.some.inj H
           go_enter Tryd.func5, Tryd.ntmps5
           try go_wp2_with (first | ((with_reducible refine gD 3 rfl ?_); (try (refine gate_guard (by rfl) ?_; dsimp only)); refine bE 3 #[.int .i64 a0_0, .int .i64 a0_1, .slice A0_2 l0_2.length c0_2] 24 ?_; intro gb374 hg w118 hbox hb; have BK374 := Aside0.mk (hbox); have GW374 := Aside0.mk ((by rw [hg]; exact (below_size (by repeat (first | (with_reducible first | exact HB.out | apply below_alloc | apply pw_below_drewN | apply below_drew1 | refine below_set ?_ (Aside0.out (by assumption))) | exact HB.out))) : w.heap.size ≤ gb374)); have GE374 := Aside0.mk ((by rw [hg]; exact (below_size (by repeat (first | (with_reducible first | exact HB.out | apply below_alloc | apply pw_below_drewN | apply below_drew1 | refine below_set ?_ (Aside0.out (by assumption))) | exact HB.out))) : w.heap.size ≤ gb374)); replace HB := Aside0.mk (below_step (by repeat (first | (with_reducible first | exact HB.out | apply below_alloc | apply pw_below_drewN | apply below_drew1 | refine below_set ?_ (Aside0.out (by assumption))) | exact HB.out)) hb); clear hb hbox hg; obtain ⟨hcz119_0, hcz119_1, hcz119_2, hfz119_0, hfz119_1, hfz119_2⟩ := cell3 BK374) | ((with_reducible refine gC 9 rfl ?_); refine cG (some 17) Tryd.func9 #[.agg #[.int .i64 a0_0, .int .i64 a0_1, .slice A0_2 l0_2.length c0_2], .int .u64 a1] ?_; (with_reducible refine (verdict_Recovers.calls k a0_0 a0_1 _ _ l0_2 a1 false t376 _ ?side1 ?side2 A4.out (tBwer HT.out HB)).mono ?_); (case side1 => exact kcB HR0_2 HB); (case side2 => exact HC0_2.out); rintro e w120 ⟨rfl, hb⟩; refine ⟨_, rfl, ?_⟩; replace BK374 := bkB BK374 hb; replace HB := hbB HB hb; (try clear hb); (try clear hb2); (try clear hk); (try clear hi); obtain ⟨hcz121_0, hcz121_1, hcz121_2, hfz121_0, hfz121_1, hfz121_2⟩ := cell3 BK374) | ((with_reducible refine gC 13 rfl ?_); refine cG (some 22) Tryd.func13 #[.agg #[.int .i64 a0_0, .int .i64 a0_1, .slice A0_2 l0_2.length c0_2], .int .u64 a1] ?_; (with_reducible refine (recouplaw18_generator.calls k a0_0 a0_1 _ _ l0_2 a1 true _ ?side1 ?side2 A5.out).mono ?_); (case side1 => exact kcB HR0_2 HB); (case side2 => exact HC0_2.out); rintro e w122 ⟨rfl, hb⟩; refine ⟨_, rfl, ?_⟩; replace BK374 := bkB BK374 hb; replace HB := hbB HB hb; (try clear hb); (try clear hb2); (try clear hk); (try clear hi); obtain ⟨hcz123_0, hcz123_1, hcz123_2, hfz123_0, hfz123_1, hfz123_2⟩ := cell3 BK374) | ((with_reducible refine gC 9 rfl ?_); refine cG (some 34) Tryd.func9 #[.agg #[.int .i64 a0_0, .int .i64 a0_1, .slice A0_2 l0_2.length c0_2], .int .u64 (Go.bits .and .u64 a1 a2)] ?_; (with_reducible refine (verdict_Recovers.calls k a0_0 a0_1 _ _ l0_2 (Go.bits .and .u64 a1 a2) t379 t380 _ ?side1 ?side2 A7.out (tBwer HT.out HB)).mono ?_); (case side1 => exact kcB HR0_2 HB); (case side2 => exact HC0_2.out); rintro e w124 ⟨rfl, hb⟩; refine ⟨_, rfl, ?_⟩; replace BK374 := bkB BK374 hb; replace HB := hbB HB hb; (try clear hb); (try clear hb2); (try clear hk); (try clear hi); obtain ⟨hcz125_0, hcz125_1, hcz125_2, hfz125_0, hfz125_1, hfz125_2⟩ := cell3 BK374) | ((with_reducible refine gC 11 rfl ?_); refine cG (some 40) Tryd.func11 #[.agg #[.int .i64 a0_0, .int .i64 a0_1, .slice A0_2 l0_2.length c0_2], .int .u64 a1] ?_; (with_reducible refine (verdict_Sources.calls k a0_0 a0_1 _ _ l0_2 a1 t381 false t383 _ ?side1 ?side2 A8.out (tBwer HT.out HB)).mono ?_); (case side1 => exact kcB HR0_2 HB); (case side2 => exact HC0_2.out); rintro e w126 ⟨rfl, hb⟩; refine ⟨_, rfl, ?_⟩; replace BK374 := bkB BK374 hb; replace HB := hbB HB hb; (try clear hb); (try clear hb2); (try clear hk); (try clear hi)))
           replace BK374 := Aside0.mk (blk_drew BK374.out)
           replace HB := Aside0.mk (below_drew1 HB.out)
           refine start_ (n := 51) (S := fun w' => True) (ds := []) (.replicate 51 false) (by kernel_rfl) rfl rfl trivial (fun hHeld => ?_); refine with_tabW recouplaw18_VerdictFewer.tab6 recouplaw18_VerdictFewer.bits6 (fun HT_ HW_ => ?_)
           generalize w126.drew = w127 at BK374 HB hHeld ⊢
           refine one_ (i := 0) (N := some 44) (mB 51 1) rfl rfl (one_of HT_.out (by kernel_rfl)) (by decide) (fun K hK => ?_)
           refine goes_ Tryd.func14 (by kernel_rfl) rfl #[] (by rfl) rfl rfl (by (try simp only [List.map_toArray, List.map_cons, List.map_nil]); first | done | rfl | (simp only [List.length_drop, List.length_take]; rfl)) ?_
           with_reducible refine (recouplaw18_anchored.calls k  true _ A9.out (tBwer HT.out HB)).mono ?_
           rintro e w128 ⟨rfl, hb⟩
           refine ⟨_, rfl, ?_⟩
           replace BK374 := bkB BK374 hb
           replace HB := hbB HB hb
           (try clear hb)
           (try clear hb2)
           (try clear hk)
           (try clear hi)
           refine hK.out _ _ trivial (fun hHeld => ?_)
           clear hK K
           refine norm_ (a' := ?_) ?_ ?_
           rotate_left
           ·show Act.put _ (some 44) _ = _
            simp only [Act.put, List.setIfInBounds_toArray, List.set_cons_zero, List.set_cons_succ, i64_w, i32_w]
            rfl
           refine pu 1 (some 45) (mB 51 3) HT_ ?_
           refine pu 2 (some 46) (mB 51 7) HT_ ?_
           refine pu 3 (some 47) (mB 51 15) HT_ ?_
           refine pu 4 (some 48) (mB 51 31) HT_ ?_
           refine pu 5 (some 49) (mB 51 63) HT_ ?_
           refine pu 6 (some 50) (mB 51 127) HT_ ?_
           refine pu 7 (some 51) (mB 51 255) HT_ ?_
           refine pu 8 (some 52) (mB 51 511) HT_ ?_
           refine pu 9 (some 53) (mB 51 1023) HT_ ?_
           refine pu 10 (some 54) (mB 51 2047) HT_ ?_
           refine pu 11 (some 55) (mB 51 4095) HT_ ?_
           refine pu 12 (some 56) (mB 51 8191) HT_ ?_
           refine pu 13 (some 57) (mB 51 16383) HT_ ?_
           refine pu 14 (some 58) (mB 51 32767) HT_ ?_
           refine pu 15 (some 59) (mB 51 65535) HT_ ?_
           refine pu 16 (some 60) (mB 51 131071) HT_ ?_
           refine pOwer 17 (some 61) (mB 51 262143) HT_ ?_
           refine pu 18 (some 62) (mB 51 524287) HT_ ?_
           refine pu 19 (some 63) (mB 51 1048575) HT_ ?_
           refine pu 20 (some 64) (mB 51 2097151) HT_ ?_
           refine pu 21 (some 65) (mB 51 4194303) HT_ ?_
           refine pu 22 (some 66) (mB 51 8388607) HT_ ?_
           refine pu 23 (some 67) (mB 51 16777215) HT_ ?_
           refine pu 24 (some 68) (mB 51 33554431) HT_ ?_
           refine pu 25 (some 69) (mB 51 67108863) HT_ ?_
           refine pu 26 (some 70) (mB 51 134217727) HT_ ?_
           refine pu 27 (some 71) (mB 51 268435455) HT_ ?_
           refine pu 28 (some 72) (mB 51 536870911) HT_ ?_
           refine pu 29 (some 73) (mB 51 1073741823) HT_ ?_
           refine pu 30 (some 74) (mB 51 2147483647) HT_ ?_
           refine pu 31 (some 75) (mB 51 4294967295) HT_ ?_
           refine pu 32 (some 76) (mB 51 8589934591) HT_ ?_
           refine pu 33 (some 77) (mB 51 17179869183) HT_ ?_
           refine pu 34 (some 78) (mB 51 34359738367) HT_ ?_
           refine pu 35 (some 79) (mB 51 68719476735) HT_ ?_
           refine pu 36 (some 80) (mB 51 137438953471) HT_ ?_
           refine pu 37 (some 81) (mB 51 274877906943) HT_ ?_
           refine pu 38 (some 82) (mB 51 549755813887) HT_ ?_
           refine pu 39 (some 83) (mB 51 1099511627775) HT_ ?_
           refine pu 40 (some 84) (mB 51 2199023255551) HT_ ?_
           refine pOwer 41 (some 85) (mB 51 4398046511103) HT_ ?_
           refine pOwer 42 (some 86) (mB 51 8796093022207) HT_ ?_
           refine pOwer 43 (some 87) (mB 51 17592186044415) HT_ ?_
           refine pOwer 44 (some 88) (mB 51 35184372088831) HT_ ?_
           refine pOwer 45 (some 89) (mB 51 70368744177663) HT_ ?_
           refine pOwer 46 (some 90) (mB 51 140737488355327) HT_ ?_
           refine pu 47 (some 91) (mB 51 281474976710655) HT_ ?_
           refine pu 48 (some 92) (mB 51 562949953421311) HT_ ?_
           refine pu 49 (some 93) (mB 51 1125899906842623) HT_ ?_
           refine pu 50 (some 6) (mB 51 2251799813685247) HT_ ?_
           refine done_ (done_of HT_.out (by kernel_rfl)) ?_
           try go_wp2
           go_ret
           exact ⟨rfE, hbA HB.out⟩
        ·rw [if_neg c90] at H
         have c90b0 : ((Go.bits .and .u64 t381 a1) == 0) = false := beq_eq_false_iff_ne.mpr c90
         have c90b1 : ((Go.bits .and .u64 t381 a1) != 0) = true := bne_iff_ne.mpr c90
         obtain rfl := Option.some.inj H
         go_enter Tryd.func5, Tryd.ntmps5
         try go_wp2_with (first | ((with_reducible refine gD 3 rfl ?_); (try (refine gate_guard (by rfl) ?_; dsimp only)); refine bE 3 #[.int .i64 a0_0, .int .i64 a0_1, .slice A0_2 l0_2.length c0_2] 24 ?_; intro gb374 hg w129 hbox hb; have BK374 := Aside0.mk (hbox); have GW374 := Aside0.mk ((by rw [hg]; exact (below_size (by repeat (first | (with_reducible first | exact HB.out | apply below_alloc | apply pw_below_drewN | apply below_drew1 | refine below_set ?_ (Aside0.out (by assumption))) | exact HB.out))) : w.heap.size ≤ gb374)); have GE374 := Aside0.mk ((by rw [hg]; exact (below_size (by repeat (first | (with_reducible first | exact HB.out | apply below_alloc | apply pw_below_drewN | apply below_drew1 | refine below_set ?_ (Aside0.out (by assumption))) | exact HB.out))) : w.heap.size ≤ gb374)); replace HB := Aside0.mk (below_step (by repeat (first | (with_reducible first | exact HB.out | apply below_alloc | apply pw_below_drewN | apply below_drew1 | refine below_set ?_ (Aside0.out (by assumption))) | exact HB.out)) hb); clear hb hbox hg; obtain ⟨hcz130_0, hcz130_1, hcz130_2, hfz130_0, hfz130_1, hfz130_2⟩ := cell3 BK374) | ((with_reducible refine gC 9 rfl ?_); refine cG (some 17) Tryd.func9 #[.agg #[.int .i64 a0_0, .int .i64 a0_1, .slice A0_2 l0_2.length c0_2], .int .u64 a1] ?_; (with_reducible refine (verdict_Recovers.calls k a0_0 a0_1 _ _ l0_2 a1 false t376 _ ?side1 ?side2 A4.out (tBwer HT.out HB)).mono ?_); (case side1 => exact kcB HR0_2 HB); (case side2 => exact HC0_2.out); rintro e w131 ⟨rfl, hb⟩; refine ⟨_, rfl, ?_⟩; replace BK374 := bkB BK374 hb; replace HB := hbB HB hb; (try clear hb); (try clear hb2); (try clear hk); (try clear hi); obtain ⟨hcz132_0, hcz132_1, hcz132_2, hfz132_0, hfz132_1, hfz132_2⟩ := cell3 BK374) | ((with_reducible refine gC 13 rfl ?_); refine cG (some 22) Tryd.func13 #[.agg #[.int .i64 a0_0, .int .i64 a0_1, .slice A0_2 l0_2.length c0_2], .int .u64 a1] ?_; (with_reducible refine (recouplaw18_generator.calls k a0_0 a0_1 _ _ l0_2 a1 true _ ?side1 ?side2 A5.out).mono ?_); (case side1 => exact kcB HR0_2 HB); (case side2 => exact HC0_2.out); rintro e w133 ⟨rfl, hb⟩; refine ⟨_, rfl, ?_⟩; replace BK374 := bkB BK374 hb; replace HB := hbB HB hb; (try clear hb); (try clear hb2); (try clear hk); (try clear hi); obtain ⟨hcz134_0, hcz134_1, hcz134_2, hfz134_0, hfz134_1, hfz134_2⟩ := cell3 BK374) | ((with_reducible refine gC 9 rfl ?_); refine cG (some 34) Tryd.func9 #[.agg #[.int .i64 a0_0, .int .i64 a0_1, .slice A0_2 l0_2.length c0_2], .int .u64 (Go.bits .and .u64 a1 a2)] ?_; (with_reducible refine (verdict_Recovers.calls k a0_0 a0_1 _ _ l0_2 (Go.bits .and .u64 a1 a2) t379 t380 _ ?side1 ?side2 A7.out (tBwer HT.out HB)).mono ?_); (case side1 => exact kcB HR0_2 HB); (case side2 => exact HC0_2.out); rintro e w135 ⟨rfl, hb⟩; refine ⟨_, rfl, ?_⟩; replace BK374 := bkB BK374 hb; replace HB := hbB HB hb; (try clear hb); (try clear hb2); (try clear hk); (try clear hi); obtain ⟨hcz136_0, hcz136_1, hcz136_2, hfz136_0, hfz136_1, hfz136_2⟩ := cell3 BK374) | ((with_reducible refine gC 11 rfl ?_); refine cG (some 40) Tryd.func11 #[.agg #[.int .i64 a0_0, .int .i64 a0_1, .slice A0_2 l0_2.length c0_2], .int .u64 a1] ?_; (with_reducible refine (verdict_Sources.calls k a0_0 a0_1 _ _ l0_2 a1 t381 t382 t383 _ ?side1 ?side2 A8.out (tBwer HT.out HB)).mono ?_); (case side1 => exact kcB HR0_2 HB); (case side2 => exact HC0_2.out); rintro e w137 ⟨rfl, hb⟩; refine ⟨_, rfl, ?_⟩; replace BK374 := bkB BK374 hb; replace HB := hbB HB hb; (try clear hb); (try clear hb2); (try clear hk); (try clear hi)))
         replace BK374 := Aside0.mk (blk_drew BK374.out)
         replace HB := Aside0.mk (below_drew1 HB.out)
         refine start_ (n := 51) (S := fun w' => True) (ds := []) (.replicate 51 false) (by kernel_rfl) rfl rfl trivial (fun hHeld => ?_); refine with_tabW recouplaw18_VerdictFewer.tab6 recouplaw18_VerdictFewer.bits6 (fun HT_ HW_ => ?_)
         generalize w137.drew = w138 at BK374 HB hHeld ⊢
         refine one_ (i := 0) (N := some 44) (mB 51 1) rfl rfl (one_of HT_.out (by kernel_rfl)) (by decide) (fun K hK => ?_)
         refine goes_ Tryd.func14 (by kernel_rfl) rfl #[] (by rfl) rfl rfl (by (try simp only [List.map_toArray, List.map_cons, List.map_nil]); first | done | rfl | (simp only [List.length_drop, List.length_take]; rfl)) ?_
         with_reducible refine (recouplaw18_anchored.calls k  true _ A9.out (tBwer HT.out HB)).mono ?_
         rintro e w139 ⟨rfl, hb⟩
         refine ⟨_, rfl, ?_⟩
         replace BK374 := bkB BK374 hb
         replace HB := hbB HB hb
         (try clear hb)
         (try clear hb2)
         (try clear hk)
         (try clear hi)
         refine hK.out _ _ trivial (fun hHeld => ?_)
         clear hK K
         refine norm_ (a' := ?_) ?_ ?_
         rotate_left
         ·show Act.put _ (some 44) _ = _
          simp only [Act.put, List.setIfInBounds_toArray, List.set_cons_zero, List.set_cons_succ, i64_w, i32_w]
          rfl
         refine pu 1 (some 45) (mB 51 3) HT_ ?_
         refine pu 2 (some 46) (mB 51 7) HT_ ?_
         refine pu 3 (some 47) (mB 51 15) HT_ ?_
         refine pu 4 (some 48) (mB 51 31) HT_ ?_
         refine pu 5 (some 49) (mB 51 63) HT_ ?_
         refine pu 6 (some 50) (mB 51 127) HT_ ?_
         refine pu 7 (some 51) (mB 51 255) HT_ ?_
         refine pu 8 (some 52) (mB 51 511) HT_ ?_
         refine pu 9 (some 53) (mB 51 1023) HT_ ?_
         refine pu 10 (some 54) (mB 51 2047) HT_ ?_
         refine pu 11 (some 55) (mB 51 4095) HT_ ?_
         refine pu 12 (some 56) (mB 51 8191) HT_ ?_
         refine pu 13 (some 57) (mB 51 16383) HT_ ?_
         refine pu 14 (some 58) (mB 51 32767) HT_ ?_
         refine pu 15 (some 59) (mB 51 65535) HT_ ?_
         refine pu 16 (some 60) (mB 51 131071) HT_ ?_
         refine pOwer 17 (some 61) (mB 51 262143) HT_ ?_
         refine pu 18 (some 62) (mB 51 524287) HT_ ?_
         refine pu 19 (some 63) (mB 51 1048575) HT_ ?_
         refine pu 20 (some 64) (mB 51 2097151) HT_ ?_
         refine pu 21 (some 65) (mB 51 4194303) HT_ ?_
         refine pu 22 (some 66) (mB 51 8388607) HT_ ?_
         refine pu 23 (some 67) (mB 51 16777215) HT_ ?_
         refine pu 24 (some 68) (mB 51 33554431) HT_ ?_
         refine pu 25 (some 69) (mB 51 67108863) HT_ ?_
         refine pu 26 (some 70) (mB 51 134217727) HT_ ?_
         refine pu 27 (some 71) (mB 51 268435455) HT_ ?_
         refine pu 28 (some 72) (mB 51 536870911) HT_ ?_
         refine pu 29 (some 73) (mB 51 1073741823) HT_ ?_
         refine pu 30 (some 74) (mB 51 2147483647) HT_ ?_
         refine pu 31 (some 75) (mB 51 4294967295) HT_ ?_
         refine pOwer 32 (some 76) (mB 51 8589934591) HT_ ?_
         refine pOwer 33 (some 77) (mB 51 17179869183) HT_ ?_
         refine pOwer 34 (some 78) (mB 51 34359738367) HT_ ?_
         refine pOwer 35 (some 79) (mB 51 68719476735) HT_ ?_
         refine pOwer 36 (some 80) (mB 51 137438953471) HT_ ?_
         refine pOwer 37 (some 81) (mB 51 274877906943) HT_ ?_
         refine pOwer 38 (some 82) (mB 51 549755813887) HT_ ?_
         refine pOwer 39 (some 83) (mB 51 1099511627775) HT_ ?_
         refine pOwer 40 (some 84) (mB 51 2199023255551) HT_ ?_
         refine pOwer 41 (some 85) (mB 51 4398046511103) HT_ ?_
         refine pOwer 42 (some 86) (mB 51 8796093022207) HT_ ?_
         refine pOwer 43 (some 87) (mB 51 17592186044415) HT_ ?_
         refine pOwer 44 (some 88) (mB 51 35184372088831) HT_ ?_
         refine pOwer 45 (some 89) (mB 51 70368744177663) HT_ ?_
         refine pOwer 46 (some 90) (mB 51 140737488355327) HT_ ?_
         refine pOwer 47 (some 91) (mB 51 281474976710655) HT_ ?_
         refine pOwer 48 (some 92) (mB 51 562949953421311) HT_ ?_
         refine pu 49 (some 93) (mB 51 1125899906842623) HT_ ?_
         refine pu 50 (some 6) (mB 51 2251799813685247) HT_ ?_
         refine done_ (done_of HT_.out (by kernel_rfl)) ?_
         try go_wp2
         go_ret
         exact ⟨rfE, hbA HB.out⟩
       ·rw [if_neg c89] at H
        have c89b0 : (t382 == false) = false := by simpa using c89
        (try (have c89b1 : decide (t382 = false) = false := by simpa using c89))
        (try (have c89b2 : (t382 == false) = false := by simpa using c89))
        (try (have c89b3 : ¬ (t382 = false) := by simpa using c89))
        clear c89
        obtain rfl := Option.some.inj H
        go_enter Tryd.func5, Tryd.ntmps5
        try go_wp2_with (first | ((with_reducible refine gD 3 rfl ?_); (try (refine gate_guard (by rfl) ?_; dsimp only)); refine bE 3 #[.int .i64 a0_0, .int .i64 a0_1, .slice A0_2 l0_2.length c0_2] 24 ?_; intro gb374 hg w140 hbox hb; have BK374 := Aside0.mk (hbox); have GW374 := Aside0.mk ((by rw [hg]; exact (below_size (by repeat (first | (with_reducible first | exact HB.out | apply below_alloc | apply pw_below_drewN | apply below_drew1 | refine below_set ?_ (Aside0.out (by assumption))) | exact HB.out))) : w.heap.size ≤ gb374)); have GE374 := Aside0.mk ((by rw [hg]; exact (below_size (by repeat (first | (with_reducible first | exact HB.out | apply below_alloc | apply pw_below_drewN | apply below_drew1 | refine below_set ?_ (Aside0.out (by assumption))) | exact HB.out))) : w.heap.size ≤ gb374)); replace HB := Aside0.mk (below_step (by repeat (first | (with_reducible first | exact HB.out | apply below_alloc | apply pw_below_drewN | apply below_drew1 | refine below_set ?_ (Aside0.out (by assumption))) | exact HB.out)) hb); clear hb hbox hg; obtain ⟨hcz141_0, hcz141_1, hcz141_2, hfz141_0, hfz141_1, hfz141_2⟩ := cell3 BK374) | ((with_reducible refine gC 9 rfl ?_); refine cG (some 17) Tryd.func9 #[.agg #[.int .i64 a0_0, .int .i64 a0_1, .slice A0_2 l0_2.length c0_2], .int .u64 a1] ?_; (with_reducible refine (verdict_Recovers.calls k a0_0 a0_1 _ _ l0_2 a1 false t376 _ ?side1 ?side2 A4.out (tBwer HT.out HB)).mono ?_); (case side1 => exact kcB HR0_2 HB); (case side2 => exact HC0_2.out); rintro e w142 ⟨rfl, hb⟩; refine ⟨_, rfl, ?_⟩; replace BK374 := bkB BK374 hb; replace HB := hbB HB hb; (try clear hb); (try clear hb2); (try clear hk); (try clear hi); obtain ⟨hcz143_0, hcz143_1, hcz143_2, hfz143_0, hfz143_1, hfz143_2⟩ := cell3 BK374) | ((with_reducible refine gC 13 rfl ?_); refine cG (some 22) Tryd.func13 #[.agg #[.int .i64 a0_0, .int .i64 a0_1, .slice A0_2 l0_2.length c0_2], .int .u64 a1] ?_; (with_reducible refine (recouplaw18_generator.calls k a0_0 a0_1 _ _ l0_2 a1 true _ ?side1 ?side2 A5.out).mono ?_); (case side1 => exact kcB HR0_2 HB); (case side2 => exact HC0_2.out); rintro e w144 ⟨rfl, hb⟩; refine ⟨_, rfl, ?_⟩; replace BK374 := bkB BK374 hb; replace HB := hbB HB hb; (try clear hb); (try clear hb2); (try clear hk); (try clear hi); obtain ⟨hcz145_0, hcz145_1, hcz145_2, hfz145_0, hfz145_1, hfz145_2⟩ := cell3 BK374) | ((with_reducible refine gC 9 rfl ?_); refine cG (some 34) Tryd.func9 #[.agg #[.int .i64 a0_0, .int .i64 a0_1, .slice A0_2 l0_2.length c0_2], .int .u64 (Go.bits .and .u64 a1 a2)] ?_; (with_reducible refine (verdict_Recovers.calls k a0_0 a0_1 _ _ l0_2 (Go.bits .and .u64 a1 a2) t379 t380 _ ?side1 ?side2 A7.out (tBwer HT.out HB)).mono ?_); (case side1 => exact kcB HR0_2 HB); (case side2 => exact HC0_2.out); rintro e w146 ⟨rfl, hb⟩; refine ⟨_, rfl, ?_⟩; replace BK374 := bkB BK374 hb; replace HB := hbB HB hb; (try clear hb); (try clear hb2); (try clear hk); (try clear hi); obtain ⟨hcz147_0, hcz147_1, hcz147_2, hfz147_0, hfz147_1, hfz147_2⟩ := cell3 BK374) | ((with_reducible refine gC 11 rfl ?_); refine cG (some 40) Tryd.func11 #[.agg #[.int .i64 a0_0, .int .i64 a0_1, .slice A0_2 l0_2.length c0_2], .int .u64 a1] ?_; (with_reducible refine (verdict_Sources.calls k a0_0 a0_1 _ _ l0_2 a1 t381 t382 t383 _ ?side1 ?side2 A8.out (tBwer HT.out HB)).mono ?_); (case side1 => exact kcB HR0_2 HB); (case side2 => exact HC0_2.out); rintro e w148 ⟨rfl, hb⟩; refine ⟨_, rfl, ?_⟩; replace BK374 := bkB BK374 hb; replace HB := hbB HB hb; (try clear hb); (try clear hb2); (try clear hk); (try clear hi)))
        replace BK374 := Aside0.mk (blk_drew BK374.out)
        replace HB := Aside0.mk (below_drew1 HB.out)
        refine start_ (n := 51) (S := fun w' => True) (ds := []) (.replicate 51 false) (by kernel_rfl) rfl rfl trivial (fun hHeld => ?_); refine with_tabW recouplaw18_VerdictFewer.tab6 recouplaw18_VerdictFewer.bits6 (fun HT_ HW_ => ?_)
        generalize w148.drew = w149 at BK374 HB hHeld ⊢
        refine one_ (i := 0) (N := some 44) (mB 51 1) rfl rfl (one_of HT_.out (by kernel_rfl)) (by decide) (fun K hK => ?_)
        refine goes_ Tryd.func14 (by kernel_rfl) rfl #[] (by rfl) rfl rfl (by (try simp only [List.map_toArray, List.map_cons, List.map_nil]); first | done | rfl | (simp only [List.length_drop, List.length_take]; rfl)) ?_
        with_reducible refine (recouplaw18_anchored.calls k  true _ A9.out (tBwer HT.out HB)).mono ?_
        rintro e w150 ⟨rfl, hb⟩
        refine ⟨_, rfl, ?_⟩
        replace BK374 := bkB BK374 hb
        replace HB := hbB HB hb
        (try clear hb)
        (try clear hb2)
        (try clear hk)
        (try clear hi)
        refine hK.out _ _ trivial (fun hHeld => ?_)
        clear hK K
        refine norm_ (a' := ?_) ?_ ?_
        rotate_left
        ·show Act.put _ (some 44) _ = _
         simp only [Act.put, List.setIfInBounds_toArray, List.set_cons_zero, List.set_cons_succ, i64_w, i32_w]
         rfl
        refine pu 1 (some 45) (mB 51 3) HT_ ?_
        refine pu 2 (some 46) (mB 51 7) HT_ ?_
        refine pu 3 (some 47) (mB 51 15) HT_ ?_
        refine pu 4 (some 48) (mB 51 31) HT_ ?_
        refine pu 5 (some 49) (mB 51 63) HT_ ?_
        refine pu 6 (some 50) (mB 51 127) HT_ ?_
        refine pu 7 (some 51) (mB 51 255) HT_ ?_
        refine pu 8 (some 52) (mB 51 511) HT_ ?_
        refine pu 9 (some 53) (mB 51 1023) HT_ ?_
        refine pu 10 (some 54) (mB 51 2047) HT_ ?_
        refine pu 11 (some 55) (mB 51 4095) HT_ ?_
        refine pu 12 (some 56) (mB 51 8191) HT_ ?_
        refine pu 13 (some 57) (mB 51 16383) HT_ ?_
        refine pu 14 (some 58) (mB 51 32767) HT_ ?_
        refine pu 15 (some 59) (mB 51 65535) HT_ ?_
        refine pu 16 (some 60) (mB 51 131071) HT_ ?_
        refine pOwer 17 (some 61) (mB 51 262143) HT_ ?_
        refine pu 18 (some 62) (mB 51 524287) HT_ ?_
        refine pu 19 (some 63) (mB 51 1048575) HT_ ?_
        refine pu 20 (some 64) (mB 51 2097151) HT_ ?_
        refine pu 21 (some 65) (mB 51 4194303) HT_ ?_
        refine pu 22 (some 66) (mB 51 8388607) HT_ ?_
        refine pu 23 (some 67) (mB 51 16777215) HT_ ?_
        refine pu 24 (some 68) (mB 51 33554431) HT_ ?_
        refine pu 25 (some 69) (mB 51 67108863) HT_ ?_
        refine pOwer 26 (some 70) (mB 51 134217727) HT_ ?_
        refine pOwer 27 (some 71) (mB 51 268435455) HT_ ?_
        refine pOwer 28 (some 72) (mB 51 536870911) HT_ ?_
        refine pOwer 29 (some 73) (mB 51 1073741823) HT_ ?_
        refine pu 30 (some 74) (mB 51 2147483647) HT_ ?_
        refine pu 31 (some 75) (mB 51 4294967295) HT_ ?_
        refine pOwer 32 (some 76) (mB 51 8589934591) HT_ ?_
        refine pOwer 33 (some 77) (mB 51 17179869183) HT_ ?_
        refine pOwer 34 (some 78) (mB 51 34359738367) HT_ ?_
        refine pOwer 35 (some 79) (mB 51 68719476735) HT_ ?_
        refine pOwer 36 (some 80) (mB 51 137438953471) HT_ ?_
        refine pOwer 37 (some 81) (mB 51 274877906943) HT_ ?_
        refine pOwer 38 (some 82) (mB 51 549755813887) HT_ ?_
        refine pOwer 39 (some 83) (mB 51 1099511627775) HT_ ?_
        refine pOwer 40 (some 84) (mB 51 2199023255551) HT_ ?_
        refine pOwer 41 (some 85) (mB 51 4398046511103) HT_ ?_
        refine pOwer 42 (some 86) (mB 51 8796093022207) HT_ ?_
        refine pOwer 43 (some 87) (mB 51 17592186044415) HT_ ?_
        refine pOwer 44 (some 88) (mB 51 35184372088831) HT_ ?_
        refine pOwer 45 (some 89) (mB 51 70368744177663) HT_ ?_
        refine pOwer 46 (some 90) (mB 51 140737488355327) HT_ ?_
        refine pOwer 47 (some 91) (mB 51 281474976710655) HT_ ?_
        refine pOwer 48 (some 92) (mB 51 562949953421311) HT_ ?_
        refine pu 49 (some 93) (mB 51 1125899906842623) HT_ ?_
        refine pu 50 (some 6) (mB 51 2251799813685247) HT_ ?_
        refine done_ (done_of HT_.out (by kernel_rfl)) ?_
        try go_wp2
        go_ret
        exact ⟨rfE, hbA HB.out⟩
     ·rw [if_neg c13] at H
      have c13b0 : (t383 == 0) = false := beq_eq_false_iff_ne.mpr c13
      have c13b1 : (t383 != 0) = true := bne_iff_ne.mpr c13
      obtain rfl := Option.some.inj H
      go_enter Tryd.func5, Tryd.ntmps5
      try go_wp2_with (first | ((with_reducible refine gD 3 rfl ?_); (try (refine gate_guard (by rfl) ?_; dsimp only)); refine bE 3 #[.int .i64 a0_0, .int .i64 a0_1, .slice A0_2 l0_2.length c0_2] 24 ?_; intro gb374 hg w151 hbox hb; have BK374 := Aside0.mk (hbox); have GW374 := Aside0.mk ((by rw [hg]; exact (below_size (by repeat (first | (with_reducible first | exact HB.out | apply below_alloc | apply pw_below_drewN | apply below_drew1 | refine below_set ?_ (Aside0.out (by assumption))) | exact HB.out))) : w.heap.size ≤ gb374)); have GE374 := Aside0.mk ((by rw [hg]; exact (below_size (by repeat (first | (with_reducible first | exact HB.out | apply below_alloc | apply pw_below_drewN | apply below_drew1 | refine below_set ?_ (Aside0.out (by assumption))) | exact HB.out))) : w.heap.size ≤ gb374)); replace HB := Aside0.mk (below_step (by repeat (first | (with_reducible first | exact HB.out | apply below_alloc | apply pw_below_drewN | apply below_drew1 | refine below_set ?_ (Aside0.out (by assumption))) | exact HB.out)) hb); clear hb hbox hg; obtain ⟨hcz152_0, hcz152_1, hcz152_2, hfz152_0, hfz152_1, hfz152_2⟩ := cell3 BK374) | ((with_reducible refine gC 9 rfl ?_); refine cG (some 17) Tryd.func9 #[.agg #[.int .i64 a0_0, .int .i64 a0_1, .slice A0_2 l0_2.length c0_2], .int .u64 a1] ?_; (with_reducible refine (verdict_Recovers.calls k a0_0 a0_1 _ _ l0_2 a1 t375 t376 _ ?side1 ?side2 A4.out (tBwer HT.out HB)).mono ?_); (case side1 => exact kcB HR0_2 HB); (case side2 => exact HC0_2.out); rintro e w153 ⟨rfl, hb⟩; refine ⟨_, rfl, ?_⟩; replace BK374 := bkB BK374 hb; replace HB := hbB HB hb; (try clear hb); (try clear hb2); (try clear hk); (try clear hi); obtain ⟨hcz154_0, hcz154_1, hcz154_2, hfz154_0, hfz154_1, hfz154_2⟩ := cell3 BK374) | ((with_reducible refine gC 13 rfl ?_); refine cG (some 22) Tryd.func13 #[.agg #[.int .i64 a0_0, .int .i64 a0_1, .slice A0_2 l0_2.length c0_2], .int .u64 a1] ?_; (with_reducible refine (recouplaw18_generator.calls k a0_0 a0_1 _ _ l0_2 a1 true _ ?side1 ?side2 A5.out).mono ?_); (case side1 => exact kcB HR0_2 HB); (case side2 => exact HC0_2.out); rintro e w155 ⟨rfl, hb⟩; refine ⟨_, rfl, ?_⟩; replace BK374 := bkB BK374 hb; replace HB := hbB HB hb; (try clear hb); (try clear hb2); (try clear hk); (try clear hi); obtain ⟨hcz156_0, hcz156_1, hcz156_2, hfz156_0, hfz156_1, hfz156_2⟩ := cell3 BK374) | ((with_reducible refine gC 9 rfl ?_); refine cG (some 34) Tryd.func9 #[.agg #[.int .i64 a0_0, .int .i64 a0_1, .slice A0_2 l0_2.length c0_2], .int .u64 (Go.bits .and .u64 a1 a2)] ?_; (with_reducible refine (verdict_Recovers.calls k a0_0 a0_1 _ _ l0_2 (Go.bits .and .u64 a1 a2) t379 t380 _ ?side1 ?side2 A7.out (tBwer HT.out HB)).mono ?_); (case side1 => exact kcB HR0_2 HB); (case side2 => exact HC0_2.out); rintro e w157 ⟨rfl, hb⟩; refine ⟨_, rfl, ?_⟩; replace BK374 := bkB BK374 hb; replace HB := hbB HB hb; (try clear hb); (try clear hb2); (try clear hk); (try clear hi); obtain ⟨hcz158_0, hcz158_1, hcz158_2, hfz158_0, hfz158_1, hfz158_2⟩ := cell3 BK374) | ((with_reducible refine gC 11 rfl ?_); refine cG (some 40) Tryd.func11 #[.agg #[.int .i64 a0_0, .int .i64 a0_1, .slice A0_2 l0_2.length c0_2], .int .u64 a1] ?_; (with_reducible refine (verdict_Sources.calls k a0_0 a0_1 _ _ l0_2 a1 t381 t382 t383 _ ?side1 ?side2 A8.out (tBwer HT.out HB)).mono ?_); (case side1 => exact kcB HR0_2 HB); (case side2 => exact HC0_2.out); rintro e w159 ⟨rfl, hb⟩; refine ⟨_, rfl, ?_⟩; replace BK374 := bkB BK374 hb; replace HB := hbB HB hb; (try clear hb); (try clear hb2); (try clear hk); (try clear hi)))
      replace BK374 := Aside0.mk (blk_drew BK374.out)
      replace HB := Aside0.mk (below_drew1 HB.out)
      refine start_ (n := 51) (S := fun w' => True) (ds := []) (.replicate 51 false) (by kernel_rfl) rfl rfl trivial (fun hHeld => ?_); refine with_tabW recouplaw18_VerdictFewer.tab6 recouplaw18_VerdictFewer.bits6 (fun HT_ HW_ => ?_)
      generalize w159.drew = w160 at BK374 HB hHeld ⊢
      refine one_ (i := 0) (N := some 44) (mB 51 1) rfl rfl (one_of HT_.out (by kernel_rfl)) (by decide) (fun K hK => ?_)
      refine goes_ Tryd.func14 (by kernel_rfl) rfl #[] (by rfl) rfl rfl (by (try simp only [List.map_toArray, List.map_cons, List.map_nil]); first | done | rfl | (simp only [List.length_drop, List.length_take]; rfl)) ?_
      with_reducible refine (recouplaw18_anchored.calls k  true _ A9.out (tBwer HT.out HB)).mono ?_
      rintro e w161 ⟨rfl, hb⟩
      refine ⟨_, rfl, ?_⟩
      replace BK374 := bkB BK374 hb
      replace HB := hbB HB hb
      (try clear hb)
      (try clear hb2)
      (try clear hk)
      (try clear hi)
      refine hK.out _ _ trivial (fun hHeld => ?_)
      clear hK K
      refine norm_ (a' := ?_) ?_ ?_
      rotate_left
      ·show Act.put _ (some 44) _ = _
       simp only [Act.put, List.setIfInBounds_toArray, List.set_cons_zero, List.set_cons_succ, i64_w, i32_w]
       rfl
      refine pu 1 (some 45) (mB 51 3) HT_ ?_
      refine pu 2 (some 46) (mB 51 7) HT_ ?_
      refine pu 3 (some 47) (mB 51 15) HT_ ?_
      refine pu 4 (some 48) (mB 51 31) HT_ ?_
      refine pu 5 (some 49) (mB 51 63) HT_ ?_
      refine pu 6 (some 50) (mB 51 127) HT_ ?_
      refine pu 7 (some 51) (mB 51 255) HT_ ?_
      refine pu 8 (some 52) (mB 51 511) HT_ ?_
      refine pu 9 (some 53) (mB 51 1023) HT_ ?_
      refine pu 10 (some 54) (mB 51 2047) HT_ ?_
      refine pu 11 (some 55) (mB 51 4095) HT_ ?_
      refine pu 12 (some 56) (mB 51 8191) HT_ ?_
      refine pu 13 (some 57) (mB 51 16383) HT_ ?_
      refine pOwer 14 (some 58) (mB 51 32767) HT_ ?_
      refine pOwer 15 (some 59) (mB 51 65535) HT_ ?_
      refine pOwer 16 (some 60) (mB 51 131071) HT_ ?_
      refine pOwer 17 (some 61) (mB 51 262143) HT_ ?_
      refine pOwer 18 (some 62) (mB 51 524287) HT_ ?_
      refine pu 19 (some 63) (mB 51 1048575) HT_ ?_
      refine pu 20 (some 64) (mB 51 2097151) HT_ ?_
      refine pOwer 21 (some 65) (mB 51 4194303) HT_ ?_
      refine pOwer 22 (some 66) (mB 51 8388607) HT_ ?_
      refine pOwer 23 (some 67) (mB 51 16777215) HT_ ?_
      refine pu 24 (some 68) (mB 51 33554431) HT_ ?_
      refine pu 25 (some 69) (mB 51 67108863) HT_ ?_
      refine pOwer 26 (some 70) (mB 51 134217727) HT_ ?_
      refine pOwer 27 (some 71) (mB 51 268435455) HT_ ?_
      refine pOwer 28 (some 72) (mB 51 536870911) HT_ ?_
      refine pOwer 29 (some 73) (mB 51 1073741823) HT_ ?_
      refine pu 30 (some 74) (mB 51 2147483647) HT_ ?_
      refine pu 31 (some 75) (mB 51 4294967295) HT_ ?_
      refine pOwer 32 (some 76) (mB 51 8589934591) HT_ ?_
      refine pOwer 33 (some 77) (mB 51 17179869183) HT_ ?_
      refine pOwer 34 (some 78) (mB 51 34359738367) HT_ ?_
      refine pOwer 35 (some 79) (mB 51 68719476735) HT_ ?_
      refine pOwer 36 (some 80) (mB 51 137438953471) HT_ ?_
      refine pOwer 37 (some 81) (mB 51 274877906943) HT_ ?_
      refine pOwer 38 (some 82) (mB 51 549755813887) HT_ ?_
      refine pOwer 39 (some 83) (mB 51 1099511627775) HT_ ?_
      refine pOwer 40 (some 84) (mB 51 2199023255551) HT_ ?_
      refine pOwer 41 (some 85) (mB 51 4398046511103) HT_ ?_
      refine pOwer 42 (some 86) (mB 51 8796093022207) HT_ ?_
      refine pOwer 43 (some 87) (mB 51 17592186044415) HT_ ?_
      refine pOwer 44 (some 88) (mB 51 35184372088831) HT_ ?_
      refine pOwer 45 (some 89) (mB 51 70368744177663) HT_ ?_
      refine pOwer 46 (some 90) (mB 51 140737488355327) HT_ ?_
      refine pOwer 47 (some 91) (mB 51 281474976710655) HT_ ?_
      refine pOwer 48 (some 92) (mB 51 562949953421311) HT_ ?_
      refine pu 49 (some 93) (mB 51 1125899906842623) HT_ ?_
      refine pu 50 (some 6) (mB 51 2251799813685247) HT_ ?_
      refine done_ (done_of HT_.out (by kernel_rfl)) ?_
      try go_wp2
      go_ret
      exact ⟨rfE, hbA HB.out⟩
    ·rw [if_neg c12] at H
     have c12b0 : (t380 == 0) = false := beq_eq_false_iff_ne.mpr c12
     have c12b1 : (t380 != 0) = true := bne_iff_ne.mpr c12
     obtain rfl := Option.some.inj H
     go_enter Tryd.func5, Tryd.ntmps5
     try go_wp2_with (first | ((with_reducible refine gD 3 rfl ?_); (try (refine gate_guard (by rfl) ?_; dsimp only)); refine bE 3 #[.int .i64 a0_0, .int .i64 a0_1, .slice A0_2 l0_2.length c0_2] 24 ?_; intro gb374 hg w162 hbox hb; have BK374 := Aside0.mk (hbox); have GW374 := Aside0.mk ((by rw [hg]; exact (below_size (by repeat (first | (with_reducible first | exact HB.out | apply below_alloc | apply pw_below_drewN | apply below_drew1 | refine below_set ?_ (Aside0.out (by assumption))) | exact HB.out))) : w.heap.size ≤ gb374)); have GE374 := Aside0.mk ((by rw [hg]; exact (below_size (by repeat (first | (with_reducible first | exact HB.out | apply below_alloc | apply pw_below_drewN | apply below_drew1 | refine below_set ?_ (Aside0.out (by assumption))) | exact HB.out))) : w.heap.size ≤ gb374)); replace HB := Aside0.mk (below_step (by repeat (first | (with_reducible first | exact HB.out | apply below_alloc | apply pw_below_drewN | apply below_drew1 | refine below_set ?_ (Aside0.out (by assumption))) | exact HB.out)) hb); clear hb hbox hg; obtain ⟨hcz163_0, hcz163_1, hcz163_2, hfz163_0, hfz163_1, hfz163_2⟩ := cell3 BK374) | ((with_reducible refine gC 9 rfl ?_); refine cG (some 17) Tryd.func9 #[.agg #[.int .i64 a0_0, .int .i64 a0_1, .slice A0_2 l0_2.length c0_2], .int .u64 a1] ?_; (with_reducible refine (verdict_Recovers.calls k a0_0 a0_1 _ _ l0_2 a1 t375 t376 _ ?side1 ?side2 A4.out (tBwer HT.out HB)).mono ?_); (case side1 => exact kcB HR0_2 HB); (case side2 => exact HC0_2.out); rintro e w164 ⟨rfl, hb⟩; refine ⟨_, rfl, ?_⟩; replace BK374 := bkB BK374 hb; replace HB := hbB HB hb; (try clear hb); (try clear hb2); (try clear hk); (try clear hi); obtain ⟨hcz165_0, hcz165_1, hcz165_2, hfz165_0, hfz165_1, hfz165_2⟩ := cell3 BK374) | ((with_reducible refine gC 13 rfl ?_); refine cG (some 22) Tryd.func13 #[.agg #[.int .i64 a0_0, .int .i64 a0_1, .slice A0_2 l0_2.length c0_2], .int .u64 a1] ?_; (with_reducible refine (recouplaw18_generator.calls k a0_0 a0_1 _ _ l0_2 a1 true _ ?side1 ?side2 A5.out).mono ?_); (case side1 => exact kcB HR0_2 HB); (case side2 => exact HC0_2.out); rintro e w166 ⟨rfl, hb⟩; refine ⟨_, rfl, ?_⟩; replace BK374 := bkB BK374 hb; replace HB := hbB HB hb; (try clear hb); (try clear hb2); (try clear hk); (try clear hi); obtain ⟨hcz167_0, hcz167_1, hcz167_2, hfz167_0, hfz167_1, hfz167_2⟩ := cell3 BK374) | ((with_reducible refine gC 9 rfl ?_); refine cG (some 34) Tryd.func9 #[.agg #[.int .i64 a0_0, .int .i64 a0_1, .slice A0_2 l0_2.length c0_2], .int .u64 (Go.bits .and .u64 a1 a2)] ?_; (with_reducible refine (verdict_Recovers.calls k a0_0 a0_1 _ _ l0_2 (Go.bits .and .u64 a1 a2) t379 t380 _ ?side1 ?side2 A7.out (tBwer HT.out HB)).mono ?_); (case side1 => exact kcB HR0_2 HB); (case side2 => exact HC0_2.out); rintro e w168 ⟨rfl, hb⟩; refine ⟨_, rfl, ?_⟩; replace BK374 := bkB BK374 hb; replace HB := hbB HB hb; (try clear hb); (try clear hb2); (try clear hk); (try clear hi); obtain ⟨hcz169_0, hcz169_1, hcz169_2, hfz169_0, hfz169_1, hfz169_2⟩ := cell3 BK374) | ((with_reducible refine gC 11 rfl ?_); refine cG (some 40) Tryd.func11 #[.agg #[.int .i64 a0_0, .int .i64 a0_1, .slice A0_2 l0_2.length c0_2], .int .u64 a1] ?_; (with_reducible refine (verdict_Sources.calls k a0_0 a0_1 _ _ l0_2 a1 t381 t382 t383 _ ?side1 ?side2 A8.out (tBwer HT.out HB)).mono ?_); (case side1 => exact kcB HR0_2 HB); (case side2 => exact HC0_2.out); rintro e w170 ⟨rfl, hb⟩; refine ⟨_, rfl, ?_⟩; replace BK374 := bkB BK374 hb; replace HB := hbB HB hb; (try clear hb); (try clear hb2); (try clear hk); (try clear hi)))
     replace BK374 := Aside0.mk (blk_drew BK374.out)
     replace HB := Aside0.mk (below_drew1 HB.out)
     refine start_ (n := 51) (S := fun w' => True) (ds := []) (.replicate 51 false) (by kernel_rfl) rfl rfl trivial (fun hHeld => ?_); refine with_tabW recouplaw18_VerdictFewer.tab6 recouplaw18_VerdictFewer.bits6 (fun HT_ HW_ => ?_)
     generalize w170.drew = w171 at BK374 HB hHeld ⊢
     refine one_ (i := 0) (N := some 44) (mB 51 1) rfl rfl (one_of HT_.out (by kernel_rfl)) (by decide) (fun K hK => ?_)
     refine goes_ Tryd.func14 (by kernel_rfl) rfl #[] (by rfl) rfl rfl (by (try simp only [List.map_toArray, List.map_cons, List.map_nil]); first | done | rfl | (simp only [List.length_drop, List.length_take]; rfl)) ?_
     with_reducible refine (recouplaw18_anchored.calls k  true _ A9.out (tBwer HT.out HB)).mono ?_
     rintro e w172 ⟨rfl, hb⟩
     refine ⟨_, rfl, ?_⟩
     replace BK374 := bkB BK374 hb
     replace HB := hbB HB hb
     (try clear hb)
     (try clear hb2)
     (try clear hk)
     (try clear hi)
     refine hK.out _ _ trivial (fun hHeld => ?_)
     clear hK K
     refine norm_ (a' := ?_) ?_ ?_
     rotate_left
     ·show Act.put _ (some 44) _ = _
      simp only [Act.put, List.setIfInBounds_toArray, List.set_cons_zero, List.set_cons_succ, i64_w, i32_w]
      rfl
     refine pu 1 (some 45) (mB 51 3) HT_ ?_
     refine pu 2 (some 46) (mB 51 7) HT_ ?_
     refine pu 3 (some 47) (mB 51 15) HT_ ?_
     refine pu 4 (some 48) (mB 51 31) HT_ ?_
     refine pu 5 (some 49) (mB 51 63) HT_ ?_
     refine pu 6 (some 50) (mB 51 127) HT_ ?_
     refine pu 7 (some 51) (mB 51 255) HT_ ?_
     refine pu 8 (some 52) (mB 51 511) HT_ ?_
     refine pu 9 (some 53) (mB 51 1023) HT_ ?_
     refine pOwer 10 (some 54) (mB 51 2047) HT_ ?_
     refine pOwer 11 (some 55) (mB 51 4095) HT_ ?_
     refine pu 12 (some 56) (mB 51 8191) HT_ ?_
     refine pu 13 (some 57) (mB 51 16383) HT_ ?_
     refine pOwer 14 (some 58) (mB 51 32767) HT_ ?_
     refine pOwer 15 (some 59) (mB 51 65535) HT_ ?_
     refine pOwer 16 (some 60) (mB 51 131071) HT_ ?_
     refine pOwer 17 (some 61) (mB 51 262143) HT_ ?_
     refine pOwer 18 (some 62) (mB 51 524287) HT_ ?_
     refine pu 19 (some 63) (mB 51 1048575) HT_ ?_
     refine pu 20 (some 64) (mB 51 2097151) HT_ ?_
     refine pOwer 21 (some 65) (mB 51 4194303) HT_ ?_
     refine pOwer 22 (some 66) (mB 51 8388607) HT_ ?_
     refine pOwer 23 (some 67) (mB 51 16777215) HT_ ?_
     refine pu 24 (some 68) (mB 51 33554431) HT_ ?_
     refine pu 25 (some 69) (mB 51 67108863) HT_ ?_
     refine pOwer 26 (some 70) (mB 51 134217727) HT_ ?_
     refine pOwer 27 (some 71) (mB 51 268435455) HT_ ?_
     refine pOwer 28 (some 72) (mB 51 536870911) HT_ ?_
     refine pOwer 29 (some 73) (mB 51 1073741823) HT_ ?_
     refine pu 30 (some 74) (mB 51 2147483647) HT_ ?_
     refine pu 31 (some 75) (mB 51 4294967295) HT_ ?_
     refine pOwer 32 (some 76) (mB 51 8589934591) HT_ ?_
     refine pOwer 33 (some 77) (mB 51 17179869183) HT_ ?_
     refine pOwer 34 (some 78) (mB 51 34359738367) HT_ ?_
     refine pOwer 35 (some 79) (mB 51 68719476735) HT_ ?_
     refine pOwer 36 (some 80) (mB 51 137438953471) HT_ ?_
     refine pOwer 37 (some 81) (mB 51 274877906943) HT_ ?_
     refine pOwer 38 (some 82) (mB 51 549755813887) HT_ ?_
     refine pOwer 39 (some 83) (mB 51 1099511627775) HT_ ?_
     refine pOwer 40 (some 84) (mB 51 2199023255551) HT_ ?_
     refine pOwer 41 (some 85) (mB 51 4398046511103) HT_ ?_
     refine pOwer 42 (some 86) (mB 51 8796093022207) HT_ ?_
     refine pOwer 43 (some 87) (mB 51 17592186044415) HT_ ?_
     refine pOwer 44 (some 88) (mB 51 35184372088831) HT_ ?_
     refine pOwer 45 (some 89) (mB 51 70368744177663) HT_ ?_
     refine pOwer 46 (some 90) (mB 51 140737488355327) HT_ ?_
     refine pOwer 47 (some 91) (mB 51 281474976710655) HT_ ?_
     refine pOwer 48 (some 92) (mB 51 562949953421311) HT_ ?_
     refine pu 49 (some 93) (mB 51 1125899906842623) HT_ ?_
     refine pu 50 (some 6) (mB 51 2251799813685247) HT_ ?_
     refine done_ (done_of HT_.out (by kernel_rfl)) ?_
     try go_wp2
     go_ret
     exact ⟨rfE, hbA HB.out⟩
   ·rw [if_neg c11] at H
    have c11b0 : (t376 == 0) = false := beq_eq_false_iff_ne.mpr c11
    have c11b1 : (t376 != 0) = true := bne_iff_ne.mpr c11
    obtain rfl := Option.some.inj H
    go_enter Tryd.func5, Tryd.ntmps5
    try go_wp2_with (first | ((with_reducible refine gD 3 rfl ?_); (try (refine gate_guard (by rfl) ?_; dsimp only)); refine bE 3 #[.int .i64 a0_0, .int .i64 a0_1, .slice A0_2 l0_2.length c0_2] 24 ?_; intro gb374 hg w173 hbox hb; have BK374 := Aside0.mk (hbox); have GW374 := Aside0.mk ((by rw [hg]; exact (below_size (by repeat (first | (with_reducible first | exact HB.out | apply below_alloc | apply pw_below_drewN | apply below_drew1 | refine below_set ?_ (Aside0.out (by assumption))) | exact HB.out))) : w.heap.size ≤ gb374)); have GE374 := Aside0.mk ((by rw [hg]; exact (below_size (by repeat (first | (with_reducible first | exact HB.out | apply below_alloc | apply pw_below_drewN | apply below_drew1 | refine below_set ?_ (Aside0.out (by assumption))) | exact HB.out))) : w.heap.size ≤ gb374)); replace HB := Aside0.mk (below_step (by repeat (first | (with_reducible first | exact HB.out | apply below_alloc | apply pw_below_drewN | apply below_drew1 | refine below_set ?_ (Aside0.out (by assumption))) | exact HB.out)) hb); clear hb hbox hg; obtain ⟨hcz174_0, hcz174_1, hcz174_2, hfz174_0, hfz174_1, hfz174_2⟩ := cell3 BK374) | ((with_reducible refine gC 9 rfl ?_); refine cG (some 17) Tryd.func9 #[.agg #[.int .i64 a0_0, .int .i64 a0_1, .slice A0_2 l0_2.length c0_2], .int .u64 a1] ?_; (with_reducible refine (verdict_Recovers.calls k a0_0 a0_1 _ _ l0_2 a1 t375 t376 _ ?side1 ?side2 A4.out (tBwer HT.out HB)).mono ?_); (case side1 => exact kcB HR0_2 HB); (case side2 => exact HC0_2.out); rintro e w175 ⟨rfl, hb⟩; refine ⟨_, rfl, ?_⟩; replace BK374 := bkB BK374 hb; replace HB := hbB HB hb; (try clear hb); (try clear hb2); (try clear hk); (try clear hi); obtain ⟨hcz176_0, hcz176_1, hcz176_2, hfz176_0, hfz176_1, hfz176_2⟩ := cell3 BK374) | ((with_reducible refine gC 13 rfl ?_); refine cG (some 22) Tryd.func13 #[.agg #[.int .i64 a0_0, .int .i64 a0_1, .slice A0_2 l0_2.length c0_2], .int .u64 a1] ?_; (with_reducible refine (recouplaw18_generator.calls k a0_0 a0_1 _ _ l0_2 a1 true _ ?side1 ?side2 A5.out).mono ?_); (case side1 => exact kcB HR0_2 HB); (case side2 => exact HC0_2.out); rintro e w177 ⟨rfl, hb⟩; refine ⟨_, rfl, ?_⟩; replace BK374 := bkB BK374 hb; replace HB := hbB HB hb; (try clear hb); (try clear hb2); (try clear hk); (try clear hi); obtain ⟨hcz178_0, hcz178_1, hcz178_2, hfz178_0, hfz178_1, hfz178_2⟩ := cell3 BK374) | ((with_reducible refine gC 9 rfl ?_); refine cG (some 34) Tryd.func9 #[.agg #[.int .i64 a0_0, .int .i64 a0_1, .slice A0_2 l0_2.length c0_2], .int .u64 (Go.bits .and .u64 a1 a2)] ?_; (with_reducible refine (verdict_Recovers.calls k a0_0 a0_1 _ _ l0_2 (Go.bits .and .u64 a1 a2) t379 t380 _ ?side1 ?side2 A7.out (tBwer HT.out HB)).mono ?_); (case side1 => exact kcB HR0_2 HB); (case side2 => exact HC0_2.out); rintro e w179 ⟨rfl, hb⟩; refine ⟨_, rfl, ?_⟩; replace BK374 := bkB BK374 hb; replace HB := hbB HB hb; (try clear hb); (try clear hb2); (try clear hk); (try clear hi); obtain ⟨hcz180_0, hcz180_1, hcz180_2, hfz180_0, hfz180_1, hfz180_2⟩ := cell3 BK374) | ((with_reducible refine gC 11 rfl ?_); refine cG (some 40) Tryd.func11 #[.agg #[.int .i64 a0_0, .int .i64 a0_1, .slice A0_2 l0_2.length c0_2], .int .u64 a1] ?_; (with_reducible refine (verdict_Sources.calls k a0_0 a0_1 _ _ l0_2 a1 t381 t382 t383 _ ?side1 ?side2 A8.out (tBwer HT.out HB)).mono ?_); (case side1 => exact kcB HR0_2 HB); (case side2 => exact HC0_2.out); rintro e w181 ⟨rfl, hb⟩; refine ⟨_, rfl, ?_⟩; replace BK374 := bkB BK374 hb; replace HB := hbB HB hb; (try clear hb); (try clear hb2); (try clear hk); (try clear hi)))
    replace BK374 := Aside0.mk (blk_drew BK374.out)
    replace HB := Aside0.mk (below_drew1 HB.out)
    refine start_ (n := 51) (S := fun w' => True) (ds := []) (.replicate 51 false) (by kernel_rfl) rfl rfl trivial (fun hHeld => ?_); refine with_tabW recouplaw18_VerdictFewer.tab6 recouplaw18_VerdictFewer.bits6 (fun HT_ HW_ => ?_)
    generalize w181.drew = w182 at BK374 HB hHeld ⊢
    refine one_ (i := 0) (N := some 44) (mB 51 1) rfl rfl (one_of HT_.out (by kernel_rfl)) (by decide) (fun K hK => ?_)
    refine goes_ Tryd.func14 (by kernel_rfl) rfl #[] (by rfl) rfl rfl (by (try simp only [List.map_toArray, List.map_cons, List.map_nil]); first | done | rfl | (simp only [List.length_drop, List.length_take]; rfl)) ?_
    with_reducible refine (recouplaw18_anchored.calls k  true _ A9.out (tBwer HT.out HB)).mono ?_
    rintro e w183 ⟨rfl, hb⟩
    refine ⟨_, rfl, ?_⟩
    replace BK374 := bkB BK374 hb
    replace HB := hbB HB hb
    (try clear hb)
    (try clear hb2)
    (try clear hk)
    (try clear hi)
    refine hK.out _ _ trivial (fun hHeld => ?_)
    clear hK K
    refine norm_ (a' := ?_) ?_ ?_
    rotate_left
    ·show Act.put _ (some 44) _ = _
     simp only [Act.put, List.setIfInBounds_toArray, List.set_cons_zero, List.set_cons_succ, i64_w, i32_w]
     rfl
    refine pu 1 (some 45) (mB 51 3) HT_ ?_
    refine pu 2 (some 46) (mB 51 7) HT_ ?_
    refine pu 3 (some 47) (mB 51 15) HT_ ?_
    refine pu 4 (some 48) (mB 51 31) HT_ ?_
    refine pu 5 (some 49) (mB 51 63) HT_ ?_
    refine pOwer 6 (some 50) (mB 51 127) HT_ ?_
    refine pOwer 7 (some 51) (mB 51 255) HT_ ?_
    refine pu 8 (some 52) (mB 51 511) HT_ ?_
    refine pu 9 (some 53) (mB 51 1023) HT_ ?_
    refine pOwer 10 (some 54) (mB 51 2047) HT_ ?_
    refine pOwer 11 (some 55) (mB 51 4095) HT_ ?_
    refine pu 12 (some 56) (mB 51 8191) HT_ ?_
    refine pu 13 (some 57) (mB 51 16383) HT_ ?_
    refine pOwer 14 (some 58) (mB 51 32767) HT_ ?_
    refine pOwer 15 (some 59) (mB 51 65535) HT_ ?_
    refine pOwer 16 (some 60) (mB 51 131071) HT_ ?_
    refine pOwer 17 (some 61) (mB 51 262143) HT_ ?_
    refine pOwer 18 (some 62) (mB 51 524287) HT_ ?_
    refine pu 19 (some 63) (mB 51 1048575) HT_ ?_
    refine pu 20 (some 64) (mB 51 2097151) HT_ ?_
    refine pOwer 21 (some 65) (mB 51 4194303) HT_ ?_
    refine pOwer 22 (some 66) (mB 51 8388607) HT_ ?_
    refine pOwer 23 (some 67) (mB 51 16777215) HT_ ?_
    refine pu 24 (some 68) (mB 51 33554431) HT_ ?_
    refine pu 25 (some 69) (mB 51 67108863) HT_ ?_
    refine pOwer 26 (some 70) (mB 51 134217727) HT_ ?_
    refine pOwer 27 (some 71) (mB 51 268435455) HT_ ?_
    refine pOwer 28 (some 72) (mB 51 536870911) HT_ ?_
    refine pOwer 29 (some 73) (mB 51 1073741823) HT_ ?_
    refine pu 30 (some 74) (mB 51 2147483647) HT_ ?_
    refine pu 31 (some 75) (mB 51 4294967295) HT_ ?_
    refine pOwer 32 (some 76) (mB 51 8589934591) HT_ ?_
    refine pOwer 33 (some 77) (mB 51 17179869183) HT_ ?_
    refine pOwer 34 (some 78) (mB 51 34359738367) HT_ ?_
    refine pOwer 35 (some 79) (mB 51 68719476735) HT_ ?_
    refine pOwer 36 (some 80) (mB 51 137438953471) HT_ ?_
    refine pOwer 37 (some 81) (mB 51 274877906943) HT_ ?_
    refine pOwer 38 (some 82) (mB 51 549755813887) HT_ ?_
    refine pOwer 39 (some 83) (mB 51 1099511627775) HT_ ?_
    refine pOwer 40 (some 84) (mB 51 2199023255551) HT_ ?_
    refine pOwer 41 (some 85) (mB 51 4398046511103) HT_ ?_
    refine pOwer 42 (some 86) (mB 51 8796093022207) HT_ ?_
    refine pOwer 43 (some 87) (mB 51 17592186044415) HT_ ?_
    refine pOwer 44 (some 88) (mB 51 35184372088831) HT_ ?_
    refine pOwer 45 (some 89) (mB 51 70368744177663) HT_ ?_
    refine pOwer 46 (some 90) (mB 51 140737488355327) HT_ ?_
    refine pOwer 47 (some 91) (mB 51 281474976710655) HT_ ?_
    refine pOwer 48 (some 92) (mB 51 562949953421311) HT_ ?_
    refine pu 49 (some 93) (mB 51 1125899906842623) HT_ ?_
    refine pu 50 (some 6) (mB 51 2251799813685247) HT_ ?_
    refine done_ (done_of HT_.out (by kernel_rfl)) ?_
    try go_wp2
    go_ret
    exact ⟨rfE, hbA HB.out⟩
  ·replace c10 := Bool.eq_false_iff.mpr c10
   subst c10
   rw [if_neg nofT] at H
   obtain rfl := Option.some.inj H
   go_enter Tryd.func5, Tryd.ntmps5
   try go_wp2_with (first | ((with_reducible refine gD 3 rfl ?_); (try (refine gate_guard (by rfl) ?_; dsimp only)); refine bE 3 #[.int .i64 a0_0, .int .i64 a0_1, .slice A0_2 l0_2.length c0_2] 24 ?_; intro gb374 hg w184 hbox hb; have BK374 := Aside0.mk (hbox); have GW374 := Aside0.mk ((by rw [hg]; exact (below_size (by repeat (first | (with_reducible first | exact HB.out | apply below_alloc | apply pw_below_drewN | apply below_drew1 | refine below_set ?_ (Aside0.out (by assumption))) | exact HB.out))) : w.heap.size ≤ gb374)); have GE374 := Aside0.mk ((by rw [hg]; exact (below_size (by repeat (first | (with_reducible first | exact HB.out | apply below_alloc | apply pw_below_drewN | apply below_drew1 | refine below_set ?_ (Aside0.out (by assumption))) | exact HB.out))) : w.heap.size ≤ gb374)); replace HB := Aside0.mk (below_step (by repeat (first | (with_reducible first | exact HB.out | apply below_alloc | apply pw_below_drewN | apply below_drew1 | refine below_set ?_ (Aside0.out (by assumption))) | exact HB.out)) hb); clear hb hbox hg; obtain ⟨hcz185_0, hcz185_1, hcz185_2, hfz185_0, hfz185_1, hfz185_2⟩ := cell3 BK374) | ((with_reducible refine gC 9 rfl ?_); refine cG (some 17) Tryd.func9 #[.agg #[.int .i64 a0_0, .int .i64 a0_1, .slice A0_2 l0_2.length c0_2], .int .u64 a1] ?_; (with_reducible refine (verdict_Recovers.calls k a0_0 a0_1 _ _ l0_2 a1 t375 t376 _ ?side1 ?side2 A4.out (tBwer HT.out HB)).mono ?_); (case side1 => exact kcB HR0_2 HB); (case side2 => exact HC0_2.out); rintro e w186 ⟨rfl, hb⟩; refine ⟨_, rfl, ?_⟩; replace BK374 := bkB BK374 hb; replace HB := hbB HB hb; (try clear hb); (try clear hb2); (try clear hk); (try clear hi); obtain ⟨hcz187_0, hcz187_1, hcz187_2, hfz187_0, hfz187_1, hfz187_2⟩ := cell3 BK374) | ((with_reducible refine gC 13 rfl ?_); refine cG (some 22) Tryd.func13 #[.agg #[.int .i64 a0_0, .int .i64 a0_1, .slice A0_2 l0_2.length c0_2], .int .u64 a1] ?_; (with_reducible refine (recouplaw18_generator.calls k a0_0 a0_1 _ _ l0_2 a1 true _ ?side1 ?side2 A5.out).mono ?_); (case side1 => exact kcB HR0_2 HB); (case side2 => exact HC0_2.out); rintro e w188 ⟨rfl, hb⟩; refine ⟨_, rfl, ?_⟩; replace BK374 := bkB BK374 hb; replace HB := hbB HB hb; (try clear hb); (try clear hb2); (try clear hk); (try clear hi); obtain ⟨hcz189_0, hcz189_1, hcz189_2, hfz189_0, hfz189_1, hfz189_2⟩ := cell3 BK374) | ((with_reducible refine gC 9 rfl ?_); refine cG (some 34) Tryd.func9 #[.agg #[.int .i64 a0_0, .int .i64 a0_1, .slice A0_2 l0_2.length c0_2], .int .u64 (Go.bits .and .u64 a1 a2)] ?_; (with_reducible refine (verdict_Recovers.calls k a0_0 a0_1 _ _ l0_2 (Go.bits .and .u64 a1 a2) t379 t380 _ ?side1 ?side2 A7.out (tBwer HT.out HB)).mono ?_); (case side1 => exact kcB HR0_2 HB); (case side2 => exact HC0_2.out); rintro e w190 ⟨rfl, hb⟩; refine ⟨_, rfl, ?_⟩; replace BK374 := bkB BK374 hb; replace HB := hbB HB hb; (try clear hb); (try clear hb2); (try clear hk); (try clear hi); obtain ⟨hcz191_0, hcz191_1, hcz191_2, hfz191_0, hfz191_1, hfz191_2⟩ := cell3 BK374) | ((with_reducible refine gC 11 rfl ?_); refine cG (some 40) Tryd.func11 #[.agg #[.int .i64 a0_0, .int .i64 a0_1, .slice A0_2 l0_2.length c0_2], .int .u64 a1] ?_; (with_reducible refine (verdict_Sources.calls k a0_0 a0_1 _ _ l0_2 a1 t381 t382 t383 _ ?side1 ?side2 A8.out (tBwer HT.out HB)).mono ?_); (case side1 => exact kcB HR0_2 HB); (case side2 => exact HC0_2.out); rintro e w192 ⟨rfl, hb⟩; refine ⟨_, rfl, ?_⟩; replace BK374 := bkB BK374 hb; replace HB := hbB HB hb; (try clear hb); (try clear hb2); (try clear hk); (try clear hi)))
   replace BK374 := Aside0.mk (blk_drew BK374.out)
   replace HB := Aside0.mk (below_drew1 HB.out)
   refine start_ (n := 51) (S := fun w' => True) (ds := []) (.replicate 51 false) (by kernel_rfl) rfl rfl trivial (fun hHeld => ?_); refine with_tabW recouplaw18_VerdictFewer.tab6 recouplaw18_VerdictFewer.bits6 (fun HT_ HW_ => ?_)
   generalize w192.drew = w193 at BK374 HB hHeld ⊢
   refine one_ (i := 0) (N := some 44) (mB 51 1) rfl rfl (one_of HT_.out (by kernel_rfl)) (by decide) (fun K hK => ?_)
   refine goes_ Tryd.func14 (by kernel_rfl) rfl #[] (by rfl) rfl rfl (by (try simp only [List.map_toArray, List.map_cons, List.map_nil]); first | done | rfl | (simp only [List.length_drop, List.length_take]; rfl)) ?_
   with_reducible refine (recouplaw18_anchored.calls k  false _ A9.out (tBwer HT.out HB)).mono ?_
   rintro e w194 ⟨rfl, hb⟩
   refine ⟨_, rfl, ?_⟩
   replace BK374 := bkB BK374 hb
   replace HB := hbB HB hb
   (try clear hb)
   (try clear hb2)
   (try clear hk)
   (try clear hi)
   refine hK.out _ _ trivial (fun hHeld => ?_)
   clear hK K
   refine norm_ (a' := ?_) ?_ ?_
   rotate_left
   ·show Act.put _ (some 44) _ = _
    simp only [Act.put, List.setIfInBounds_toArray, List.set_cons_zero, List.set_cons_succ, i64_w, i32_w]
    rfl
   refine pu 1 (some 45) (mB 51 3) HT_ ?_
   refine pOwer 2 (some 46) (mB 51 7) HT_ ?_
   refine pOwer 3 (some 47) (mB 51 15) HT_ ?_
   refine pu 4 (some 48) (mB 51 31) HT_ ?_
   refine pu 5 (some 49) (mB 51 63) HT_ ?_
   refine pOwer 6 (some 50) (mB 51 127) HT_ ?_
   refine pOwer 7 (some 51) (mB 51 255) HT_ ?_
   refine pu 8 (some 52) (mB 51 511) HT_ ?_
   refine pu 9 (some 53) (mB 51 1023) HT_ ?_
   refine pOwer 10 (some 54) (mB 51 2047) HT_ ?_
   refine pOwer 11 (some 55) (mB 51 4095) HT_ ?_
   refine pu 12 (some 56) (mB 51 8191) HT_ ?_
   refine pu 13 (some 57) (mB 51 16383) HT_ ?_
   refine pOwer 14 (some 58) (mB 51 32767) HT_ ?_
   refine pOwer 15 (some 59) (mB 51 65535) HT_ ?_
   refine pOwer 16 (some 60) (mB 51 131071) HT_ ?_
   refine pOwer 17 (some 61) (mB 51 262143) HT_ ?_
   refine pOwer 18 (some 62) (mB 51 524287) HT_ ?_
   refine pu 19 (some 63) (mB 51 1048575) HT_ ?_
   refine pu 20 (some 64) (mB 51 2097151) HT_ ?_
   refine pOwer 21 (some 65) (mB 51 4194303) HT_ ?_
   refine pOwer 22 (some 66) (mB 51 8388607) HT_ ?_
   refine pOwer 23 (some 67) (mB 51 16777215) HT_ ?_
   refine pu 24 (some 68) (mB 51 33554431) HT_ ?_
   refine pu 25 (some 69) (mB 51 67108863) HT_ ?_
   refine pOwer 26 (some 70) (mB 51 134217727) HT_ ?_
   refine pOwer 27 (some 71) (mB 51 268435455) HT_ ?_
   refine pOwer 28 (some 72) (mB 51 536870911) HT_ ?_
   refine pOwer 29 (some 73) (mB 51 1073741823) HT_ ?_
   refine pu 30 (some 74) (mB 51 2147483647) HT_ ?_
   refine pu 31 (some 75) (mB 51 4294967295) HT_ ?_
   refine pOwer 32 (some 76) (mB 51 8589934591) HT_ ?_
   refine pOwer 33 (some 77) (mB 51 17179869183) HT_ ?_
   refine pOwer 34 (some 78) (mB 51 34359738367) HT_ ?_
   refine pOwer 35 (some 79) (mB 51 68719476735) HT_ ?_
   refine pOwer 36 (some 80) (mB 51 137438953471) HT_ ?_
   refine pOwer 37 (some 81) (mB 51 274877906943) HT_ ?_
   refine pOwer 38 (some 82) (mB 51 549755813887) HT_ ?_
   refine pOwer 39 (some 83) (mB 51 1099511627775) HT_ ?_
   refine pOwer 40 (some 84) (mB 51 2199023255551) HT_ ?_
   refine pOwer 41 (some 85) (mB 51 4398046511103) HT_ ?_
   refine pOwer 42 (some 86) (mB 51 8796093022207) HT_ ?_
   refine pOwer 43 (some 87) (mB 51 17592186044415) HT_ ?_
   refine pOwer 44 (some 88) (mB 51 35184372088831) HT_ ?_
   refine pOwer 45 (some 89) (mB 51 70368744177663) HT_ ?_
   refine pOwer 46 (some 90) (mB 51 140737488355327) HT_ ?_
   refine pOwer 47 (some 91) (mB 51 281474976710655) HT_ ?_
   refine pOwer 48 (some 92) (mB 51 562949953421311) HT_ ?_
   refine pu 49 (some 93) (mB 51 1125899906842623) HT_ ?_
   refine pu 50 (some 6) (mB 51 2251799813685247) HT_ ?_
   refine done_ (done_of HT_.out (by kernel_rfl)) ?_
   try go_wp2
   go_ret
   exact ⟨rfE, hbA HB.out⟩
 ·replace c6 := Bool.eq_false_iff.mpr c6
  subst c6
  rw [if_neg nofT] at H
  obtain ⟨t378, A195, H⟩ := bindO H
  (try dsimp only at H)
  by_cases c196 : t378 = true
  ·subst c196
   rw [if_pos rfl] at H
   obtain rfl := Option.some.inj H
   go_enter Tryd.func5, Tryd.ntmps5
   go_wp2_with (first | ((with_reducible refine gD 3 rfl ?_); (try (refine gate_guard (by rfl) ?_; dsimp only)); refine bE 3 #[.int .i64 a0_0, .int .i64 a0_1, .slice A0_2 l0_2.length c0_2] 24 ?_; intro gb374 hg w197 hbox hb; have BK374 := Aside0.mk (hbox); have GW374 := Aside0.mk ((by rw [hg]; exact (below_size (by repeat (first | (with_reducible first | exact HB.out | apply below_alloc | apply pw_below_drewN | apply below_drew1 | refine below_set ?_ (Aside0.out (by assumption))) | exact HB.out))) : w.heap.size ≤ gb374)); have GE374 := Aside0.mk ((by rw [hg]; exact (below_size (by repeat (first | (with_reducible first | exact HB.out | apply below_alloc | apply pw_below_drewN | apply below_drew1 | refine below_set ?_ (Aside0.out (by assumption))) | exact HB.out))) : w.heap.size ≤ gb374)); replace HB := Aside0.mk (below_step (by repeat (first | (with_reducible first | exact HB.out | apply below_alloc | apply pw_below_drewN | apply below_drew1 | refine below_set ?_ (Aside0.out (by assumption))) | exact HB.out)) hb); clear hb hbox hg; obtain ⟨hcz198_0, hcz198_1, hcz198_2, hfz198_0, hfz198_1, hfz198_2⟩ := cell3 BK374) | ((with_reducible refine gC 9 rfl ?_); refine cG (some 17) Tryd.func9 #[.agg #[.int .i64 a0_0, .int .i64 a0_1, .slice A0_2 l0_2.length c0_2], .int .u64 a1] ?_; (with_reducible refine (verdict_Recovers.calls k a0_0 a0_1 _ _ l0_2 a1 t375 t376 _ ?side1 ?side2 A4.out (tBwer HT.out HB)).mono ?_); (case side1 => exact kcB HR0_2 HB); (case side2 => exact HC0_2.out); rintro e w199 ⟨rfl, hb⟩; refine ⟨_, rfl, ?_⟩; replace BK374 := bkB BK374 hb; replace HB := hbB HB hb; (try clear hb); (try clear hb2); (try clear hk); (try clear hi); obtain ⟨hcz200_0, hcz200_1, hcz200_2, hfz200_0, hfz200_1, hfz200_2⟩ := cell3 BK374) | ((with_reducible refine gC 13 rfl ?_); refine cG (some 22) Tryd.func13 #[.agg #[.int .i64 a0_0, .int .i64 a0_1, .slice A0_2 l0_2.length c0_2], .int .u64 a1] ?_; (with_reducible refine (recouplaw18_generator.calls k a0_0 a0_1 _ _ l0_2 a1 false _ ?side1 ?side2 A5.out).mono ?_); (case side1 => exact kcB HR0_2 HB); (case side2 => exact HC0_2.out); rintro e w201 ⟨rfl, hb⟩; refine ⟨_, rfl, ?_⟩; replace BK374 := bkB BK374 hb; replace HB := hbB HB hb; (try clear hb); (try clear hb2); (try clear hk); (try clear hi)) | ((with_reducible refine gC 14 rfl ?_); refine cG (some 24) Tryd.func14 #[] ?_; (with_reducible refine (recouplaw18_anchored.calls k  true _ A195.out (tBwer HT.out HB)).mono ?_); rintro e w202 ⟨rfl, hb⟩; refine ⟨_, rfl, ?_⟩; replace BK374 := bkB BK374 hb; replace HB := hbB HB hb; (try clear hb); (try clear hb2); (try clear hk); (try clear hi)))
   go_ret
   exact ⟨rfE, hbA HB.out⟩
  ·replace c196 := Bool.eq_false_iff.mpr c196
   subst c196
   rw [if_neg nofT] at H
   obtain rfl := Option.some.inj H
   go_enter Tryd.func5, Tryd.ntmps5
   go_wp2_with (first | ((with_reducible refine gD 3 rfl ?_); (try (refine gate_guard (by rfl) ?_; dsimp only)); refine bE 3 #[.int .i64 a0_0, .int .i64 a0_1, .slice A0_2 l0_2.length c0_2] 24 ?_; intro gb374 hg w203 hbox hb; have BK374 := Aside0.mk (hbox); have GW374 := Aside0.mk ((by rw [hg]; exact (below_size (by repeat (first | (with_reducible first | exact HB.out | apply below_alloc | apply pw_below_drewN | apply below_drew1 | refine below_set ?_ (Aside0.out (by assumption))) | exact HB.out))) : w.heap.size ≤ gb374)); have GE374 := Aside0.mk ((by rw [hg]; exact (below_size (by repeat (first | (with_reducible first | exact HB.out | apply below_alloc | apply pw_below_drewN | apply below_drew1 | refine below_set ?_ (Aside0.out (by assumption))) | exact HB.out))) : w.heap.size ≤ gb374)); replace HB := Aside0.mk (below_step (by repeat (first | (with_reducible first | exact HB.out | apply below_alloc | apply pw_below_drewN | apply below_drew1 | refine below_set ?_ (Aside0.out (by assumption))) | exact HB.out)) hb); clear hb hbox hg; obtain ⟨hcz204_0, hcz204_1, hcz204_2, hfz204_0, hfz204_1, hfz204_2⟩ := cell3 BK374) | ((with_reducible refine gC 9 rfl ?_); refine cG (some 17) Tryd.func9 #[.agg #[.int .i64 a0_0, .int .i64 a0_1, .slice A0_2 l0_2.length c0_2], .int .u64 a1] ?_; (with_reducible refine (verdict_Recovers.calls k a0_0 a0_1 _ _ l0_2 a1 t375 t376 _ ?side1 ?side2 A4.out (tBwer HT.out HB)).mono ?_); (case side1 => exact kcB HR0_2 HB); (case side2 => exact HC0_2.out); rintro e w205 ⟨rfl, hb⟩; refine ⟨_, rfl, ?_⟩; replace BK374 := bkB BK374 hb; replace HB := hbB HB hb; (try clear hb); (try clear hb2); (try clear hk); (try clear hi); obtain ⟨hcz206_0, hcz206_1, hcz206_2, hfz206_0, hfz206_1, hfz206_2⟩ := cell3 BK374) | ((with_reducible refine gC 13 rfl ?_); refine cG (some 22) Tryd.func13 #[.agg #[.int .i64 a0_0, .int .i64 a0_1, .slice A0_2 l0_2.length c0_2], .int .u64 a1] ?_; (with_reducible refine (recouplaw18_generator.calls k a0_0 a0_1 _ _ l0_2 a1 false _ ?side1 ?side2 A5.out).mono ?_); (case side1 => exact kcB HR0_2 HB); (case side2 => exact HC0_2.out); rintro e w207 ⟨rfl, hb⟩; refine ⟨_, rfl, ?_⟩; replace BK374 := bkB BK374 hb; replace HB := hbB HB hb; (try clear hb); (try clear hb2); (try clear hk); (try clear hi)) | ((with_reducible refine gC 14 rfl ?_); refine cG (some 24) Tryd.func14 #[] ?_; (with_reducible refine (recouplaw18_anchored.calls k  false _ A195.out (tBwer HT.out HB)).mono ?_); rintro e w208 ⟨rfl, hb⟩; refine ⟨_, rfl, ?_⟩; replace BK374 := bkB BK374 hb; replace HB := hbB HB hb; (try clear hb); (try clear hb2); (try clear hk); (try clear hi)))
   go_ret
   exact ⟨rfE, hbA HB.out⟩
end Go.Proofs.YtkagobkedifhkaaDoor.Q
