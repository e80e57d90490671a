/- Written by drive.py (a program of this repo, over the kit's print): each Go function named here answers what the Lean function beside it answers, wherever that one answers, in every world that meets the stated premises. -/
import Derived.Test.YthjncmdlhmppiaaDoorQx0
import Derived.Test.YthjncmdlhmppiaaDoorQx118
import Derived.Test.YthjncmdlhmppiaaDoorQx122
import Derived.Test.YthjncmdlhmppiaaDoorQx126
import Derived.Test.YthjncmdlhmppiaaDoorQx127
import Derived.Test.YthjncmdlhmppiaaDoorQx135
namespace Go.Proofs.YthjncmdlhmppiaaDoor.Q
open Go.RowKit Go.Proofs.YthjncmdlhmppiaaDoorW.PrintWords Go.Proofs.YthjncmdlhmppiaaDoorW.PrintLast Go.Proofs.YthjncmdlhmppiaaDoorW.PrintMore
attribute [local go_sem] max2_int min2_int max_two min_two max_three min_three max_four min_four   -- for this text's walks alone
set_option linter.unusedVariables false
set_option linter.unusedSimpArgs false

/-! ### recouplaw07_MatroidNeeds: function 9 -/
def recouplaw07_MatroidNeeds.l0 : Nat → Int → Int → Int → List Int → Int → Int → Int → List Int → Option (Bool)
  | 0, _, _, _, _, _, _, _, _ => none
  | k + 1, x1, x5, x6, x7, x8, x491000, x491001, x491002 => if x8 < (x7.length : Int) then (if 0 ≤ x8 then (if 0 ≤ (IntKind.u64.wrap (rd x7 x8)) then ((matroid_Span.f k x491000 x491001 x491002 (Go.bits .andNot .u64 x1 (shl .u64 1 (IntKind.u64.wrap (rd x7 x8))))).bind fun bt500 => (if bt500.2 = 0 then ((recoupref06_Has.f bt500.1 (rd x7 x8)).bind fun t503 => ((recoupref06_Has.f x5 (rd x7 x8)).bind fun t505 => (if (t503 == t505) = true then (some false) else (recouplaw07_MatroidNeeds.l0 k x1 x5 x6 x7 (wrap64 (x8 + 1)) x491000 x491001 x491002)))) else (some false))) else (none)) else (none)) else ((recouplaw07_anchored.f k).bind fun t498 => (if t498 = true then (if x6 = 0 then (some ((Go.bits .andNot .u64 x5 x1) == 0)) else (some false)) else (some false)))
def recouplaw07_MatroidNeeds.f (k : Nat) (a0_0 : Int) (a0_1 : Int) (l0_2 : List Int) (a1 : Int) : Option (Bool) := (matroid_Needed.f k a0_0 a0_1 l0_2 a1).bind fun bt491 => ((recouplaw07_right.f k a0_0 a0_1 l0_2 a1).bind fun t493 => (if t493 = true then ((recoupref06_List.f k a1).bind fun t495 => (recouplaw07_MatroidNeeds.l0 k a1 bt491.1 bt491.2 t495 0 a0_0 a0_1 l0_2)) else ((recouplaw07_anchored.f k).bind fun t494 => (if t494 = true then (some (bt491.2 != 0)) else (some false)))))
theorem recouplaw07_MatroidNeeds.mono_l : ∀ k, (∀ y0 y1 y2 y3 y4 y5 y6 y7, LeO (recouplaw07_MatroidNeeds.l0 k y0 y1 y2 y3 y4 y5 y6 y7) (recouplaw07_MatroidNeeds.l0 (k + 1) y0 y1 y2 y3 y4 y5 y6 y7))
  | 0 => fun _ _ _ _ _ _ _ _ r h => by simp [recouplaw07_MatroidNeeds.l0] at h
  | k + 1 => by
    have ih0 := recouplaw07_MatroidNeeds.mono_l k
    · intro y0 y1 y2 y3 y4 y5 y6 y7
      unfold recouplaw07_MatroidNeeds.l0
      repeat' first
      | (with_reducible exact ih0 _ _ _ _ _ _ _ _)
      | (with_reducible exact matroid_Needed.mono _ _ _ _ _)
      | (with_reducible exact matroid_Span.mono _ _ _ _ _)
      | (with_reducible exact recouplaw07_anchored.mono _)
      | (with_reducible exact recouplaw07_right.mono _ _ _ _ _)
      | (with_reducible exact recoupref06_List.mono _ _)
      | (with_reducible exact LeO.refl _)
      | (with_reducible exact LeO.none _)
      | (with_reducible refine LeO.ite ?_ ?_)
      | (with_reducible refine LeO.bind ?_ (fun _ => ?_))
      | exact ih0 _ _ _ _ _ _ _ _
      | exact matroid_Needed.mono _ _ _ _ _
      | exact matroid_Span.mono _ _ _ _ _
      | exact recouplaw07_anchored.mono _
      | exact recouplaw07_right.mono _ _ _ _ _
      | exact recoupref06_List.mono _ _
      | exact LeO.none _
      | refine LeO.ite ?_ ?_
      | refine LeO.bind ?_ (fun _ => ?_)
theorem recouplaw07_MatroidNeeds.mono : ∀ a0 a1 a2 a3 k, LeO (recouplaw07_MatroidNeeds.f k a0 a1 a2 a3) (recouplaw07_MatroidNeeds.f (k + 1) a0 a1 a2 a3) := by
  intro a0 a1 a2 a3 k
  have ih0 := recouplaw07_MatroidNeeds.mono_l k
  unfold recouplaw07_MatroidNeeds.f
  repeat' first
      | (with_reducible exact ih0 _ _ _ _ _ _ _ _)
      | (with_reducible exact matroid_Needed.mono _ _ _ _ _)
      | (with_reducible exact matroid_Span.mono _ _ _ _ _)
      | (with_reducible exact recouplaw07_anchored.mono _)
      | (with_reducible exact recouplaw07_right.mono _ _ _ _ _)
      | (with_reducible exact recoupref06_List.mono _ _)
      | (with_reducible exact LeO.refl _)
      | (with_reducible exact LeO.none _)
      | (with_reducible refine LeO.ite ?_ ?_)
      | (with_reducible refine LeO.bind ?_ (fun _ => ?_))
      | exact ih0 _ _ _ _ _ _ _ _
      | exact matroid_Needed.mono _ _ _ _ _
      | exact matroid_Span.mono _ _ _ _ _
      | exact recouplaw07_anchored.mono _
      | exact recouplaw07_right.mono _ _ _ _ _
      | exact recoupref06_List.mono _ _
      | exact LeO.none _
      | refine LeO.ite ?_ ?_
      | refine LeO.bind ?_ (fun _ => ?_)
def recouplaw07_MatroidNeeds.T8 : Bool × List (List Nat × List Nat) := (true, [([], []), ([], []), ([], []), ([], []), ([2, 3], [2, 3]), ([4], [4]), ([5], [5]), ([6], [6]), ([1, 7], [1, 7]), ([0, 8], [0, 8]), ([9], [9]), ([10], [10]), ([10], [10]), ([11, 9, 0, 1, 2, 3, 4, 5, 6, 7, 8, 9, 10, 11], [11]), ([12, 13, 0, 1, 2, 3, 4, 5, 6, 7, 8, 9, 10, 11, 12, 13], [12])])
def recouplaw07_MatroidNeeds.B8 : List Nat := [0, 0, 0, 0, 12, 28, 60, 124, 254, 511, 1023, 2047, 2047, 4095, 16383]
theorem recouplaw07_MatroidNeeds.tab8 : rtab .any (opsOf Tryd.f9 8) = recouplaw07_MatroidNeeds.T8 := by kernel_rfl
theorem recouplaw07_MatroidNeeds.bits8 : waitsOk recouplaw07_MatroidNeeds.T8.2 recouplaw07_MatroidNeeds.B8 = true := by kernel_rfl
def recouplaw07_MatroidNeeds.T9 : Bool × List (List Nat × List Nat) := (true, [([], []), ([0], [0]), ([1], [1]), ([2], [2]), ([2], [2]), ([2], [2]), ([4, 5, 2], [2, 4, 5]), ([6, 2], [2, 6]), ([3, 7, 2, 2], [2, 3, 7]), ([2], [2]), ([2], [2]), ([2], [2]), ([10, 11, 2], [2, 10, 11]), ([12, 2], [2, 12]), ([9, 13, 8, 2], [2, 9, 13]), ([8, 14, 2], [2, 8, 14]), ([2, 15], [2, 15])])
def recouplaw07_MatroidNeeds.B9 : List Nat := [0, 1, 3, 7, 7, 7, 55, 119, 255, 7, 7, 7, 3079, 7175, 16383, 32767, 65535]
theorem recouplaw07_MatroidNeeds.tab9 : rtab .any (opsOf Tryd.f9 9) = recouplaw07_MatroidNeeds.T9 := by kernel_rfl
theorem recouplaw07_MatroidNeeds.bits9 : waitsOk recouplaw07_MatroidNeeds.T9.2 recouplaw07_MatroidNeeds.B9 = true := by kernel_rfl
set_option maxHeartbeats 8000000 in
set_option maxRecDepth 100000 in
theorem recouplaw07_MatroidNeeds.calls (k : Nat) (a0_0 : Int) (a0_1 : Int) (A0_2 : Option Addr) (c0_2 : Nat) (l0_2 : List Int) (a1 : Int) (r : Bool) (w : World) (hr0_2 : Kd.C (Kd.int .u8) w A0_2 l0_2.length l0_2) (hc0_2 : l0_2.length ≤ c0_2) (h : recouplaw07_MatroidNeeds.f k a0_0 a0_1 l0_2 a1 = some r) (hT : TabAt 0 Lib.deBruijn64tab w) :
    Calls Tryd.prog 9 #[.agg #[.int .i64 a0_0, .int .i64 a0_1, .slice A0_2 l0_2.length c0_2], .int .u64 a1] w fun e w' => e = .returned (.bool r) ∧ Below w.heap.size w w' := by
  have HT := Aside0.mk hT
  clear hT
  have hu24 := Tryd.underlying24
  have HR0_2 := Aside0.mk hr0_2
  have HC0_2 := Aside0.mk hc0_2
  clear hr0_2 hc0_2
  have HB := Aside0.mk (Below.refl w.heap.size w)
  have H : ((matroid_Needed.f k a0_0 a0_1 l0_2 a1).bind fun bt491 => ((recouplaw07_right.f k a0_0 a0_1 l0_2 a1).bind fun t493 => (if t493 = true then ((recoupref06_List.f k a1).bind fun t495 => (recouplaw07_MatroidNeeds.l0 k a1 bt491.1 bt491.2 t495 0 a0_0 a0_1 l0_2)) else ((recouplaw07_anchored.f k).bind fun t494 => (if t494 = true then (some (bt491.2 != 0)) else (some false)))))) = some r := h
  clear h
  obtain ⟨⟨t491, t492⟩, A3, H⟩ := bindO H
  (try dsimp only at H)
  obtain ⟨t493, A4, H⟩ := bindO H
  (try dsimp only at H)
  by_cases c5 : t493 = true
  · subst c5
    rw [if_pos rfl] at H
    obtain ⟨t495, A6, H⟩ := bindO H
    (try dsimp only at H)
    have H' := Aside0.mk H
    clear H
    go_enter Tryd.func9, Tryd.ntmps9
    go_wp2_with (first | ((with_reducible refine gD 2 rfl ?_); refine bE 2 #[.int .i64 a0_0, .int .i64 a0_1, .slice A0_2 l0_2.length c0_2] 24 ?_; intro gb490 hg w7 hbox hb; have BK490 := Aside0.mk (hbox); have GW490 := hbS HB hg; have GE490 := hbS HB hg; replace HB := hbB HB hb; clear hb hbox hg; obtain ⟨hcz8_0, hcz8_1, hcz8_2, hfz8_0, hfz8_1, hfz8_2⟩ := cell3 BK490) | ((with_reducible refine gC 22 rfl ?_); refine cG (some 14) Tryd.func22 #[.agg #[.int .i64 a0_0, .int .i64 a0_1, .slice A0_2 l0_2.length c0_2], .int .u64 a1] ?_; (with_reducible refine (matroid_Needed.calls k a0_0 a0_1 _ _ l0_2 a1 t491 t492 _ ?side1 ?side2 A3.out (tab_below HT.out (by repeat (first | (with_reducible first | exact HB.out | apply below_alloc | apply pw_below_drewN | apply below_drew1) | exact HB.out | exact Below.refl _ _)))).mono ?_); (case side1 => exact kcB HR0_2 HB); (case side2 => exact HC0_2.out); rintro e w9 ⟨rfl, hb⟩; refine ⟨_, rfl, ?_⟩; replace BK490 := bkB BK490 hb; replace HB := hbB HB hb; (try clear hb); (try clear hb2); (try clear hk); (try clear hi); obtain ⟨hcz10_0, hcz10_1, hcz10_2, hfz10_0, hfz10_1, hfz10_2⟩ := cell3 BK490) | ((with_reducible refine gC 26 rfl ?_); refine cG (some 19) Tryd.func26 #[.agg #[.int .i64 a0_0, .int .i64 a0_1, .slice A0_2 l0_2.length c0_2], .int .u64 a1] ?_; (with_reducible refine (recouplaw07_right.calls k a0_0 a0_1 _ _ l0_2 a1 true _ ?side1 ?side2 A4.out).mono ?_); (case side1 => exact kcB HR0_2 HB); (case side2 => exact HC0_2.out); rintro e w11 ⟨rfl, hb⟩; refine ⟨_, rfl, ?_⟩; replace BK490 := bkB BK490 hb; replace HB := hbB HB hb; (try clear hb); (try clear hb2); (try clear hk); (try clear hi)) | ((with_reducible refine gC 28 rfl ?_); refine cG (some 27) Tryd.func28 #[.int .u64 a1] ?_; (with_reducible refine (recoupref06_List.calls k a1 t495 _ A6.out).mono ?_); rintro e w12 ⟨v496, rfl, ho0, hb⟩; refine ⟨_, rfl, ?_⟩; have HO497 := Aside0.mk (Kd.R_lower ho0 (below_size (hbA HB.out))); replace BK490 := bkB BK490 hb; replace HB := hbB HB hb; (try clear hb); (try clear hb2); (try clear hk); (try clear hi); (try clear ho0)))
    go_loopg [8] k (fun kq v8 w' => ∃ (x8_1 : Int), v8 = .int .i64 x8_1 ∧ Aside0 (recouplaw07_MatroidNeeds.l0 kq a1 t491 t492 t495 x8_1 a0_0 a0_1 l0_2 = some r) ∧ Aside0 (kq ≤ k) ∧ Aside0 (Kd.R (Kd.int .i64) 3 w' w.heap.size (fun _ => True) v496 t495) ∧ Aside0 (w'.heap[gb490]? = some (.cells #[.int .i64 a0_0, .int .i64 a0_1, (.slice A0_2 l0_2.length c0_2)] 24 (0, 0))) ∧ Aside0 (Below w.heap.size w w'))
    case atStart => exact ⟨(0), rsE, H', ⟨Nat.le_refl _⟩, ⟨kdA HO497.out⟩, ⟨bkA BK490.out⟩, ⟨hbA HB.out⟩⟩
    case round =>
      clear H'
      (try clear c2); (try clear p2); (try clear c5); (try clear c9); (try clear hcz10_0 hcz10_1 hcz10_2 hfz10_0 hfz10_1 hfz10_2); (try clear hcz8_0 hcz8_1 hcz8_2 hfz8_0 hfz8_1 hfz8_2)
      obtain ⟨x8_1, rfl, HA, HK1, HO_7, BK490, HB⟩ := hrel
      cases gk with
      | zero => exact absurd HA.out (by simp [recouplaw07_MatroidNeeds.l0])
      | succ k1 =>
        have H := HA.out
        clear HA
        simp only [recouplaw07_MatroidNeeds.l0] at H
        by_cases c13 : x8_1 < (t495.length : Int)
        · rw [if_pos c13] at H
          have c13b0 : decide (x8_1 < (t495.length : Int)) = true := decide_eq_true c13
          clear c13
          by_cases c14 : 0 ≤ x8_1
          · rw [if_pos c14] at H
            have c14b0 : decide (0 ≤ x8_1) = true := decide_eq_true c14
            clear c14
            obtain ⟨ji15, hji15⟩ : ∃ j_ : Int, (IntKind.u64.wrap (rd t495 x8_1)) = j_ := ⟨_, rfl⟩
            replace H : (if 0 ≤ (ji15) then ((matroid_Span.f k1 a0_0 a0_1 l0_2 (Go.bits .andNot .u64 a1 (shl .u64 1 (ji15)))).bind fun bt500 => (if bt500.2 = 0 then ((recoupref06_Has.f bt500.1 (rd t495 x8_1)).bind fun t503 => ((recoupref06_Has.f t491 (rd t495 x8_1)).bind fun t505 => (if (t503 == t505) = true then (some false) else (recouplaw07_MatroidNeeds.l0 k1 a1 t491 t492 t495 (wrap64 (x8_1 + 1)) a0_0 a0_1 l0_2)))) else (some false))) else (none)) = some r := by first | (rw [hji15] at H; exact H) | (simp only [hji15] at H ⊢; exact H)
            by_cases c16 : 0 ≤ (ji15)
            · rw [if_pos c16] at H
              have c16b0 := eq_true c16
              have c16b1 : decide (0 ≤ (ji15)) = true := decide_eq_true c16
              clear c16
              obtain ⟨ji17, hji17⟩ : ∃ j_ : Int, (shl .u64 1 (ji15)) = j_ := ⟨_, rfl⟩
              replace H : ((matroid_Span.f k1 a0_0 a0_1 l0_2 (Go.bits .andNot .u64 a1 (ji17))).bind fun bt500 => (if bt500.2 = 0 then ((recoupref06_Has.f bt500.1 (rd t495 x8_1)).bind fun t503 => ((recoupref06_Has.f t491 (rd t495 x8_1)).bind fun t505 => (if (t503 == t505) = true then (some false) else (recouplaw07_MatroidNeeds.l0 k1 a1 t491 t492 t495 (wrap64 (x8_1 + 1)) a0_0 a0_1 l0_2)))) else (some false))) = some r := by first | (rw [hji17] at H; exact H) | (simp only [hji17] at H ⊢; exact H)
              have hji17_ : (IntKind.u64.wrap (1 * 2 ^ min (ji15).toNat 64)) = ji17 := hji17
              have hji17z : (ji15) ≤ 64 → (IntKind.u64.wrap (1 * 2 ^ (ji15).toNat)) = ji17 := shl_small hji17
              have hji17u : (IntKind.u64.wrap (2 ^ min (ji15).toNat 64)) = ji17 := by have h_ := hji17_; rw [Int.one_mul] at h_; exact h_
              have hji17v : (ji15) ≤ 64 → (IntKind.u64.wrap (2 ^ (ji15).toNat)) = ji17 := fun hle_ => by have h_ := hji17z hle_; rw [Int.one_mul] at h_; exact h_
              obtain ⟨⟨t500, t501⟩, A18, H⟩ := bindO H
              (try dsimp only at H)
              by_cases c19 : t501 = 0
              · rw [if_pos c19] at H
                have c19b0 : (t501 == 0) = true := beq_iff_eq.mpr c19
                have c19b1 : (t501 != 0) = false := bne_eq_false_iff_eq.mpr c19
                clear c19
                obtain ⟨t503, A20, H⟩ := bindO H
                (try dsimp only at H)
                obtain ⟨t505, A21, H⟩ := bindO H
                (try dsimp only at H)
                by_cases c22 : (t503 == t505) = true
                · rw [if_pos c22] at H
                  have c22b0 : (t503 == t505) = true := c22
                  (try (have c22b1 : decide (t503 = t505) = true := by simpa using c22))
                  (try (have c22b2 : (t503 == t505) = true := by simpa using c22))
                  clear c22
                  obtain rfl := Option.some.inj H
                  obtain ⟨Ao23, co23, eo23⟩ := Kd.R_slice HO_7.out
                  subst eo23
                  try go_wp2
                  replace HO_7 := Aside0.mk (Kd.R_drew HO_7.out)
                  replace BK490 := Aside0.mk (blk_drew BK490.out)
                  replace HB := Aside0.mk (below_drew1 HB.out)
                  have p499 : 0 ≤ (x8_1 : Int) := of_decide_eq_true asE
                  have q499 : x8_1 < (t495.length : Int) := of_decide_eq_true asE
                  obtain ⟨ad499, e499, hx499_0⟩ := Kd.at_int (Kd.R_reads' HO_7.out).2.2 x8_1 p499 q499
                  cases e499
                  replace p499 := eq_true p499
                  replace q499 := eq_true q499
                  refine start_ (n := 15) (S := fun w' => w'.cell? ⟨gb490, 0, none⟩ = some (.int .i64 a0_0) ∧ w'.cell? ⟨gb490, 1, none⟩ = some (.int .i64 a0_1) ∧ w'.cell? ⟨gb490, 2, none⟩ = some (.slice A0_2 l0_2.length c0_2) ∧ w'.cell? (ad499.add (x8_1).toNat) = some (.int .i64 (rd t495 x8_1))) (ds := []) (.replicate 15 false) (by kernel_rfl) rfl rfl ⟨(blk_cell BK490.out 0).trans rfl, (blk_cell BK490.out 1).trans rfl, (blk_cell BK490.out 2).trans rfl, hx499_0⟩ (fun hHeld => ?_); refine with_tabW recouplaw07_MatroidNeeds.tab8 recouplaw07_MatroidNeeds.bits8 (fun HT_ HW_ => ?_)
                  generalize wr.drew = w24 at HO_7 BK490 HB hx499_0 hHeld ⊢
                  refine pu 1 (some 36) (mB 15 2) HT_ ?_
                  refine pu 2 (some 37) (mB 15 6) HT_ ?_
                  refine pu 3 (some 38) (mB 15 14) HT_ ?_
                  refine pu 4 (some 39) (mB 15 30) HT_ ?_
                  refine tk4 0 (some 35) (mB 15 31) HT_ HW_ hHeld ?_
                  refine tk4 5 (some 40) (mB 15 63) HT_ HW_ hHeld ?_
                  refine pu 6 (some 41) (mB 15 127) HT_ ?_
                  refine pu 7 (some 42) (mB 15 255) HT_ ?_
                  refine pu 8 (some 43) (mB 15 511) HT_ ?_
                  refine one_ (i := 9) (N := some 44) (mB 15 1023) rfl rfl (one_of HT_.out (by kernel_rfl)) (by decide) (fun K hK => ?_)
                  refine goes_ Tryd.func18 (by kernel_rfl) rfl #[.agg #[.int .i64 a0_0, .int .i64 a0_1, .slice A0_2 l0_2.length c0_2], .int .u64 (Go.bits .andNot .u64 a1 (ji17))] (by rfl) rfl rfl (by (try simp only [List.map_toArray, List.map_cons, List.map_nil]); first | done | (simp only [hji17]; rfl) | rfl | (simp only [List.length_drop, List.length_take]; rfl)) ?_
                  with_reducible refine (matroid_Span.calls k1 a0_0 a0_1 _ _ l0_2 (Go.bits .andNot .u64 a1 (ji17)) t500 t501 _ ?side1 ?side2 A18.out (tab_below HT.out (by repeat (first | (with_reducible first | exact HB.out | apply below_alloc | apply pw_below_drewN | apply below_drew1) | exact HB.out | exact Below.refl _ _)))).mono ?_
                  (case side1 => exact kcB HR0_2 HB)
                  (case side2 => exact HC0_2.out)
                  rintro e w25 ⟨rfl, hb⟩
                  have HS3_ := (hb.cell (World.block_lt_of_cell? _ _ (hHeld.2.2.2))).trans (hHeld.2.2.2)
                  refine ⟨_, rfl, ?_⟩
                  replace HO_7 := kdB HO_7 hb
                  replace BK490 := bkB BK490 hb
                  replace HB := hbB HB hb
                  (try clear hb)
                  (try clear hb2)
                  (try clear hk)
                  (try clear hi)
                  refine hK.out _ _ ⟨(blk_cell BK490.out 0).trans rfl, (blk_cell BK490.out 1).trans rfl, (blk_cell BK490.out 2).trans rfl, HS3_⟩ (fun hHeld => ?_)
                  clear hK K
                  refine norm_ (a' := ?_) ?_ ?_
                  rotate_left
                  · show Act.put _ (some 44) _ = _
                    simp only [Act.put, List.setIfInBounds_toArray, List.set_cons_zero, List.set_cons_succ, i64_w, i32_w]
                    rfl
                  refine pu 10 (some 34) (mB 15 2047) HT_ ?_
                  refine pu 11 (some 45) (mB 15 4095) HT_ ?_
                  refine pu 12 (some 46) (mB 15 8191) HT_ ?_
                  refine pu 13 (some 9) (mB 15 16383) HT_ ?_
                  refine pu 14 (some 10) (mB 15 32767) HT_ ?_
                  refine done_ (done_of HT_.out (by kernel_rfl)) ?_
                  try go_wp2
                  replace HO_7 := Aside0.mk (Kd.R_drew HO_7.out)
                  replace BK490 := Aside0.mk (blk_drew BK490.out)
                  replace HB := Aside0.mk (below_drew1 HB.out)
                  have p502 : 0 ≤ (x8_1 : Int) := of_decide_eq_true asE
                  have q502 : x8_1 < (t495.length : Int) := of_decide_eq_true asE
                  obtain ⟨ad502, e502, hx502_0⟩ := Kd.at_int (Kd.R_reads' HO_7.out).2.2 x8_1 p502 q502
                  obtain rfl : ad499 = ad502 := (by injection e502)
                  replace p502 := eq_true p502
                  replace q502 := eq_true q502
                  have p504 : 0 ≤ (x8_1 : Int) := of_decide_eq_true asE
                  have q504 : x8_1 < (t495.length : Int) := of_decide_eq_true asE
                  obtain ⟨ad504, e504, hx504_0⟩ := Kd.at_int (Kd.R_reads' HO_7.out).2.2 x8_1 p504 q504
                  obtain rfl : ad499 = ad504 := (by injection e504)
                  replace p504 := eq_true p504
                  replace q504 := eq_true q504
                  refine start_ (n := 17) (S := fun w' => w'.cell? (ad499.add (x8_1).toNat) = some (.int .i64 (rd t495 x8_1)) ∧ w'.cell? (ad499.add (x8_1).toNat) = some (.int .i64 (rd t495 x8_1))) (ds := []) (.replicate 17 false) (by kernel_rfl) rfl rfl ⟨hx502_0, hx504_0⟩ (fun hHeld => ?_); refine with_tabW recouplaw07_MatroidNeeds.tab9 recouplaw07_MatroidNeeds.bits9 (fun HT_ HW_ => ?_)
                  generalize w25.drew = w26 at HO_7 BK490 HB hx502_0 hx504_0 hHeld ⊢
                  refine pu 0 (some 47) (mB 17 1) HT_ ?_
                  refine pu 1 (some 48) (mB 17 3) HT_ ?_
                  refine pu 2 (some 49) (mB 17 7) HT_ ?_
                  refine pu 3 (some 50) (mB 17 15) HT_ ?_
                  refine pu 4 (some 51) (mB 17 31) HT_ ?_
                  refine pu 5 (some 52) (mB 17 63) HT_ ?_
                  refine pu 6 (some 53) (mB 17 127) HT_ ?_
                  refine pu 9 (some 56) (mB 17 639) HT_ ?_
                  refine pu 10 (some 57) (mB 17 1663) HT_ ?_
                  refine pu 11 (some 58) (mB 17 3711) HT_ ?_
                  refine pu 12 (some 59) (mB 17 7807) HT_ ?_
                  refine tk2 7 (some 54) (mB 17 7935) HT_ HW_ hHeld ?_
                  refine tk2 13 (some 60) (mB 17 16127) HT_ HW_ hHeld ?_
                  refine one_ (i := 8) (N := some 55) (mB 17 16383) rfl rfl (one_of HT_.out (by kernel_rfl)) (by decide) (fun K hK => ?_)
                  refine goes_ Tryd.func29 (by kernel_rfl) rfl #[.int .u64 t500, .int .i64 (rd t495 x8_1)] (by rfl) rfl rfl (by (try simp only [List.map_toArray, List.map_cons, List.map_nil]); first | done | rfl | (simp only [List.length_drop, List.length_take]; rfl)) ?_
                  with_reducible refine (recoupref06_Has.calls t500 (rd t495 x8_1) t503 _ A20.out).mono ?_
                  rintro e w' ⟨rfl, ⟨nd, rfl⟩⟩
                  refine ⟨_, rfl, ?_⟩
                  refine hK.out _ _ ⟨hHeld.1, hHeld.2⟩ (fun hHeld => ?_)
                  clear hK K
                  refine norm_ (a' := ?_) ?_ ?_
                  rotate_left
                  · show Act.put _ (some 55) _ = _
                    simp only [Act.put, List.setIfInBounds_toArray, List.set_cons_zero, List.set_cons_succ, i64_w, i32_w]
                    rfl
                  refine one_ (i := 14) (N := some 61) (mB 17 32767) rfl rfl (one_of HT_.out (by kernel_rfl)) (by decide) (fun K hK => ?_)
                  refine goes_ Tryd.func29 (by kernel_rfl) rfl #[.int .u64 t491, .int .i64 (rd t495 x8_1)] (by rfl) rfl rfl (by (try simp only [List.map_toArray, List.map_cons, List.map_nil]); first | done | rfl | (simp only [List.length_drop, List.length_take]; rfl)) ?_
                  with_reducible refine (recoupref06_Has.calls t491 (rd t495 x8_1) t505 _ A21.out).mono ?_
                  rintro e w' ⟨rfl, ⟨nd, rfl⟩⟩
                  refine ⟨_, rfl, ?_⟩
                  refine hK.out _ _ ⟨hHeld.1, hHeld.2⟩ (fun hHeld => ?_)
                  clear hK K
                  refine norm_ (a' := ?_) ?_ ?_
                  rotate_left
                  · show Act.put _ (some 61) _ = _
                    simp only [Act.put, List.setIfInBounds_toArray, List.set_cons_zero, List.set_cons_succ, i64_w, i32_w]
                    rfl
                  refine pu 15 (some 62) (mB 17 65535) HT_ ?_
                  refine pu 16 (some 63) (mB 17 131071) HT_ ?_
                  refine done_ (done_of HT_.out (by kernel_rfl)) ?_
                  try go_wp2
                  go_ret
                  exact ⟨by first | rfl | (simp [errW_none, errW_some] <;> rfl) | (simp only [← hji15, ← hji17]; first | rfl | (simp [errW_none, errW_some] <;> rfl)) | (simp [*, errW_none, errW_some] <;> rfl), hbA HB.out⟩
                · rw [if_neg c22] at H
                  have c22b0 : (t503 == t505) = false := by simpa using c22
                  (try (have c22b1 : decide (t503 = t505) = false := by simpa using c22))
                  (try (have c22b2 : (t503 == t505) = false := by simpa using c22))
                  (try (have c22b3 : ¬ (t503 = t505) := by simpa using c22))
                  clear c22
                  have H' := Aside0.mk H
                  clear H
                  obtain ⟨Ao27, co27, eo27⟩ := Kd.R_slice HO_7.out
                  subst eo27
                  try go_wp2
                  replace HO_7 := Aside0.mk (Kd.R_drew HO_7.out)
                  replace BK490 := Aside0.mk (blk_drew BK490.out)
                  replace HB := Aside0.mk (below_drew1 HB.out)
                  have p499 : 0 ≤ (x8_1 : Int) := of_decide_eq_true asE
                  have q499 : x8_1 < (t495.length : Int) := of_decide_eq_true asE
                  obtain ⟨ad499, e499, hx499_0⟩ := Kd.at_int (Kd.R_reads' HO_7.out).2.2 x8_1 p499 q499
                  cases e499
                  replace p499 := eq_true p499
                  replace q499 := eq_true q499
                  refine start_ (n := 15) (S := fun w' => w'.cell? ⟨gb490, 0, none⟩ = some (.int .i64 a0_0) ∧ w'.cell? ⟨gb490, 1, none⟩ = some (.int .i64 a0_1) ∧ w'.cell? ⟨gb490, 2, none⟩ = some (.slice A0_2 l0_2.length c0_2) ∧ w'.cell? (ad499.add (x8_1).toNat) = some (.int .i64 (rd t495 x8_1))) (ds := []) (.replicate 15 false) (by kernel_rfl) rfl rfl ⟨(blk_cell BK490.out 0).trans rfl, (blk_cell BK490.out 1).trans rfl, (blk_cell BK490.out 2).trans rfl, hx499_0⟩ (fun hHeld => ?_); refine with_tabW recouplaw07_MatroidNeeds.tab8 recouplaw07_MatroidNeeds.bits8 (fun HT_ HW_ => ?_)
                  generalize wr.drew = w28 at HO_7 BK490 HB hx499_0 hHeld ⊢
                  refine pu 1 (some 36) (mB 15 2) HT_ ?_
                  refine pu 2 (some 37) (mB 15 6) HT_ ?_
                  refine pu 3 (some 38) (mB 15 14) HT_ ?_
                  refine pu 4 (some 39) (mB 15 30) HT_ ?_
                  refine tk4 0 (some 35) (mB 15 31) HT_ HW_ hHeld ?_
                  refine tk4 5 (some 40) (mB 15 63) HT_ HW_ hHeld ?_
                  refine pu 6 (some 41) (mB 15 127) HT_ ?_
                  refine pu 7 (some 42) (mB 15 255) HT_ ?_
                  refine pu 8 (some 43) (mB 15 511) HT_ ?_
                  refine one_ (i := 9) (N := some 44) (mB 15 1023) rfl rfl (one_of HT_.out (by kernel_rfl)) (by decide) (fun K hK => ?_)
                  refine goes_ Tryd.func18 (by kernel_rfl) rfl #[.agg #[.int .i64 a0_0, .int .i64 a0_1, .slice A0_2 l0_2.length c0_2], .int .u64 (Go.bits .andNot .u64 a1 (ji17))] (by rfl) rfl rfl (by (try simp only [List.map_toArray, List.map_cons, List.map_nil]); first | done | (simp only [hji17]; rfl) | rfl | (simp only [List.length_drop, List.length_take]; rfl)) ?_
                  with_reducible refine (matroid_Span.calls k1 a0_0 a0_1 _ _ l0_2 (Go.bits .andNot .u64 a1 (ji17)) t500 t501 _ ?side1 ?side2 A18.out (tab_below HT.out (by repeat (first | (with_reducible first | exact HB.out | apply below_alloc | apply pw_below_drewN | apply below_drew1) | exact HB.out | exact Below.refl _ _)))).mono ?_
                  (case side1 => exact kcB HR0_2 HB)
                  (case side2 => exact HC0_2.out)
                  rintro e w29 ⟨rfl, hb⟩
                  have HS3_ := (hb.cell (World.block_lt_of_cell? _ _ (hHeld.2.2.2))).trans (hHeld.2.2.2)
                  refine ⟨_, rfl, ?_⟩
                  replace HO_7 := kdB HO_7 hb
                  replace BK490 := bkB BK490 hb
                  replace HB := hbB HB hb
                  (try clear hb)
                  (try clear hb2)
                  (try clear hk)
                  (try clear hi)
                  refine hK.out _ _ ⟨(blk_cell BK490.out 0).trans rfl, (blk_cell BK490.out 1).trans rfl, (blk_cell BK490.out 2).trans rfl, HS3_⟩ (fun hHeld => ?_)
                  clear hK K
                  refine norm_ (a' := ?_) ?_ ?_
                  rotate_left
                  · show Act.put _ (some 44) _ = _
                    simp only [Act.put, List.setIfInBounds_toArray, List.set_cons_zero, List.set_cons_succ, i64_w, i32_w]
                    rfl
                  refine pu 10 (some 34) (mB 15 2047) HT_ ?_
                  refine pu 11 (some 45) (mB 15 4095) HT_ ?_
                  refine pu 12 (some 46) (mB 15 8191) HT_ ?_
                  refine pu 13 (some 9) (mB 15 16383) HT_ ?_
                  refine pu 14 (some 10) (mB 15 32767) HT_ ?_
                  refine done_ (done_of HT_.out (by kernel_rfl)) ?_
                  try go_wp2
                  replace HO_7 := Aside0.mk (Kd.R_drew HO_7.out)
                  replace BK490 := Aside0.mk (blk_drew BK490.out)
                  replace HB := Aside0.mk (below_drew1 HB.out)
                  have p502 : 0 ≤ (x8_1 : Int) := of_decide_eq_true asE
                  have q502 : x8_1 < (t495.length : Int) := of_decide_eq_true asE
                  obtain ⟨ad502, e502, hx502_0⟩ := Kd.at_int (Kd.R_reads' HO_7.out).2.2 x8_1 p502 q502
                  obtain rfl : ad499 = ad502 := (by injection e502)
                  replace p502 := eq_true p502
                  replace q502 := eq_true q502
                  have p504 : 0 ≤ (x8_1 : Int) := of_decide_eq_true asE
                  have q504 : x8_1 < (t495.length : Int) := of_decide_eq_true asE
                  obtain ⟨ad504, e504, hx504_0⟩ := Kd.at_int (Kd.R_reads' HO_7.out).2.2 x8_1 p504 q504
                  obtain rfl : ad499 = ad504 := (by injection e504)
                  replace p504 := eq_true p504
                  replace q504 := eq_true q504
                  refine start_ (n := 17) (S := fun w' => w'.cell? (ad499.add (x8_1).toNat) = some (.int .i64 (rd t495 x8_1)) ∧ w'.cell? (ad499.add (x8_1).toNat) = some (.int .i64 (rd t495 x8_1))) (ds := []) (.replicate 17 false) (by kernel_rfl) rfl rfl ⟨hx502_0, hx504_0⟩ (fun hHeld => ?_); refine with_tabW recouplaw07_MatroidNeeds.tab9 recouplaw07_MatroidNeeds.bits9 (fun HT_ HW_ => ?_)
                  generalize w29.drew = w30 at HO_7 BK490 HB hx502_0 hx504_0 hHeld ⊢
                  refine pu 0 (some 47) (mB 17 1) HT_ ?_
                  refine pu 1 (some 48) (mB 17 3) HT_ ?_
                  refine pu 2 (some 49) (mB 17 7) HT_ ?_
                  refine pu 3 (some 50) (mB 17 15) HT_ ?_
                  refine pu 4 (some 51) (mB 17 31) HT_ ?_
                  refine pu 5 (some 52) (mB 17 63) HT_ ?_
                  refine pu 6 (some 53) (mB 17 127) HT_ ?_
                  refine pu 9 (some 56) (mB 17 639) HT_ ?_
                  refine pu 10 (some 57) (mB 17 1663) HT_ ?_
                  refine pu 11 (some 58) (mB 17 3711) HT_ ?_
                  refine pu 12 (some 59) (mB 17 7807) HT_ ?_
                  refine tk2 7 (some 54) (mB 17 7935) HT_ HW_ hHeld ?_
                  refine tk2 13 (some 60) (mB 17 16127) HT_ HW_ hHeld ?_
                  refine one_ (i := 8) (N := some 55) (mB 17 16383) rfl rfl (one_of HT_.out (by kernel_rfl)) (by decide) (fun K hK => ?_)
                  refine goes_ Tryd.func29 (by kernel_rfl) rfl #[.int .u64 t500, .int .i64 (rd t495 x8_1)] (by rfl) rfl rfl (by (try simp only [List.map_toArray, List.map_cons, List.map_nil]); first | done | rfl | (simp only [List.length_drop, List.length_take]; rfl)) ?_
                  with_reducible refine (recoupref06_Has.calls t500 (rd t495 x8_1) t503 _ A20.out).mono ?_
                  rintro e w' ⟨rfl, ⟨nd, rfl⟩⟩
                  refine ⟨_, rfl, ?_⟩
                  refine hK.out _ _ ⟨hHeld.1, hHeld.2⟩ (fun hHeld => ?_)
                  clear hK K
                  refine norm_ (a' := ?_) ?_ ?_
                  rotate_left
                  · show Act.put _ (some 55) _ = _
                    simp only [Act.put, List.setIfInBounds_toArray, List.set_cons_zero, List.set_cons_succ, i64_w, i32_w]
                    rfl
                  refine one_ (i := 14) (N := some 61) (mB 17 32767) rfl rfl (one_of HT_.out (by kernel_rfl)) (by decide) (fun K hK => ?_)
                  refine goes_ Tryd.func29 (by kernel_rfl) rfl #[.int .u64 t491, .int .i64 (rd t495 x8_1)] (by rfl) rfl rfl (by (try simp only [List.map_toArray, List.map_cons, List.map_nil]); first | done | rfl | (simp only [List.length_drop, List.length_take]; rfl)) ?_
                  with_reducible refine (recoupref06_Has.calls t491 (rd t495 x8_1) t505 _ A21.out).mono ?_
                  rintro e w' ⟨rfl, ⟨nd, rfl⟩⟩
                  refine ⟨_, rfl, ?_⟩
                  refine hK.out _ _ ⟨hHeld.1, hHeld.2⟩ (fun hHeld => ?_)
                  clear hK K
                  refine norm_ (a' := ?_) ?_ ?_
                  rotate_left
                  · show Act.put _ (some 61) _ = _
                    simp only [Act.put, List.setIfInBounds_toArray, List.set_cons_zero, List.set_cons_succ, i64_w, i32_w]
                    rfl
                  refine pu 15 (some 62) (mB 17 65535) HT_ ?_
                  refine pu 16 (some 63) (mB 17 131071) HT_ ?_
                  refine done_ (done_of HT_.out (by kernel_rfl)) ?_
                  try go_wp2
                  go_roundg k1
                  case measure => have := HK1.out; omega
                  case rel => exact ⟨(wrap64 (x8_1 + 1)), rsE, H', ⟨by have := HK1.out; omega⟩, ⟨kdA HO_7.out⟩, ⟨bkA BK490.out⟩, ⟨hbA HB.out⟩⟩
              · rw [if_neg c19] at H
                have c19b0 : (t501 == 0) = false := beq_eq_false_iff_ne.mpr c19
                have c19b1 : (t501 != 0) = true := bne_iff_ne.mpr c19
                obtain rfl := Option.some.inj H
                obtain ⟨Ao31, co31, eo31⟩ := Kd.R_slice HO_7.out
                subst eo31
                try go_wp2
                replace HO_7 := Aside0.mk (Kd.R_drew HO_7.out)
                replace BK490 := Aside0.mk (blk_drew BK490.out)
                replace HB := Aside0.mk (below_drew1 HB.out)
                have p499 : 0 ≤ (x8_1 : Int) := of_decide_eq_true asE
                have q499 : x8_1 < (t495.length : Int) := of_decide_eq_true asE
                obtain ⟨ad499, e499, hx499_0⟩ := Kd.at_int (Kd.R_reads' HO_7.out).2.2 x8_1 p499 q499
                cases e499
                replace p499 := eq_true p499
                replace q499 := eq_true q499
                refine start_ (n := 15) (S := fun w' => w'.cell? ⟨gb490, 0, none⟩ = some (.int .i64 a0_0) ∧ w'.cell? ⟨gb490, 1, none⟩ = some (.int .i64 a0_1) ∧ w'.cell? ⟨gb490, 2, none⟩ = some (.slice A0_2 l0_2.length c0_2) ∧ w'.cell? (ad499.add (x8_1).toNat) = some (.int .i64 (rd t495 x8_1))) (ds := []) (.replicate 15 false) (by kernel_rfl) rfl rfl ⟨(blk_cell BK490.out 0).trans rfl, (blk_cell BK490.out 1).trans rfl, (blk_cell BK490.out 2).trans rfl, hx499_0⟩ (fun hHeld => ?_); refine with_tabW recouplaw07_MatroidNeeds.tab8 recouplaw07_MatroidNeeds.bits8 (fun HT_ HW_ => ?_)
                generalize wr.drew = w32 at HO_7 BK490 HB hx499_0 hHeld ⊢
                refine pu 1 (some 36) (mB 15 2) HT_ ?_
                refine pu 2 (some 37) (mB 15 6) HT_ ?_
                refine pu 3 (some 38) (mB 15 14) HT_ ?_
                refine pu 4 (some 39) (mB 15 30) HT_ ?_
                refine tk4 0 (some 35) (mB 15 31) HT_ HW_ hHeld ?_
                refine tk4 5 (some 40) (mB 15 63) HT_ HW_ hHeld ?_
                refine pu 6 (some 41) (mB 15 127) HT_ ?_
                refine pu 7 (some 42) (mB 15 255) HT_ ?_
                refine pu 8 (some 43) (mB 15 511) HT_ ?_
                refine one_ (i := 9) (N := some 44) (mB 15 1023) rfl rfl (one_of HT_.out (by kernel_rfl)) (by decide) (fun K hK => ?_)
                refine goes_ Tryd.func18 (by kernel_rfl) rfl #[.agg #[.int .i64 a0_0, .int .i64 a0_1, .slice A0_2 l0_2.length c0_2], .int .u64 (Go.bits .andNot .u64 a1 (ji17))] (by rfl) rfl rfl (by (try simp only [List.map_toArray, List.map_cons, List.map_nil]); first | done | (simp only [hji17]; rfl) | rfl | (simp only [List.length_drop, List.length_take]; rfl)) ?_
                with_reducible refine (matroid_Span.calls k1 a0_0 a0_1 _ _ l0_2 (Go.bits .andNot .u64 a1 (ji17)) t500 t501 _ ?side1 ?side2 A18.out (tab_below HT.out (by repeat (first | (with_reducible first | exact HB.out | apply below_alloc | apply pw_below_drewN | apply below_drew1) | exact HB.out | exact Below.refl _ _)))).mono ?_
                (case side1 => exact kcB HR0_2 HB)
                (case side2 => exact HC0_2.out)
                rintro e w33 ⟨rfl, hb⟩
                have HS3_ := (hb.cell (World.block_lt_of_cell? _ _ (hHeld.2.2.2))).trans (hHeld.2.2.2)
                refine ⟨_, rfl, ?_⟩
                replace HO_7 := kdB HO_7 hb
                replace BK490 := bkB BK490 hb
                replace HB := hbB HB hb
                (try clear hb)
                (try clear hb2)
                (try clear hk)
                (try clear hi)
                refine hK.out _ _ ⟨(blk_cell BK490.out 0).trans rfl, (blk_cell BK490.out 1).trans rfl, (blk_cell BK490.out 2).trans rfl, HS3_⟩ (fun hHeld => ?_)
                clear hK K
                refine norm_ (a' := ?_) ?_ ?_
                rotate_left
                · show Act.put _ (some 44) _ = _
                  simp only [Act.put, List.setIfInBounds_toArray, List.set_cons_zero, List.set_cons_succ, i64_w, i32_w]
                  rfl
                refine pu 10 (some 34) (mB 15 2047) HT_ ?_
                refine pu 11 (some 45) (mB 15 4095) HT_ ?_
                refine pu 12 (some 46) (mB 15 8191) HT_ ?_
                refine pu 13 (some 9) (mB 15 16383) HT_ ?_
                refine pu 14 (some 10) (mB 15 32767) HT_ ?_
                refine done_ (done_of HT_.out (by kernel_rfl)) ?_
                try go_wp2
                replace HO_7 := Aside0.mk (Kd.R_drew HO_7.out)
                replace BK490 := Aside0.mk (blk_drew BK490.out)
                replace HB := Aside0.mk (below_drew1 HB.out)
                refine start_ (n := 17) (S := fun w' => True) (ds := []) (.replicate 17 false) (by kernel_rfl) rfl rfl trivial (fun hHeld => ?_); refine with_tabW recouplaw07_MatroidNeeds.tab9 recouplaw07_MatroidNeeds.bits9 (fun HT_ HW_ => ?_)
                generalize w33.drew = w34 at HO_7 BK490 HB hHeld ⊢
                refine pu 0 (some 47) (mB 17 1) HT_ ?_
                refine pu 1 (some 48) (mB 17 3) HT_ ?_
                refine pu 2 (some 49) (mB 17 7) HT_ ?_
                refine pure_ (i := 3) (N := some 50) (v := undef) (a' := ?_) (mB 17 15) rfl rfl (any_of HT_.out (by kernel_rfl)) (fun _ _ _ h => h) (Or.inr ⟨by rfl, rfl⟩) ?_ ?_
                rotate_left
                · simp only [Act.put, List.setIfInBounds_toArray, List.set_cons_zero, List.set_cons_succ, i64_w, i32_w]
                  rfl
                refine pure_ (i := 4) (N := some 51) (v := undef) (a' := ?_) (mB 17 31) rfl rfl (any_of HT_.out (by kernel_rfl)) (fun _ _ _ h => h) (Or.inr ⟨by rfl, rfl⟩) ?_ ?_
                rotate_left
                · simp only [Act.put, List.setIfInBounds_toArray, List.set_cons_zero, List.set_cons_succ, i64_w, i32_w]
                  rfl
                refine pure_ (i := 5) (N := some 52) (v := undef) (a' := ?_) (mB 17 63) rfl rfl (any_of HT_.out (by kernel_rfl)) (fun _ _ _ h => h) (Or.inr ⟨by rfl, rfl⟩) ?_ ?_
                rotate_left
                · simp only [Act.put, List.setIfInBounds_toArray, List.set_cons_zero, List.set_cons_succ, i64_w, i32_w]
                  rfl
                refine pure_ (i := 6) (N := some 53) (v := undef) (a' := ?_) (mB 17 127) rfl rfl (any_of HT_.out (by kernel_rfl)) (fun _ _ _ h => h) (Or.inr ⟨by rfl, rfl⟩) ?_ ?_
                rotate_left
                · simp only [Act.put, List.setIfInBounds_toArray, List.set_cons_zero, List.set_cons_succ, i64_w, i32_w]
                  rfl
                refine pure_ (i := 7) (N := some 54) (v := undef) (a' := ?_) (mB 17 255) rfl rfl (any_of HT_.out (by kernel_rfl)) (fun _ _ _ h => h) (Or.inr ⟨by rfl, rfl⟩) ?_ ?_
                rotate_left
                · simp only [Act.put, List.setIfInBounds_toArray, List.set_cons_zero, List.set_cons_succ, i64_w, i32_w]
                  rfl
                refine pure_ (i := 8) (N := some 55) (v := undef) (a' := ?_) (mB 17 511) rfl rfl (any_of HT_.out (by kernel_rfl)) (fun _ _ _ h => h) (Or.inr ⟨by rfl, rfl⟩) ?_ ?_
                rotate_left
                · simp only [Act.put, List.setIfInBounds_toArray, List.set_cons_zero, List.set_cons_succ, i64_w, i32_w]
                  rfl
                refine pure_ (i := 9) (N := some 56) (v := undef) (a' := ?_) (mB 17 1023) rfl rfl (any_of HT_.out (by kernel_rfl)) (fun _ _ _ h => h) (Or.inr ⟨by rfl, rfl⟩) ?_ ?_
                rotate_left
                · simp only [Act.put, List.setIfInBounds_toArray, List.set_cons_zero, List.set_cons_succ, i64_w, i32_w]
                  rfl
                refine pure_ (i := 10) (N := some 57) (v := undef) (a' := ?_) (mB 17 2047) rfl rfl (any_of HT_.out (by kernel_rfl)) (fun _ _ _ h => h) (Or.inr ⟨by rfl, rfl⟩) ?_ ?_
                rotate_left
                · simp only [Act.put, List.setIfInBounds_toArray, List.set_cons_zero, List.set_cons_succ, i64_w, i32_w]
                  rfl
                refine pure_ (i := 11) (N := some 58) (v := undef) (a' := ?_) (mB 17 4095) rfl rfl (any_of HT_.out (by kernel_rfl)) (fun _ _ _ h => h) (Or.inr ⟨by rfl, rfl⟩) ?_ ?_
                rotate_left
                · simp only [Act.put, List.setIfInBounds_toArray, List.set_cons_zero, List.set_cons_succ, i64_w, i32_w]
                  rfl
                refine pure_ (i := 12) (N := some 59) (v := undef) (a' := ?_) (mB 17 8191) rfl rfl (any_of HT_.out (by kernel_rfl)) (fun _ _ _ h => h) (Or.inr ⟨by rfl, rfl⟩) ?_ ?_
                rotate_left
                · simp only [Act.put, List.setIfInBounds_toArray, List.set_cons_zero, List.set_cons_succ, i64_w, i32_w]
                  rfl
                refine pure_ (i := 13) (N := some 60) (v := undef) (a' := ?_) (mB 17 16383) rfl rfl (any_of HT_.out (by kernel_rfl)) (fun _ _ _ h => h) (Or.inr ⟨by rfl, rfl⟩) ?_ ?_
                rotate_left
                · simp only [Act.put, List.setIfInBounds_toArray, List.set_cons_zero, List.set_cons_succ, i64_w, i32_w]
                  rfl
                refine pure_ (i := 14) (N := some 61) (v := undef) (a' := ?_) (mB 17 32767) rfl rfl (any_of HT_.out (by kernel_rfl)) (fun _ _ _ h => h) (Or.inr ⟨by rfl, rfl⟩) ?_ ?_
                rotate_left
                · simp only [Act.put, List.setIfInBounds_toArray, List.set_cons_zero, List.set_cons_succ, i64_w, i32_w]
                  rfl
                refine pure_ (i := 15) (N := some 62) (v := undef) (a' := ?_) (mB 17 65535) rfl rfl (any_of HT_.out (by kernel_rfl)) (fun _ _ _ h => h) (Or.inr ⟨by rfl, rfl⟩) ?_ ?_
                rotate_left
                · simp only [Act.put, List.setIfInBounds_toArray, List.set_cons_zero, List.set_cons_succ, i64_w, i32_w]
                  rfl
                refine pu 16 (some 63) (mB 17 131071) HT_ ?_
                refine done_ (done_of HT_.out (by kernel_rfl)) ?_
                try go_wp2
                go_ret
                exact ⟨by first | rfl | (simp [errW_none, errW_some] <;> rfl) | (simp only [← hji15, ← hji17]; first | rfl | (simp [errW_none, errW_some] <;> rfl)) | (simp [*, errW_none, errW_some] <;> rfl), hbA HB.out⟩
            · rw [if_neg c16] at H
              exact absurd H (by simp)
          · rw [if_neg c14] at H
            exact absurd H (by simp)
        · rw [if_neg c13] at H
          have c13b0 : decide (x8_1 < (t495.length : Int)) = false := decide_eq_false c13
          clear c13
          obtain ⟨t498, A35, H⟩ := bindO H
          (try dsimp only at H)
          by_cases c36 : t498 = true
          · subst c36
            rw [if_pos rfl] at H
            by_cases c37 : t492 = 0
            · rw [if_pos c37] at H
              have c37b0 : (t492 == 0) = true := beq_iff_eq.mpr c37
              have c37b1 : (t492 != 0) = false := bne_eq_false_iff_eq.mpr c37
              clear c37
              obtain rfl := Option.some.inj H
              obtain ⟨Ao38, co38, eo38⟩ := Kd.R_slice HO_7.out
              subst eo38
              go_wp2_with (first | ((with_reducible refine gC 27 rfl ?_); refine cG (some 64) Tryd.func27 #[] ?_; (with_reducible refine (recouplaw07_anchored.calls k1  true _ A35.out (tab_below HT.out (by repeat (first | (with_reducible first | exact HB.out | apply below_alloc | apply pw_below_drewN | apply below_drew1) | exact HB.out | exact Below.refl _ _)))).mono ?_); rintro e w39 ⟨rfl, hb⟩; refine ⟨_, rfl, ?_⟩; replace HO_7 := kdB HO_7 hb; replace BK490 := bkB BK490 hb; replace HB := hbB HB hb; (try clear hb); (try clear hb2); (try clear hk); (try clear hi)))
              go_ret
              exact ⟨rfE, hbA HB.out⟩
            · rw [if_neg c37] at H
              have c37b0 : (t492 == 0) = false := beq_eq_false_iff_ne.mpr c37
              have c37b1 : (t492 != 0) = true := bne_iff_ne.mpr c37
              obtain rfl := Option.some.inj H
              obtain ⟨Ao40, co40, eo40⟩ := Kd.R_slice HO_7.out
              subst eo40
              go_wp2_with (first | ((with_reducible refine gC 27 rfl ?_); refine cG (some 64) Tryd.func27 #[] ?_; (with_reducible refine (recouplaw07_anchored.calls k1  true _ A35.out (tab_below HT.out (by repeat (first | (with_reducible first | exact HB.out | apply below_alloc | apply pw_below_drewN | apply below_drew1) | exact HB.out | exact Below.refl _ _)))).mono ?_); rintro e w41 ⟨rfl, hb⟩; refine ⟨_, rfl, ?_⟩; replace HO_7 := kdB HO_7 hb; replace BK490 := bkB BK490 hb; replace HB := hbB HB hb; (try clear hb); (try clear hb2); (try clear hk); (try clear hi)))
              go_ret
              exact ⟨rfE, hbA HB.out⟩
          · replace c36 := Bool.eq_false_iff.mpr c36
            subst c36
            rw [if_neg nofT] at H
            obtain rfl := Option.some.inj H
            obtain ⟨Ao42, co42, eo42⟩ := Kd.R_slice HO_7.out
            subst eo42
            go_wp2_with (first | ((with_reducible refine gC 27 rfl ?_); refine cG (some 64) Tryd.func27 #[] ?_; (with_reducible refine (recouplaw07_anchored.calls k1  false _ A35.out (tab_below HT.out (by repeat (first | (with_reducible first | exact HB.out | apply below_alloc | apply pw_below_drewN | apply below_drew1) | exact HB.out | exact Below.refl _ _)))).mono ?_); rintro e w43 ⟨rfl, hb⟩; refine ⟨_, rfl, ?_⟩; replace HO_7 := kdB HO_7 hb; replace BK490 := bkB BK490 hb; replace HB := hbB HB hb; (try clear hb); (try clear hb2); (try clear hk); (try clear hi)))
            go_ret
            exact ⟨rfE, hbA HB.out⟩
  · replace c5 := Bool.eq_false_iff.mpr c5
    subst c5
    rw [if_neg nofT] at H
    obtain ⟨t494, A44, H⟩ := bindO H
    (try dsimp only at H)
    by_cases c45 : t494 = true
    · subst c45
      rw [if_pos rfl] at H
      obtain rfl := Option.some.inj H
      go_enter Tryd.func9, Tryd.ntmps9
      go_wp2_with (first | ((with_reducible refine gD 2 rfl ?_); refine bE 2 #[.int .i64 a0_0, .int .i64 a0_1, .slice A0_2 l0_2.length c0_2] 24 ?_; intro gb490 hg w46 hbox hb; have BK490 := Aside0.mk (hbox); have GW490 := hbS HB hg; have GE490 := hbS HB hg; replace HB := hbB HB hb; clear hb hbox hg; obtain ⟨hcz47_0, hcz47_1, hcz47_2, hfz47_0, hfz47_1, hfz47_2⟩ := cell3 BK490) | ((with_reducible refine gC 22 rfl ?_); refine cG (some 14) Tryd.func22 #[.agg #[.int .i64 a0_0, .int .i64 a0_1, .slice A0_2 l0_2.length c0_2], .int .u64 a1] ?_; (with_reducible refine (matroid_Needed.calls k a0_0 a0_1 _ _ l0_2 a1 t491 t492 _ ?side1 ?side2 A3.out (tab_below HT.out (by repeat (first | (with_reducible first | exact HB.out | apply below_alloc | apply pw_below_drewN | apply below_drew1) | exact HB.out | exact Below.refl _ _)))).mono ?_); (case side1 => exact kcB HR0_2 HB); (case side2 => exact HC0_2.out); rintro e w48 ⟨rfl, hb⟩; refine ⟨_, rfl, ?_⟩; replace BK490 := bkB BK490 hb; replace HB := hbB HB hb; (try clear hb); (try clear hb2); (try clear hk); (try clear hi); obtain ⟨hcz49_0, hcz49_1, hcz49_2, hfz49_0, hfz49_1, hfz49_2⟩ := cell3 BK490) | ((with_reducible refine gC 26 rfl ?_); refine cG (some 19) Tryd.func26 #[.agg #[.int .i64 a0_0, .int .i64 a0_1, .slice A0_2 l0_2.length c0_2], .int .u64 a1] ?_; (with_reducible refine (recouplaw07_right.calls k a0_0 a0_1 _ _ l0_2 a1 false _ ?side1 ?side2 A4.out).mono ?_); (case side1 => exact kcB HR0_2 HB); (case side2 => exact HC0_2.out); rintro e w50 ⟨rfl, hb⟩; refine ⟨_, rfl, ?_⟩; replace BK490 := bkB BK490 hb; replace HB := hbB HB hb; (try clear hb); (try clear hb2); (try clear hk); (try clear hi)) | ((with_reducible refine gC 27 rfl ?_); refine cG (some 21) Tryd.func27 #[] ?_; (with_reducible refine (recouplaw07_anchored.calls k  true _ A44.out (tab_below HT.out (by repeat (first | (with_reducible first | exact HB.out | apply below_alloc | apply pw_below_drewN | apply below_drew1) | exact HB.out | exact Below.refl _ _)))).mono ?_); rintro e w51 ⟨rfl, hb⟩; refine ⟨_, rfl, ?_⟩; replace BK490 := bkB BK490 hb; replace HB := hbB HB hb; (try clear hb); (try clear hb2); (try clear hk); (try clear hi)))
      go_ret
      exact ⟨rfE, hbA HB.out⟩
    · replace c45 := Bool.eq_false_iff.mpr c45
      subst c45
      rw [if_neg nofT] at H
      obtain rfl := Option.some.inj H
      go_enter Tryd.func9, Tryd.ntmps9
      go_wp2_with (first | ((with_reducible refine gD 2 rfl ?_); refine bE 2 #[.int .i64 a0_0, .int .i64 a0_1, .slice A0_2 l0_2.length c0_2] 24 ?_; intro gb490 hg w52 hbox hb; have BK490 := Aside0.mk (hbox); have GW490 := hbS HB hg; have GE490 := hbS HB hg; replace HB := hbB HB hb; clear hb hbox hg; obtain ⟨hcz53_0, hcz53_1, hcz53_2, hfz53_0, hfz53_1, hfz53_2⟩ := cell3 BK490) | ((with_reducible refine gC 22 rfl ?_); refine cG (some 14) Tryd.func22 #[.agg #[.int .i64 a0_0, .int .i64 a0_1, .slice A0_2 l0_2.length c0_2], .int .u64 a1] ?_; (with_reducible refine (matroid_Needed.calls k a0_0 a0_1 _ _ l0_2 a1 t491 t492 _ ?side1 ?side2 A3.out (tab_below HT.out (by repeat (first | (with_reducible first | exact HB.out | apply below_alloc | apply pw_below_drewN | apply below_drew1) | exact HB.out | exact Below.refl _ _)))).mono ?_); (case side1 => exact kcB HR0_2 HB); (case side2 => exact HC0_2.out); rintro e w54 ⟨rfl, hb⟩; refine ⟨_, rfl, ?_⟩; replace BK490 := bkB BK490 hb; replace HB := hbB HB hb; (try clear hb); (try clear hb2); (try clear hk); (try clear hi); obtain ⟨hcz55_0, hcz55_1, hcz55_2, hfz55_0, hfz55_1, hfz55_2⟩ := cell3 BK490) | ((with_reducible refine gC 26 rfl ?_); refine cG (some 19) Tryd.func26 #[.agg #[.int .i64 a0_0, .int .i64 a0_1, .slice A0_2 l0_2.length c0_2], .int .u64 a1] ?_; (with_reducible refine (recouplaw07_right.calls k a0_0 a0_1 _ _ l0_2 a1 false _ ?side1 ?side2 A4.out).mono ?_); (case side1 => exact kcB HR0_2 HB); (case side2 => exact HC0_2.out); rintro e w56 ⟨rfl, hb⟩; refine ⟨_, rfl, ?_⟩; replace BK490 := bkB BK490 hb; replace HB := hbB HB hb; (try clear hb); (try clear hb2); (try clear hk); (try clear hi)) | ((with_reducible refine gC 27 rfl ?_); refine cG (some 21) Tryd.func27 #[] ?_; (with_reducible refine (recouplaw07_anchored.calls k  false _ A44.out (tab_below HT.out (by repeat (first | (with_reducible first | exact HB.out | apply below_alloc | apply pw_below_drewN | apply below_drew1) | exact HB.out | exact Below.refl _ _)))).mono ?_); rintro e w57 ⟨rfl, hb⟩; refine ⟨_, rfl, ?_⟩; replace BK490 := bkB BK490 hb; replace HB := hbB HB hb; (try clear hb); (try clear hb2); (try clear hk); (try clear hi)))
      go_ret
      exact ⟨rfE, hbA HB.out⟩

end Go.Proofs.YthjncmdlhmppiaaDoor.Q
