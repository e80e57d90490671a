/- Written by drive.py (a program of this repo, over the kit's print): each Go function named here answers what the Lean function beside it answers, wherever that one answers, in every world that meets the stated premises. -/
import Derived.Test.YthjncmdlhmppiaaDoorQx0
import Derived.Test.YthjncmdlhmppiaaDoorQx134
import Derived.Test.YthjncmdlhmppiaaDoorQx154
namespace Go.Proofs.YthjncmdlhmppiaaDoor.Q
open Go.RowKit Go.Proofs.YthjncmdlhmppiaaDoorW.PrintWords Go.Proofs.YthjncmdlhmppiaaDoorW.PrintLast Go.Proofs.YthjncmdlhmppiaaDoorW.PrintMore
attribute [local go_sem] max2_int min2_int max_two min_two max_three min_three max_four min_four   -- for this text's walks alone
set_option linter.unusedVariables false
set_option linter.unusedSimpArgs false

/-! ### matroid_Needed: function 22 -/
def matroid_Needed.l0 : Nat → Int → Int → Int → List Int → Int → Int → Int → Int → List Int → Option (Int × Int)
  | 0, _, _, _, _, _, _, _, _, _ => none
  | k + 1, x1, x6, x8, x23, x24, x25, x305000, x305001, x305002 => if x25 < x24 then (if 0 ≤ x25 then (if x25 < (x23.length : Int) then (if 0 ≤ (rd x23 x25) then ((matroid_Rank.f k x305000 x305001 x305002 (Go.bits .andNot .u64 x1 (shl .u64 1 (rd x23 x25)))).bind fun bt311 => (if bt311.1 < x6 then (matroid_Needed.l0 k x1 x6 (Go.bits .or .u64 x8 (shl .u64 1 (rd x23 x25))) x23 x24 (wrap64 (x25 + 1)) x305000 x305001 x305002) else (matroid_Needed.l0 k x1 x6 x8 x23 x24 (wrap64 (x25 + 1)) x305000 x305001 x305002))) else (none)) else (none)) else (none)) else (some (x8, 0))
def matroid_Needed.f (k : Nat) (a0_0 : Int) (a0_1 : Int) (l0_2 : List Int) (a1 : Int) : Option (Int × Int) := (matroid_Rank.f k a0_0 a0_1 l0_2 a1).bind fun bt305 => (if bt305.2 = 0 then ((subset_List.f k a1).bind fun t307 => (matroid_Needed.l0 k a1 bt305.1 0 t307 (t307.length : Int) 0 a0_0 a0_1 l0_2)) else (some (0, bt305.2)))
theorem matroid_Needed.mono_l : ∀ k, (∀ y0 y1 y2 y3 y4 y5 y6 y7 y8, LeO (matroid_Needed.l0 k y0 y1 y2 y3 y4 y5 y6 y7 y8) (matroid_Needed.l0 (k + 1) y0 y1 y2 y3 y4 y5 y6 y7 y8))
  | 0 => fun _ _ _ _ _ _ _ _ _ r h => by simp [matroid_Needed.l0] at h
  | k + 1 => by
    have ih0 := matroid_Needed.mono_l k
    · intro y0 y1 y2 y3 y4 y5 y6 y7 y8
      unfold matroid_Needed.l0
      repeat' first
      | (with_reducible exact ih0 _ _ _ _ _ _ _ _ _)
      | (with_reducible exact matroid_Rank.mono _ _ _ _ _)
      | (with_reducible exact subset_List.mono _ _)
      | (with_reducible exact LeO.refl _)
      | (with_reducible exact LeO.none _)
      | (with_reducible refine LeO.ite ?_ ?_)
      | (with_reducible refine LeO.bind ?_ (fun _ => ?_))
      | exact ih0 _ _ _ _ _ _ _ _ _
      | exact matroid_Rank.mono _ _ _ _ _
      | exact subset_List.mono _ _
      | exact LeO.none _
      | refine LeO.ite ?_ ?_
      | refine LeO.bind ?_ (fun _ => ?_)
theorem matroid_Needed.mono : ∀ a0 a1 a2 a3 k, LeO (matroid_Needed.f k a0 a1 a2 a3) (matroid_Needed.f (k + 1) a0 a1 a2 a3) := by
  intro a0 a1 a2 a3 k
  have ih0 := matroid_Needed.mono_l k
  unfold matroid_Needed.f
  repeat' first
      | (with_reducible exact ih0 _ _ _ _ _ _ _ _ _)
      | (with_reducible exact matroid_Rank.mono _ _ _ _ _)
      | (with_reducible exact subset_List.mono _ _)
      | (with_reducible exact LeO.refl _)
      | (with_reducible exact LeO.none _)
      | (with_reducible refine LeO.ite ?_ ?_)
      | (with_reducible refine LeO.bind ?_ (fun _ => ?_))
      | exact ih0 _ _ _ _ _ _ _ _ _
      | exact matroid_Rank.mono _ _ _ _ _
      | exact subset_List.mono _ _
      | exact LeO.none _
      | refine LeO.ite ?_ ?_
      | refine LeO.bind ?_ (fun _ => ?_)
def matroid_Needed.T8 : Bool × List (List Nat × List Nat) := (true, [([], []), ([], []), ([], []), ([2], [2]), ([1, 3], [1, 3]), ([0, 4], [0, 4]), ([5], [5]), ([6], [6]), ([6], [6]), ([7, 5, 0, 1, 2, 3, 4, 5, 6, 7], [7]), ([8, 9, 0, 1, 2, 3, 4, 5, 6, 7, 8, 9], [8])])
def matroid_Needed.B8 : List Nat := [0, 0, 0, 4, 14, 31, 63, 127, 127, 255, 1023]
theorem matroid_Needed.tab8 : rtab .any (opsOf Tryd.f22 8) = matroid_Needed.T8 := by kernel_rfl
theorem matroid_Needed.bits8 : waitsOk matroid_Needed.T8.2 matroid_Needed.B8 = true := by kernel_rfl
set_option maxHeartbeats 8000000 in
set_option maxRecDepth 100000 in
theorem matroid_Needed.calls (k : Nat) (a0_0 : Int) (a0_1 : Int) (A0_2 : Option Addr) (c0_2 : Nat) (l0_2 : List Int) (a1 : Int) (r1 : Int) (r2 : Int) (w : World) (hr0_2 : Kd.C (Kd.int .u8) w A0_2 l0_2.length l0_2) (hc0_2 : l0_2.length ≤ c0_2) (h : matroid_Needed.f k a0_0 a0_1 l0_2 a1 = some (r1, r2)) (hT : TabAt 0 Lib.deBruijn64tab w) :
    Calls Tryd.prog 22 #[.agg #[.int .i64 a0_0, .int .i64 a0_1, .slice A0_2 l0_2.length c0_2], .int .u64 a1] w fun e w' => e = .returned (.tuple #[.int .u64 r1, .int .i64 r2]) ∧ Below w.heap.size w w' := by
  have HT := Aside0.mk hT
  clear hT
  have hu24 := Tryd.underlying24
  have HR0_2 := Aside0.mk hr0_2
  have HC0_2 := Aside0.mk hc0_2
  clear hr0_2 hc0_2
  have HB := Aside0.mk (Below.refl w.heap.size w)
  have H : ((matroid_Rank.f k a0_0 a0_1 l0_2 a1).bind fun bt305 => (if bt305.2 = 0 then ((subset_List.f k a1).bind fun t307 => (matroid_Needed.l0 k a1 bt305.1 0 t307 (t307.length : Int) 0 a0_0 a0_1 l0_2)) else (some (0, bt305.2)))) = some (r1, r2) := h
  clear h
  obtain ⟨⟨t305, t306⟩, A3, H⟩ := bindO H
  (try dsimp only at H)
  by_cases c4 : t306 = 0
  · rw [if_pos c4] at H
    have c4b0 : (t306 == 0) = true := beq_iff_eq.mpr c4
    have c4b1 : (t306 != 0) = false := bne_eq_false_iff_eq.mpr c4
    clear c4
    obtain ⟨t307, A5, H⟩ := bindO H
    (try dsimp only at H)
    have H' := Aside0.mk H
    clear H
    go_enter Tryd.func22, Tryd.ntmps22
    go_wp2_with (first | ((with_reducible refine gD 2 rfl ?_); refine bE 2 #[.int .i64 a0_0, .int .i64 a0_1, .slice A0_2 l0_2.length c0_2] 24 ?_; intro gb304 hg w6 hbox hb; have BK304 := Aside0.mk (hbox); have GW304 := hbS HB hg; have GE304 := hbS HB hg; replace HB := hbB HB hb; clear hb hbox hg; obtain ⟨hcz7_0, hcz7_1, hcz7_2, hfz7_0, hfz7_1, hfz7_2⟩ := cell3 BK304) | ((with_reducible refine gC 12 rfl ?_); refine cG (some 16) Tryd.func12 #[.agg #[.int .i64 a0_0, .int .i64 a0_1, .slice A0_2 l0_2.length c0_2], .int .u64 a1] ?_; (with_reducible refine (matroid_Rank.calls k a0_0 a0_1 _ _ l0_2 a1 t305 t306 _ ?side1 ?side2 A3.out (tab_below HT.out (by repeat (first | (with_reducible first | exact HB.out | apply below_alloc | apply pw_below_drewN | apply below_drew1) | exact HB.out | exact Below.refl _ _)))).mono ?_); (case side1 => exact kcB HR0_2 HB); (case side2 => exact HC0_2.out); rintro e w8 ⟨rfl, hb⟩; refine ⟨_, rfl, ?_⟩; replace BK304 := bkB BK304 hb; replace HB := hbB HB hb; (try clear hb); (try clear hb2); (try clear hk); (try clear hi)) | ((with_reducible refine gC 41 rfl ?_); refine cG (some 23) Tryd.func41 #[.int .u64 a1] ?_; (with_reducible refine (subset_List.calls k a1 t307 _ A5.out (tab_below HT.out (by repeat (first | (with_reducible first | exact HB.out | apply below_alloc | apply pw_below_drewN | apply below_drew1) | exact HB.out | exact Below.refl _ _)))).mono ?_); rintro e w9 ⟨v308, rfl, ho0, hb⟩; refine ⟨_, rfl, ?_⟩; have HO309 := Aside0.mk (Kd.R_lower ho0 (below_size (hbA HB.out))); replace BK304 := bkB BK304 hb; replace HB := hbB HB hb; (try clear hb); (try clear hb2); (try clear hk); (try clear hi); (try clear ho0); obtain ⟨Ao10, co10, eo10⟩ := Kd.R_slice HO309.out; subst eo10))
    go_loopg [8, 25] k (fun kq v8 v25 w' => ∃ (x8_1 : Int) (x25_1 : Int), v8 = .int .u64 x8_1 ∧ v25 = .int .i64 x25_1 ∧ Aside0 (matroid_Needed.l0 kq a1 t305 x8_1 t307 (t307.length : Int) x25_1 a0_0 a0_1 l0_2 = some (r1, r2)) ∧ Aside0 (kq ≤ k) ∧ Aside0 (Kd.R (Kd.int .i64) 3 w' w.heap.size (fun _ => True) (.slice Ao10 t307.length co10) t307) ∧ Aside0 (w'.heap[gb304]? = some (.cells #[.int .i64 a0_0, .int .i64 a0_1, (.slice A0_2 l0_2.length c0_2)] 24 (0, 0))) ∧ Aside0 (Below w.heap.size w w'))
    case atStart => exact ⟨(0), (0), rsE, rsE, H', ⟨Nat.le_refl _⟩, ⟨kdA HO309.out⟩, ⟨bkA BK304.out⟩, ⟨hbA HB.out⟩⟩
    case round =>
      clear H'
      (try clear c1); (try clear c2); (try clear p2); (try clear c4); (try clear c4b0); (try clear c4b1); (try clear hcz7_0 hcz7_1 hcz7_2 hfz7_0 hfz7_1 hfz7_2)
      obtain ⟨x8_1, x25_1, rfl, rfl, HA, HK1, HO_23, BK304, HB⟩ := hrel
      cases gk with
      | zero => exact absurd HA.out (by simp [matroid_Needed.l0])
      | succ k1 =>
        have H := HA.out
        clear HA
        simp only [matroid_Needed.l0] at H
        by_cases c11 : x25_1 < (t307.length : Int)
        · rw [if_pos c11] at H
          have c11b0 : decide (x25_1 < (t307.length : Int)) = true := decide_eq_true c11
          clear c11
          by_cases c12 : 0 ≤ x25_1
          · rw [if_pos c12] at H
            have c12b0 : decide (0 ≤ x25_1) = true := decide_eq_true c12
            clear c12
            by_cases c13 : x25_1 < (t307.length : Int)
            · rw [if_pos c13] at H
              have c13b0 : decide (x25_1 < (t307.length : Int)) = true := decide_eq_true c13
              clear c13
              by_cases c14 : 0 ≤ (rd t307 x25_1)
              · rw [if_pos c14] at H
                have c14b0 := eq_true c14
                have c14b1 : decide (0 ≤ (rd t307 x25_1)) = true := decide_eq_true c14
                clear c14
                obtain ⟨ji15, hji15⟩ : ∃ j_ : Int, (shl .u64 1 (rd t307 x25_1)) = j_ := ⟨_, rfl⟩
                replace H : ((matroid_Rank.f k1 a0_0 a0_1 l0_2 (Go.bits .andNot .u64 a1 (ji15))).bind fun bt311 => (if bt311.1 < t305 then (matroid_Needed.l0 k1 a1 t305 (Go.bits .or .u64 x8_1 (ji15)) t307 (t307.length : Int) (wrap64 (x25_1 + 1)) a0_0 a0_1 l0_2) else (matroid_Needed.l0 k1 a1 t305 x8_1 t307 (t307.length : Int) (wrap64 (x25_1 + 1)) a0_0 a0_1 l0_2))) = some (r1, r2) := by first | (rw [hji15] at H; exact H) | (simp only [hji15] at H ⊢; exact H)
                have hji15_ : (IntKind.u64.wrap (1 * 2 ^ min (rd t307 x25_1).toNat 64)) = ji15 := hji15
                have hji15z : (rd t307 x25_1) ≤ 64 → (IntKind.u64.wrap (1 * 2 ^ (rd t307 x25_1).toNat)) = ji15 := shl_small hji15
                have hji15u : (IntKind.u64.wrap (2 ^ min (rd t307 x25_1).toNat 64)) = ji15 := by have h_ := hji15_; rw [Int.one_mul] at h_; exact h_
                have hji15v : (rd t307 x25_1) ≤ 64 → (IntKind.u64.wrap (2 ^ (rd t307 x25_1).toNat)) = ji15 := fun hle_ => by have h_ := hji15z hle_; rw [Int.one_mul] at h_; exact h_
                obtain ⟨⟨t311, t312⟩, A16, H⟩ := bindO H
                (try dsimp only at H)
                by_cases c17 : t311 < t305
                · rw [if_pos c17] at H
                  have c17b0 : decide (t311 < t305) = true := decide_eq_true c17
                  clear c17
                  have c18b0 := eq_true (of_decide_eq_true asE : 0 ≤ (rd t307 x25_1))
                  have H' := Aside0.mk H
                  clear H
                  have p310 : 0 ≤ (x25_1 : Int) := of_decide_eq_true asE
                  have q310 : x25_1 < (t307.length : Int) := of_decide_eq_true asE
                  obtain ⟨ad310, e310, hx310_0⟩ := Kd.at_int (Kd.R_reads' HO_23.out).2.2 x25_1 p310 q310
                  cases e310
                  replace p310 := eq_true p310
                  replace q310 := eq_true q310
                  try go_wp2
                  replace HO_23 := Aside0.mk (Kd.R_drew HO_23.out)
                  replace BK304 := Aside0.mk (blk_drew BK304.out)
                  replace HB := Aside0.mk (below_drew1 HB.out)
                  refine start_ (n := 11) (S := fun w' => w'.cell? ⟨gb304, 0, none⟩ = some (.int .i64 a0_0) ∧ w'.cell? ⟨gb304, 1, none⟩ = some (.int .i64 a0_1) ∧ w'.cell? ⟨gb304, 2, none⟩ = some (.slice A0_2 l0_2.length c0_2)) (ds := []) (.replicate 11 false) (by kernel_rfl) rfl rfl ⟨(blk_cell BK304.out 0).trans rfl, (blk_cell BK304.out 1).trans rfl, (blk_cell BK304.out 2).trans rfl⟩ (fun hHeld => ?_); refine with_tabW matroid_Needed.tab8 matroid_Needed.bits8 (fun HT_ HW_ => ?_)
                  generalize wr.drew = w20 at HO_23 BK304 HB hHeld ⊢
                  refine pu 1 (some 31) (mB 11 2) HT_ ?_
                  refine pu 2 (some 32) (mB 11 6) HT_ ?_
                  refine pu 3 (some 33) (mB 11 14) HT_ ?_
                  refine pu 4 (some 34) (mB 11 30) HT_ ?_
                  refine tk3 0 (some 30) (mB 11 31) HT_ HW_ hHeld ?_
                  refine one_ (i := 5) (N := some 35) (mB 11 63) rfl rfl (one_of HT_.out (by kernel_rfl)) (by decide) (fun K hK => ?_)
                  refine goes_ Tryd.func12 (by kernel_rfl) rfl #[.agg #[.int .i64 a0_0, .int .i64 a0_1, .slice A0_2 l0_2.length c0_2], .int .u64 (Go.bits .andNot .u64 a1 (ji15))] (by rfl) rfl rfl (by (try simp only [List.map_toArray, List.map_cons, List.map_nil]); first | done | (simp only [hji15]; rfl) | rfl | (simp only [List.length_drop, List.length_take]; rfl)) ?_
                  with_reducible refine (matroid_Rank.calls k1 a0_0 a0_1 _ _ l0_2 (Go.bits .andNot .u64 a1 (ji15)) t311 t312 _ ?side1 ?side2 A16.out (tab_below HT.out (by repeat (first | (with_reducible first | exact HB.out | apply below_alloc | apply pw_below_drewN | apply below_drew1) | exact HB.out | exact Below.refl _ _)))).mono ?_
                  (case side1 => exact kcB HR0_2 HB)
                  (case side2 => exact HC0_2.out)
                  rintro e w21 ⟨rfl, hb⟩
                  refine ⟨_, rfl, ?_⟩
                  replace HO_23 := kdB HO_23 hb
                  replace BK304 := bkB BK304 hb
                  replace HB := hbB HB hb
                  (try clear hb)
                  (try clear hb2)
                  (try clear hk)
                  (try clear hi)
                  refine hK.out _ _ ⟨(blk_cell BK304.out 0).trans rfl, (blk_cell BK304.out 1).trans rfl, (blk_cell BK304.out 2).trans rfl⟩ (fun hHeld => ?_)
                  clear hK K
                  refine norm_ (a' := ?_) ?_ ?_
                  rotate_left
                  · show Act.put _ (some 35) _ = _
                    simp only [Act.put, List.setIfInBounds_toArray, List.set_cons_zero, List.set_cons_succ, i64_w, i32_w]
                    rfl
                  refine pu 6 (some 29) (mB 11 127) HT_ ?_
                  refine pu 7 (some 36) (mB 11 255) HT_ ?_
                  refine pu 8 (some 37) (mB 11 511) HT_ ?_
                  refine pu 9 (some 11) (mB 11 1023) HT_ ?_
                  refine pu 10 (some 12) (mB 11 2047) HT_ ?_
                  refine done_ (done_of HT_.out (by kernel_rfl)) ?_
                  try go_wp2
                  go_roundg k1
                  case measure => have := HK1.out; omega
                  case rel => exact ⟨(Go.bits .or .u64 x8_1 (ji15)), (wrap64 (x25_1 + 1)), (by first | rfl | (simp; done) | (simp only [← hji15] <;> (first | rfl | simp)) | (simp [*]; done)), rsE, H', ⟨by have := HK1.out; omega⟩, ⟨kdA HO_23.out⟩, ⟨bkA BK304.out⟩, ⟨hbA HB.out⟩⟩
                · rw [if_neg c17] at H
                  have c17b0 : decide (t311 < t305) = false := decide_eq_false c17
                  clear c17
                  have H' := Aside0.mk H
                  clear H
                  have p310 : 0 ≤ (x25_1 : Int) := of_decide_eq_true asE
                  have q310 : x25_1 < (t307.length : Int) := of_decide_eq_true asE
                  obtain ⟨ad310, e310, hx310_0⟩ := Kd.at_int (Kd.R_reads' HO_23.out).2.2 x25_1 p310 q310
                  cases e310
                  replace p310 := eq_true p310
                  replace q310 := eq_true q310
                  try go_wp2
                  replace HO_23 := Aside0.mk (Kd.R_drew HO_23.out)
                  replace BK304 := Aside0.mk (blk_drew BK304.out)
                  replace HB := Aside0.mk (below_drew1 HB.out)
                  refine start_ (n := 11) (S := fun w' => w'.cell? ⟨gb304, 0, none⟩ = some (.int .i64 a0_0) ∧ w'.cell? ⟨gb304, 1, none⟩ = some (.int .i64 a0_1) ∧ w'.cell? ⟨gb304, 2, none⟩ = some (.slice A0_2 l0_2.length c0_2)) (ds := []) (.replicate 11 false) (by kernel_rfl) rfl rfl ⟨(blk_cell BK304.out 0).trans rfl, (blk_cell BK304.out 1).trans rfl, (blk_cell BK304.out 2).trans rfl⟩ (fun hHeld => ?_); refine with_tabW matroid_Needed.tab8 matroid_Needed.bits8 (fun HT_ HW_ => ?_)
                  generalize wr.drew = w22 at HO_23 BK304 HB hHeld ⊢
                  refine pu 1 (some 31) (mB 11 2) HT_ ?_
                  refine pu 2 (some 32) (mB 11 6) HT_ ?_
                  refine pu 3 (some 33) (mB 11 14) HT_ ?_
                  refine pu 4 (some 34) (mB 11 30) HT_ ?_
                  refine tk3 0 (some 30) (mB 11 31) HT_ HW_ hHeld ?_
                  refine one_ (i := 5) (N := some 35) (mB 11 63) rfl rfl (one_of HT_.out (by kernel_rfl)) (by decide) (fun K hK => ?_)
                  refine goes_ Tryd.func12 (by kernel_rfl) rfl #[.agg #[.int .i64 a0_0, .int .i64 a0_1, .slice A0_2 l0_2.length c0_2], .int .u64 (Go.bits .andNot .u64 a1 (ji15))] (by rfl) rfl rfl (by (try simp only [List.map_toArray, List.map_cons, List.map_nil]); first | done | (simp only [hji15]; rfl) | rfl | (simp only [List.length_drop, List.length_take]; rfl)) ?_
                  with_reducible refine (matroid_Rank.calls k1 a0_0 a0_1 _ _ l0_2 (Go.bits .andNot .u64 a1 (ji15)) t311 t312 _ ?side1 ?side2 A16.out (tab_below HT.out (by repeat (first | (with_reducible first | exact HB.out | apply below_alloc | apply pw_below_drewN | apply below_drew1) | exact HB.out | exact Below.refl _ _)))).mono ?_
                  (case side1 => exact kcB HR0_2 HB)
                  (case side2 => exact HC0_2.out)
                  rintro e w23 ⟨rfl, hb⟩
                  refine ⟨_, rfl, ?_⟩
                  replace HO_23 := kdB HO_23 hb
                  replace BK304 := bkB BK304 hb
                  replace HB := hbB HB hb
                  (try clear hb)
                  (try clear hb2)
                  (try clear hk)
                  (try clear hi)
                  refine hK.out _ _ ⟨(blk_cell BK304.out 0).trans rfl, (blk_cell BK304.out 1).trans rfl, (blk_cell BK304.out 2).trans rfl⟩ (fun hHeld => ?_)
                  clear hK K
                  refine norm_ (a' := ?_) ?_ ?_
                  rotate_left
                  · show Act.put _ (some 35) _ = _
                    simp only [Act.put, List.setIfInBounds_toArray, List.set_cons_zero, List.set_cons_succ, i64_w, i32_w]
                    rfl
                  refine pu 6 (some 29) (mB 11 127) HT_ ?_
                  refine pu 7 (some 36) (mB 11 255) HT_ ?_
                  refine pu 8 (some 37) (mB 11 511) HT_ ?_
                  refine pu 9 (some 11) (mB 11 1023) HT_ ?_
                  refine pu 10 (some 12) (mB 11 2047) HT_ ?_
                  refine done_ (done_of HT_.out (by kernel_rfl)) ?_
                  try go_wp2
                  go_roundg k1
                  case measure => have := HK1.out; omega
                  case rel => exact ⟨(x8_1), (wrap64 (x25_1 + 1)), rsE, rsE, H', ⟨by have := HK1.out; omega⟩, ⟨kdA HO_23.out⟩, ⟨bkA BK304.out⟩, ⟨hbA HB.out⟩⟩
              · rw [if_neg c14] at H
                exact absurd H (by simp)
            · rw [if_neg c13] at H
              exact absurd H (by simp)
          · rw [if_neg c12] at H
            exact absurd H (by simp)
        · rw [if_neg c11] at H
          have c11b0 : decide (x25_1 < (t307.length : Int)) = false := decide_eq_false c11
          clear c11
          simp only [Option.some.injEq, Prod.mk.injEq] at H
          obtain ⟨rfl, rfl⟩ := H
          go_wp2
          go_ret2
          exact ⟨rfE, hbA HB.out⟩
  · rw [if_neg c4] at H
    have c4b0 : (t306 == 0) = false := beq_eq_false_iff_ne.mpr c4
    have c4b1 : (t306 != 0) = true := bne_iff_ne.mpr c4
    simp only [Option.some.injEq, Prod.mk.injEq] at H
    obtain ⟨rfl, rfl⟩ := H
    go_enter Tryd.func22, Tryd.ntmps22
    go_wp2_with (first | ((with_reducible refine gD 2 rfl ?_); refine bE 2 #[.int .i64 a0_0, .int .i64 a0_1, .slice A0_2 l0_2.length c0_2] 24 ?_; intro gb304 hg w24 hbox hb; have BK304 := Aside0.mk (hbox); have GW304 := hbS HB hg; have GE304 := hbS HB hg; replace HB := hbB HB hb; clear hb hbox hg; obtain ⟨hcz25_0, hcz25_1, hcz25_2, hfz25_0, hfz25_1, hfz25_2⟩ := cell3 BK304) | ((with_reducible refine gC 12 rfl ?_); refine cG (some 16) Tryd.func12 #[.agg #[.int .i64 a0_0, .int .i64 a0_1, .slice A0_2 l0_2.length c0_2], .int .u64 a1] ?_; (with_reducible refine (matroid_Rank.calls k a0_0 a0_1 _ _ l0_2 a1 t305 t306 _ ?side1 ?side2 A3.out (tab_below HT.out (by repeat (first | (with_reducible first | exact HB.out | apply below_alloc | apply pw_below_drewN | apply below_drew1) | exact HB.out | exact Below.refl _ _)))).mono ?_); (case side1 => exact kcB HR0_2 HB); (case side2 => exact HC0_2.out); rintro e w26 ⟨rfl, hb⟩; refine ⟨_, rfl, ?_⟩; replace BK304 := bkB BK304 hb; replace HB := hbB HB hb; (try clear hb); (try clear hb2); (try clear hk); (try clear hi)))
    go_ret2
    exact ⟨rfE, hbA HB.out⟩

end Go.Proofs.YthjncmdlhmppiaaDoor.Q
