/- Written by drive.py (a program of this repo, over the kit's print): each Go function named here answers what the Lean function beside it answers, wherever that one answers, in every world that meets the stated premises. -/
import Derived.Test.YtjgcocfnilhggaaDoorQx0
import Derived.Test.YtjgcocfnilhggaaDoorQx164
import Derived.Test.YtjgcocfnilhggaaDoorQx187
namespace Go.Proofs.YtjgcocfnilhggaaDoor.Q
open Go.RowKit Go.Proofs.YtjgcocfnilhggaaDoorW.PrintWords Go.Proofs.YtjgcocfnilhggaaDoorW.PrintLast Go.Proofs.YtjgcocfnilhggaaDoorW.PrintMore
attribute [local go_sem] max2_int min2_int max_two min_two max_three min_three max_four min_four   -- for this text's walks alone
set_option linter.unusedVariables false
set_option linter.unusedSimpArgs false

/-! ### shape_rows_group: function 61 -/
def shape_rows_group.l0 : Nat → Int → List Int → Int → Int → Int → Int → List Int → Option (Bool)
  | 0, _, _, _, _, _, _, _ => none
  | k + 1, x1, x8, x9, x10, x191000, x191001, x191002 => if x10 < x9 then (if 0 ≤ x10 then (if x10 < (x8.length : Int) then (if (rd x8 x10) ≥ x191000 then (some false) else (if 0 ≤ (rd x8 x10) then ((shape_rows_hangs.f k x191000 x191001 x191002 (rd x8 x10) (Go.bits .andNot .u64 x1 (shl .u64 1 (rd x8 x10)))).bind fun t195 => (if t195 = true then (shape_rows_group.l0 k x1 x8 x9 (wrap64 (x10 + 1)) x191000 x191001 x191002) else (some false))) else (none))) else (none)) else (none)) else (some true)
def shape_rows_group.f (k : Nat) (a0_0 : Int) (a0_1 : Int) (l0_2 : List Int) (a1 : Int) : Option (Bool) := (subset_List.f k a1).bind fun t191 => (shape_rows_group.l0 k a1 t191 (t191.length : Int) 0 a0_0 a0_1 l0_2)
theorem shape_rows_group.mono_l : ∀ k, (∀ y0 y1 y2 y3 y4 y5 y6, LeO (shape_rows_group.l0 k y0 y1 y2 y3 y4 y5 y6) (shape_rows_group.l0 (k + 1) y0 y1 y2 y3 y4 y5 y6))
  | 0 => fun _ _ _ _ _ _ _ r h => by simp [shape_rows_group.l0] at h
  | k + 1 => by
    have ih0 := shape_rows_group.mono_l k
    · intro y0 y1 y2 y3 y4 y5 y6
      unfold shape_rows_group.l0
      repeat' first
      | (with_reducible exact ih0 _ _ _ _ _ _ _)
      | (with_reducible exact shape_rows_hangs.mono _ _ _ _ _ _)
      | (with_reducible exact subset_List.mono _ _)
      | (with_reducible exact LeO.refl _)
      | (with_reducible exact LeO.none _)
      | (with_reducible refine LeO.ite ?_ ?_)
      | (with_reducible refine LeO.bind ?_ (fun _ => ?_))
      | exact ih0 _ _ _ _ _ _ _
      | exact shape_rows_hangs.mono _ _ _ _ _ _
      | exact subset_List.mono _ _
      | exact LeO.none _
      | refine LeO.ite ?_ ?_
      | refine LeO.bind ?_ (fun _ => ?_)
theorem shape_rows_group.mono : ∀ a0 a1 a2 a3 k, LeO (shape_rows_group.f k a0 a1 a2 a3) (shape_rows_group.f (k + 1) a0 a1 a2 a3) := by
  intro a0 a1 a2 a3 k
  have ih0 := shape_rows_group.mono_l k
  unfold shape_rows_group.f
  repeat' first
      | (with_reducible exact ih0 _ _ _ _ _ _ _)
      | (with_reducible exact shape_rows_hangs.mono _ _ _ _ _ _)
      | (with_reducible exact subset_List.mono _ _)
      | (with_reducible exact LeO.refl _)
      | (with_reducible exact LeO.none _)
      | (with_reducible refine LeO.ite ?_ ?_)
      | (with_reducible refine LeO.bind ?_ (fun _ => ?_))
      | exact ih0 _ _ _ _ _ _ _
      | exact shape_rows_hangs.mono _ _ _ _ _ _
      | exact subset_List.mono _ _
      | exact LeO.none _
      | refine LeO.ite ?_ ?_
      | refine LeO.bind ?_ (fun _ => ?_)
def shape_rows_group.T4 : Bool × List (List Nat × List Nat) := (true, [([], []), ([], []), ([1], [1]), ([2], [2]), ([0, 3], [0, 3]), ([4], [4]), ([5], [5]), ([5], [5]), ([5], [5]), ([5], [5]), ([9, 5], [5, 9]), ([8, 10, 5], [5, 8, 10]), ([6, 7, 11, 5, 5], [5, 6, 7, 11]), ([12, 5], [5, 12]), ([5, 13], [5, 13])])
def shape_rows_group.B4 : List Nat := [0, 0, 2, 6, 15, 31, 63, 63, 63, 63, 575, 1855, 4095, 8191, 16383]
theorem shape_rows_group.tab4 : rtab .any (opsOf Tryd.f61 4) = shape_rows_group.T4 := by kernel_rfl
theorem shape_rows_group.bits4 : waitsOk shape_rows_group.T4.2 shape_rows_group.B4 = true := by kernel_rfl
set_option maxHeartbeats 8000000 in
set_option maxRecDepth 100000 in
theorem shape_rows_group.calls (k : Nat) (a0_0 : Int) (a0_1 : Int) (A0_2 : Option Addr) (c0_2 : Nat) (l0_2 : List Int) (a1 : Int) (r : Bool) (w : World) (hr0_2 : Kd.C (Kd.int .u8) w A0_2 l0_2.length l0_2) (hc0_2 : l0_2.length ≤ c0_2) (h : shape_rows_group.f k a0_0 a0_1 l0_2 a1 = some r) (hT : TabAt 0 Lib.deBruijn64tab w) :
    Calls Tryd.prog 61 #[.agg #[.int .i64 a0_0, .int .i64 a0_1, .slice A0_2 l0_2.length c0_2], .int .u64 a1] w fun e w' => e = .returned (.bool r) ∧ Below w.heap.size w w' := by
  have HT := Aside0.mk hT
  clear hT
  have hu99 := Tryd.underlying99
  have HR0_2 := Aside0.mk hr0_2
  have HC0_2 := Aside0.mk hc0_2
  clear hr0_2 hc0_2
  have HB := Aside0.mk (Below.refl w.heap.size w)
  have H : ((subset_List.f k a1).bind fun t191 => (shape_rows_group.l0 k a1 t191 (t191.length : Int) 0 a0_0 a0_1 l0_2)) = some r := h
  clear h
  obtain ⟨t191, A3, H⟩ := bindO H
  (try dsimp only at H)
  have H' := Aside0.mk H
  clear H
  go_enter Tryd.func61, Tryd.ntmps61
  go_wp2_with (first | ((with_reducible refine gD 2 rfl ?_); refine bE 2 #[.int .i64 a0_0, .int .i64 a0_1, .slice A0_2 l0_2.length c0_2] 99 ?_; intro gb190 hg w4 hbox hb; have BK190 := Aside0.mk (hbox); have GW190 := hbS HB hg; have GE190 := hbS HB hg; replace HB := hbB HB hb; clear hb hbox hg) | ((with_reducible refine gC 35 rfl ?_); refine cG (some 8) Tryd.func35 #[.int .u64 a1] ?_; (with_reducible refine (subset_List.calls k a1 t191 _ A3.out (tab_below HT.out (by repeat (first | (with_reducible first | exact HB.out | apply below_alloc | apply pw_below_drewN | apply below_drew1) | exact HB.out | exact Below.refl _ _)))).mono ?_); rintro e w5 ⟨v192, rfl, ho0, hb⟩; refine ⟨_, rfl, ?_⟩; have HO193 := Aside0.mk (Kd.R_lower ho0 (below_size (hbA HB.out))); replace BK190 := bkB BK190 hb; replace HB := hbB HB hb; (try clear hb); (try clear hb2); (try clear hk); (try clear hi); (try clear ho0); obtain ⟨Ao6, co6, eo6⟩ := Kd.R_slice HO193.out; subst eo6))
  go_loopg [10] k (fun kq v10 w' => ∃ (x10_1 : Int), v10 = .int .i64 x10_1 ∧ Aside0 (shape_rows_group.l0 kq a1 t191 (t191.length : Int) x10_1 a0_0 a0_1 l0_2 = some r) ∧ Aside0 (kq ≤ k) ∧ Aside0 (Kd.R (Kd.int .i64) 3 w' w.heap.size (fun _ => True) (.slice Ao6 t191.length co6) t191) ∧ Aside0 (w'.heap[gb190]? = some (.cells #[.int .i64 a0_0, .int .i64 a0_1, (.slice A0_2 l0_2.length c0_2)] 99 (0, 0))) ∧ Aside0 (Below w.heap.size w w'))
  case atStart => exact ⟨(0), rsE, H', ⟨Nat.le_refl _⟩, ⟨kdA HO193.out⟩, ⟨bkA BK190.out⟩, ⟨hbA HB.out⟩⟩
  case round =>
    clear H'
    (try clear p2); (try clear c3); (try clear c6)
    obtain ⟨x10_1, rfl, HA, HK1, HO_8, BK190, HB⟩ := hrel
    cases gk with
    | zero => exact absurd HA.out (by simp [shape_rows_group.l0])
    | succ k1 =>
      have H := HA.out
      clear HA
      simp only [shape_rows_group.l0] at H
      by_cases c7 : x10_1 < (t191.length : Int)
      · rw [if_pos c7] at H
        have c7b0 : decide (x10_1 < (t191.length : Int)) = true := decide_eq_true c7
        clear c7
        by_cases c8 : 0 ≤ x10_1
        · rw [if_pos c8] at H
          have c8b0 : decide (0 ≤ x10_1) = true := decide_eq_true c8
          clear c8
          by_cases c9 : x10_1 < (t191.length : Int)
          · rw [if_pos c9] at H
            have c9b0 : decide (x10_1 < (t191.length : Int)) = true := decide_eq_true c9
            clear c9
            by_cases c10 : (rd t191 x10_1) ≥ a0_0
            · rw [if_pos c10] at H
              have c10b0 : decide (a0_0 ≤ (rd t191 x10_1)) = true := decide_eq_true c10
              clear c10
              obtain rfl := Option.some.inj H
              have p194 : 0 ≤ (x10_1 : Int) := of_decide_eq_true asE
              have q194 : x10_1 < (t191.length : Int) := of_decide_eq_true asE
              obtain ⟨ad194, e194, hx194_0⟩ := Kd.at_int (Kd.R_reads' HO_8.out).2.2 x10_1 p194 q194
              cases e194
              replace p194 := eq_true p194
              replace q194 := eq_true q194
              try go_wp2
              replace HO_8 := Aside0.mk (Kd.R_drew HO_8.out)
              replace BK190 := Aside0.mk (blk_drew BK190.out)
              replace HB := Aside0.mk (below_drew1 HB.out)
              refine start_ (n := 15) (S := fun w' => w'.cell? ⟨gb190, 0, none⟩ = some (.int .i64 a0_0) ∧ w'.cell? ⟨gb190, 1, none⟩ = some (.int .i64 a0_1) ∧ w'.cell? ⟨gb190, 2, none⟩ = some (.slice A0_2 l0_2.length c0_2)) (ds := []) (.replicate 15 false) (by kernel_rfl) rfl rfl ⟨(blk_cell BK190.out 0).trans rfl, (blk_cell BK190.out 1).trans rfl, (blk_cell BK190.out 2).trans rfl⟩ (fun hHeld => ?_); refine with_tabW shape_rows_group.tab4 shape_rows_group.bits4 (fun HT_ HW_ => ?_)
              generalize wr.drew = w11 at HO_8 BK190 HB hHeld ⊢
              refine pu 0 (some 14) (mB 15 1) HT_ ?_
              refine pu 1 (some 15) (mB 15 3) HT_ ?_
              refine pu 2 (some 16) (mB 15 7) HT_ ?_
              refine tk3 3 (some 17) (mB 15 15) HT_ HW_ hHeld ?_
              refine pu 4 (some 18) (mB 15 31) HT_ ?_
              refine pu 5 (some 19) (mB 15 63) HT_ ?_
              refine pure_ (i := 6) (N := some 20) (v := undef) (a' := ?_) (mB 15 127) rfl rfl (any_of HT_.out (by kernel_rfl)) (fun _ _ _ h => h) (Or.inr ⟨by rfl, rfl⟩) ?_ ?_
              rotate_left
              · simp only [Act.put, List.setIfInBounds_toArray, List.set_cons_zero, List.set_cons_succ, i64_w, i32_w]
                rfl
              refine pure_ (i := 7) (N := some 21) (v := undef) (a' := ?_) (mB 15 255) rfl rfl (any_of HT_.out (by kernel_rfl)) (fun _ _ _ h => h) (Or.inr ⟨by rfl, rfl⟩) ?_ ?_
              rotate_left
              · simp only [Act.put, List.setIfInBounds_toArray, List.set_cons_zero, List.set_cons_succ, i64_w, i32_w]
                rfl
              refine pure_ (i := 8) (N := some 22) (v := undef) (a' := ?_) (mB 15 511) rfl rfl (any_of HT_.out (by kernel_rfl)) (fun _ _ _ h => h) (Or.inr ⟨by rfl, rfl⟩) ?_ ?_
              rotate_left
              · simp only [Act.put, List.setIfInBounds_toArray, List.set_cons_zero, List.set_cons_succ, i64_w, i32_w]
                rfl
              refine pure_ (i := 9) (N := some 23) (v := undef) (a' := ?_) (mB 15 1023) rfl rfl (any_of HT_.out (by kernel_rfl)) (fun _ _ _ h => h) (Or.inr ⟨by rfl, rfl⟩) ?_ ?_
              rotate_left
              · simp only [Act.put, List.setIfInBounds_toArray, List.set_cons_zero, List.set_cons_succ, i64_w, i32_w]
                rfl
              refine pure_ (i := 10) (N := some 24) (v := undef) (a' := ?_) (mB 15 2047) rfl rfl (any_of HT_.out (by kernel_rfl)) (fun _ _ _ h => h) (Or.inr ⟨by rfl, rfl⟩) ?_ ?_
              rotate_left
              · simp only [Act.put, List.setIfInBounds_toArray, List.set_cons_zero, List.set_cons_succ, i64_w, i32_w]
                rfl
              refine pure_ (i := 11) (N := some 25) (v := undef) (a' := ?_) (mB 15 4095) rfl rfl (any_of HT_.out (by kernel_rfl)) (fun _ _ _ h => h) (Or.inr ⟨by rfl, rfl⟩) ?_ ?_
              rotate_left
              · simp only [Act.put, List.setIfInBounds_toArray, List.set_cons_zero, List.set_cons_succ, i64_w, i32_w]
                rfl
              refine pure_ (i := 12) (N := some 26) (v := undef) (a' := ?_) (mB 15 8191) rfl rfl (any_of HT_.out (by kernel_rfl)) (fun _ _ _ h => h) (Or.inr ⟨by rfl, rfl⟩) ?_ ?_
              rotate_left
              · simp only [Act.put, List.setIfInBounds_toArray, List.set_cons_zero, List.set_cons_succ, i64_w, i32_w]
                rfl
              refine pure_ (i := 13) (N := some 27) (v := undef) (a' := ?_) (mB 15 16383) rfl rfl (any_of HT_.out (by kernel_rfl)) (fun _ _ _ h => h) (Or.inr ⟨by rfl, rfl⟩) ?_ ?_
              rotate_left
              · simp only [Act.put, List.setIfInBounds_toArray, List.set_cons_zero, List.set_cons_succ, i64_w, i32_w]
                rfl
              refine pu 14 (some 28) (mB 15 32767) HT_ ?_
              refine done_ (done_of HT_.out (by kernel_rfl)) ?_
              try go_wp2
              go_ret
              exact ⟨rfE, hbA HB.out⟩
            · rw [if_neg c10] at H
              have c10b0 : decide (a0_0 ≤ (rd t191 x10_1)) = false := decide_eq_false c10
              clear c10
              by_cases c12 : 0 ≤ (rd t191 x10_1)
              · rw [if_pos c12] at H
                have c12b0 := eq_true c12
                have c12b1 : decide (0 ≤ (rd t191 x10_1)) = true := decide_eq_true c12
                clear c12
                obtain ⟨ji13, hji13⟩ : ∃ j_ : Int, (shl .u64 1 (rd t191 x10_1)) = j_ := ⟨_, rfl⟩
                replace H : ((shape_rows_hangs.f k1 a0_0 a0_1 l0_2 (rd t191 x10_1) (Go.bits .andNot .u64 a1 (ji13))).bind fun t195 => (if t195 = true then (shape_rows_group.l0 k1 a1 t191 (t191.length : Int) (wrap64 (x10_1 + 1)) a0_0 a0_1 l0_2) else (some false))) = some r := by first | (rw [hji13] at H; exact H) | (simp only [hji13] at H ⊢; exact H)
                have hji13_ : (IntKind.u64.wrap (1 * 2 ^ min (rd t191 x10_1).toNat 64)) = ji13 := hji13
                have hji13z : (rd t191 x10_1) ≤ 64 → (IntKind.u64.wrap (1 * 2 ^ (rd t191 x10_1).toNat)) = ji13 := shl_small hji13
                have hji13u : (IntKind.u64.wrap (2 ^ min (rd t191 x10_1).toNat 64)) = ji13 := by have h_ := hji13_; rw [Int.one_mul] at h_; exact h_
                have hji13v : (rd t191 x10_1) ≤ 64 → (IntKind.u64.wrap (2 ^ (rd t191 x10_1).toNat)) = ji13 := fun hle_ => by have h_ := hji13z hle_; rw [Int.one_mul] at h_; exact h_
                obtain ⟨t195, A14, H⟩ := bindO H
                (try dsimp only at H)
                by_cases c15 : t195 = true
                · subst c15
                  rw [if_pos rfl] at H
                  have H' := Aside0.mk H
                  clear H
                  have p194 : 0 ≤ (x10_1 : Int) := of_decide_eq_true asE
                  have q194 : x10_1 < (t191.length : Int) := of_decide_eq_true asE
                  obtain ⟨ad194, e194, hx194_0⟩ := Kd.at_int (Kd.R_reads' HO_8.out).2.2 x10_1 p194 q194
                  cases e194
                  replace p194 := eq_true p194
                  replace q194 := eq_true q194
                  try go_wp2
                  replace HO_8 := Aside0.mk (Kd.R_drew HO_8.out)
                  replace BK190 := Aside0.mk (blk_drew BK190.out)
                  replace HB := Aside0.mk (below_drew1 HB.out)
                  refine start_ (n := 15) (S := fun w' => w'.cell? ⟨gb190, 0, none⟩ = some (.int .i64 a0_0) ∧ w'.cell? ⟨gb190, 1, none⟩ = some (.int .i64 a0_1) ∧ w'.cell? ⟨gb190, 2, none⟩ = some (.slice A0_2 l0_2.length c0_2)) (ds := []) (.replicate 15 false) (by kernel_rfl) rfl rfl ⟨(blk_cell BK190.out 0).trans rfl, (blk_cell BK190.out 1).trans rfl, (blk_cell BK190.out 2).trans rfl⟩ (fun hHeld => ?_); refine with_tabW shape_rows_group.tab4 shape_rows_group.bits4 (fun HT_ HW_ => ?_)
                  generalize wr.drew = w16 at HO_8 BK190 HB hHeld ⊢
                  refine pu 0 (some 14) (mB 15 1) HT_ ?_
                  refine pu 1 (some 15) (mB 15 3) HT_ ?_
                  refine pu 2 (some 16) (mB 15 7) HT_ ?_
                  refine tk3 3 (some 17) (mB 15 15) HT_ HW_ hHeld ?_
                  refine pu 4 (some 18) (mB 15 31) HT_ ?_
                  refine pu 5 (some 19) (mB 15 63) HT_ ?_
                  refine pu 7 (some 21) (mB 15 191) HT_ ?_
                  refine pu 8 (some 22) (mB 15 447) HT_ ?_
                  refine pu 9 (some 23) (mB 15 959) HT_ ?_
                  refine pu 10 (some 24) (mB 15 1983) HT_ ?_
                  refine pu 11 (some 25) (mB 15 4031) HT_ ?_
                  refine tk3 6 (some 20) (mB 15 4095) HT_ HW_ hHeld ?_
                  refine one_ (i := 12) (N := some 26) (mB 15 8191) rfl rfl (one_of HT_.out (by kernel_rfl)) (by decide) (fun K hK => ?_)
                  refine goes_ Tryd.func87 (by kernel_rfl) rfl #[.agg #[.int .i64 a0_0, .int .i64 a0_1, .slice A0_2 l0_2.length c0_2], .int .i64 (rd t191 x10_1), .int .u64 (Go.bits .andNot .u64 a1 (ji13))] (by rfl) rfl rfl (by (try simp only [List.map_toArray, List.map_cons, List.map_nil]); first | done | (simp only [hji13]; rfl) | rfl | (simp only [List.length_drop, List.length_take]; rfl)) ?_
                  with_reducible refine (shape_rows_hangs.calls k1 a0_0 a0_1 _ _ l0_2 (rd t191 x10_1) (Go.bits .andNot .u64 a1 (ji13)) true _ ?side1 ?side2 A14.out (tab_below HT.out (by repeat (first | (with_reducible first | exact HB.out | apply below_alloc | apply pw_below_drewN | apply below_drew1) | exact HB.out | exact Below.refl _ _)))).mono ?_
                  (case side1 => exact kcB HR0_2 HB)
                  (case side2 => exact HC0_2.out)
                  rintro e w17 ⟨rfl, hb⟩
                  refine ⟨_, rfl, ?_⟩
                  replace HO_8 := kdB HO_8 hb
                  replace BK190 := bkB BK190 hb
                  replace HB := hbB HB hb
                  (try clear hb)
                  (try clear hb2)
                  (try clear hk)
                  (try clear hi)
                  refine hK.out _ _ ⟨(blk_cell BK190.out 0).trans rfl, (blk_cell BK190.out 1).trans rfl, (blk_cell BK190.out 2).trans rfl⟩ (fun hHeld => ?_)
                  clear hK K
                  refine norm_ (a' := ?_) ?_ ?_
                  rotate_left
                  · show Act.put _ (some 26) _ = _
                    simp only [Act.put, List.setIfInBounds_toArray, List.set_cons_zero, List.set_cons_succ, i64_w, i32_w]
                    rfl
                  refine pu 13 (some 27) (mB 15 16383) HT_ ?_
                  refine pu 14 (some 28) (mB 15 32767) HT_ ?_
                  refine done_ (done_of HT_.out (by kernel_rfl)) ?_
                  try go_wp2
                  go_roundg k1
                  case measure => have := HK1.out; omega
                  case rel => exact ⟨(wrap64 (x10_1 + 1)), rsE, H', ⟨by have := HK1.out; omega⟩, ⟨kdA HO_8.out⟩, ⟨bkA BK190.out⟩, ⟨hbA HB.out⟩⟩
                · replace c15 := Bool.eq_false_iff.mpr c15
                  subst c15
                  rw [if_neg nofT] at H
                  obtain rfl := Option.some.inj H
                  have p194 : 0 ≤ (x10_1 : Int) := of_decide_eq_true asE
                  have q194 : x10_1 < (t191.length : Int) := of_decide_eq_true asE
                  obtain ⟨ad194, e194, hx194_0⟩ := Kd.at_int (Kd.R_reads' HO_8.out).2.2 x10_1 p194 q194
                  cases e194
                  replace p194 := eq_true p194
                  replace q194 := eq_true q194
                  try go_wp2
                  replace HO_8 := Aside0.mk (Kd.R_drew HO_8.out)
                  replace BK190 := Aside0.mk (blk_drew BK190.out)
                  replace HB := Aside0.mk (below_drew1 HB.out)
                  refine start_ (n := 15) (S := fun w' => w'.cell? ⟨gb190, 0, none⟩ = some (.int .i64 a0_0) ∧ w'.cell? ⟨gb190, 1, none⟩ = some (.int .i64 a0_1) ∧ w'.cell? ⟨gb190, 2, none⟩ = some (.slice A0_2 l0_2.length c0_2)) (ds := []) (.replicate 15 false) (by kernel_rfl) rfl rfl ⟨(blk_cell BK190.out 0).trans rfl, (blk_cell BK190.out 1).trans rfl, (blk_cell BK190.out 2).trans rfl⟩ (fun hHeld => ?_); refine with_tabW shape_rows_group.tab4 shape_rows_group.bits4 (fun HT_ HW_ => ?_)
                  generalize wr.drew = w18 at HO_8 BK190 HB hHeld ⊢
                  refine pu 0 (some 14) (mB 15 1) HT_ ?_
                  refine pu 1 (some 15) (mB 15 3) HT_ ?_
                  refine pu 2 (some 16) (mB 15 7) HT_ ?_
                  refine tk3 3 (some 17) (mB 15 15) HT_ HW_ hHeld ?_
                  refine pu 4 (some 18) (mB 15 31) HT_ ?_
                  refine pu 5 (some 19) (mB 15 63) HT_ ?_
                  refine pu 7 (some 21) (mB 15 191) HT_ ?_
                  refine pu 8 (some 22) (mB 15 447) HT_ ?_
                  refine pu 9 (some 23) (mB 15 959) HT_ ?_
                  refine pu 10 (some 24) (mB 15 1983) HT_ ?_
                  refine pu 11 (some 25) (mB 15 4031) HT_ ?_
                  refine tk3 6 (some 20) (mB 15 4095) HT_ HW_ hHeld ?_
                  refine one_ (i := 12) (N := some 26) (mB 15 8191) rfl rfl (one_of HT_.out (by kernel_rfl)) (by decide) (fun K hK => ?_)
                  refine goes_ Tryd.func87 (by kernel_rfl) rfl #[.agg #[.int .i64 a0_0, .int .i64 a0_1, .slice A0_2 l0_2.length c0_2], .int .i64 (rd t191 x10_1), .int .u64 (Go.bits .andNot .u64 a1 (ji13))] (by rfl) rfl rfl (by (try simp only [List.map_toArray, List.map_cons, List.map_nil]); first | done | (simp only [hji13]; rfl) | rfl | (simp only [List.length_drop, List.length_take]; rfl)) ?_
                  with_reducible refine (shape_rows_hangs.calls k1 a0_0 a0_1 _ _ l0_2 (rd t191 x10_1) (Go.bits .andNot .u64 a1 (ji13)) false _ ?side1 ?side2 A14.out (tab_below HT.out (by repeat (first | (with_reducible first | exact HB.out | apply below_alloc | apply pw_below_drewN | apply below_drew1) | exact HB.out | exact Below.refl _ _)))).mono ?_
                  (case side1 => exact kcB HR0_2 HB)
                  (case side2 => exact HC0_2.out)
                  rintro e w19 ⟨rfl, hb⟩
                  refine ⟨_, rfl, ?_⟩
                  replace HO_8 := kdB HO_8 hb
                  replace BK190 := bkB BK190 hb
                  replace HB := hbB HB hb
                  (try clear hb)
                  (try clear hb2)
                  (try clear hk)
                  (try clear hi)
                  refine hK.out _ _ ⟨(blk_cell BK190.out 0).trans rfl, (blk_cell BK190.out 1).trans rfl, (blk_cell BK190.out 2).trans rfl⟩ (fun hHeld => ?_)
                  clear hK K
                  refine norm_ (a' := ?_) ?_ ?_
                  rotate_left
                  · show Act.put _ (some 26) _ = _
                    simp only [Act.put, List.setIfInBounds_toArray, List.set_cons_zero, List.set_cons_succ, i64_w, i32_w]
                    rfl
                  refine pu 13 (some 27) (mB 15 16383) HT_ ?_
                  refine pu 14 (some 28) (mB 15 32767) HT_ ?_
                  refine done_ (done_of HT_.out (by kernel_rfl)) ?_
                  try go_wp2
                  go_ret
                  exact ⟨by first | rfl | (simp [errW_none, errW_some] <;> rfl) | (simp only [← hji13]; first | rfl | (simp [errW_none, errW_some] <;> rfl)) | (simp [*, errW_none, errW_some] <;> rfl), hbA HB.out⟩
              · rw [if_neg c12] at H
                exact absurd H (by simp)
          · rw [if_neg c9] at H
            exact absurd H (by simp)
        · rw [if_neg c8] at H
          exact absurd H (by simp)
      · rw [if_neg c7] at H
        have c7b0 : decide (x10_1 < (t191.length : Int)) = false := decide_eq_false c7
        clear c7
        obtain rfl := Option.some.inj H
        go_wp2
        go_ret
        exact ⟨rfE, hbA HB.out⟩

end Go.Proofs.YtjgcocfnilhggaaDoor.Q
