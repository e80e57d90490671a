/- Written by drive.py (a program of this repo, over the kit's print): each Go function named here answers what the Lean function beside it answers, wherever that one answers, in every world that meets the stated premises. -/
import Derived.Test.YthjncmdlhmppiaaDoorQx0
import Derived.Test.YthjncmdlhmppiaaDoorQx120
import Derived.Test.YthjncmdlhmppiaaDoorQx126
import Derived.Test.YthjncmdlhmppiaaDoorQx127
import Derived.Test.YthjncmdlhmppiaaDoorQx135
import Derived.Test.YthjncmdlhmppiaaDoorQx137
namespace Go.Proofs.YthjncmdlhmppiaaDoor.Q
open Go.RowKit Go.Proofs.YthjncmdlhmppiaaDoorW.PrintWords Go.Proofs.YthjncmdlhmppiaaDoorW.PrintLast Go.Proofs.YthjncmdlhmppiaaDoorW.PrintMore
attribute [local go_sem] max2_int min2_int max_two min_two max_three min_three max_four min_four   -- for this text's walks alone
set_option linter.unusedVariables false
set_option linter.unusedSimpArgs false

/-! ### recouplaw07_MatroidGrows: function 8 -/
mutual
def recouplaw07_MatroidGrows.j0 : Nat → Int → Int → Bool → Int → Int → List Int → Option (Bool)
  | 0, _, _, _, _, _, _ => none
  | k + 1, x1, x2, x26, x467000, x467001, x467002 => if x26 = true then ((matroid_Free.f k 1 0 ([] : List Int) 1).bind fun bt469 => ((recouplaw07_anchored.f k).bind fun t471 => (if t471 = true then (some (bt469.2 == 0)) else (some false)))) else ((matroid_Basis.f k x467000 x467001 x467002 x1).bind fun bt472 => ((matroid_Basis.f k x467000 x467001 x467002 x2).bind fun bt474 => (if bt472.2 = 0 then (recouplaw07_MatroidGrows.j1 k bt472.1 bt474.1 (bt474.2 != 0) x467000 x467001 x467002) else (recouplaw07_MatroidGrows.j1 k bt472.1 bt474.1 true x467000 x467001 x467002))))
def recouplaw07_MatroidGrows.j1 : Nat → Int → Int → Bool → Int → Int → List Int → Option (Bool)
  | 0, _, _, _, _, _, _ => none
  | k + 1, x9, x11, x54, x467000, x467001, x467002 => if x54 = true then (some false) else ((recoupref06_List.f k x9).bind fun t476 => ((recoupref06_List.f k x11).bind fun t479 => (if (t476.length : Int) ≥ (t479.length : Int) then ((recouplaw07_anchored.f k).bind fun t482 => (some t482)) else ((recoupref06_List.f k (Go.bits .andNot .u64 x11 x9)).bind fun t483 => (recouplaw07_MatroidGrows.l0 k x9 t483 0 x467000 x467001 x467002)))))
def recouplaw07_MatroidGrows.l0 : Nat → Int → List Int → Int → Int → Int → List Int → Option (Bool)
  | 0, _, _, _, _, _, _ => none
  | k + 1, x9, x13, x14, x467000, x467001, x467002 => if x14 < (x13.length : Int) then (if 0 ≤ x14 then (if 0 ≤ (IntKind.u64.wrap (rd x13 x14)) then ((matroid_Free.f k x467000 x467001 x467002 (Go.bits .or .u64 x9 (shl .u64 1 (IntKind.u64.wrap (rd x13 x14))))).bind fun bt487 => (if bt487.1 = true then (if bt487.2 = 0 then ((recouplaw07_anchored.f k).bind fun t489 => (some t489)) else (recouplaw07_MatroidGrows.l0 k x9 x13 (wrap64 (x14 + 1)) x467000 x467001 x467002)) else (recouplaw07_MatroidGrows.l0 k x9 x13 (wrap64 (x14 + 1)) x467000 x467001 x467002))) else (none)) else (none)) else (some false)
end
def recouplaw07_MatroidGrows.f (k : Nat) (a0_0 : Int) (a0_1 : Int) (l0_2 : List Int) (a1 : Int) (a2 : Int) : Option (Bool) := (recouplaw07_right.f k a0_0 a0_1 l0_2 a1).bind fun t467 => (if t467 = true then ((recouplaw07_right.f k a0_0 a0_1 l0_2 a2).bind fun t468 => (recouplaw07_MatroidGrows.j0 k a1 a2 (!t468) a0_0 a0_1 l0_2)) else (recouplaw07_MatroidGrows.j0 k a1 a2 true a0_0 a0_1 l0_2))
theorem recouplaw07_MatroidGrows.mono_l : ∀ k, (∀ y0 y1 y2 y3 y4 y5, LeO (recouplaw07_MatroidGrows.j0 k y0 y1 y2 y3 y4 y5) (recouplaw07_MatroidGrows.j0 (k + 1) y0 y1 y2 y3 y4 y5)) ∧ (∀ y0 y1 y2 y3 y4 y5, LeO (recouplaw07_MatroidGrows.j1 k y0 y1 y2 y3 y4 y5) (recouplaw07_MatroidGrows.j1 (k + 1) y0 y1 y2 y3 y4 y5)) ∧ (∀ y0 y1 y2 y3 y4 y5, LeO (recouplaw07_MatroidGrows.l0 k y0 y1 y2 y3 y4 y5) (recouplaw07_MatroidGrows.l0 (k + 1) y0 y1 y2 y3 y4 y5))
  | 0 => ⟨fun _ _ _ _ _ _ r h => by simp [recouplaw07_MatroidGrows.j0] at h, fun _ _ _ _ _ _ r h => by simp [recouplaw07_MatroidGrows.j1] at h, fun _ _ _ _ _ _ r h => by simp [recouplaw07_MatroidGrows.l0] at h⟩
  | k + 1 => by
    obtain ⟨ih0, ih1, ih2⟩ := recouplaw07_MatroidGrows.mono_l k
    refine ⟨?_, ?_, ?_⟩
    all_goals (intros; first | unfold recouplaw07_MatroidGrows.j0 | unfold recouplaw07_MatroidGrows.j1 | unfold recouplaw07_MatroidGrows.l0)
    all_goals repeat' first | (with_reducible exact ih0 _ _ _ _ _ _) | (with_reducible exact ih1 _ _ _ _ _ _) | (with_reducible exact ih2 _ _ _ _ _ _) | (with_reducible exact matroid_Basis.mono _ _ _ _ _) | (with_reducible exact matroid_Free.mono _ _ _ _ _) | (with_reducible exact recouplaw07_anchored.mono _) | (with_reducible exact recouplaw07_right.mono _ _ _ _ _) | (with_reducible exact recoupref06_List.mono _ _) | (with_reducible exact LeO.refl _) | (with_reducible exact LeO.none _) | (with_reducible refine LeO.ite ?_ ?_) | (with_reducible refine LeO.bind ?_ (fun _ => ?_)) | exact ih0 _ _ _ _ _ _ | exact ih1 _ _ _ _ _ _ | exact ih2 _ _ _ _ _ _ | exact matroid_Basis.mono _ _ _ _ _ | exact matroid_Free.mono _ _ _ _ _ | exact recouplaw07_anchored.mono _ | exact recouplaw07_right.mono _ _ _ _ _ | exact recoupref06_List.mono _ _ | exact LeO.none _ | refine LeO.ite ?_ ?_ | refine LeO.bind ?_ (fun _ => ?_)
theorem recouplaw07_MatroidGrows.mono : ∀ a0 a1 a2 a3 a4 k, LeO (recouplaw07_MatroidGrows.f k a0 a1 a2 a3 a4) (recouplaw07_MatroidGrows.f (k + 1) a0 a1 a2 a3 a4) := by
  intro a0 a1 a2 a3 a4 k
  obtain ⟨ih0, ih1, ih2⟩ := recouplaw07_MatroidGrows.mono_l k
  unfold recouplaw07_MatroidGrows.f
  repeat' first
      | (with_reducible exact ih0 _ _ _ _ _ _)
      | (with_reducible exact ih1 _ _ _ _ _ _)
      | (with_reducible exact ih2 _ _ _ _ _ _)
      | (with_reducible exact matroid_Basis.mono _ _ _ _ _)
      | (with_reducible exact matroid_Free.mono _ _ _ _ _)
      | (with_reducible exact recouplaw07_anchored.mono _)
      | (with_reducible exact recouplaw07_right.mono _ _ _ _ _)
      | (with_reducible exact recoupref06_List.mono _ _)
      | (with_reducible exact LeO.refl _)
      | (with_reducible exact LeO.none _)
      | (with_reducible refine LeO.ite ?_ ?_)
      | (with_reducible refine LeO.bind ?_ (fun _ => ?_))
      | exact ih0 _ _ _ _ _ _
      | exact ih1 _ _ _ _ _ _
      | exact ih2 _ _ _ _ _ _
      | exact matroid_Basis.mono _ _ _ _ _
      | exact matroid_Free.mono _ _ _ _ _
      | exact recouplaw07_anchored.mono _
      | exact recouplaw07_right.mono _ _ _ _ _
      | exact recoupref06_List.mono _ _
      | exact LeO.none _
      | refine LeO.ite ?_ ?_
      | refine LeO.bind ?_ (fun _ => ?_)
def recouplaw07_MatroidGrows.T14 : Bool × List (List Nat × List Nat) := (true, [([], []), ([], []), ([], []), ([], []), ([2, 3], [2, 3]), ([4], [4]), ([5], [5]), ([6], [6]), ([1, 7], [1, 7]), ([0, 8], [0, 8]), ([9], [9]), ([10], [10]), ([10], [10]), ([11, 9, 0, 1, 2, 3, 4, 5, 6, 7, 8, 9, 10, 11], [11]), ([12, 13, 0, 1, 2, 3, 4, 5, 6, 7, 8, 9, 10, 11, 12, 13], [12])])
def recouplaw07_MatroidGrows.B14 : List Nat := [0, 0, 0, 0, 12, 28, 60, 124, 254, 511, 1023, 2047, 2047, 4095, 16383]
theorem recouplaw07_MatroidGrows.tab14 : rtab .any (opsOf Tryd.f8 14) = recouplaw07_MatroidGrows.T14 := by kernel_rfl
theorem recouplaw07_MatroidGrows.bits14 : waitsOk recouplaw07_MatroidGrows.T14.2 recouplaw07_MatroidGrows.B14 = true := by kernel_rfl
set_option maxHeartbeats 8000000 in
set_option maxRecDepth 100000 in
theorem recouplaw07_MatroidGrows.calls (k : Nat) (a0_0 : Int) (a0_1 : Int) (A0_2 : Option Addr) (c0_2 : Nat) (l0_2 : List Int) (a1 : Int) (a2 : Int) (r : Bool) (w : World) (hr0_2 : Kd.C (Kd.int .u8) w A0_2 l0_2.length l0_2) (hc0_2 : l0_2.length ≤ c0_2) (h : recouplaw07_MatroidGrows.f k a0_0 a0_1 l0_2 a1 a2 = some r) (hT : TabAt 0 Lib.deBruijn64tab w) :
    Calls Tryd.prog 8 #[.agg #[.int .i64 a0_0, .int .i64 a0_1, .slice A0_2 l0_2.length c0_2], .int .u64 a1, .int .u64 a2] w fun e w' => e = .returned (.bool r) ∧ Below w.heap.size w w' := by
  have HT := Aside0.mk hT
  clear hT
  have hu24 := Tryd.underlying24
  have HR0_2 := Aside0.mk hr0_2
  have HC0_2 := Aside0.mk hc0_2
  clear hr0_2 hc0_2
  have HB := Aside0.mk (Below.refl w.heap.size w)
  have H : ((recouplaw07_right.f k a0_0 a0_1 l0_2 a1).bind fun t467 => (if t467 = true then ((recouplaw07_right.f k a0_0 a0_1 l0_2 a2).bind fun t468 => (recouplaw07_MatroidGrows.j0 k a1 a2 (!t468) a0_0 a0_1 l0_2)) else (recouplaw07_MatroidGrows.j0 k a1 a2 true a0_0 a0_1 l0_2))) = some r := h
  clear h
  have HC4 := Aside0.mk H
  clear H
  go_enter Tryd.func8, Tryd.ntmps8
  go_upto_region 1 with (first | ((with_reducible refine gD 3 rfl ?_); refine bE 3 #[.int .i64 a0_0, .int .i64 a0_1, .slice A0_2 l0_2.length c0_2] 24 ?_; intro gb466 hg w5 hbox hb; have BK466 := Aside0.mk (hbox); have GW466 := hbS HB hg; have GE466 := hbS HB hg; replace HB := hbB HB hb; clear hb hbox hg))
  (try simp only [Act.put, List.setIfInBounds_toArray, List.set_cons_zero, List.set_cons_succ])
  go_cut [26] (fun v26 wc => ∃ (kq : Nat) (x26_3 : Bool), v26 = .bool x26_3 ∧ Aside0 (recouplaw07_MatroidGrows.j0 kq a1 a2 x26_3 a0_0 a0_1 l0_2 = some r) ∧ Aside0 (kq ≤ k) ∧ Aside0 (wc.heap[gb466]? = some (.cells #[.int .i64 a0_0, .int .i64 a0_1, (.slice A0_2 l0_2.length c0_2)] 24 (0, 0))) ∧ Aside0 (Below w.heap.size w wc))
  case first =>
    have H := HC4.out
    clear HC4
    obtain ⟨t467, A6, H⟩ := bindO H
    (try dsimp only at H)
    by_cases c7 : t467 = true
    · subst c7
      rw [if_pos rfl] at H
      obtain ⟨t468, A8, H⟩ := bindO H
      (try dsimp only at H)
      have H' := Aside0.mk H
      clear H
      obtain ⟨hcz9_0, hcz9_1, hcz9_2, hfz9_0, hfz9_1, hfz9_2⟩ := cell3 BK466
      go_wp2_with (first | ((with_reducible refine gC 26 rfl ?_); refine cG (some 19) Tryd.func26 #[.agg #[.int .i64 a0_0, .int .i64 a0_1, .slice A0_2 l0_2.length c0_2], .int .u64 a1] ?_; (with_reducible refine (recouplaw07_right.calls k a0_0 a0_1 _ _ l0_2 a1 true _ ?side1 ?side2 A6.out).mono ?_); (case side1 => exact kcB HR0_2 HB); (case side2 => exact HC0_2.out); rintro e w10 ⟨rfl, hb⟩; refine ⟨_, rfl, ?_⟩; replace BK466 := bkB BK466 hb; replace HB := hbB HB hb; (try clear hb); (try clear hb2); (try clear hk); (try clear hi); obtain ⟨hcz11_0, hcz11_1, hcz11_2, hfz11_0, hfz11_1, hfz11_2⟩ := cell3 BK466) | (go_at_call 26; (with_reducible refine (recouplaw07_right.calls k a0_0 a0_1 _ _ l0_2 a2 t468 _ ?side1 ?side2 A8.out).mono ?_); (case side1 => exact kcB HR0_2 HB); (case side2 => exact HC0_2.out); rintro e w12 ⟨rfl, hb⟩; replace BK466 := bkB BK466 hb; replace HB := hbB HB hb; (try clear hb); (try clear hb2); (try clear hk); (try clear hi)))
      go_meet
      case rel => exact ⟨_, (!t468), rsE, H', ⟨leE⟩, ⟨bkA BK466.out⟩, ⟨hbA HB.out⟩⟩
    · replace c7 := Bool.eq_false_iff.mpr c7
      subst c7
      rw [if_neg nofT] at H
      have H' := Aside0.mk H
      clear H
      obtain ⟨hcz13_0, hcz13_1, hcz13_2, hfz13_0, hfz13_1, hfz13_2⟩ := cell3 BK466
      go_wp2_with (first | ((with_reducible refine gC 26 rfl ?_); refine cG (some 19) Tryd.func26 #[.agg #[.int .i64 a0_0, .int .i64 a0_1, .slice A0_2 l0_2.length c0_2], .int .u64 a1] ?_; (with_reducible refine (recouplaw07_right.calls k a0_0 a0_1 _ _ l0_2 a1 false _ ?side1 ?side2 A6.out).mono ?_); (case side1 => exact kcB HR0_2 HB); (case side2 => exact HC0_2.out); rintro e w14 ⟨rfl, hb⟩; refine ⟨_, rfl, ?_⟩; replace BK466 := bkB BK466 hb; replace HB := hbB HB hb; (try clear hb); (try clear hb2); (try clear hk); (try clear hi)))
      go_meet
      case rel => exact ⟨_, (true), rsE, H', ⟨leE⟩, ⟨bkA BK466.out⟩, ⟨hbA HB.out⟩⟩
  case rest =>
    clear HC4
    (try clear c2); (try clear p2); (try clear c7); (try clear c8); (try clear hcz11_0 hcz11_1 hcz11_2 hfz11_0 hfz11_1 hfz11_2); (try clear hcz13_0 hcz13_1 hcz13_2 hfz13_0 hfz13_1 hfz13_2); (try clear hcz9_0 hcz9_1 hcz9_2 hfz9_0 hfz9_1 hfz9_2)
    obtain ⟨kq, x26_3, rfl, HA, HJ3, BK466, HB⟩ := hcut
    cases kq with
    | zero => exact absurd HA.out (by simp [recouplaw07_MatroidGrows.j0])
    | succ kj3 =>
      have H := HA.out
      clear HA
      simp only [recouplaw07_MatroidGrows.j0] at H
      by_cases c15 : x26_3 = true
      · subst c15
        rw [if_pos rfl] at H
        obtain ⟨⟨t469, t470⟩, A16, H⟩ := bindO H
        (try dsimp only at H)
        obtain ⟨t471, A17, H⟩ := bindO H
        (try dsimp only at H)
        by_cases c18 : t471 = true
        · subst c18
          rw [if_pos rfl] at H
          obtain rfl := Option.some.inj H
          go_wp2_with (first | ((with_reducible refine gC 14 rfl ?_); refine cG (some 29) Tryd.func14 #[.agg #[.int .i64 1, .int .i64 0, .slice none 0 0], .int .u64 1] ?_; (refine (matroid_Free.calls kj3 1 0 _ _ ([] : List Int) 1 t469 t470 _ ?side1 ?side2 A16.out (tab_below HT.out (by repeat (first | (with_reducible first | exact HB.out | apply below_alloc | apply pw_below_drewN | apply below_drew1) | exact HB.out | exact Below.refl _ _)))).mono ?_); (case side1 => exact Kd.C_nil _ _); (case side2 => exact Nat.le_refl _); rintro e w19 ⟨rfl, hb⟩; refine ⟨_, rfl, ?_⟩; replace BK466 := bkB BK466 hb; replace HB := hbB HB hb; (try clear hb); (try clear hb2); (try clear hk); (try clear hi)) | ((with_reducible refine gC 27 rfl ?_); refine cG (some 32) Tryd.func27 #[] ?_; (with_reducible refine (recouplaw07_anchored.calls kj3  true _ A17.out (tab_below HT.out (by repeat (first | (with_reducible first | exact HB.out | apply below_alloc | apply pw_below_drewN | apply below_drew1) | exact HB.out | exact Below.refl _ _)))).mono ?_); rintro e w20 ⟨rfl, hb⟩; refine ⟨_, rfl, ?_⟩; replace BK466 := bkB BK466 hb; replace HB := hbB HB hb; (try clear hb); (try clear hb2); (try clear hk); (try clear hi)))
          go_ret
          exact ⟨rfE, hbA HB.out⟩
        · replace c18 := Bool.eq_false_iff.mpr c18
          subst c18
          rw [if_neg nofT] at H
          obtain rfl := Option.some.inj H
          go_wp2_with (first | ((with_reducible refine gC 14 rfl ?_); refine cG (some 29) Tryd.func14 #[.agg #[.int .i64 1, .int .i64 0, .slice none 0 0], .int .u64 1] ?_; (refine (matroid_Free.calls kj3 1 0 _ _ ([] : List Int) 1 t469 t470 _ ?side1 ?side2 A16.out (tab_below HT.out (by repeat (first | (with_reducible first | exact HB.out | apply below_alloc | apply pw_below_drewN | apply below_drew1) | exact HB.out | exact Below.refl _ _)))).mono ?_); (case side1 => exact Kd.C_nil _ _); (case side2 => exact Nat.le_refl _); rintro e w21 ⟨rfl, hb⟩; refine ⟨_, rfl, ?_⟩; replace BK466 := bkB BK466 hb; replace HB := hbB HB hb; (try clear hb); (try clear hb2); (try clear hk); (try clear hi)) | ((with_reducible refine gC 27 rfl ?_); refine cG (some 32) Tryd.func27 #[] ?_; (with_reducible refine (recouplaw07_anchored.calls kj3  false _ A17.out (tab_below HT.out (by repeat (first | (with_reducible first | exact HB.out | apply below_alloc | apply pw_below_drewN | apply below_drew1) | exact HB.out | exact Below.refl _ _)))).mono ?_); rintro e w22 ⟨rfl, hb⟩; refine ⟨_, rfl, ?_⟩; replace BK466 := bkB BK466 hb; replace HB := hbB HB hb; (try clear hb); (try clear hb2); (try clear hk); (try clear hi)))
          go_ret
          exact ⟨rfE, hbA HB.out⟩
      · replace c15 := Bool.eq_false_iff.mpr c15
        subst c15
        rw [if_neg nofT] at H
        obtain ⟨⟨t472, t473⟩, A23, H⟩ := bindO H
        (try dsimp only at H)
        obtain ⟨⟨t474, t475⟩, A24, H⟩ := bindO H
        (try dsimp only at H)
        have HC25 := Aside0.mk H
        clear H
        obtain ⟨hcz26_0, hcz26_1, hcz26_2, hfz26_0, hfz26_1, hfz26_2⟩ := cell3 BK466
        go_upto_region 6 with (first | ((with_reducible refine gC 20 rfl ?_); refine cG (some 40) Tryd.func20 #[.agg #[.int .i64 a0_0, .int .i64 a0_1, .slice A0_2 l0_2.length c0_2], .int .u64 a1] ?_; (with_reducible refine (matroid_Basis.calls kj3 a0_0 a0_1 _ _ l0_2 a1 t472 t473 _ ?side1 ?side2 A23.out (tab_below HT.out (by repeat (first | (with_reducible first | exact HB.out | apply below_alloc | apply pw_below_drewN | apply below_drew1) | exact HB.out | exact Below.refl _ _)))).mono ?_); (case side1 => exact kcB HR0_2 HB); (case side2 => exact HC0_2.out); rintro e w27 ⟨rfl, hb⟩; refine ⟨_, rfl, ?_⟩; replace BK466 := bkB BK466 hb; replace HB := hbB HB hb; (try clear hb); (try clear hb2); (try clear hk); (try clear hi); obtain ⟨hcz28_0, hcz28_1, hcz28_2, hfz28_0, hfz28_1, hfz28_2⟩ := cell3 BK466) | ((with_reducible refine gC 20 rfl ?_); refine cG (some 46) Tryd.func20 #[.agg #[.int .i64 a0_0, .int .i64 a0_1, .slice A0_2 l0_2.length c0_2], .int .u64 a2] ?_; (with_reducible refine (matroid_Basis.calls kj3 a0_0 a0_1 _ _ l0_2 a2 t474 t475 _ ?side1 ?side2 A24.out (tab_below HT.out (by repeat (first | (with_reducible first | exact HB.out | apply below_alloc | apply pw_below_drewN | apply below_drew1) | exact HB.out | exact Below.refl _ _)))).mono ?_); (case side1 => exact kcB HR0_2 HB); (case side2 => exact HC0_2.out); rintro e w29 ⟨rfl, hb⟩; refine ⟨_, rfl, ?_⟩; replace BK466 := bkB BK466 hb; replace HB := hbB HB hb; (try clear hb); (try clear hb2); (try clear hk); (try clear hi)))
        (try simp only [Act.put, List.setIfInBounds_toArray, List.set_cons_zero, List.set_cons_succ])
        go_cut [54] (fun v54 wc => ∃ (kq : Nat) (x54_24 : Bool), v54 = .bool x54_24 ∧ Aside0 (recouplaw07_MatroidGrows.j1 kq t472 t474 x54_24 a0_0 a0_1 l0_2 = some r) ∧ Aside0 (kq ≤ kj3) ∧ Aside0 (wc.heap[gb466]? = some (.cells #[.int .i64 a0_0, .int .i64 a0_1, (.slice A0_2 l0_2.length c0_2)] 24 (0, 0))) ∧ Aside0 (Below w.heap.size w wc))
        case first =>
          have H := HC25.out
          clear HC25
          by_cases c30 : t473 = 0
          · rw [if_pos c30] at H
            have c30b0 : (t473 == 0) = true := beq_iff_eq.mpr c30
            have c30b1 : (t473 != 0) = false := bne_eq_false_iff_eq.mpr c30
            clear c30
            (first | rw [c30b0] | (simp only [i64_w, i32_w]; rw [c30b0]) | skip)
            have H' := Aside0.mk H
            clear H
            go_wp2
            go_meet
            case rel => exact ⟨_, ((t475 != 0)), rsE, H', ⟨by have := HJ3.out; first | omega | exact Nat.le_refl _⟩, ⟨bkA BK466.out⟩, ⟨hbA HB.out⟩⟩
          · rw [if_neg c30] at H
            have c30b0 : (t473 == 0) = false := beq_eq_false_iff_ne.mpr c30
            have c30b1 : (t473 != 0) = true := bne_iff_ne.mpr c30
            (first | rw [c30b0] | (simp only [i64_w, i32_w]; rw [c30b0]) | skip)
            have H' := Aside0.mk H
            clear H
            go_wp2
            go_meet
            case rel => exact ⟨_, (true), rsE, H', ⟨by have := HJ3.out; first | omega | exact Nat.le_refl _⟩, ⟨bkA BK466.out⟩, ⟨hbA HB.out⟩⟩
        case rest =>
          clear HC25
          (try clear c1); (try clear c2); (try clear p2 p2); (try clear c3); (try clear c7); (try clear c8); (try clear c14); (try clear c15); (try clear c18); (try clear c20); (try clear c26); (try clear c27); (try clear c30); (try clear c30b0); (try clear c30b1); (try clear hcz11_0 hcz11_1 hcz11_2 hfz11_0 hfz11_1 hfz11_2); (try clear hcz13_0 hcz13_1 hcz13_2 hfz13_0 hfz13_1 hfz13_2); (try clear hcz26_0 hcz26_1 hcz26_2 hfz26_0 hfz26_1 hfz26_2); (try clear hcz28_0 hcz28_1 hcz28_2 hfz28_0 hfz28_1 hfz28_2); (try clear hcz9_0 hcz9_1 hcz9_2 hfz9_0 hfz9_1 hfz9_2)
          obtain ⟨kq, x54_24, rfl, HA, HJ24, BK466, HB⟩ := hcut
          cases kq with
          | zero => exact absurd HA.out (by simp [recouplaw07_MatroidGrows.j1])
          | succ kj24 =>
            have H := HA.out
            clear HA
            simp only [recouplaw07_MatroidGrows.j1] at H
            by_cases c31 : x54_24 = true
            · subst c31
              rw [if_pos rfl] at H
              obtain rfl := Option.some.inj H
              go_wp2
              go_ret
              exact ⟨rfE, hbA HB.out⟩
            · replace c31 := Bool.eq_false_iff.mpr c31
              subst c31
              rw [if_neg nofT] at H
              obtain ⟨t476, A32, H⟩ := bindO H
              (try dsimp only at H)
              obtain ⟨t479, A33, H⟩ := bindO H
              (try dsimp only at H)
              by_cases c34 : (t476.length : Int) ≥ (t479.length : Int)
              · rw [if_pos c34] at H
                have c34b0 : decide ((t479.length : Int) ≤ (t476.length : Int)) = true := decide_eq_true c34
                have c34b1 : decide (t479.length ≤ t476.length) = true := decide_eq_true (Int.ofNat_le.mp c34)
                clear c34
                obtain ⟨t482, A35, H⟩ := bindO H
                (try dsimp only at H)
                obtain rfl := Option.some.inj H
                go_wp2_with (first | ((with_reducible refine gC 28 rfl ?_); refine cG (some 56) Tryd.func28 #[.int .u64 t472] ?_; (with_reducible refine (recoupref06_List.calls kj24 t472 t476 _ A32.out).mono ?_); rintro e w36 ⟨v477, rfl, ho0, hb⟩; refine ⟨_, rfl, ?_⟩; have HO478 := Aside0.mk (Kd.R_lower ho0 (below_size (hbA HB.out))); replace BK466 := bkB BK466 hb; replace HB := hbB HB hb; (try clear hb); (try clear hb2); (try clear hk); (try clear hi); (try clear ho0); obtain ⟨Ao37, co37, eo37⟩ := Kd.R_slice HO478.out; subst eo37) | ((with_reducible refine gC 28 rfl ?_); refine cG (some 59) Tryd.func28 #[.int .u64 t474] ?_; (with_reducible refine (recoupref06_List.calls kj24 t474 t479 _ A33.out).mono ?_); rintro e w38 ⟨v480, rfl, ho0, hb⟩; refine ⟨_, rfl, ?_⟩; have HO481 := Aside0.mk (Kd.R_lower (Kd.R_new' ho0 (Kd.R_lt (kdA HO478.out))) (below_size (hbA HB.out))); replace HO478 := Aside0.mk (Kd.R_elder' (kdA HO478.out) (Kd.R_base ho0) hb); replace BK466 := bkB BK466 hb; replace HB := hbB HB hb; (try clear hb); (try clear hb2); (try clear hk); (try clear hi); (try clear ho0); obtain ⟨Ao39, co39, eo39⟩ := Kd.R_slice HO481.out; subst eo39) | ((with_reducible refine gC 27 rfl ?_); refine cG (some 62) Tryd.func27 #[] ?_; (with_reducible refine (recouplaw07_anchored.calls kj24  t482 _ A35.out (tab_below HT.out (by repeat (first | (with_reducible first | exact HB.out | apply below_alloc | apply pw_below_drewN | apply below_drew1) | exact HB.out | exact Below.refl _ _)))).mono ?_); rintro e w40 ⟨rfl, hb⟩; refine ⟨_, rfl, ?_⟩; replace HO478 := kdB HO478 hb; replace HO481 := kdB HO481 hb; replace BK466 := bkB BK466 hb; replace HB := hbB HB hb; (try clear hb); (try clear hb2); (try clear hk); (try clear hi)))
                go_ret
                exact ⟨rfE, hbA HB.out⟩
              · rw [if_neg c34] at H
                have c34b0 : decide ((t479.length : Int) ≤ (t476.length : Int)) = false := decide_eq_false c34
                have c34b1 : decide (t479.length ≤ t476.length) = false := decide_eq_false (fun h => c34 (Int.ofNat_le.mpr h))
                clear c34
                obtain ⟨t483, A41, H⟩ := bindO H
                (try dsimp only at H)
                have H' := Aside0.mk H
                clear H
                go_wp2_with (first | ((with_reducible refine gC 28 rfl ?_); refine cG (some 56) Tryd.func28 #[.int .u64 t472] ?_; (with_reducible refine (recoupref06_List.calls kj24 t472 t476 _ A32.out).mono ?_); rintro e w42 ⟨v477, rfl, ho0, hb⟩; refine ⟨_, rfl, ?_⟩; have HO478 := Aside0.mk (Kd.R_lower ho0 (below_size (hbA HB.out))); replace BK466 := bkB BK466 hb; replace HB := hbB HB hb; (try clear hb); (try clear hb2); (try clear hk); (try clear hi); (try clear ho0); obtain ⟨Ao43, co43, eo43⟩ := Kd.R_slice HO478.out; subst eo43) | ((with_reducible refine gC 28 rfl ?_); refine cG (some 59) Tryd.func28 #[.int .u64 t474] ?_; (with_reducible refine (recoupref06_List.calls kj24 t474 t479 _ A33.out).mono ?_); rintro e w44 ⟨v480, rfl, ho0, hb⟩; refine ⟨_, rfl, ?_⟩; have HO481 := Aside0.mk (Kd.R_lower (Kd.R_new' ho0 (Kd.R_lt (kdA HO478.out))) (below_size (hbA HB.out))); replace HO478 := Aside0.mk (Kd.R_elder' (kdA HO478.out) (Kd.R_base ho0) hb); replace BK466 := bkB BK466 hb; replace HB := hbB HB hb; (try clear hb); (try clear hb2); (try clear hk); (try clear hi); (try clear ho0); obtain ⟨Ao45, co45, eo45⟩ := Kd.R_slice HO481.out; subst eo45) | ((with_reducible refine gC 28 rfl ?_); refine cG (some 66) Tryd.func28 #[.int .u64 (Go.bits .andNot .u64 t474 t472)] ?_; (with_reducible refine (recoupref06_List.calls kj24 (Go.bits .andNot .u64 t474 t472) t483 _ A41.out).mono ?_); rintro e w46 ⟨v484, rfl, ho0, hb⟩; refine ⟨_, rfl, ?_⟩; have HO485 := Aside0.mk (Kd.R_lower (Kd.R_new' (Kd.R_new' ho0 (Kd.R_lt (kdA HO478.out))) (Kd.R_lt (kdA HO481.out))) (below_size (hbA HB.out))); replace HO478 := Aside0.mk (Kd.R_elder' (kdA HO478.out) (Kd.R_base ho0) hb); replace HO481 := Aside0.mk (Kd.R_elder' (kdA HO481.out) (Kd.R_base ho0) hb); replace BK466 := bkB BK466 hb; replace HB := hbB HB hb; (try clear hb); (try clear hb2); (try clear hk); (try clear hi); (try clear ho0)))
                go_loopg [14] kj24 (fun kq v14 w' => ∃ (x14_3 : Int), v14 = .int .i64 x14_3 ∧ Aside0 (recouplaw07_MatroidGrows.l0 kq t472 t483 x14_3 a0_0 a0_1 l0_2 = some r) ∧ Aside0 (kq ≤ kj24) ∧ Aside0 (Kd.R (Kd.int .i64) 3 w' w.heap.size (fun _ => True) v484 t483) ∧ Aside0 (w'.heap[gb466]? = some (.cells #[.int .i64 a0_0, .int .i64 a0_1, (.slice A0_2 l0_2.length c0_2)] 24 (0, 0))) ∧ Aside0 (Below w.heap.size w w'))
                case atStart => exact ⟨(0), rsE, H', ⟨Nat.le_refl _⟩, ⟨by (with_reducible repeat (first | apply Kd.R_alloc | apply Kd.R_drewN | apply Kd.R_drew)); exact Kd.R_mono HO485.out (fun _ hk => trivial)⟩, ⟨bkA BK466.out⟩, ⟨hbA HB.out⟩⟩
                case round =>
                  clear H'
                  (try clear c1); (try clear c2); (try clear p2 p2); (try clear c3); (try clear c7); (try clear c8); (try clear c14); (try clear c15); (try clear c18); (try clear c20); (try clear c26); (try clear c27); (try clear c28); (try clear c30); (try clear c30b0); (try clear c30b1); (try clear c31); (try clear c34); (try clear c34b0); (try clear c34b1); (try clear hcz11_0 hcz11_1 hcz11_2 hfz11_0 hfz11_1 hfz11_2); (try clear hcz13_0 hcz13_1 hcz13_2 hfz13_0 hfz13_1 hfz13_2); (try clear hcz26_0 hcz26_1 hcz26_2 hfz26_0 hfz26_1 hfz26_2); (try clear hcz28_0 hcz28_1 hcz28_2 hfz28_0 hfz28_1 hfz28_2); (try clear hcz9_0 hcz9_1 hcz9_2 hfz9_0 hfz9_1 hfz9_2)
                  obtain ⟨x14_3, rfl, HA, HK3, HO_13, BK466, HB⟩ := hrel
                  cases gk with
                  | zero => exact absurd HA.out (by simp [recouplaw07_MatroidGrows.l0])
                  | succ k3 =>
                    have H := HA.out
                    clear HA
                    simp only [recouplaw07_MatroidGrows.l0] at H
                    by_cases c47 : x14_3 < (t483.length : Int)
                    · rw [if_pos c47] at H
                      have c47b0 : decide (x14_3 < (t483.length : Int)) = true := decide_eq_true c47
                      clear c47
                      by_cases c48 : 0 ≤ x14_3
                      · rw [if_pos c48] at H
                        have c48b0 : decide (0 ≤ x14_3) = true := decide_eq_true c48
                        clear c48
                        obtain ⟨ji49, hji49⟩ : ∃ j_ : Int, (IntKind.u64.wrap (rd t483 x14_3)) = j_ := ⟨_, rfl⟩
                        replace H : (if 0 ≤ (ji49) then ((matroid_Free.f k3 a0_0 a0_1 l0_2 (Go.bits .or .u64 t472 (shl .u64 1 (ji49)))).bind fun bt487 => (if bt487.1 = true then (if bt487.2 = 0 then ((recouplaw07_anchored.f k3).bind fun t489 => (some t489)) else (recouplaw07_MatroidGrows.l0 k3 t472 t483 (wrap64 (x14_3 + 1)) a0_0 a0_1 l0_2)) else (recouplaw07_MatroidGrows.l0 k3 t472 t483 (wrap64 (x14_3 + 1)) a0_0 a0_1 l0_2))) else (none)) = some r := by first | (rw [hji49] at H; exact H) | (simp only [hji49] at H ⊢; exact H)
                        by_cases c50 : 0 ≤ (ji49)
                        · rw [if_pos c50] at H
                          have c50b0 := eq_true c50
                          have c50b1 : decide (0 ≤ (ji49)) = true := decide_eq_true c50
                          clear c50
                          obtain ⟨ji51, hji51⟩ : ∃ j_ : Int, (shl .u64 1 (ji49)) = j_ := ⟨_, rfl⟩
                          replace H : ((matroid_Free.f k3 a0_0 a0_1 l0_2 (Go.bits .or .u64 t472 (ji51))).bind fun bt487 => (if bt487.1 = true then (if bt487.2 = 0 then ((recouplaw07_anchored.f k3).bind fun t489 => (some t489)) else (recouplaw07_MatroidGrows.l0 k3 t472 t483 (wrap64 (x14_3 + 1)) a0_0 a0_1 l0_2)) else (recouplaw07_MatroidGrows.l0 k3 t472 t483 (wrap64 (x14_3 + 1)) a0_0 a0_1 l0_2))) = some r := by first | (rw [hji51] at H; exact H) | (simp only [hji51] at H ⊢; exact H)
                          have hji51_ : (IntKind.u64.wrap (1 * 2 ^ min (ji49).toNat 64)) = ji51 := hji51
                          have hji51z : (ji49) ≤ 64 → (IntKind.u64.wrap (1 * 2 ^ (ji49).toNat)) = ji51 := shl_small hji51
                          have hji51u : (IntKind.u64.wrap (2 ^ min (ji49).toNat 64)) = ji51 := by have h_ := hji51_; rw [Int.one_mul] at h_; exact h_
                          have hji51v : (ji49) ≤ 64 → (IntKind.u64.wrap (2 ^ (ji49).toNat)) = ji51 := fun hle_ => by have h_ := hji51z hle_; rw [Int.one_mul] at h_; exact h_
                          obtain ⟨⟨t487, t488⟩, A52, H⟩ := bindO H
                          (try dsimp only at H)
                          by_cases c53 : t487 = true
                          · subst c53
                            rw [if_pos rfl] at H
                            by_cases c54 : t488 = 0
                            · rw [if_pos c54] at H
                              have c54b0 : (t488 == 0) = true := beq_iff_eq.mpr c54
                              have c54b1 : (t488 != 0) = false := bne_eq_false_iff_eq.mpr c54
                              clear c54
                              obtain ⟨t489, A55, H⟩ := bindO H
                              (try dsimp only at H)
                              obtain rfl := Option.some.inj H
                              obtain ⟨Ao56, co56, eo56⟩ := Kd.R_slice HO_13.out
                              subst eo56
                              try go_wp2
                              replace HO_13 := Aside0.mk (Kd.R_drew HO_13.out)
                              replace BK466 := Aside0.mk (blk_drew BK466.out)
                              replace HB := Aside0.mk (below_drew1 HB.out)
                              have p486 : 0 ≤ (x14_3 : Int) := of_decide_eq_true asE
                              have q486 : x14_3 < (t483.length : Int) := of_decide_eq_true asE
                              obtain ⟨ad486, e486, hx486_0⟩ := Kd.at_int (Kd.R_reads' HO_13.out).2.2 x14_3 p486 q486
                              cases e486
                              replace p486 := eq_true p486
                              replace q486 := eq_true q486
                              refine start_ (n := 15) (S := fun w' => w'.cell? ⟨gb466, 0, none⟩ = some (.int .i64 a0_0) ∧ w'.cell? ⟨gb466, 1, none⟩ = some (.int .i64 a0_1) ∧ w'.cell? ⟨gb466, 2, none⟩ = some (.slice A0_2 l0_2.length c0_2) ∧ w'.cell? (ad486.add (x14_3).toNat) = some (.int .i64 (rd t483 x14_3))) (ds := []) (.replicate 15 false) (by kernel_rfl) rfl rfl ⟨(blk_cell BK466.out 0).trans rfl, (blk_cell BK466.out 1).trans rfl, (blk_cell BK466.out 2).trans rfl, hx486_0⟩ (fun hHeld => ?_); refine with_tabW recouplaw07_MatroidGrows.tab14 recouplaw07_MatroidGrows.bits14 (fun HT_ HW_ => ?_)
                              generalize wr.drew = w57 at HO_13 BK466 HB hx486_0 hHeld ⊢
                              refine pu 1 (some 75) (mB 15 2) HT_ ?_
                              refine pu 2 (some 76) (mB 15 6) HT_ ?_
                              refine pu 3 (some 77) (mB 15 14) HT_ ?_
                              refine pu 4 (some 78) (mB 15 30) HT_ ?_
                              refine tk4 0 (some 74) (mB 15 31) HT_ HW_ hHeld ?_
                              refine tk4 5 (some 79) (mB 15 63) HT_ HW_ hHeld ?_
                              refine pu 6 (some 80) (mB 15 127) HT_ ?_
                              refine pu 7 (some 81) (mB 15 255) HT_ ?_
                              refine pu 8 (some 82) (mB 15 511) HT_ ?_
                              refine one_ (i := 9) (N := some 83) (mB 15 1023) rfl rfl (one_of HT_.out (by kernel_rfl)) (by decide) (fun K hK => ?_)
                              refine goes_ Tryd.func14 (by kernel_rfl) rfl #[.agg #[.int .i64 a0_0, .int .i64 a0_1, .slice A0_2 l0_2.length c0_2], .int .u64 (Go.bits .or .u64 t472 (ji51))] (by rfl) rfl rfl (by (try simp only [List.map_toArray, List.map_cons, List.map_nil]); first | done | (simp only [hji51]; rfl) | rfl | (simp only [List.length_drop, List.length_take]; rfl)) ?_
                              with_reducible refine (matroid_Free.calls k3 a0_0 a0_1 _ _ l0_2 (Go.bits .or .u64 t472 (ji51)) true t488 _ ?side1 ?side2 A52.out (tab_below HT.out (by repeat (first | (with_reducible first | exact HB.out | apply below_alloc | apply pw_below_drewN | apply below_drew1) | exact HB.out | exact Below.refl _ _)))).mono ?_
                              (case side1 => exact kcB HR0_2 HB)
                              (case side2 => exact HC0_2.out)
                              rintro e w58 ⟨rfl, hb⟩
                              have HS3_ := (hb.cell (World.block_lt_of_cell? _ _ (hHeld.2.2.2))).trans (hHeld.2.2.2)
                              refine ⟨_, rfl, ?_⟩
                              replace HO_13 := kdB HO_13 hb
                              replace BK466 := bkB BK466 hb
                              replace HB := hbB HB hb
                              (try clear hb)
                              (try clear hb2)
                              (try clear hk)
                              (try clear hi)
                              refine hK.out _ _ ⟨(blk_cell BK466.out 0).trans rfl, (blk_cell BK466.out 1).trans rfl, (blk_cell BK466.out 2).trans rfl, HS3_⟩ (fun hHeld => ?_)
                              clear hK K
                              refine norm_ (a' := ?_) ?_ ?_
                              rotate_left
                              · show Act.put _ (some 83) _ = _
                                simp only [Act.put, List.setIfInBounds_toArray, List.set_cons_zero, List.set_cons_succ, i64_w, i32_w]
                                rfl
                              refine pu 10 (some 73) (mB 15 2047) HT_ ?_
                              refine pu 11 (some 84) (mB 15 4095) HT_ ?_
                              refine pu 12 (some 85) (mB 15 8191) HT_ ?_
                              refine pu 13 (some 15) (mB 15 16383) HT_ ?_
                              refine pu 14 (some 16) (mB 15 32767) HT_ ?_
                              refine done_ (done_of HT_.out (by kernel_rfl)) ?_
                              try go_wp2_with (first | ((with_reducible refine gC 27 rfl ?_); refine cG (some 91) Tryd.func27 #[] ?_; (with_reducible refine (recouplaw07_anchored.calls k3  t489 _ A55.out (tab_below HT.out (by repeat (first | (with_reducible first | exact HB.out | apply below_alloc | apply pw_below_drewN | apply below_drew1) | exact HB.out | exact Below.refl _ _)))).mono ?_); rintro e w59 ⟨rfl, hb⟩; refine ⟨_, rfl, ?_⟩; replace HO_13 := kdB HO_13 hb; replace BK466 := bkB BK466 hb; replace HB := hbB HB hb; (try clear hb); (try clear hb2); (try clear hk); (try clear hi)))
                              go_ret
                              exact ⟨by first | rfl | (simp [errW_none, errW_some] <;> rfl) | (simp only [← hji49, ← hji51]; first | rfl | (simp [errW_none, errW_some] <;> rfl)) | (simp [*, errW_none, errW_some] <;> rfl), hbA HB.out⟩
                            · rw [if_neg c54] at H
                              have c54b0 : (t488 == 0) = false := beq_eq_false_iff_ne.mpr c54
                              have c54b1 : (t488 != 0) = true := bne_iff_ne.mpr c54
                              have H' := Aside0.mk H
                              clear H
                              obtain ⟨Ao60, co60, eo60⟩ := Kd.R_slice HO_13.out
                              subst eo60
                              try go_wp2
                              replace HO_13 := Aside0.mk (Kd.R_drew HO_13.out)
                              replace BK466 := Aside0.mk (blk_drew BK466.out)
                              replace HB := Aside0.mk (below_drew1 HB.out)
                              have p486 : 0 ≤ (x14_3 : Int) := of_decide_eq_true asE
                              have q486 : x14_3 < (t483.length : Int) := of_decide_eq_true asE
                              obtain ⟨ad486, e486, hx486_0⟩ := Kd.at_int (Kd.R_reads' HO_13.out).2.2 x14_3 p486 q486
                              cases e486
                              replace p486 := eq_true p486
                              replace q486 := eq_true q486
                              refine start_ (n := 15) (S := fun w' => w'.cell? ⟨gb466, 0, none⟩ = some (.int .i64 a0_0) ∧ w'.cell? ⟨gb466, 1, none⟩ = some (.int .i64 a0_1) ∧ w'.cell? ⟨gb466, 2, none⟩ = some (.slice A0_2 l0_2.length c0_2) ∧ w'.cell? (ad486.add (x14_3).toNat) = some (.int .i64 (rd t483 x14_3))) (ds := []) (.replicate 15 false) (by kernel_rfl) rfl rfl ⟨(blk_cell BK466.out 0).trans rfl, (blk_cell BK466.out 1).trans rfl, (blk_cell BK466.out 2).trans rfl, hx486_0⟩ (fun hHeld => ?_); refine with_tabW recouplaw07_MatroidGrows.tab14 recouplaw07_MatroidGrows.bits14 (fun HT_ HW_ => ?_)
                              generalize wr.drew = w61 at HO_13 BK466 HB hx486_0 hHeld ⊢
                              refine pu 1 (some 75) (mB 15 2) HT_ ?_
                              refine pu 2 (some 76) (mB 15 6) HT_ ?_
                              refine pu 3 (some 77) (mB 15 14) HT_ ?_
                              refine pu 4 (some 78) (mB 15 30) HT_ ?_
                              refine tk4 0 (some 74) (mB 15 31) HT_ HW_ hHeld ?_
                              refine tk4 5 (some 79) (mB 15 63) HT_ HW_ hHeld ?_
                              refine pu 6 (some 80) (mB 15 127) HT_ ?_
                              refine pu 7 (some 81) (mB 15 255) HT_ ?_
                              refine pu 8 (some 82) (mB 15 511) HT_ ?_
                              refine one_ (i := 9) (N := some 83) (mB 15 1023) rfl rfl (one_of HT_.out (by kernel_rfl)) (by decide) (fun K hK => ?_)
                              refine goes_ Tryd.func14 (by kernel_rfl) rfl #[.agg #[.int .i64 a0_0, .int .i64 a0_1, .slice A0_2 l0_2.length c0_2], .int .u64 (Go.bits .or .u64 t472 (ji51))] (by rfl) rfl rfl (by (try simp only [List.map_toArray, List.map_cons, List.map_nil]); first | done | (simp only [hji51]; rfl) | rfl | (simp only [List.length_drop, List.length_take]; rfl)) ?_
                              with_reducible refine (matroid_Free.calls k3 a0_0 a0_1 _ _ l0_2 (Go.bits .or .u64 t472 (ji51)) true t488 _ ?side1 ?side2 A52.out (tab_below HT.out (by repeat (first | (with_reducible first | exact HB.out | apply below_alloc | apply pw_below_drewN | apply below_drew1) | exact HB.out | exact Below.refl _ _)))).mono ?_
                              (case side1 => exact kcB HR0_2 HB)
                              (case side2 => exact HC0_2.out)
                              rintro e w62 ⟨rfl, hb⟩
                              have HS3_ := (hb.cell (World.block_lt_of_cell? _ _ (hHeld.2.2.2))).trans (hHeld.2.2.2)
                              refine ⟨_, rfl, ?_⟩
                              replace HO_13 := kdB HO_13 hb
                              replace BK466 := bkB BK466 hb
                              replace HB := hbB HB hb
                              (try clear hb)
                              (try clear hb2)
                              (try clear hk)
                              (try clear hi)
                              refine hK.out _ _ ⟨(blk_cell BK466.out 0).trans rfl, (blk_cell BK466.out 1).trans rfl, (blk_cell BK466.out 2).trans rfl, HS3_⟩ (fun hHeld => ?_)
                              clear hK K
                              refine norm_ (a' := ?_) ?_ ?_
                              rotate_left
                              · show Act.put _ (some 83) _ = _
                                simp only [Act.put, List.setIfInBounds_toArray, List.set_cons_zero, List.set_cons_succ, i64_w, i32_w]
                                rfl
                              refine pu 10 (some 73) (mB 15 2047) HT_ ?_
                              refine pu 11 (some 84) (mB 15 4095) HT_ ?_
                              refine pu 12 (some 85) (mB 15 8191) HT_ ?_
                              refine pu 13 (some 15) (mB 15 16383) HT_ ?_
                              refine pu 14 (some 16) (mB 15 32767) HT_ ?_
                              refine done_ (done_of HT_.out (by kernel_rfl)) ?_
                              try go_wp2
                              go_roundg k3
                              case measure => have := HJ3.out; have := HJ24.out; have := HK3.out; omega
                              case rel => exact ⟨(wrap64 (x14_3 + 1)), rsE, H', ⟨by have := HJ3.out; have := HJ24.out; have := HK3.out; omega⟩, ⟨kdA HO_13.out⟩, ⟨bkA BK466.out⟩, ⟨hbA HB.out⟩⟩
                          · replace c53 := Bool.eq_false_iff.mpr c53
                            subst c53
                            rw [if_neg nofT] at H
                            have H' := Aside0.mk H
                            clear H
                            obtain ⟨Ao63, co63, eo63⟩ := Kd.R_slice HO_13.out
                            subst eo63
                            try go_wp2
                            replace HO_13 := Aside0.mk (Kd.R_drew HO_13.out)
                            replace BK466 := Aside0.mk (blk_drew BK466.out)
                            replace HB := Aside0.mk (below_drew1 HB.out)
                            have p486 : 0 ≤ (x14_3 : Int) := of_decide_eq_true asE
                            have q486 : x14_3 < (t483.length : Int) := of_decide_eq_true asE
                            obtain ⟨ad486, e486, hx486_0⟩ := Kd.at_int (Kd.R_reads' HO_13.out).2.2 x14_3 p486 q486
                            cases e486
                            replace p486 := eq_true p486
                            replace q486 := eq_true q486
                            refine start_ (n := 15) (S := fun w' => w'.cell? ⟨gb466, 0, none⟩ = some (.int .i64 a0_0) ∧ w'.cell? ⟨gb466, 1, none⟩ = some (.int .i64 a0_1) ∧ w'.cell? ⟨gb466, 2, none⟩ = some (.slice A0_2 l0_2.length c0_2) ∧ w'.cell? (ad486.add (x14_3).toNat) = some (.int .i64 (rd t483 x14_3))) (ds := []) (.replicate 15 false) (by kernel_rfl) rfl rfl ⟨(blk_cell BK466.out 0).trans rfl, (blk_cell BK466.out 1).trans rfl, (blk_cell BK466.out 2).trans rfl, hx486_0⟩ (fun hHeld => ?_); refine with_tabW recouplaw07_MatroidGrows.tab14 recouplaw07_MatroidGrows.bits14 (fun HT_ HW_ => ?_)
                            generalize wr.drew = w64 at HO_13 BK466 HB hx486_0 hHeld ⊢
                            refine pu 1 (some 75) (mB 15 2) HT_ ?_
                            refine pu 2 (some 76) (mB 15 6) HT_ ?_
                            refine pu 3 (some 77) (mB 15 14) HT_ ?_
                            refine pu 4 (some 78) (mB 15 30) HT_ ?_
                            refine tk4 0 (some 74) (mB 15 31) HT_ HW_ hHeld ?_
                            refine tk4 5 (some 79) (mB 15 63) HT_ HW_ hHeld ?_
                            refine pu 6 (some 80) (mB 15 127) HT_ ?_
                            refine pu 7 (some 81) (mB 15 255) HT_ ?_
                            refine pu 8 (some 82) (mB 15 511) HT_ ?_
                            refine one_ (i := 9) (N := some 83) (mB 15 1023) rfl rfl (one_of HT_.out (by kernel_rfl)) (by decide) (fun K hK => ?_)
                            refine goes_ Tryd.func14 (by kernel_rfl) rfl #[.agg #[.int .i64 a0_0, .int .i64 a0_1, .slice A0_2 l0_2.length c0_2], .int .u64 (Go.bits .or .u64 t472 (ji51))] (by rfl) rfl rfl (by (try simp only [List.map_toArray, List.map_cons, List.map_nil]); first | done | (simp only [hji51]; rfl) | rfl | (simp only [List.length_drop, List.length_take]; rfl)) ?_
                            with_reducible refine (matroid_Free.calls k3 a0_0 a0_1 _ _ l0_2 (Go.bits .or .u64 t472 (ji51)) false t488 _ ?side1 ?side2 A52.out (tab_below HT.out (by repeat (first | (with_reducible first | exact HB.out | apply below_alloc | apply pw_below_drewN | apply below_drew1) | exact HB.out | exact Below.refl _ _)))).mono ?_
                            (case side1 => exact kcB HR0_2 HB)
                            (case side2 => exact HC0_2.out)
                            rintro e w65 ⟨rfl, hb⟩
                            have HS3_ := (hb.cell (World.block_lt_of_cell? _ _ (hHeld.2.2.2))).trans (hHeld.2.2.2)
                            refine ⟨_, rfl, ?_⟩
                            replace HO_13 := kdB HO_13 hb
                            replace BK466 := bkB BK466 hb
                            replace HB := hbB HB hb
                            (try clear hb)
                            (try clear hb2)
                            (try clear hk)
                            (try clear hi)
                            refine hK.out _ _ ⟨(blk_cell BK466.out 0).trans rfl, (blk_cell BK466.out 1).trans rfl, (blk_cell BK466.out 2).trans rfl, HS3_⟩ (fun hHeld => ?_)
                            clear hK K
                            refine norm_ (a' := ?_) ?_ ?_
                            rotate_left
                            · show Act.put _ (some 83) _ = _
                              simp only [Act.put, List.setIfInBounds_toArray, List.set_cons_zero, List.set_cons_succ, i64_w, i32_w]
                              rfl
                            refine pu 10 (some 73) (mB 15 2047) HT_ ?_
                            refine pu 11 (some 84) (mB 15 4095) HT_ ?_
                            refine pu 12 (some 85) (mB 15 8191) HT_ ?_
                            refine pu 13 (some 15) (mB 15 16383) HT_ ?_
                            refine pu 14 (some 16) (mB 15 32767) HT_ ?_
                            refine done_ (done_of HT_.out (by kernel_rfl)) ?_
                            try go_wp2
                            go_roundg k3
                            case measure => have := HJ3.out; have := HJ24.out; have := HK3.out; omega
                            case rel => exact ⟨(wrap64 (x14_3 + 1)), rsE, H', ⟨by have := HJ3.out; have := HJ24.out; have := HK3.out; omega⟩, ⟨kdA HO_13.out⟩, ⟨bkA BK466.out⟩, ⟨hbA HB.out⟩⟩
                        · rw [if_neg c50] at H
                          exact absurd H (by simp)
                      · rw [if_neg c48] at H
                        exact absurd H (by simp)
                    · rw [if_neg c47] at H
                      have c47b0 : decide (x14_3 < (t483.length : Int)) = false := decide_eq_false c47
                      clear c47
                      obtain rfl := Option.some.inj H
                      obtain ⟨Ao66, co66, eo66⟩ := Kd.R_slice HO_13.out
                      subst eo66
                      go_wp2
                      go_ret
                      exact ⟨rfE, hbA HB.out⟩

end Go.Proofs.YthjncmdlhmppiaaDoor.Q
