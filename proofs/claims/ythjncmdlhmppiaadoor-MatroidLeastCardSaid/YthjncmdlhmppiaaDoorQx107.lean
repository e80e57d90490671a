/- Written by drive.py (a program of this repo, over the kit's print): each Go function named here answers what the Lean function beside it answers, wherever that one answers, in every world that meets the stated premises. -/
import Derived.Test.YthjncmdlhmppiaaDoorQx0
import Derived.Test.YthjncmdlhmppiaaDoorQx119
import Derived.Test.YthjncmdlhmppiaaDoorQx121
import Derived.Test.YthjncmdlhmppiaaDoorQx124
import Derived.Test.YthjncmdlhmppiaaDoorQx126
import Derived.Test.YthjncmdlhmppiaaDoorQx127
import Derived.Test.YthjncmdlhmppiaaDoorQx135
import Derived.Test.YthjncmdlhmppiaaDoorQx137
namespace Go.Proofs.YthjncmdlhmppiaaDoor.Q
open Go.RowKit Go.Proofs.YthjncmdlhmppiaaDoorW.PrintWords Go.Proofs.YthjncmdlhmppiaaDoorW.PrintLast Go.Proofs.YthjncmdlhmppiaaDoorW.PrintMore
attribute [local go_sem] max2_int min2_int max_two min_two max_three min_three max_four min_four   -- for this text's walks alone
set_option linter.unusedVariables false
set_option linter.unusedSimpArgs false

/-! ### recouplaw07_MatroidLeast: function 7 -/
theorem tbL {g : Nat} {tab : List Nat} {w W0 W : World} (h : TabAt g tab w) (B : Aside0 (Below w.heap.size w W0)) (k : Below w.heap.size w W0 → Below w.heap.size w W := by intro h_; repeat (first | (with_reducible first | exact h_ | apply below_alloc | apply pw_below_drewN | apply below_drew1) | exact h_)) : TabAt g tab W := tab_below h (k B.out)
mutual
def recouplaw07_MatroidLeast.j0 : Nat → Int → Int → Bool → Int → Int → List Int → Option (Bool)
  | 0, _, _, _, _, _, _ => none
  | k + 1, x1, x2, x30, x445000, x445001, x445002 => if x30 = true then ((recouplaw07_anchored.f k).bind fun t446 => (some t446)) else (if 0 ≤ x1 then ((recoupref07_Basis.f k x445000 x445001 x445002 (Go.bits .andNot .u64 x2 (shl .u64 1 x1))).bind fun bt447 => ((matroid_Circuit.f k x445000 x445001 x445002 (wrap64 (x1)) bt447.1).bind fun bt449 => ((recoupref07_Span.f k x445000 x445001 x445002 bt447.1).bind fun bt452 => (if bt449.2.2 = 0 then ((recoupref06_Has.f bt452.1 (wrap64 (x1))).bind fun t454 => (recouplaw07_MatroidLeast.j1 k x1 bt447.1 bt449.1 bt449.2.1 (bt449.2.1 != t454) x445000 x445001 x445002)) else (recouplaw07_MatroidLeast.j1 k x1 bt447.1 bt449.1 bt449.2.1 true x445000 x445001 x445002))))) else (none))
def recouplaw07_MatroidLeast.j1 : Nat → Int → Int → Int → Bool → Bool → Int → Int → List Int → Option (Bool)
  | 0, _, _, _, _, _, _, _, _ => none
  | k + 1, x1, x7, x9, x10, x65, x445000, x445001, x445002 => if x65 = true then (some false) else (if x10 = true then ((matroid_Free.f k x445000 x445001 x445002 x9).bind fun bt456 => (if bt456.1 = true then (recouplaw07_MatroidLeast.j2 k x9 true x445000 x445001 x445002) else (if bt456.2 = 0 then ((recoupref06_Has.f x9 (wrap64 (x1))).bind fun t458 => (if t458 = true then (if 0 ≤ x1 then (recouplaw07_MatroidLeast.j2 k x9 ((Go.bits .andNot .u64 x9 (Go.bits .or .u64 x7 (shl .u64 1 x1))) != 0) x445000 x445001 x445002) else (none)) else (recouplaw07_MatroidLeast.j2 k x9 true x445000 x445001 x445002))) else (recouplaw07_MatroidLeast.j2 k x9 true x445000 x445001 x445002)))) else ((recouplaw07_anchored.f k).bind fun t455 => (if t455 = true then (some (x9 == 0)) else (some false))))
def recouplaw07_MatroidLeast.j2 : Nat → Int → Bool → Int → Int → List Int → Option (Bool)
  | 0, _, _, _, _, _ => none
  | k + 1, x9, x99, x445000, x445001, x445002 => if x99 = true then (some false) else ((recoupref06_List.f k x9).bind fun t459 => (recouplaw07_MatroidLeast.l0 k x9 t459 0 x445000 x445001 x445002))
def recouplaw07_MatroidLeast.l0 : Nat → Int → List Int → Int → Int → Int → List Int → Option (Bool)
  | 0, _, _, _, _, _, _ => none
  | k + 1, x9, x16, x17, x445000, x445001, x445002 => if x17 < (x16.length : Int) then (if 0 ≤ x17 then (if 0 ≤ (IntKind.u64.wrap (rd x16 x17)) then ((matroid_Free.f k x445000 x445001 x445002 (Go.bits .andNot .u64 x9 (shl .u64 1 (IntKind.u64.wrap (rd x16 x17))))).bind fun bt463 => (if bt463.1 = true then (if bt463.2 = 0 then (recouplaw07_MatroidLeast.l0 k x9 x16 (wrap64 (x17 + 1)) x445000 x445001 x445002) else (some false)) else (some false))) else (none)) else (none)) else ((recouplaw07_anchored.f k).bind fun t465 => (some t465))
end
def recouplaw07_MatroidLeast.f (k : Nat) (a0_0 : Int) (a0_1 : Int) (l0_2 : List Int) (a1 : Int) (a2 : Int) : Option (Bool) := (recouplaw07_right.f k a0_0 a0_1 l0_2 a2).bind fun t445 => (if t445 = true then (recouplaw07_MatroidLeast.j0 k a1 a2 (decide ((wrap64 (a1)) ≥ a0_0)) a0_0 a0_1 l0_2) else (recouplaw07_MatroidLeast.j0 k a1 a2 true a0_0 a0_1 l0_2))
theorem recouplaw07_MatroidLeast.mono_l : ∀ k, (∀ y0 y1 y2 y3 y4 y5, LeO (recouplaw07_MatroidLeast.j0 k y0 y1 y2 y3 y4 y5) (recouplaw07_MatroidLeast.j0 (k + 1) y0 y1 y2 y3 y4 y5)) ∧ (∀ y0 y1 y2 y3 y4 y5 y6 y7, LeO (recouplaw07_MatroidLeast.j1 k y0 y1 y2 y3 y4 y5 y6 y7) (recouplaw07_MatroidLeast.j1 (k + 1) y0 y1 y2 y3 y4 y5 y6 y7)) ∧ (∀ y0 y1 y2 y3 y4, LeO (recouplaw07_MatroidLeast.j2 k y0 y1 y2 y3 y4) (recouplaw07_MatroidLeast.j2 (k + 1) y0 y1 y2 y3 y4)) ∧ (∀ y0 y1 y2 y3 y4 y5, LeO (recouplaw07_MatroidLeast.l0 k y0 y1 y2 y3 y4 y5) (recouplaw07_MatroidLeast.l0 (k + 1) y0 y1 y2 y3 y4 y5))
  | 0 => ⟨fun _ _ _ _ _ _ r h => by simp [recouplaw07_MatroidLeast.j0] at h, fun _ _ _ _ _ _ _ _ r h => by simp [recouplaw07_MatroidLeast.j1] at h, fun _ _ _ _ _ r h => by simp [recouplaw07_MatroidLeast.j2] at h, fun _ _ _ _ _ _ r h => by simp [recouplaw07_MatroidLeast.l0] at h⟩
  | k + 1 => by
    obtain ⟨ih0, ih1, ih2, ih3⟩ := recouplaw07_MatroidLeast.mono_l k
    refine ⟨?_, ?_, ?_, ?_⟩
    all_goals (intros; first | unfold recouplaw07_MatroidLeast.j0 | unfold recouplaw07_MatroidLeast.j1 | unfold recouplaw07_MatroidLeast.j2 | unfold recouplaw07_MatroidLeast.l0)
    all_goals repeat' first | (with_reducible exact ih0 _ _ _ _ _ _) | (with_reducible exact ih1 _ _ _ _ _ _ _ _) | (with_reducible exact ih2 _ _ _ _ _) | (with_reducible exact ih3 _ _ _ _ _ _) | (with_reducible exact matroid_Circuit.mono _ _ _ _ _ _) | (with_reducible exact matroid_Free.mono _ _ _ _ _) | (with_reducible exact recouplaw07_anchored.mono _) | (with_reducible exact recouplaw07_right.mono _ _ _ _ _) | (with_reducible exact recoupref06_List.mono _ _) | (with_reducible exact recoupref07_Basis.mono _ _ _ _ _) | (with_reducible exact recoupref07_Span.mono _ _ _ _ _) | (with_reducible exact LeO.refl _) | (with_reducible exact LeO.none _) | (with_reducible refine LeO.ite ?_ ?_) | (with_reducible refine LeO.bind ?_ (fun _ => ?_)) | exact ih0 _ _ _ _ _ _ | exact ih1 _ _ _ _ _ _ _ _ | exact ih2 _ _ _ _ _ | exact ih3 _ _ _ _ _ _ | exact matroid_Circuit.mono _ _ _ _ _ _ | exact matroid_Free.mono _ _ _ _ _ | exact recouplaw07_anchored.mono _ | exact recouplaw07_right.mono _ _ _ _ _ | exact recoupref06_List.mono _ _ | exact recoupref07_Basis.mono _ _ _ _ _ | exact recoupref07_Span.mono _ _ _ _ _ | exact LeO.none _ | refine LeO.ite ?_ ?_ | refine LeO.bind ?_ (fun _ => ?_)
theorem recouplaw07_MatroidLeast.mono : ∀ a0 a1 a2 a3 a4 k, LeO (recouplaw07_MatroidLeast.f k a0 a1 a2 a3 a4) (recouplaw07_MatroidLeast.f (k + 1) a0 a1 a2 a3 a4) := by
  intro a0 a1 a2 a3 a4 k
  obtain ⟨ih0, ih1, ih2, ih3⟩ := recouplaw07_MatroidLeast.mono_l k
  unfold recouplaw07_MatroidLeast.f
  repeat' first
      | (with_reducible exact ih0 _ _ _ _ _ _)
      | (with_reducible exact ih1 _ _ _ _ _ _ _ _)
      | (with_reducible exact ih2 _ _ _ _ _)
      | (with_reducible exact ih3 _ _ _ _ _ _)
      | (with_reducible exact matroid_Circuit.mono _ _ _ _ _ _)
      | (with_reducible exact matroid_Free.mono _ _ _ _ _)
      | (with_reducible exact recouplaw07_anchored.mono _)
      | (with_reducible exact recouplaw07_right.mono _ _ _ _ _)
      | (with_reducible exact recoupref06_List.mono _ _)
      | (with_reducible exact recoupref07_Basis.mono _ _ _ _ _)
      | (with_reducible exact recoupref07_Span.mono _ _ _ _ _)
      | (with_reducible exact LeO.refl _)
      | (with_reducible exact LeO.none _)
      | (with_reducible refine LeO.ite ?_ ?_)
      | (with_reducible refine LeO.bind ?_ (fun _ => ?_))
      | exact ih0 _ _ _ _ _ _
      | exact ih1 _ _ _ _ _ _ _ _
      | exact ih2 _ _ _ _ _
      | exact ih3 _ _ _ _ _ _
      | exact matroid_Circuit.mono _ _ _ _ _ _
      | exact matroid_Free.mono _ _ _ _ _
      | exact recouplaw07_anchored.mono _
      | exact recouplaw07_right.mono _ _ _ _ _
      | exact recoupref06_List.mono _ _
      | exact recoupref07_Basis.mono _ _ _ _ _
      | exact recoupref07_Span.mono _ _ _ _ _
      | exact LeO.none _
      | refine LeO.ite ?_ ?_
      | refine LeO.bind ?_ (fun _ => ?_)
def recouplaw07_MatroidLeast.T17 : Bool × List (List Nat × List Nat) := (true, [([], []), ([], []), ([], []), ([], []), ([2, 3], [2, 3]), ([4], [4]), ([5], [5]), ([6], [6]), ([1, 7], [1, 7]), ([0, 8], [0, 8]), ([9], [9]), ([10], [10]), ([10], [10]), ([11, 9, 0, 1, 2, 3, 4, 5, 6, 7, 8, 9, 10, 11], [11]), ([12, 13, 0, 1, 2, 3, 4, 5, 6, 7, 8, 9, 10, 11, 12, 13], [12])])
def recouplaw07_MatroidLeast.B17 : List Nat := [0, 0, 0, 0, 12, 28, 60, 124, 254, 511, 1023, 2047, 2047, 4095, 16383]
theorem recouplaw07_MatroidLeast.tab17 : rtab .any (opsOf Tryd.f7 17) = recouplaw07_MatroidLeast.T17 := by kernel_rfl
theorem recouplaw07_MatroidLeast.bits17 : waitsOk recouplaw07_MatroidLeast.T17.2 recouplaw07_MatroidLeast.B17 = true := by kernel_rfl
set_option maxHeartbeats 8000000 in
set_option maxRecDepth 100000 in
theorem recouplaw07_MatroidLeast.calls (k : Nat) (a0_0 : Int) (a0_1 : Int) (A0_2 : Option Addr) (c0_2 : Nat) (l0_2 : List Int) (a1 : Int) (a2 : Int) (r : Bool) (w : World) (hr0_2 : Kd.C (Kd.int .u8) w A0_2 l0_2.length l0_2) (hc0_2 : l0_2.length ≤ c0_2) (h : recouplaw07_MatroidLeast.f k a0_0 a0_1 l0_2 a1 a2 = some r) (hT : TabAt 0 Lib.deBruijn64tab w) :
    Calls Tryd.prog 7 #[.agg #[.int .i64 a0_0, .int .i64 a0_1, .slice A0_2 l0_2.length c0_2], .int .u8 a1, .int .u64 a2] w fun e w' => e = .returned (.bool r) ∧ Below w.heap.size w w' := by
  have HT := Aside0.mk hT
  clear hT
  have hu24 := Tryd.underlying24
  have HR0_2 := Aside0.mk hr0_2
  have HC0_2 := Aside0.mk hc0_2
  clear hr0_2 hc0_2
  have HB := Aside0.mk (Below.refl w.heap.size w)
  have H : ((recouplaw07_right.f k a0_0 a0_1 l0_2 a2).bind fun t445 => (if t445 = true then (recouplaw07_MatroidLeast.j0 k a1 a2 (decide ((wrap64 (a1)) ≥ a0_0)) a0_0 a0_1 l0_2) else (recouplaw07_MatroidLeast.j0 k a1 a2 true a0_0 a0_1 l0_2))) = some r := h
  clear h
  have HC4 := Aside0.mk H
  clear H
  go_enter Tryd.func7, Tryd.ntmps7
  go_upto_region 1 with (first | ((with_reducible refine gD 3 rfl ?_); refine bE 3 #[.int .i64 a0_0, .int .i64 a0_1, .slice A0_2 l0_2.length c0_2] 24 ?_; intro gb444 hg w5 hbox hb; have BK444 := Aside0.mk (hbox); have GW444 := hbS HB hg; have GE444 := hbS HB hg; replace HB := hbB HB hb; clear hb hbox hg))
  (try simp only [Act.put, List.setIfInBounds_toArray, List.set_cons_zero, List.set_cons_succ])
  go_cut [30] (fun v30 wc => ∃ (kq : Nat) (x30_3 : Bool), v30 = .bool x30_3 ∧ Aside0 (recouplaw07_MatroidLeast.j0 kq a1 a2 x30_3 a0_0 a0_1 l0_2 = some r) ∧ Aside0 (kq ≤ k) ∧ Aside0 (wc.heap[gb444]? = some (.cells #[.int .i64 a0_0, .int .i64 a0_1, (.slice A0_2 l0_2.length c0_2)] 24 (0, 0))) ∧ Aside0 (Below w.heap.size w wc))
  case first =>
    have H := HC4.out
    clear HC4
    obtain ⟨t445, A6, H⟩ := bindO H
    (try dsimp only at H)
    by_cases c7 : t445 = true
    · subst c7
      rw [if_pos rfl] at H
      have H' := Aside0.mk H
      clear H
      obtain ⟨hcz8_0, hcz8_1, hcz8_2, hfz8_0, hfz8_1, hfz8_2⟩ := cell3 BK444
      go_wp2_with (first | ((with_reducible refine gC 26 rfl ?_); refine cG (some 22) Tryd.func26 #[.agg #[.int .i64 a0_0, .int .i64 a0_1, .slice A0_2 l0_2.length c0_2], .int .u64 a2] ?_; (with_reducible refine (recouplaw07_right.calls k a0_0 a0_1 _ _ l0_2 a2 true _ ?side1 ?side2 A6.out).mono ?_); (case side1 => exact kcB HR0_2 HB); (case side2 => exact HC0_2.out); rintro e w9 ⟨rfl, hb⟩; refine ⟨_, rfl, ?_⟩; replace BK444 := bkB BK444 hb; replace HB := hbB HB hb; (try clear hb); (try clear hb2); (try clear hk); (try clear hi); obtain ⟨hcz10_0, hcz10_1, hcz10_2, hfz10_0, hfz10_1, hfz10_2⟩ := cell3 BK444))
      go_meet
      case rel => exact ⟨_, (decide ((wrap64 (a1)) ≥ a0_0)), rsE, H', ⟨leE⟩, ⟨bkA BK444.out⟩, ⟨hbA HB.out⟩⟩
    · replace c7 := Bool.eq_false_iff.mpr c7
      subst c7
      rw [if_neg nofT] at H
      have H' := Aside0.mk H
      clear H
      obtain ⟨hcz11_0, hcz11_1, hcz11_2, hfz11_0, hfz11_1, hfz11_2⟩ := cell3 BK444
      go_wp2_with (first | ((with_reducible refine gC 26 rfl ?_); refine cG (some 22) Tryd.func26 #[.agg #[.int .i64 a0_0, .int .i64 a0_1, .slice A0_2 l0_2.length c0_2], .int .u64 a2] ?_; (with_reducible refine (recouplaw07_right.calls k a0_0 a0_1 _ _ l0_2 a2 false _ ?side1 ?side2 A6.out).mono ?_); (case side1 => exact kcB HR0_2 HB); (case side2 => exact HC0_2.out); rintro e w12 ⟨rfl, hb⟩; refine ⟨_, rfl, ?_⟩; replace BK444 := bkB BK444 hb; replace HB := hbB HB hb; (try clear hb); (try clear hb2); (try clear hk); (try clear hi)))
      go_meet
      case rel => exact ⟨_, (true), rsE, H', ⟨leE⟩, ⟨bkA BK444.out⟩, ⟨hbA HB.out⟩⟩
  case rest =>
    clear HC4
    (try clear c2); (try clear p2); (try clear p6); (try clear c7); (try clear hcz10_0 hcz10_1 hcz10_2 hfz10_0 hfz10_1 hfz10_2); (try clear hcz11_0 hcz11_1 hcz11_2 hfz11_0 hfz11_1 hfz11_2); (try clear hcz8_0 hcz8_1 hcz8_2 hfz8_0 hfz8_1 hfz8_2)
    obtain ⟨kq, x30_3, rfl, HA, HJ3, BK444, HB⟩ := hcut
    cases kq with
    | zero => exact absurd HA.out (by simp [recouplaw07_MatroidLeast.j0])
    | succ kj3 =>
      have H := HA.out
      clear HA
      simp only [recouplaw07_MatroidLeast.j0] at H
      by_cases c13 : x30_3 = true
      · subst c13
        rw [if_pos rfl] at H
        obtain ⟨t446, A14, H⟩ := bindO H
        (try dsimp only at H)
        obtain rfl := Option.some.inj H
        go_wp2_with (first | ((with_reducible refine gC 27 rfl ?_); refine cG (some 31) Tryd.func27 #[] ?_; (with_reducible refine (recouplaw07_anchored.calls kj3  t446 _ A14.out (tbL HT.out HB)).mono ?_); rintro e w15 ⟨rfl, hb⟩; refine ⟨_, rfl, ?_⟩; replace BK444 := bkB BK444 hb; replace HB := hbB HB hb; (try clear hb); (try clear hb2); (try clear hk); (try clear hi)))
        go_ret
        exact ⟨rfE, hbA HB.out⟩
      · replace c13 := Bool.eq_false_iff.mpr c13
        subst c13
        rw [if_neg nofT] at H
        by_cases c16 : 0 ≤ a1
        · rw [if_pos c16] at H
          have c16b0 := eq_true c16
          have c16b1 : decide (0 ≤ a1) = true := decide_eq_true c16
          clear c16
          obtain ⟨ji17, hji17⟩ : ∃ j_ : Int, (shl .u64 1 a1) = j_ := ⟨_, rfl⟩
          replace H : ((recoupref07_Basis.f kj3 a0_0 a0_1 l0_2 (Go.bits .andNot .u64 a2 (ji17))).bind fun bt447 => ((matroid_Circuit.f kj3 a0_0 a0_1 l0_2 (wrap64 (a1)) bt447.1).bind fun bt449 => ((recoupref07_Span.f kj3 a0_0 a0_1 l0_2 bt447.1).bind fun bt452 => (if bt449.2.2 = 0 then ((recoupref06_Has.f bt452.1 (wrap64 (a1))).bind fun t454 => (recouplaw07_MatroidLeast.j1 kj3 a1 bt447.1 bt449.1 bt449.2.1 (bt449.2.1 != t454) a0_0 a0_1 l0_2)) else (recouplaw07_MatroidLeast.j1 kj3 a1 bt447.1 bt449.1 bt449.2.1 true a0_0 a0_1 l0_2))))) = some r := by first | (rw [hji17] at H; exact H) | (simp only [hji17] at H ⊢; exact H)
          have hji17_ : (IntKind.u64.wrap (1 * 2 ^ min a1.toNat 64)) = ji17 := hji17
          have hji17z : a1 ≤ 64 → (IntKind.u64.wrap (1 * 2 ^ a1.toNat)) = ji17 := shl_small hji17
          have hji17u : (IntKind.u64.wrap (2 ^ min a1.toNat 64)) = ji17 := by have h_ := hji17_; rw [Int.one_mul] at h_; exact h_
          have hji17v : a1 ≤ 64 → (IntKind.u64.wrap (2 ^ a1.toNat)) = ji17 := fun hle_ => by have h_ := hji17z hle_; rw [Int.one_mul] at h_; exact h_
          obtain ⟨⟨t447, t448⟩, A18, H⟩ := bindO H
          (try dsimp only at H)
          obtain ⟨⟨t449, t450, t451⟩, A19, H⟩ := bindO H
          (try dsimp only at H)
          obtain ⟨⟨t452, t453⟩, A20, H⟩ := bindO H
          (try dsimp only at H)
          have HC21 := Aside0.mk H
          clear H
          obtain ⟨hcz22_0, hcz22_1, hcz22_2, hfz22_0, hfz22_1, hfz22_2⟩ := cell3 BK444
          go_upto_region 6 with (first | ((with_reducible refine gC 21 rfl ?_); refine goesL_ (some 38) rfl rfl Tryd.func21 (by kernel_rfl) rfl #[.agg #[.int .i64 a0_0, .int .i64 a0_1, .slice A0_2 l0_2.length c0_2], .int .u64 (Go.bits .andNot .u64 a2 (ji17))] rfl (by (try simp only [List.map_toArray, List.map_cons, List.map_nil]); first | done | (simp only [hji17]; rfl) | rfl | (simp only [List.length_drop, List.length_take]; rfl)) ?_; (with_reducible refine (recoupref07_Basis.calls kj3 a0_0 a0_1 _ _ l0_2 (Go.bits .andNot .u64 a2 (ji17)) t447 t448 _ ?side1 ?side2 A18.out).mono ?_); (case side1 => exact kcB HR0_2 HB); (case side2 => exact HC0_2.out); rintro e w23 ⟨rfl, hb⟩; refine ⟨_, rfl, ?_⟩; replace BK444 := bkB BK444 hb; replace HB := hbB HB hb; (try clear hb); (try clear hb2); (try clear hk); (try clear hi); obtain ⟨hcz24_0, hcz24_1, hcz24_2, hfz24_0, hfz24_1, hfz24_2⟩ := cell3 BK444) | ((with_reducible refine gC 24 rfl ?_); refine cG (some 46) Tryd.func24 #[.agg #[.int .i64 a0_0, .int .i64 a0_1, .slice A0_2 l0_2.length c0_2], .int .i64 (wrap64 (a1)), .int .u64 t447] ?_; (with_reducible refine (matroid_Circuit.calls kj3 a0_0 a0_1 _ _ l0_2 (wrap64 (a1)) t447 t449 t450 t451 _ ?side1 ?side2 A19.out (tbL HT.out HB)).mono ?_); (case side1 => exact kcB HR0_2 HB); (case side2 => exact HC0_2.out); rintro e w25 ⟨rfl, hb⟩; refine ⟨_, rfl, ?_⟩; replace BK444 := bkB BK444 hb; replace HB := hbB HB hb; (try clear hb); (try clear hb2); (try clear hk); (try clear hi); obtain ⟨hcz26_0, hcz26_1, hcz26_2, hfz26_0, hfz26_1, hfz26_2⟩ := cell3 BK444) | ((with_reducible refine gC 19 rfl ?_); refine cG (some 53) Tryd.func19 #[.agg #[.int .i64 a0_0, .int .i64 a0_1, .slice A0_2 l0_2.length c0_2], .int .u64 t447] ?_; (with_reducible refine (recoupref07_Span.calls kj3 a0_0 a0_1 _ _ l0_2 t447 t452 t453 _ ?side1 ?side2 A20.out).mono ?_); (case side1 => exact kcB HR0_2 HB); (case side2 => exact HC0_2.out); rintro e w27 ⟨rfl, hb⟩; refine ⟨_, rfl, ?_⟩; replace BK444 := bkB BK444 hb; replace HB := hbB HB hb; (try clear hb); (try clear hb2); (try clear hk); (try clear hi)))
          (try simp only [Act.put, List.setIfInBounds_toArray, List.set_cons_zero, List.set_cons_succ])
          go_cut [65] (fun v65 wc => ∃ (kq : Nat) (x65_20 : Bool), v65 = .bool x65_20 ∧ Aside0 (recouplaw07_MatroidLeast.j1 kq a1 t447 t449 t450 x65_20 a0_0 a0_1 l0_2 = some r) ∧ Aside0 (kq ≤ kj3) ∧ Aside0 (wc.heap[gb444]? = some (.cells #[.int .i64 a0_0, .int .i64 a0_1, (.slice A0_2 l0_2.length c0_2)] 24 (0, 0))) ∧ Aside0 (Below w.heap.size w wc))
          case first =>
            have H := HC21.out
            clear HC21
            by_cases c28 : t451 = 0
            · rw [if_pos c28] at H
              have c28b0 : (t451 == 0) = true := beq_iff_eq.mpr c28
              have c28b1 : (t451 != 0) = false := bne_eq_false_iff_eq.mpr c28
              clear c28
              (first | rw [c28b0] | (simp only [i64_w, i32_w]; rw [c28b0]) | skip)
              obtain ⟨t454, A29, H⟩ := bindO H
              (try dsimp only at H)
              have H' := Aside0.mk H
              clear H
              go_wp2_with (first | (go_at_call 29; (with_reducible refine (recoupref06_Has.calls t452 (wrap64 (a1)) t454 _ A29.out).mono ?_); rintro e w' ⟨rfl, ⟨nd, rfl⟩⟩))
              go_meet
              case rel => exact ⟨_, ((t450 != t454)), rsE, H', ⟨by have := HJ3.out; first | omega | exact Nat.le_refl _⟩, ⟨bkA BK444.out⟩, ⟨hbA HB.out⟩⟩
            · rw [if_neg c28] at H
              have c28b0 : (t451 == 0) = false := beq_eq_false_iff_ne.mpr c28
              have c28b1 : (t451 != 0) = true := bne_iff_ne.mpr c28
              (first | rw [c28b0] | (simp only [i64_w, i32_w]; rw [c28b0]) | skip)
              have H' := Aside0.mk H
              clear H
              go_wp2
              go_meet
              case rel => exact ⟨_, (true), rsE, H', ⟨by have := HJ3.out; first | omega | exact Nat.le_refl _⟩, ⟨bkA BK444.out⟩, ⟨hbA HB.out⟩⟩
          case rest =>
            clear HC21
            (try clear c1); (try clear c2); (try clear p2 p2); (try clear p6 p6); (try clear c7); (try clear c13); (try clear c16); (try clear c16b0); (try clear c16b1); (try clear c19); (try clear c21); (try clear c24); (try clear c26); (try clear c27); (try clear c28); (try clear c28b0); (try clear c28b1); (try clear hcz10_0 hcz10_1 hcz10_2 hfz10_0 hfz10_1 hfz10_2); (try clear hcz11_0 hcz11_1 hcz11_2 hfz11_0 hfz11_1 hfz11_2); (try clear hcz22_0 hcz22_1 hcz22_2 hfz22_0 hfz22_1 hfz22_2); (try clear hcz24_0 hcz24_1 hcz24_2 hfz24_0 hfz24_1 hfz24_2); (try clear hcz26_0 hcz26_1 hcz26_2 hfz26_0 hfz26_1 hfz26_2); (try clear hcz8_0 hcz8_1 hcz8_2 hfz8_0 hfz8_1 hfz8_2)
            obtain ⟨kq, x65_20, rfl, HA, HJ20, BK444, HB⟩ := hcut
            cases kq with
            | zero => exact absurd HA.out (by simp [recouplaw07_MatroidLeast.j1])
            | succ kj20 =>
              have H := HA.out
              clear HA
              simp only [recouplaw07_MatroidLeast.j1] at H
              by_cases c30 : x65_20 = true
              · subst c30
                rw [if_pos rfl] at H
                obtain rfl := Option.some.inj H
                go_wp2
                go_ret
                exact ⟨by first | rfl | (simp [errW_none, errW_some] <;> rfl) | (simp only [← hji17]; first | rfl | (simp [errW_none, errW_some] <;> rfl)) | (simp [*, errW_none, errW_some] <;> rfl), hbA HB.out⟩
              · replace c30 := Bool.eq_false_iff.mpr c30
                subst c30
                rw [if_neg nofT] at H
                by_cases c31 : t450 = true
                · subst c31
                  rw [if_pos rfl] at H
                  obtain ⟨⟨t456, t457⟩, A32, H⟩ := bindO H
                  (try dsimp only at H)
                  have HC33 := Aside0.mk H
                  clear H
                  obtain ⟨hcz34_0, hcz34_1, hcz34_2, hfz34_0, hfz34_1, hfz34_2⟩ := cell3 BK444
                  go_upto_region 11 with (first | ((with_reducible refine gC 14 rfl ?_); refine cG (some 76) Tryd.func14 #[.agg #[.int .i64 a0_0, .int .i64 a0_1, .slice A0_2 l0_2.length c0_2], .int .u64 t449] ?_; (with_reducible refine (matroid_Free.calls kj20 a0_0 a0_1 _ _ l0_2 t449 t456 t457 _ ?side1 ?side2 A32.out (tbL HT.out HB)).mono ?_); (case side1 => exact kcB HR0_2 HB); (case side2 => exact HC0_2.out); rintro e w35 ⟨rfl, hb⟩; refine ⟨_, rfl, ?_⟩; replace BK444 := bkB BK444 hb; replace HB := hbB HB hb; (try clear hb); (try clear hb2); (try clear hk); (try clear hi)))
                  (try simp only [Act.put, List.setIfInBounds_toArray, List.set_cons_zero, List.set_cons_succ])
                  go_cut [99] (fun v99 wc => ∃ (kq : Nat) (x99_32 : Bool), v99 = .bool x99_32 ∧ Aside0 (recouplaw07_MatroidLeast.j2 kq t449 x99_32 a0_0 a0_1 l0_2 = some r) ∧ Aside0 (kq ≤ kj20) ∧ Aside0 (wc.heap[gb444]? = some (.cells #[.int .i64 a0_0, .int .i64 a0_1, (.slice A0_2 l0_2.length c0_2)] 24 (0, 0))) ∧ Aside0 (Below w.heap.size w wc))
                  case first =>
                    have H := HC33.out
                    clear HC33
                    by_cases c36 : t456 = true
                    · subst c36
                      rw [if_pos rfl] at H
                      have H' := Aside0.mk H
                      clear H
                      go_wp2
                      go_meet
                      case rel => exact ⟨_, (true), rsE, H', ⟨by have := HJ3.out; have := HJ20.out; first | omega | exact Nat.le_refl _⟩, ⟨bkA BK444.out⟩, ⟨hbA HB.out⟩⟩
                    · replace c36 := Bool.eq_false_iff.mpr c36
                      subst c36
                      rw [if_neg nofT] at H
                      by_cases c37 : t457 = 0
                      · rw [if_pos c37] at H
                        have c37b0 : (t457 == 0) = true := beq_iff_eq.mpr c37
                        have c37b1 : (t457 != 0) = false := bne_eq_false_iff_eq.mpr c37
                        clear c37
                        (first | rw [c37b0] | (simp only [i64_w, i32_w]; rw [c37b0]) | skip)
                        obtain ⟨t458, A38, H⟩ := bindO H
                        (try dsimp only at H)
                        by_cases c39 : t458 = true
                        · subst c39
                          rw [if_pos rfl] at H
                          by_cases c40 : 0 ≤ a1
                          · rw [if_pos c40] at H
                            have c40b0 := eq_true c40
                            have c40b1 : decide (0 ≤ a1) = true := decide_eq_true c40
                            clear c40
                            obtain ⟨ji41, hji41⟩ : ∃ j_ : Int, (shl .u64 1 a1) = j_ := ⟨_, rfl⟩
                            replace H : (recouplaw07_MatroidLeast.j2 kj20 t449 ((Go.bits .andNot .u64 t449 (Go.bits .or .u64 t447 (ji41))) != 0) a0_0 a0_1 l0_2) = some r := by first | (rw [hji41] at H; exact H) | (simp only [hji41] at H ⊢; exact H)
                            (try rw [hji41] at A38)
                            have hji41_ : (IntKind.u64.wrap (1 * 2 ^ min a1.toNat 64)) = ji41 := hji41
                            have hji41z : a1 ≤ 64 → (IntKind.u64.wrap (1 * 2 ^ a1.toNat)) = ji41 := shl_small hji41
                            have hji41u : (IntKind.u64.wrap (2 ^ min a1.toNat 64)) = ji41 := by have h_ := hji41_; rw [Int.one_mul] at h_; exact h_
                            have hji41v : a1 ≤ 64 → (IntKind.u64.wrap (2 ^ a1.toNat)) = ji41 := fun hle_ => by have h_ := hji41z hle_; rw [Int.one_mul] at h_; exact h_
                            have H' := Aside0.mk H
                            clear H
                            go_wp2_with (first | (go_at_call 29; (with_reducible refine (recoupref06_Has.calls t449 (wrap64 (a1)) true _ A38.out).mono ?_); rintro e w' ⟨rfl, ⟨nd, rfl⟩⟩))
                            go_meet
                            case rel => exact ⟨_, (((Go.bits .andNot .u64 t449 (Go.bits .or .u64 t447 (ji41))) != 0)), (by first | rfl | (simp; done) | (simp only [← hji41] <;> (first | rfl | simp; done)) | (rw [← hji41, ← hji17])  | (simp [*]; done)), H', ⟨by have := HJ3.out; have := HJ20.out; first | omega | exact Nat.le_refl _⟩, ⟨bkA BK444.out⟩, ⟨hbA HB.out⟩⟩
                          · rw [if_neg c40] at H
                            exact absurd H (by simp)
                        · replace c39 := Bool.eq_false_iff.mpr c39
                          subst c39
                          rw [if_neg nofT] at H
                          have H' := Aside0.mk H
                          clear H
                          go_wp2_with (first | (go_at_call 29; (with_reducible refine (recoupref06_Has.calls t449 (wrap64 (a1)) false _ A38.out).mono ?_); rintro e w' ⟨rfl, ⟨nd, rfl⟩⟩))
                          go_meet
                          case rel => exact ⟨_, (true), rsE, H', ⟨by have := HJ3.out; have := HJ20.out; first | omega | exact Nat.le_refl _⟩, ⟨bkA BK444.out⟩, ⟨hbA HB.out⟩⟩
                      · rw [if_neg c37] at H
                        have c37b0 : (t457 == 0) = false := beq_eq_false_iff_ne.mpr c37
                        have c37b1 : (t457 != 0) = true := bne_iff_ne.mpr c37
                        (first | rw [c37b0] | (simp only [i64_w, i32_w]; rw [c37b0]) | skip)
                        have H' := Aside0.mk H
                        clear H
                        go_wp2
                        go_meet
                        case rel => exact ⟨_, (true), rsE, H', ⟨by have := HJ3.out; have := HJ20.out; first | omega | exact Nat.le_refl _⟩, ⟨bkA BK444.out⟩, ⟨hbA HB.out⟩⟩
                  case rest =>
                    clear HC33
                    (try clear c1); (try clear c2); (try clear p2 p2); (try clear c3); (try clear c4); (try clear p6 p6); (try clear c7); (try clear c13); (try clear c14); (try clear c16); (try clear c16b0); (try clear c16b1); (try clear c19); (try clear c21); (try clear c24); (try clear c26); (try clear c27); (try clear c28); (try clear c28b0); (try clear c28b1); (try clear c30); (try clear c31); (try clear c36); (try clear c37); (try clear c37b0); (try clear c37b1); (try clear c39); (try clear c40); (try clear c40b0); (try clear c40b1); (try clear hcz10_0 hcz10_1 hcz10_2 hfz10_0 hfz10_1 hfz10_2); (try clear hcz11_0 hcz11_1 hcz11_2 hfz11_0 hfz11_1 hfz11_2); (try clear hcz22_0 hcz22_1 hcz22_2 hfz22_0 hfz22_1 hfz22_2); (try clear hcz24_0 hcz24_1 hcz24_2 hfz24_0 hfz24_1 hfz24_2); (try clear hcz26_0 hcz26_1 hcz26_2 hfz26_0 hfz26_1 hfz26_2); (try clear hcz34_0 hcz34_1 hcz34_2 hfz34_0 hfz34_1 hfz34_2); (try clear hcz8_0 hcz8_1 hcz8_2 hfz8_0 hfz8_1 hfz8_2)
                    obtain ⟨kq, x99_32, rfl, HA, HJ32, BK444, HB⟩ := hcut
                    cases kq with
                    | zero => exact absurd HA.out (by simp [recouplaw07_MatroidLeast.j2])
                    | succ kj32 =>
                      have H := HA.out
                      clear HA
                      simp only [recouplaw07_MatroidLeast.j2] at H
                      by_cases c42 : x99_32 = true
                      · subst c42
                        rw [if_pos rfl] at H
                        obtain rfl := Option.some.inj H
                        go_wp2
                        go_ret
                        exact ⟨by first | rfl | (simp [errW_none, errW_some] <;> rfl) | (simp only [← hji17]; first | rfl | (simp [errW_none, errW_some] <;> rfl)) | (simp [*, errW_none, errW_some] <;> rfl), hbA HB.out⟩
                      · replace c42 := Bool.eq_false_iff.mpr c42
                        subst c42
                        rw [if_neg nofT] at H
                        obtain ⟨t459, A43, H⟩ := bindO H
                        (try dsimp only at H)
                        have H' := Aside0.mk H
                        clear H
                        go_wp2_with (first | ((with_reducible refine gC 28 rfl ?_); refine cG (some 101) Tryd.func28 #[.int .u64 t449] ?_; (with_reducible refine (recoupref06_List.calls kj32 t449 t459 _ A43.out).mono ?_); rintro e w44 ⟨v460, rfl, ho0, hb⟩; refine ⟨_, rfl, ?_⟩; have HO461 := Aside0.mk (Kd.R_lower ho0 (below_size (hbA HB.out))); replace BK444 := bkB BK444 hb; replace HB := hbB HB hb; (try clear hb); (try clear hb2); (try clear hk); (try clear hi); (try clear ho0)))
                        go_loopg [17] kj32 (fun kq v17 w' => ∃ (x17_4 : Int), v17 = .int .i64 x17_4 ∧ Aside0 (recouplaw07_MatroidLeast.l0 kq t449 t459 x17_4 a0_0 a0_1 l0_2 = some r) ∧ Aside0 (kq ≤ kj32) ∧ Aside0 (Kd.R (Kd.int .i64) 3 w' w.heap.size (fun _ => True) v460 t459) ∧ Aside0 (w'.heap[gb444]? = some (.cells #[.int .i64 a0_0, .int .i64 a0_1, (.slice A0_2 l0_2.length c0_2)] 24 (0, 0))) ∧ Aside0 (Below w.heap.size w w'))
                        case atStart => exact ⟨(0), rsE, H', ⟨Nat.le_refl _⟩, ⟨kdA HO461.out⟩, ⟨bkA BK444.out⟩, ⟨hbA HB.out⟩⟩
                        case round =>
                          clear H'
                          (try clear c1); (try clear c2); (try clear p2 p2); (try clear c3); (try clear c4); (try clear p6 p6); (try clear c7); (try clear c13); (try clear c14); (try clear c16); (try clear c16b0); (try clear c16b1); (try clear c19); (try clear c21); (try clear c24); (try clear c26); (try clear c27); (try clear c28); (try clear c28b0); (try clear c28b1); (try clear c30); (try clear c31); (try clear c36); (try clear c37); (try clear c37b0); (try clear c37b1); (try clear c39); (try clear c40); (try clear c40b0); (try clear c40b1); (try clear c42); (try clear hcz10_0 hcz10_1 hcz10_2 hfz10_0 hfz10_1 hfz10_2); (try clear hcz11_0 hcz11_1 hcz11_2 hfz11_0 hfz11_1 hfz11_2); (try clear hcz22_0 hcz22_1 hcz22_2 hfz22_0 hfz22_1 hfz22_2); (try clear hcz24_0 hcz24_1 hcz24_2 hfz24_0 hfz24_1 hfz24_2); (try clear hcz26_0 hcz26_1 hcz26_2 hfz26_0 hfz26_1 hfz26_2); (try clear hcz34_0 hcz34_1 hcz34_2 hfz34_0 hfz34_1 hfz34_2); (try clear hcz8_0 hcz8_1 hcz8_2 hfz8_0 hfz8_1 hfz8_2)
                          obtain ⟨x17_4, rfl, HA, HK4, HO_16, BK444, HB⟩ := hrel
                          cases gk with
                          | zero => exact absurd HA.out (by simp [recouplaw07_MatroidLeast.l0])
                          | succ k4 =>
                            have H := HA.out
                            clear HA
                            simp only [recouplaw07_MatroidLeast.l0] at H
                            by_cases c45 : x17_4 < (t459.length : Int)
                            · rw [if_pos c45] at H
                              have c45b0 : decide (x17_4 < (t459.length : Int)) = true := decide_eq_true c45
                              clear c45
                              by_cases c46 : 0 ≤ x17_4
                              · rw [if_pos c46] at H
                                have c46b0 : decide (0 ≤ x17_4) = true := decide_eq_true c46
                                clear c46
                                obtain ⟨ji47, hji47⟩ : ∃ j_ : Int, (IntKind.u64.wrap (rd t459 x17_4)) = j_ := ⟨_, rfl⟩
                                replace H : (if 0 ≤ (ji47) then ((matroid_Free.f k4 a0_0 a0_1 l0_2 (Go.bits .andNot .u64 t449 (shl .u64 1 (ji47)))).bind fun bt463 => (if bt463.1 = true then (if bt463.2 = 0 then (recouplaw07_MatroidLeast.l0 k4 t449 t459 (wrap64 (x17_4 + 1)) a0_0 a0_1 l0_2) else (some false)) else (some false))) else (none)) = some r := by first | (rw [hji47] at H; exact H) | (simp only [hji47] at H ⊢; exact H)
                                by_cases c48 : 0 ≤ (ji47)
                                · rw [if_pos c48] at H
                                  have c48b0 := eq_true c48
                                  have c48b1 : decide (0 ≤ (ji47)) = true := decide_eq_true c48
                                  clear c48
                                  obtain ⟨ji49, hji49⟩ : ∃ j_ : Int, (shl .u64 1 (ji47)) = j_ := ⟨_, rfl⟩
                                  replace H : ((matroid_Free.f k4 a0_0 a0_1 l0_2 (Go.bits .andNot .u64 t449 (ji49))).bind fun bt463 => (if bt463.1 = true then (if bt463.2 = 0 then (recouplaw07_MatroidLeast.l0 k4 t449 t459 (wrap64 (x17_4 + 1)) a0_0 a0_1 l0_2) else (some false)) else (some false))) = some r := by first | (rw [hji49] at H; exact H) | (simp only [hji49] at H ⊢; exact H)
                                  have hji49_ : (IntKind.u64.wrap (1 * 2 ^ min (ji47).toNat 64)) = ji49 := hji49
                                  have hji49z : (ji47) ≤ 64 → (IntKind.u64.wrap (1 * 2 ^ (ji47).toNat)) = ji49 := shl_small hji49
                                  have hji49u : (IntKind.u64.wrap (2 ^ min (ji47).toNat 64)) = ji49 := by have h_ := hji49_; rw [Int.one_mul] at h_; exact h_
                                  have hji49v : (ji47) ≤ 64 → (IntKind.u64.wrap (2 ^ (ji47).toNat)) = ji49 := fun hle_ => by have h_ := hji49z hle_; rw [Int.one_mul] at h_; exact h_
                                  obtain ⟨⟨t463, t464⟩, A50, H⟩ := bindO H
                                  (try dsimp only at H)
                                  by_cases c51 : t463 = true
                                  · subst c51
                                    rw [if_pos rfl] at H
                                    by_cases c52 : t464 = 0
                                    · rw [if_pos c52] at H
                                      have c52b0 : (t464 == 0) = true := beq_iff_eq.mpr c52
                                      have c52b1 : (t464 != 0) = false := bne_eq_false_iff_eq.mpr c52
                                      clear c52
                                      have H' := Aside0.mk H
                                      clear H
                                      obtain ⟨Ao53, co53, eo53⟩ := Kd.R_slice HO_16.out
                                      subst eo53
                                      try go_wp2
                                      replace HO_16 := Aside0.mk (Kd.R_drew HO_16.out)
                                      replace BK444 := Aside0.mk (blk_drew BK444.out)
                                      replace HB := Aside0.mk (below_drew1 HB.out)
                                      have p462 : 0 ≤ (x17_4 : Int) := of_decide_eq_true asE
                                      have q462 : x17_4 < (t459.length : Int) := of_decide_eq_true asE
                                      obtain ⟨ad462, e462, hx462_0⟩ := Kd.at_int (Kd.R_reads' HO_16.out).2.2 x17_4 p462 q462
                                      cases e462
                                      replace p462 := eq_true p462
                                      replace q462 := eq_true q462
                                      refine start_ (n := 15) (S := fun w' => w'.cell? ⟨gb444, 0, none⟩ = some (.int .i64 a0_0) ∧ w'.cell? ⟨gb444, 1, none⟩ = some (.int .i64 a0_1) ∧ w'.cell? ⟨gb444, 2, none⟩ = some (.slice A0_2 l0_2.length c0_2) ∧ w'.cell? (ad462.add (x17_4).toNat) = some (.int .i64 (rd t459 x17_4))) (ds := []) (.replicate 15 false) (by kernel_rfl) rfl rfl ⟨(blk_cell BK444.out 0).trans rfl, (blk_cell BK444.out 1).trans rfl, (blk_cell BK444.out 2).trans rfl, hx462_0⟩ (fun hHeld => ?_); refine with_tabW recouplaw07_MatroidLeast.tab17 recouplaw07_MatroidLeast.bits17 (fun HT_ HW_ => ?_)
                                      generalize wr.drew = w54 at HO_16 BK444 HB hx462_0 hHeld ⊢
                                      refine pu 1 (some 110) (mB 15 2) HT_ ?_
                                      refine pu 2 (some 111) (mB 15 6) HT_ ?_
                                      refine pu 3 (some 112) (mB 15 14) HT_ ?_
                                      refine pu 4 (some 113) (mB 15 30) HT_ ?_
                                      refine tk4 0 (some 109) (mB 15 31) HT_ HW_ hHeld ?_
                                      refine tk4 5 (some 114) (mB 15 63) HT_ HW_ hHeld ?_
                                      refine pu 6 (some 115) (mB 15 127) HT_ ?_
                                      refine pu 7 (some 116) (mB 15 255) HT_ ?_
                                      refine pu 8 (some 117) (mB 15 511) HT_ ?_
                                      refine one_ (i := 9) (N := some 118) (mB 15 1023) rfl rfl (one_of HT_.out (by kernel_rfl)) (by decide) (fun K hK => ?_)
                                      refine goes_ Tryd.func14 (by kernel_rfl) rfl #[.agg #[.int .i64 a0_0, .int .i64 a0_1, .slice A0_2 l0_2.length c0_2], .int .u64 (Go.bits .andNot .u64 t449 (ji49))] (by rfl) rfl rfl (by (try simp only [List.map_toArray, List.map_cons, List.map_nil]); first | done | (simp only [hji49]; rfl) | rfl | (simp only [List.length_drop, List.length_take]; rfl)) ?_
                                      with_reducible refine (matroid_Free.calls k4 a0_0 a0_1 _ _ l0_2 (Go.bits .andNot .u64 t449 (ji49)) true t464 _ ?side1 ?side2 A50.out (tbL HT.out HB)).mono ?_
                                      (case side1 => exact kcB HR0_2 HB)
                                      (case side2 => exact HC0_2.out)
                                      rintro e w55 ⟨rfl, hb⟩
                                      have HS3_ := (hb.cell (World.block_lt_of_cell? _ _ (hHeld.2.2.2))).trans (hHeld.2.2.2)
                                      refine ⟨_, rfl, ?_⟩
                                      replace HO_16 := kdB HO_16 hb
                                      replace BK444 := bkB BK444 hb
                                      replace HB := hbB HB hb
                                      (try clear hb)
                                      (try clear hb2)
                                      (try clear hk)
                                      (try clear hi)
                                      refine hK.out _ _ ⟨(blk_cell BK444.out 0).trans rfl, (blk_cell BK444.out 1).trans rfl, (blk_cell BK444.out 2).trans rfl, HS3_⟩ (fun hHeld => ?_)
                                      clear hK K
                                      refine norm_ (a' := ?_) ?_ ?_
                                      rotate_left
                                      · show Act.put _ (some 118) _ = _
                                        simp only [Act.put, List.setIfInBounds_toArray, List.set_cons_zero, List.set_cons_succ, i64_w, i32_w]
                                        rfl
                                      refine pu 10 (some 108) (mB 15 2047) HT_ ?_
                                      refine pu 11 (some 119) (mB 15 4095) HT_ ?_
                                      refine pu 12 (some 120) (mB 15 8191) HT_ ?_
                                      refine pu 13 (some 18) (mB 15 16383) HT_ ?_
                                      refine pu 14 (some 19) (mB 15 32767) HT_ ?_
                                      refine done_ (done_of HT_.out (by kernel_rfl)) ?_
                                      try go_wp2
                                      go_roundg k4
                                      case measure => have := HJ3.out; have := HJ20.out; have := HJ32.out; have := HK4.out; omega
                                      case rel => exact ⟨(wrap64 (x17_4 + 1)), rsE, H', ⟨by have := HJ3.out; have := HJ20.out; have := HJ32.out; have := HK4.out; omega⟩, ⟨kdA HO_16.out⟩, ⟨bkA BK444.out⟩, ⟨hbA HB.out⟩⟩
                                    · rw [if_neg c52] at H
                                      have c52b0 : (t464 == 0) = false := beq_eq_false_iff_ne.mpr c52
                                      have c52b1 : (t464 != 0) = true := bne_iff_ne.mpr c52
                                      obtain rfl := Option.some.inj H
                                      obtain ⟨Ao56, co56, eo56⟩ := Kd.R_slice HO_16.out
                                      subst eo56
                                      try go_wp2
                                      replace HO_16 := Aside0.mk (Kd.R_drew HO_16.out)
                                      replace BK444 := Aside0.mk (blk_drew BK444.out)
                                      replace HB := Aside0.mk (below_drew1 HB.out)
                                      have p462 : 0 ≤ (x17_4 : Int) := of_decide_eq_true asE
                                      have q462 : x17_4 < (t459.length : Int) := of_decide_eq_true asE
                                      obtain ⟨ad462, e462, hx462_0⟩ := Kd.at_int (Kd.R_reads' HO_16.out).2.2 x17_4 p462 q462
                                      cases e462
                                      replace p462 := eq_true p462
                                      replace q462 := eq_true q462
                                      refine start_ (n := 15) (S := fun w' => w'.cell? ⟨gb444, 0, none⟩ = some (.int .i64 a0_0) ∧ w'.cell? ⟨gb444, 1, none⟩ = some (.int .i64 a0_1) ∧ w'.cell? ⟨gb444, 2, none⟩ = some (.slice A0_2 l0_2.length c0_2) ∧ w'.cell? (ad462.add (x17_4).toNat) = some (.int .i64 (rd t459 x17_4))) (ds := []) (.replicate 15 false) (by kernel_rfl) rfl rfl ⟨(blk_cell BK444.out 0).trans rfl, (blk_cell BK444.out 1).trans rfl, (blk_cell BK444.out 2).trans rfl, hx462_0⟩ (fun hHeld => ?_); refine with_tabW recouplaw07_MatroidLeast.tab17 recouplaw07_MatroidLeast.bits17 (fun HT_ HW_ => ?_)
                                      generalize wr.drew = w57 at HO_16 BK444 HB hx462_0 hHeld ⊢
                                      refine pu 1 (some 110) (mB 15 2) HT_ ?_
                                      refine pu 2 (some 111) (mB 15 6) HT_ ?_
                                      refine pu 3 (some 112) (mB 15 14) HT_ ?_
                                      refine pu 4 (some 113) (mB 15 30) HT_ ?_
                                      refine tk4 0 (some 109) (mB 15 31) HT_ HW_ hHeld ?_
                                      refine tk4 5 (some 114) (mB 15 63) HT_ HW_ hHeld ?_
                                      refine pu 6 (some 115) (mB 15 127) HT_ ?_
                                      refine pu 7 (some 116) (mB 15 255) HT_ ?_
                                      refine pu 8 (some 117) (mB 15 511) HT_ ?_
                                      refine one_ (i := 9) (N := some 118) (mB 15 1023) rfl rfl (one_of HT_.out (by kernel_rfl)) (by decide) (fun K hK => ?_)
                                      refine goes_ Tryd.func14 (by kernel_rfl) rfl #[.agg #[.int .i64 a0_0, .int .i64 a0_1, .slice A0_2 l0_2.length c0_2], .int .u64 (Go.bits .andNot .u64 t449 (ji49))] (by rfl) rfl rfl (by (try simp only [List.map_toArray, List.map_cons, List.map_nil]); first | done | (simp only [hji49]; rfl) | rfl | (simp only [List.length_drop, List.length_take]; rfl)) ?_
                                      with_reducible refine (matroid_Free.calls k4 a0_0 a0_1 _ _ l0_2 (Go.bits .andNot .u64 t449 (ji49)) true t464 _ ?side1 ?side2 A50.out (tbL HT.out HB)).mono ?_
                                      (case side1 => exact kcB HR0_2 HB)
                                      (case side2 => exact HC0_2.out)
                                      rintro e w58 ⟨rfl, hb⟩
                                      have HS3_ := (hb.cell (World.block_lt_of_cell? _ _ (hHeld.2.2.2))).trans (hHeld.2.2.2)
                                      refine ⟨_, rfl, ?_⟩
                                      replace HO_16 := kdB HO_16 hb
                                      replace BK444 := bkB BK444 hb
                                      replace HB := hbB HB hb
                                      (try clear hb)
                                      (try clear hb2)
                                      (try clear hk)
                                      (try clear hi)
                                      refine hK.out _ _ ⟨(blk_cell BK444.out 0).trans rfl, (blk_cell BK444.out 1).trans rfl, (blk_cell BK444.out 2).trans rfl, HS3_⟩ (fun hHeld => ?_)
                                      clear hK K
                                      refine norm_ (a' := ?_) ?_ ?_
                                      rotate_left
                                      · show Act.put _ (some 118) _ = _
                                        simp only [Act.put, List.setIfInBounds_toArray, List.set_cons_zero, List.set_cons_succ, i64_w, i32_w]
                                        rfl
                                      refine pu 10 (some 108) (mB 15 2047) HT_ ?_
                                      refine pu 11 (some 119) (mB 15 4095) HT_ ?_
                                      refine pu 12 (some 120) (mB 15 8191) HT_ ?_
                                      refine pu 13 (some 18) (mB 15 16383) HT_ ?_
                                      refine pu 14 (some 19) (mB 15 32767) HT_ ?_
                                      refine done_ (done_of HT_.out (by kernel_rfl)) ?_
                                      try go_wp2
                                      go_ret
                                      exact ⟨by first | rfl | (simp [errW_none, errW_some] <;> rfl) | (simp only [← hji17, ← hji47, ← hji49]; first | rfl | (simp [errW_none, errW_some] <;> rfl)) | (simp [*, errW_none, errW_some] <;> rfl), hbA HB.out⟩
                                  · replace c51 := Bool.eq_false_iff.mpr c51
                                    subst c51
                                    rw [if_neg nofT] at H
                                    obtain rfl := Option.some.inj H
                                    obtain ⟨Ao59, co59, eo59⟩ := Kd.R_slice HO_16.out
                                    subst eo59
                                    try go_wp2
                                    replace HO_16 := Aside0.mk (Kd.R_drew HO_16.out)
                                    replace BK444 := Aside0.mk (blk_drew BK444.out)
                                    replace HB := Aside0.mk (below_drew1 HB.out)
                                    have p462 : 0 ≤ (x17_4 : Int) := of_decide_eq_true asE
                                    have q462 : x17_4 < (t459.length : Int) := of_decide_eq_true asE
                                    obtain ⟨ad462, e462, hx462_0⟩ := Kd.at_int (Kd.R_reads' HO_16.out).2.2 x17_4 p462 q462
                                    cases e462
                                    replace p462 := eq_true p462
                                    replace q462 := eq_true q462
                                    refine start_ (n := 15) (S := fun w' => w'.cell? ⟨gb444, 0, none⟩ = some (.int .i64 a0_0) ∧ w'.cell? ⟨gb444, 1, none⟩ = some (.int .i64 a0_1) ∧ w'.cell? ⟨gb444, 2, none⟩ = some (.slice A0_2 l0_2.length c0_2) ∧ w'.cell? (ad462.add (x17_4).toNat) = some (.int .i64 (rd t459 x17_4))) (ds := []) (.replicate 15 false) (by kernel_rfl) rfl rfl ⟨(blk_cell BK444.out 0).trans rfl, (blk_cell BK444.out 1).trans rfl, (blk_cell BK444.out 2).trans rfl, hx462_0⟩ (fun hHeld => ?_); refine with_tabW recouplaw07_MatroidLeast.tab17 recouplaw07_MatroidLeast.bits17 (fun HT_ HW_ => ?_)
                                    generalize wr.drew = w60 at HO_16 BK444 HB hx462_0 hHeld ⊢
                                    refine pu 1 (some 110) (mB 15 2) HT_ ?_
                                    refine pu 2 (some 111) (mB 15 6) HT_ ?_
                                    refine pu 3 (some 112) (mB 15 14) HT_ ?_
                                    refine pu 4 (some 113) (mB 15 30) HT_ ?_
                                    refine tk4 0 (some 109) (mB 15 31) HT_ HW_ hHeld ?_
                                    refine tk4 5 (some 114) (mB 15 63) HT_ HW_ hHeld ?_
                                    refine pu 6 (some 115) (mB 15 127) HT_ ?_
                                    refine pu 7 (some 116) (mB 15 255) HT_ ?_
                                    refine pu 8 (some 117) (mB 15 511) HT_ ?_
                                    refine one_ (i := 9) (N := some 118) (mB 15 1023) rfl rfl (one_of HT_.out (by kernel_rfl)) (by decide) (fun K hK => ?_)
                                    refine goes_ Tryd.func14 (by kernel_rfl) rfl #[.agg #[.int .i64 a0_0, .int .i64 a0_1, .slice A0_2 l0_2.length c0_2], .int .u64 (Go.bits .andNot .u64 t449 (ji49))] (by rfl) rfl rfl (by (try simp only [List.map_toArray, List.map_cons, List.map_nil]); first | done | (simp only [hji49]; rfl) | rfl | (simp only [List.length_drop, List.length_take]; rfl)) ?_
                                    with_reducible refine (matroid_Free.calls k4 a0_0 a0_1 _ _ l0_2 (Go.bits .andNot .u64 t449 (ji49)) false t464 _ ?side1 ?side2 A50.out (tbL HT.out HB)).mono ?_
                                    (case side1 => exact kcB HR0_2 HB)
                                    (case side2 => exact HC0_2.out)
                                    rintro e w61 ⟨rfl, hb⟩
                                    have HS3_ := (hb.cell (World.block_lt_of_cell? _ _ (hHeld.2.2.2))).trans (hHeld.2.2.2)
                                    refine ⟨_, rfl, ?_⟩
                                    replace HO_16 := kdB HO_16 hb
                                    replace BK444 := bkB BK444 hb
                                    replace HB := hbB HB hb
                                    (try clear hb)
                                    (try clear hb2)
                                    (try clear hk)
                                    (try clear hi)
                                    refine hK.out _ _ ⟨(blk_cell BK444.out 0).trans rfl, (blk_cell BK444.out 1).trans rfl, (blk_cell BK444.out 2).trans rfl, HS3_⟩ (fun hHeld => ?_)
                                    clear hK K
                                    refine norm_ (a' := ?_) ?_ ?_
                                    rotate_left
                                    · show Act.put _ (some 118) _ = _
                                      simp only [Act.put, List.setIfInBounds_toArray, List.set_cons_zero, List.set_cons_succ, i64_w, i32_w]
                                      rfl
                                    refine pu 10 (some 108) (mB 15 2047) HT_ ?_
                                    refine pu 11 (some 119) (mB 15 4095) HT_ ?_
                                    refine pu 12 (some 120) (mB 15 8191) HT_ ?_
                                    refine pu 13 (some 18) (mB 15 16383) HT_ ?_
                                    refine pu 14 (some 19) (mB 15 32767) HT_ ?_
                                    refine done_ (done_of HT_.out (by kernel_rfl)) ?_
                                    try go_wp2
                                    go_ret
                                    exact ⟨by first | rfl | (simp [errW_none, errW_some] <;> rfl) | (simp only [← hji17, ← hji47, ← hji49]; first | rfl | (simp [errW_none, errW_some] <;> rfl)) | (simp [*, errW_none, errW_some] <;> rfl), hbA HB.out⟩
                                · rw [if_neg c48] at H
                                  exact absurd H (by simp)
                              · rw [if_neg c46] at H
                                exact absurd H (by simp)
                            · rw [if_neg c45] at H
                              have c45b0 : decide (x17_4 < (t459.length : Int)) = false := decide_eq_false c45
                              clear c45
                              obtain ⟨t465, A62, H⟩ := bindO H
                              (try dsimp only at H)
                              obtain rfl := Option.some.inj H
                              obtain ⟨Ao63, co63, eo63⟩ := Kd.R_slice HO_16.out
                              subst eo63
                              go_wp2_with (first | ((with_reducible refine gC 27 rfl ?_); refine cG (some 127) Tryd.func27 #[] ?_; (with_reducible refine (recouplaw07_anchored.calls k4  t465 _ A62.out (tbL HT.out HB)).mono ?_); rintro e w64 ⟨rfl, hb⟩; refine ⟨_, rfl, ?_⟩; replace HO_16 := kdB HO_16 hb; replace BK444 := bkB BK444 hb; replace HB := hbB HB hb; (try clear hb); (try clear hb2); (try clear hk); (try clear hi)))
                              go_ret
                              exact ⟨by first | rfl | (simp [errW_none, errW_some] <;> rfl) | (simp only [← hji17]; first | rfl | (simp [errW_none, errW_some] <;> rfl)) | (simp [*, errW_none, errW_some] <;> rfl), hbA HB.out⟩
                · replace c31 := Bool.eq_false_iff.mpr c31
                  subst c31
                  rw [if_neg nofT] at H
                  obtain ⟨t455, A65, H⟩ := bindO H
                  (try dsimp only at H)
                  by_cases c66 : t455 = true
                  · subst c66
                    rw [if_pos rfl] at H
                    obtain rfl := Option.some.inj H
                    go_wp2_with (first | ((with_reducible refine gC 27 rfl ?_); refine cG (some 68) Tryd.func27 #[] ?_; (with_reducible refine (recouplaw07_anchored.calls kj20  true _ A65.out (tbL HT.out HB)).mono ?_); rintro e w67 ⟨rfl, hb⟩; refine ⟨_, rfl, ?_⟩; replace BK444 := bkB BK444 hb; replace HB := hbB HB hb; (try clear hb); (try clear hb2); (try clear hk); (try clear hi)))
                    go_ret
                    exact ⟨by first | rfl | (simp [errW_none, errW_some] <;> rfl) | (simp only [← hji17]; first | rfl | (simp [errW_none, errW_some] <;> rfl)) | (simp [*, errW_none, errW_some] <;> rfl), hbA HB.out⟩
                  · replace c66 := Bool.eq_false_iff.mpr c66
                    subst c66
                    rw [if_neg nofT] at H
                    obtain rfl := Option.some.inj H
                    go_wp2_with (first | ((with_reducible refine gC 27 rfl ?_); refine cG (some 68) Tryd.func27 #[] ?_; (with_reducible refine (recouplaw07_anchored.calls kj20  false _ A65.out (tbL HT.out HB)).mono ?_); rintro e w68 ⟨rfl, hb⟩; refine ⟨_, rfl, ?_⟩; replace BK444 := bkB BK444 hb; replace HB := hbB HB hb; (try clear hb); (try clear hb2); (try clear hk); (try clear hi)))
                    go_ret
                    exact ⟨by first | rfl | (simp [errW_none, errW_some] <;> rfl) | (simp only [← hji17]; first | rfl | (simp [errW_none, errW_some] <;> rfl)) | (simp [*, errW_none, errW_some] <;> rfl), hbA HB.out⟩
        · rw [if_neg c16] at H
          exact absurd H (by simp)

end Go.Proofs.YthjncmdlhmppiaaDoor.Q
