/- Written by drive.py (a program of this repo, over the kit's print): each Go function named here answers what the Lean function beside it answers, wherever that one answers, in every world that meets the stated premises. -/
import Derived.Test.YtnfemjnajfdepaaQx0
import Derived.Test.YtnfemjnajfdepaaQx118
import Derived.Test.YtnfemjnajfdepaaQx126
import Derived.Test.YtnfemjnajfdepaaQx127
namespace Go.Proofs.Ytnfemjnajfdepaa.Q
open Go.RowKit Go.Proofs.YtnfemjnajfdepaaW.PrintWords Go.Proofs.YtnfemjnajfdepaaW.PrintLast Go.Proofs.YtnfemjnajfdepaaW.PrintMore
attribute [local go_sem] max2_int min2_int max_two min_two max_three min_three max_four min_four   -- for this text's walks alone
set_option linter.unusedVariables false
set_option linter.unusedSimpArgs false

/-! ### recoupref22_Best: function 11 -/
mutual
def recoupref22_Best.l0 : Nat → Int → Int → List Int → List (List (S61)) → List Int → Option (Int × Int × Int × Int × Bool × Int)
  | 0, _, _, _, _, _ => none
  | k + 1, x5, x6, x136000, x136001, x136002 => if x6 < (x136001.length : Int) then (if 0 ≤ x6 then (recoupref22_Best.l0 k (wrap64 (x5 + ((rd_L5 x136001 x6).length : Int))) (wrap64 (x6 + 1)) x136000 x136001 x136002) else (none)) else (if x5 > 512 then (recoupref22_Best.j1 k true x136000 x136001 x136002) else (recoupref22_Best.j1 k (decide ((x136001.length : Int) ≥ 4096)) x136000 x136001 x136002))
def recoupref22_Best.j1 : Nat → Bool → List Int → List (List (S61)) → List Int → Option (Int × Int × Int × Int × Bool × Int)
  | 0, _, _, _, _ => none
  | k + 1, x41, x136000, x136001, x136002 => if x41 = true then (some (0, 0, 0, 0, false, 0)) else (recoupref22_Best.l1 k 0 x136000 x136001 x136002 0 0 0 1)
def recoupref22_Best.l1 : Nat → Int → List Int → List (List (S61)) → List Int → Int → Int → Int → Int → Option (Int × Int × Int × Int × Bool × Int)
  | 0, _, _, _, _, _, _, _, _ => none
  | k + 1, x8, x136000, x136001, x136002, x140000, x140001, x140002, x140003 => if x8 < (x136001.length : Int) then (recoupref22_Best.l2 k x8 0 x136000 x136001 x136002 x140000 x140001 x140002 x140003) else (if x140003 < 2 then (some (0, 0, 0, 0, false, 0)) else (some (x140000, x140001, x140002, x140003, true, 0)))
def recoupref22_Best.l2 : Nat → Int → Int → List Int → List (List (S61)) → List Int → Int → Int → Int → Int → Option (Int × Int × Int × Int × Bool × Int)
  | 0, _, _, _, _, _, _, _, _, _ => none
  | k + 1, x8, x9, x136000, x136001, x136002, x140000, x140001, x140002, x140003 => if 0 ≤ x8 then (if x8 < (x136001.length : Int) then (if x9 < ((rd_L5 x136001 x8).length : Int) then (recoupref22_Best.l3 k x8 x9 (wrap64 (x9 + 1)) x136000 x136001 x136002 x140000 x140001 x140002 x140003) else (recoupref22_Best.l1 k (wrap64 (x8 + 1)) x136000 x136001 x136002 x140000 x140001 x140002 x140003)) else (none)) else (none)
def recoupref22_Best.l3 : Nat → Int → Int → Int → List Int → List (List (S61)) → List Int → Int → Int → Int → Int → Option (Int × Int × Int × Int × Bool × Int)
  | 0, _, _, _, _, _, _, _, _, _, _ => none
  | k + 1, x8, x9, x10, x136000, x136001, x136002, x140000, x140001, x140002, x140003 => if 0 ≤ x8 then (if x8 < (x136001.length : Int) then (if x10 < ((rd_L5 x136001 x8).length : Int) then (if 0 ≤ x9 then (if x9 < ((rd_L5 x136001 x8).length : Int) then (if 0 ≤ x10 then ((recoupref01_Inv.f k ((rd_T61 (rd_L5 x136001 x8) x9).f1)).bind fun bt149 => ((recoupref01_Mul.f k ((rd_T61 (rd_L5 x136001 x8) x10).f1) bt149.1).bind fun t153 => (recoupref22_Best.l4 k x8 x9 x10 0 x136000 x136001 x136002 x140000 x140001 x140002 x140003 ((rd_T61 (rd_L5 x136001 x8) x9).f0) ((rd_T61 (rd_L5 x136001 x8) x10).f0) t153 0))) else (none)) else (none)) else (none)) else (recoupref22_Best.l2 k x8 (wrap64 (x9 + 1)) x136000 x136001 x136002 x140000 x140001 x140002 x140003)) else (none)) else (none)
def recoupref22_Best.l4 : Nat → Int → Int → Int → Int → List Int → List (List (S61)) → List Int → Int → Int → Int → Int → Int → Int → Int → Int → Option (Int × Int × Int × Int × Bool × Int)
  | 0, _, _, _, _, _, _, _, _, _, _, _, _, _, _, _ => none
  | k + 1, x8, x9, x10, x14, x136000, x136001, x136002, x140000, x140001, x140002, x140003, x147000, x147001, x147002, x147003 => if x14 < (x136001.length : Int) then (if 0 ≤ x14 then ((recoupref22_in.f k (rd_L5 x136001 x14) x147000 x147001 x147002).bind fun t155 => (if t155 = true then (recoupref22_Best.l4 k x8 x9 x10 (wrap64 (x14 + 1)) x136000 x136001 x136002 x140000 x140001 x140002 x140003 x147000 x147001 x147002 (wrap64 (x147003 + 1))) else (recoupref22_Best.l4 k x8 x9 x10 (wrap64 (x14 + 1)) x136000 x136001 x136002 x140000 x140001 x140002 x140003 x147000 x147001 x147002 x147003))) else (none)) else (if x147003 > x140003 then (recoupref22_Best.l3 k x8 x9 (wrap64 (x10 + 1)) x136000 x136001 x136002 x147000 x147001 x147002 x147003) else (if x147003 = x140003 then (if x147003 > 1 then ((recoupref22_less.f x147000 x147001 x147002 x147003 x140000 x140001 x140002 x140003).bind fun t156 => (if t156 = true then (recoupref22_Best.l3 k x8 x9 (wrap64 (x10 + 1)) x136000 x136001 x136002 x147000 x147001 x147002 x147003) else (recoupref22_Best.l3 k x8 x9 (wrap64 (x10 + 1)) x136000 x136001 x136002 x140000 x140001 x140002 x140003))) else (recoupref22_Best.l3 k x8 x9 (wrap64 (x10 + 1)) x136000 x136001 x136002 x140000 x140001 x140002 x140003)) else (recoupref22_Best.l3 k x8 x9 (wrap64 (x10 + 1)) x136000 x136001 x136002 x140000 x140001 x140002 x140003)))
end
def recoupref22_Best.f (k : Nat) (l0_0 : List Int) (l0_1 : List (List (S61))) (l0_2 : List Int) : Option (Int × Int × Int × Int × Bool × Int) := (recoupref21_May.f k l0_0 l0_1 l0_2).bind fun t137 => (if t137 = true then (recoupref22_Best.l0 k 0 0 l0_0 l0_1 l0_2) else (some (0, 0, 0, 0, false, 2)))
theorem recoupref22_Best.mono_l : ∀ k, (∀ y0 y1 y2 y3 y4, LeO (recoupref22_Best.l0 k y0 y1 y2 y3 y4) (recoupref22_Best.l0 (k + 1) y0 y1 y2 y3 y4)) ∧ (∀ y0 y1 y2 y3, LeO (recoupref22_Best.j1 k y0 y1 y2 y3) (recoupref22_Best.j1 (k + 1) y0 y1 y2 y3)) ∧ (∀ y0 y1 y2 y3 y4 y5 y6 y7, LeO (recoupref22_Best.l1 k y0 y1 y2 y3 y4 y5 y6 y7) (recoupref22_Best.l1 (k + 1) y0 y1 y2 y3 y4 y5 y6 y7)) ∧ (∀ y0 y1 y2 y3 y4 y5 y6 y7 y8, LeO (recoupref22_Best.l2 k y0 y1 y2 y3 y4 y5 y6 y7 y8) (recoupref22_Best.l2 (k + 1) y0 y1 y2 y3 y4 y5 y6 y7 y8)) ∧ (∀ y0 y1 y2 y3 y4 y5 y6 y7 y8 y9, LeO (recoupref22_Best.l3 k y0 y1 y2 y3 y4 y5 y6 y7 y8 y9) (recoupref22_Best.l3 (k + 1) y0 y1 y2 y3 y4 y5 y6 y7 y8 y9)) ∧ (∀ y0 y1 y2 y3 y4 y5 y6 y7 y8 y9 y10 y11 y12 y13 y14, LeO (recoupref22_Best.l4 k y0 y1 y2 y3 y4 y5 y6 y7 y8 y9 y10 y11 y12 y13 y14) (recoupref22_Best.l4 (k + 1) y0 y1 y2 y3 y4 y5 y6 y7 y8 y9 y10 y11 y12 y13 y14))
  | 0 => ⟨fun _ _ _ _ _ r h => by simp [recoupref22_Best.l0] at h, fun _ _ _ _ r h => by simp [recoupref22_Best.j1] at h, fun _ _ _ _ _ _ _ _ r h => by simp [recoupref22_Best.l1] at h, fun _ _ _ _ _ _ _ _ _ r h => by simp [recoupref22_Best.l2] at h, fun _ _ _ _ _ _ _ _ _ _ r h => by simp [recoupref22_Best.l3] at h, fun _ _ _ _ _ _ _ _ _ _ _ _ _ _ _ r h => by simp [recoupref22_Best.l4] at h⟩
  | k + 1 => by
    obtain ⟨ih0, ih1, ih2, ih3, ih4, ih5⟩ := recoupref22_Best.mono_l k
    refine ⟨?_, ?_, ?_, ?_, ?_, ?_⟩
    all_goals (intros; first | unfold recoupref22_Best.l0 | unfold recoupref22_Best.j1 | unfold recoupref22_Best.l1 | unfold recoupref22_Best.l2 | unfold recoupref22_Best.l3 | unfold recoupref22_Best.l4)
    all_goals repeat' first | (with_reducible exact ih0 _ _ _ _ _) | (with_reducible exact ih1 _ _ _ _) | (with_reducible exact ih2 _ _ _ _ _ _ _ _) | (with_reducible exact ih3 _ _ _ _ _ _ _ _ _) | (with_reducible exact ih4 _ _ _ _ _ _ _ _ _ _) | (with_reducible exact ih5 _ _ _ _ _ _ _ _ _ _ _ _ _ _ _) | (with_reducible exact recoupref01_Inv.mono _ _) | (with_reducible exact recoupref01_Mul.mono _ _ _) | (with_reducible exact recoupref21_May.mono _ _ _ _) | (with_reducible exact recoupref22_in.mono _ _ _ _ _) | (with_reducible exact LeO.refl _) | (with_reducible exact LeO.none _) | (with_reducible refine LeO.ite ?_ ?_) | (with_reducible refine LeO.bind ?_ (fun _ => ?_)) | exact ih0 _ _ _ _ _ | exact ih1 _ _ _ _ | exact ih2 _ _ _ _ _ _ _ _ | exact ih3 _ _ _ _ _ _ _ _ _ | exact ih4 _ _ _ _ _ _ _ _ _ _ | exact ih5 _ _ _ _ _ _ _ _ _ _ _ _ _ _ _ | exact recoupref01_Inv.mono _ _ | exact recoupref01_Mul.mono _ _ _ | exact recoupref21_May.mono _ _ _ _ | exact recoupref22_in.mono _ _ _ _ _ | exact LeO.none _ | refine LeO.ite ?_ ?_ | refine LeO.bind ?_ (fun _ => ?_)
theorem recoupref22_Best.mono : ∀ a0 a1 a2 k, LeO (recoupref22_Best.f k a0 a1 a2) (recoupref22_Best.f (k + 1) a0 a1 a2) := by
  intro a0 a1 a2 k
  obtain ⟨ih0, ih1, ih2, ih3, ih4, ih5⟩ := recoupref22_Best.mono_l k
  unfold recoupref22_Best.f
  repeat' first
      | (with_reducible exact ih0 _ _ _ _ _)
      | (with_reducible exact ih1 _ _ _ _)
      | (with_reducible exact ih2 _ _ _ _ _ _ _ _)
      | (with_reducible exact ih3 _ _ _ _ _ _ _ _ _)
      | (with_reducible exact ih4 _ _ _ _ _ _ _ _ _ _)
      | (with_reducible exact ih5 _ _ _ _ _ _ _ _ _ _ _ _ _ _ _)
      | (with_reducible exact recoupref01_Inv.mono _ _)
      | (with_reducible exact recoupref01_Mul.mono _ _ _)
      | (with_reducible exact recoupref21_May.mono _ _ _ _)
      | (with_reducible exact recoupref22_in.mono _ _ _ _ _)
      | (with_reducible exact LeO.refl _)
      | (with_reducible exact LeO.none _)
      | (with_reducible refine LeO.ite ?_ ?_)
      | (with_reducible refine LeO.bind ?_ (fun _ => ?_))
      | exact ih0 _ _ _ _ _
      | exact ih1 _ _ _ _
      | exact ih2 _ _ _ _ _ _ _ _
      | exact ih3 _ _ _ _ _ _ _ _ _
      | exact ih4 _ _ _ _ _ _ _ _ _ _
      | exact ih5 _ _ _ _ _ _ _ _ _ _ _ _ _ _ _
      | exact recoupref01_Inv.mono _ _
      | exact recoupref01_Mul.mono _ _ _
      | exact recoupref21_May.mono _ _ _ _
      | exact recoupref22_in.mono _ _ _ _ _
      | exact LeO.none _
      | refine LeO.ite ?_ ?_
      | refine LeO.bind ?_ (fun _ => ?_)
def recoupref22_Best.T20 : Bool × List (List Nat × List Nat) := (true, [([], []), ([0], [0]), ([], []), ([1, 2], [1, 2]), ([3], [3]), ([], []), ([4, 5], [4, 5]), ([6], [6]), ([7], [7]), ([], []), ([9], [9]), ([], []), ([10, 11], [10, 11]), ([12], [12]), ([], []), ([13, 14], [13, 14]), ([15], [15]), ([16], [16]), ([8, 17], [8, 17]), ([], []), ([19, 18, 0, 1, 2, 3, 4, 5, 6, 7, 8, 9, 10, 11, 12, 13, 14, 15, 16, 17, 18, 19], [18, 19])])
def recoupref22_Best.B20 : List Nat := [0, 1, 0, 7, 15, 0, 63, 127, 255, 0, 512, 0, 3584, 7680, 0, 32256, 65024, 130560, 262143, 0, 1048575]
theorem recoupref22_Best.tab20 : rtab .any (opsOf Try.f11 20) = recoupref22_Best.T20 := by kernel_rfl
theorem recoupref22_Best.bits20 : waitsOk recoupref22_Best.T20.2 recoupref22_Best.B20 = true := by kernel_rfl
def recoupref22_Best.T26 : Bool × List (List Nat × List Nat) := (true, [([], []), ([0], [0]), ([], []), ([1, 2], [1, 2]), ([3], [3]), ([], []), ([5], [5]), ([], []), ([7], [7]), ([], []), ([9], [9]), ([4, 6, 8, 10], [4, 6, 8, 10])])
def recoupref22_Best.B26 : List Nat := [0, 1, 0, 7, 15, 0, 32, 0, 128, 0, 512, 2047]
theorem recoupref22_Best.tab26 : rtab .any (opsOf Try.f11 26) = recoupref22_Best.T26 := by kernel_rfl
theorem recoupref22_Best.bits26 : waitsOk recoupref22_Best.T26.2 recoupref22_Best.B26 = true := by kernel_rfl
set_option maxHeartbeats 8000000 in
set_option maxRecDepth 100000 in
theorem recoupref22_Best.calls (k : Nat) (A0_0 : Option Addr) (c0_0 : Nat) (l0_0 : List Int) (A0_1 : Option Addr) (c0_1 : Nat) (l0_1 : List (List (S61))) (A0_2 : Option Addr) (c0_2 : Nat) (l0_2 : List Int) (r1 : Int) (r2 : Int) (r3 : Int) (r4 : Int) (r5 : Bool) (r6 : Int) (w : World) (hr0_0 : Kd.C (Kd.int .i64) w A0_0 l0_0.length l0_0) (hc0_0 : l0_0.length ≤ c0_0) (hr0_1 : Kd.C (Kd.slice 61 k61) w A0_1 l0_1.length l0_1) (hc0_1 : l0_1.length ≤ c0_1) (hr0_2 : Kd.C (Kd.int .i64) w A0_2 l0_2.length l0_2) (hc0_2 : l0_2.length ≤ c0_2) (h : recoupref22_Best.f k l0_0 l0_1 l0_2 = some (r1, r2, r3, r4, r5, r6)) :
    Calls Try.prog 11 #[.agg #[.slice A0_0 l0_0.length c0_0, .slice A0_1 l0_1.length c0_1, .slice A0_2 l0_2.length c0_2]] w fun e w' => e = .returned (.tuple #[.agg #[.int .i64 r1, .int .i64 r2, .int .u8 r3, .int .i64 r4], .bool r5, .int .i64 r6]) ∧ Below w.heap.size w w' := by
  have hu25 := Try.underlying25
  have hu31 := Try.underlying31
  have HR0_0 := Aside0.mk hr0_0
  have HC0_0 := Aside0.mk hc0_0
  clear hr0_0 hc0_0
  have HR0_1 := Aside0.mk hr0_1
  have HC0_1 := Aside0.mk hc0_1
  clear hr0_1 hc0_1
  have HR0_2 := Aside0.mk hr0_2
  have HC0_2 := Aside0.mk hc0_2
  clear hr0_2 hc0_2
  have HB := Aside0.mk (Below.refl w.heap.size w)
  have H : ((recoupref21_May.f k l0_0 l0_1 l0_2).bind fun t137 => (if t137 = true then (recoupref22_Best.l0 k 0 0 l0_0 l0_1 l0_2) else (some (0, 0, 0, 0, false, 2)))) = some (r1, r2, r3, r4, r5, r6) := h
  clear h
  obtain ⟨t137, A2, H⟩ := bindO H
  (try dsimp only at H)
  by_cases c3 : t137 = true
  · subst c3
    rw [if_pos rfl] at H
    have H' := Aside0.mk H
    clear H
    go_enter Try.func11, Try.ntmps11
    go_wp2_with (first | ((with_reducible refine gD 1 rfl ?_); (try (refine gate_guard (by rfl) ?_; dsimp only)); refine bE 1 #[.slice A0_0 l0_0.length c0_0, .slice A0_1 l0_1.length c0_1, .slice A0_2 l0_2.length c0_2] 25 ?_; intro gb135 hg w4 hbox hb; have BK135 := Aside0.mk (hbox); have GW135 := hbS HB hg; have GE135 := hbS HB hg; replace HB := hbB HB hb; clear hb hbox hg) | ((with_reducible refine gD 2 rfl ?_); (try (refine gate_guard (by rfl) ?_; dsimp only)); refine bE 2 #[.int .i64 0, .int .i64 0, .int .u8 0, .int .i64 0] 31 ?_; intro gb136 hg w5 hbox hb; have BK136 := Aside0.mk (hbox); have GW136 := hbS HB hg; have GE136 := hbS HB hg; replace HB := hbB HB hb; have NB135_136 := neL BK135 hg; have NB136_135 := neG BK135 hg; replace BK135 := bkB BK135 hb; clear hb hbox hg; have hnb6 := NB135_136.out; have hnc6 := NB136_135.out; obtain ⟨hcz7_0, hcz7_1, hcz7_2, hfz7_0, hfz7_1, hfz7_2⟩ := cell3 BK135) | ((with_reducible refine gC 18 rfl ?_); refine cG (some 16) Try.func18 #[.agg #[.slice A0_0 l0_0.length c0_0, .slice A0_1 l0_1.length c0_1, .slice A0_2 l0_2.length c0_2]] ?_; (with_reducible refine (recoupref21_May.calls k _ _ l0_0 _ _ l0_1 _ _ l0_2 true _ ?side1 ?side2 ?side3 ?side4 ?side5 ?side6 A2.out).mono ?_); (case side1 => exact kcB HR0_0 HB); (case side2 => exact HC0_0.out); (case side3 => exact kcB HR0_1 HB); (case side4 => exact HC0_1.out); (case side5 => exact kcB HR0_2 HB); (case side6 => exact HC0_2.out); rintro e w8 ⟨rfl, hb⟩; refine ⟨_, rfl, ?_⟩; replace BK135 := bkB BK135 hb; replace BK136 := bkB BK136 hb; replace HB := hbB HB hb; (try clear hb); (try clear hb2); (try clear hk); (try clear hi)))
    go_loopg [5, 6] k (fun kq v5 v6 w' => ∃ (x5_1 : Int) (x6_1 : Int), v5 = .int .i64 x5_1 ∧ v6 = .int .i64 x6_1 ∧ Aside0 (recoupref22_Best.l0 kq x5_1 x6_1 l0_0 l0_1 l0_2 = some (r1, r2, r3, r4, r5, r6)) ∧ Aside0 (kq ≤ k) ∧ Aside0 (w'.heap[gb135]? = some (.cells #[(.slice A0_0 l0_0.length c0_0), (.slice A0_1 l0_1.length c0_1), (.slice A0_2 l0_2.length c0_2)] 25 (0, 0))) ∧ Aside0 (w'.heap[gb136]? = some (.cells #[.int .i64 0, .int .i64 0, .int .u8 0, .int .i64 0] 31 (0, 0))) ∧ Aside0 (Below w.heap.size w w'))
    case atStart => exact ⟨(0), (0), rsE, rsE, H', ⟨Nat.le_refl _⟩, ⟨bkA BK135.out⟩, ⟨bkA BK136.out⟩, ⟨hbA HB.out⟩⟩
    case round =>
      clear H'
      (try clear c1); (try clear p2); (try clear c3); (try clear c6); (try clear hcz7_0 hcz7_1 hcz7_2 hfz7_0 hfz7_1 hfz7_2)
      obtain ⟨x5_1, x6_1, rfl, rfl, HA, HK1, BK135, BK136, HB⟩ := hrel
      cases gk with
      | zero => exact absurd HA.out (by simp [recoupref22_Best.l0])
      | succ k1 =>
        have H := HA.out
        clear HA
        simp only [recoupref22_Best.l0] at H
        by_cases c9 : x6_1 < (l0_1.length : Int)
        · rw [if_pos c9] at H
          have c9b0 : decide (x6_1 < (l0_1.length : Int)) = true := decide_eq_true c9
          clear c9
          by_cases c10 : 0 ≤ x6_1
          · rw [if_pos c10] at H
            have c10b0 : decide (0 ≤ x6_1) = true := decide_eq_true c10
            clear c10
            have H' := Aside0.mk H
            clear H
            have hnb11 := NB135_136.out
            have hnc11 := NB136_135.out
            obtain ⟨hcz12_0, hcz12_1, hcz12_2, hfz12_0, hfz12_1, hfz12_2⟩ := cell3 BK135
            have p138 : 0 ≤ (x6_1 : Int) := of_decide_eq_true asE
            have q138 : x6_1 < (l0_1.length : Int) := of_decide_eq_true asE
            obtain ⟨ad138, A138_0, c138_0, e138, hx138_0, hl138_0, hi138_0⟩ := at_L5 HR0_1.out x6_1 p138 q138
            cases e138
            replace hx138_0 := (HB.out.cell (World.block_lt_of_cell? w _ hx138_0)).trans hx138_0
            have HR138_0 := Aside0.mk hi138_0
            have HC138_0 := Aside0.mk hl138_0
            clear hi138_0 hl138_0
            replace p138 := eq_true p138
            replace q138 := eq_true q138
            go_wp2
            go_roundg k1
            case measure => have := HK1.out; omega
            case rel => exact ⟨(wrap64 (x5_1 + ((rd_L5 l0_1 x6_1).length : Int))), (wrap64 (x6_1 + 1)), rsE, rsE, H', ⟨by have := HK1.out; omega⟩, ⟨bkA BK135.out⟩, ⟨bkA BK136.out⟩, ⟨hbA HB.out⟩⟩
          · rw [if_neg c10] at H
            exact absurd H (by simp)
        · rw [if_neg c9] at H
          have c9b0 : decide (x6_1 < (l0_1.length : Int)) = false := decide_eq_false c9
          clear c9
          have HC13 := Aside0.mk H
          clear H
          have hnb14 := NB135_136.out
          have hnc14 := NB136_135.out
          obtain ⟨hcz15_0, hcz15_1, hcz15_2, hfz15_0, hfz15_1, hfz15_2⟩ := cell3 BK135
          go_upto_region 8 with (fail)
          go_cut [41] (fun v41 wc => ∃ (kq : Nat) (x41_12 : Bool), v41 = .bool x41_12 ∧ Aside0 (recoupref22_Best.j1 kq x41_12 l0_0 l0_1 l0_2 = some (r1, r2, r3, r4, r5, r6)) ∧ Aside0 (kq ≤ k1) ∧ Aside0 (wc.heap[gb135]? = some (.cells #[(.slice A0_0 l0_0.length c0_0), (.slice A0_1 l0_1.length c0_1), (.slice A0_2 l0_2.length c0_2)] 25 (0, 0))) ∧ Aside0 (wc.heap[gb136]? = some (.cells #[.int .i64 0, .int .i64 0, .int .u8 0, .int .i64 0] 31 (0, 0))) ∧ Aside0 (Below w.heap.size w wc))
          case first =>
            have H := HC13.out
            clear HC13
            by_cases c16 : x5_1 > 512
            · rw [if_pos c16] at H
              have c16b0 : decide (512 < x5_1) = true := decide_eq_true c16
              clear c16
              (first | rw [c16b0] | (simp only [i64_w, i32_w]; rw [c16b0]) | skip)
              have H' := Aside0.mk H
              clear H
              go_wp2
              go_meet
              case rel => exact ⟨_, (true), rsE, H', ⟨by have := HK1.out; first | omega | exact Nat.le_refl _⟩, ⟨bkA BK135.out⟩, ⟨bkA BK136.out⟩, ⟨hbA HB.out⟩⟩
            · rw [if_neg c16] at H
              have c16b0 : decide (512 < x5_1) = false := decide_eq_false c16
              clear c16
              (first | rw [c16b0] | (simp only [i64_w, i32_w]; rw [c16b0]) | skip)
              have H' := Aside0.mk H
              clear H
              have hnb17 := NB135_136.out
              have hnc17 := NB136_135.out
              obtain ⟨hcz18_0, hcz18_1, hcz18_2, hfz18_0, hfz18_1, hfz18_2⟩ := cell3 BK135
              go_wp2
              go_meet
              case rel => exact ⟨_, (decide ((l0_1.length : Int) ≥ 4096)), rsE, H', ⟨by have := HK1.out; first | omega | exact Nat.le_refl _⟩, ⟨bkA BK135.out⟩, ⟨bkA BK136.out⟩, ⟨hbA HB.out⟩⟩
          case rest =>
            clear HC13
            (try clear c1); (try clear p1); (try clear q1); (try clear hx1); (try clear p2 p2); (try clear c3); (try clear c6); (try clear p6); (try clear c9); (try clear c9b0); (try clear c10); (try clear c10b0); (try clear c11); (try clear c13); (try clear p13); (try clear q13); (try clear hx13); (try clear c14); (try clear c16); (try clear c16b0); (try clear c17); (try clear c18); (try clear hcz12_0 hcz12_1 hcz12_2 hfz12_0 hfz12_1 hfz12_2); (try clear hcz15_0 hcz15_1 hcz15_2 hfz15_0 hfz15_1 hfz15_2); (try clear hcz18_0 hcz18_1 hcz18_2 hfz18_0 hfz18_1 hfz18_2); (try clear hcz7_0 hcz7_1 hcz7_2 hfz7_0 hfz7_1 hfz7_2); (try clear hx138_0); (try clear p138); (try clear q138)
            obtain ⟨kq, x41_12, rfl, HA, HJ12, BK135, BK136, HB⟩ := hcut
            cases kq with
            | zero => exact absurd HA.out (by simp [recoupref22_Best.j1])
            | succ kj12 =>
              have H := HA.out
              clear HA
              simp only [recoupref22_Best.j1] at H
              by_cases c19 : x41_12 = true
              · subst c19
                rw [if_pos rfl] at H
                simp only [Option.some.injEq, Prod.mk.injEq] at H
                obtain ⟨rfl, rfl, rfl, rfl, rfl, rfl⟩ := H
                have hnb20 := NB136_135.out
                have hnc20 := NB135_136.out
                obtain ⟨hcz21_0, hcz21_1, hcz21_2, hcz21_3, hfz21_0, hfz21_1, hfz21_2, hfz21_3⟩ := cell4 BK136
                go_wp2
                refine bodyPost_ret (results_ctt rfl _ _ gb136 31 #[.int .i64 0, .int .i64 0, .int .u8 0, .int .i64 0] (0, 0) _ rfl (by refine bkR ?_; refine blk_put (cs := #[.int .i64 0, .int .i64 0, .int .u8 0, .int .i64 0]) ?_ 3 _ rfl; refine bkR ?_; refine blk_put (cs := #[.int .i64 0, .int .i64 0, .int .u8 0, .int .i64 0]) ?_ 2 _ rfl; refine bkR ?_; refine blk_put (cs := #[.int .i64 0, .int .i64 0, .int .u8 0, .int .i64 0]) ?_ 1 _ rfl; refine bkR ?_; refine blk_put (cs := #[.int .i64 0, .int .i64 0, .int .u8 0, .int .i64 0]) ?_ 0 _ rfl; refine bkR ?_; exact BK136.out) Try.underlying31 rfl (by kernel_rfl)) rfl ?_
                exact ⟨rfE, hbA HB.out⟩
              · replace c19 := Bool.eq_false_iff.mpr c19
                subst c19
                rw [if_neg nofT] at H
                have H' := Aside0.mk H
                clear H
                go_wp2_with (first | ((with_reducible refine gD 7 rfl ?_); (try (refine gate_guard (by rfl) ?_; dsimp only)); refine bE 7 #[.int .i64 0, .int .i64 0, .int .u8 0, .int .i64 0] 31 ?_; intro gb139 hg w22 hbox hb; have BK139 := Aside0.mk (hbox); have GW139 := hbS HB hg; have GE139 := hbS HB hg; replace HB := hbB HB hb; have NB135_139 := neL BK135 hg; have NB139_135 := neG BK135 hg; replace BK135 := bkB BK135 hb; have NB136_139 := neL BK136 hg; have NB139_136 := neG BK136 hg; replace BK136 := bkB BK136 hb; clear hb hbox hg; have hnb23 := NB139_135.out; have hnc23 := NB135_139.out; have hnb24 := NB139_136.out; have hnc24 := NB136_139.out; obtain ⟨hcz25_0, hcz25_1, hcz25_2, hcz25_3, hfz25_0, hfz25_1, hfz25_2, hfz25_3⟩ := cell4 BK139))
                go_loopg [8] kj12 (fun kq v8 w' => ∃ (x8_3 : Int) (x140000_3 : Int) (x140001_3 : Int) (x140002_3 : Int) (x140003_3 : Int), v8 = .int .i64 x8_3 ∧ Aside0 (recoupref22_Best.l1 kq x8_3 l0_0 l0_1 l0_2 x140000_3 x140001_3 x140002_3 x140003_3 = some (r1, r2, r3, r4, r5, r6)) ∧ Aside0 (kq ≤ kj12) ∧ Aside0 (w'.heap[gb135]? = some (.cells #[(.slice A0_0 l0_0.length c0_0), (.slice A0_1 l0_1.length c0_1), (.slice A0_2 l0_2.length c0_2)] 25 (0, 0))) ∧ Aside0 (w'.heap[gb136]? = some (.cells #[.int .i64 0, .int .i64 0, .int .u8 0, .int .i64 0] 31 (0, 0))) ∧ Aside0 (w'.heap[gb139]? = some (.cells #[.int .i64 x140000_3, .int .i64 x140001_3, .int .u8 x140002_3, .int .i64 x140003_3] 31 (0, 0))) ∧ Aside0 (Below w.heap.size w w'))
                case atStart => exact ⟨(0), (0), (0), (0), (1), rsE, H', ⟨Nat.le_refl _⟩, ⟨by refine bkR ?_; refine blk_far ?_ NB135_139.out _; refine bkR ?_; refine blk_far ?_ NB135_139.out _; refine bkR ?_; refine blk_far ?_ NB135_139.out _; refine bkR ?_; refine blk_far ?_ NB135_139.out _; refine bkR ?_; exact BK135.out⟩, ⟨by refine bkR ?_; refine blk_far ?_ NB136_139.out _; refine bkR ?_; refine blk_far ?_ NB136_139.out _; refine bkR ?_; refine blk_far ?_ NB136_139.out _; refine bkR ?_; refine blk_far ?_ NB136_139.out _; refine bkR ?_; exact BK136.out⟩, ⟨by refine bkR ?_; refine blk_put (cs := #[.int .i64 0, .int .i64 0, .int .u8 0, .int .i64 0]) ?_ 3 _ rfl; refine bkR ?_; refine blk_put (cs := #[.int .i64 0, .int .i64 0, .int .u8 0, .int .i64 0]) ?_ 2 _ rfl; refine bkR ?_; refine blk_put (cs := #[.int .i64 0, .int .i64 0, .int .u8 0, .int .i64 0]) ?_ 1 _ rfl; refine bkR ?_; refine blk_put (cs := #[.int .i64 0, .int .i64 0, .int .u8 0, .int .i64 0]) ?_ 0 _ rfl; refine bkR ?_; exact BK139.out⟩, ⟨hbA HB.out⟩⟩
                case round =>
                  clear H'
                  (try clear c1); (try clear p1 p1); (try clear q1 q1); (try clear hx1); (try clear c2); (try clear p2 p2); (try clear c3); (try clear c6); (try clear p6 p6); (try clear c9); (try clear c9b0); (try clear c10); (try clear c10b0); (try clear c11); (try clear c13); (try clear p13 p13); (try clear q13 q13); (try clear hx13); (try clear c14); (try clear c16); (try clear c16b0); (try clear c17); (try clear c18); (try clear c19); (try clear c20); (try clear c23); (try clear c24); (try clear hcz12_0 hcz12_1 hcz12_2 hfz12_0 hfz12_1 hfz12_2); (try clear hcz15_0 hcz15_1 hcz15_2 hfz15_0 hfz15_1 hfz15_2); (try clear hcz18_0 hcz18_1 hcz18_2 hfz18_0 hfz18_1 hfz18_2); (try clear hcz21_0 hcz21_1 hcz21_2 hcz21_3 hfz21_0 hfz21_1 hfz21_2 hfz21_3); (try clear hcz25_0 hcz25_1 hcz25_2 hcz25_3 hfz25_0 hfz25_1 hfz25_2 hfz25_3); (try clear hcz7_0 hcz7_1 hcz7_2 hfz7_0 hfz7_1 hfz7_2); (try clear hx138_0); (try clear p138); (try clear q138)
                  obtain ⟨x8_3, x140000_3, x140001_3, x140002_3, x140003_3, rfl, HA, HK3, BK135, BK136, BK139, HB⟩ := hrel
                  cases gk with
                  | zero => exact absurd HA.out (by simp [recoupref22_Best.l1])
                  | succ k3 =>
                    have H := HA.out
                    clear HA
                    simp only [recoupref22_Best.l1] at H
                    by_cases c26 : x8_3 < (l0_1.length : Int)
                    · rw [if_pos c26] at H
                      have c26b0 : decide (x8_3 < (l0_1.length : Int)) = true := decide_eq_true c26
                      clear c26
                      have H' := Aside0.mk H
                      clear H
                      have hnb27 := NB135_136.out
                      have hnc27 := NB136_135.out
                      have hnb28 := NB135_139.out
                      have hnc28 := NB139_135.out
                      obtain ⟨hcz29_0, hcz29_1, hcz29_2, hfz29_0, hfz29_1, hfz29_2⟩ := cell3 BK135
                      go_wp2
                      go_loopg [9] k3 (fun kq v9 w' => ∃ (x9_4 : Int) (x140000_4 : Int) (x140001_4 : Int) (x140002_4 : Int) (x140003_4 : Int), v9 = .int .i64 x9_4 ∧ Aside0 (recoupref22_Best.l2 kq x8_3 x9_4 l0_0 l0_1 l0_2 x140000_4 x140001_4 x140002_4 x140003_4 = some (r1, r2, r3, r4, r5, r6)) ∧ Aside0 (kq ≤ k3) ∧ Aside0 (w'.heap[gb135]? = some (.cells #[(.slice A0_0 l0_0.length c0_0), (.slice A0_1 l0_1.length c0_1), (.slice A0_2 l0_2.length c0_2)] 25 (0, 0))) ∧ Aside0 (w'.heap[gb136]? = some (.cells #[.int .i64 0, .int .i64 0, .int .u8 0, .int .i64 0] 31 (0, 0))) ∧ Aside0 (w'.heap[gb139]? = some (.cells #[.int .i64 x140000_4, .int .i64 x140001_4, .int .u8 x140002_4, .int .i64 x140003_4] 31 (0, 0))) ∧ Aside0 (Below w.heap.size w w'))
                      case atStart => exact ⟨(0), (x140000_3), (x140001_3), (x140002_3), (x140003_3), rsE, H', ⟨Nat.le_refl _⟩, ⟨bkA BK135.out⟩, ⟨bkA BK136.out⟩, ⟨bkA BK139.out⟩, ⟨hbA HB.out⟩⟩
                      case round =>
                        clear H'
                        (try clear c1); (try clear p1 p1); (try clear q1 q1); (try clear hx1); (try clear c2); (try clear p2 p2); (try clear c3); (try clear c6); (try clear p6 p6); (try clear c9); (try clear c9b0); (try clear c10); (try clear c10b0); (try clear c11); (try clear c13); (try clear p13 p13); (try clear q13 q13); (try clear hx13); (try clear c14); (try clear c16); (try clear c16b0); (try clear c17); (try clear c18); (try clear c19); (try clear c20); (try clear c23); (try clear c24); (try clear c26); (try clear c26b0); (try clear c27); (try clear c28); (try clear hcz12_0 hcz12_1 hcz12_2 hfz12_0 hfz12_1 hfz12_2); (try clear hcz15_0 hcz15_1 hcz15_2 hfz15_0 hfz15_1 hfz15_2); (try clear hcz18_0 hcz18_1 hcz18_2 hfz18_0 hfz18_1 hfz18_2); (try clear hcz21_0 hcz21_1 hcz21_2 hcz21_3 hfz21_0 hfz21_1 hfz21_2 hfz21_3); (try clear hcz25_0 hcz25_1 hcz25_2 hcz25_3 hfz25_0 hfz25_1 hfz25_2 hfz25_3); (try clear hcz29_0 hcz29_1 hcz29_2 hfz29_0 hfz29_1 hfz29_2); (try clear hcz7_0 hcz7_1 hcz7_2 hfz7_0 hfz7_1 hfz7_2); (try clear hx138_0); (try clear p138); (try clear q138)
                        obtain ⟨x9_4, x140000_4, x140001_4, x140002_4, x140003_4, rfl, HA, HK4, BK135, BK136, BK139, HB⟩ := hrel
                        cases gk with
                        | zero => exact absurd HA.out (by simp [recoupref22_Best.l2])
                        | succ k4 =>
                          have H := HA.out
                          clear HA
                          simp only [recoupref22_Best.l2] at H
                          by_cases c30 : 0 ≤ x8_3
                          · rw [if_pos c30] at H
                            have c30b0 : decide (0 ≤ x8_3) = true := decide_eq_true c30
                            clear c30
                            by_cases c31 : x8_3 < (l0_1.length : Int)
                            · rw [if_pos c31] at H
                              have c31b0 : decide (x8_3 < (l0_1.length : Int)) = true := decide_eq_true c31
                              clear c31
                              by_cases c32 : x9_4 < ((rd_L5 l0_1 x8_3).length : Int)
                              · rw [if_pos c32] at H
                                have c32b0 : decide (x9_4 < ((rd_L5 l0_1 x8_3).length : Int)) = true := decide_eq_true c32
                                clear c32
                                have H' := Aside0.mk H
                                clear H
                                have hnb33 := NB135_136.out
                                have hnc33 := NB136_135.out
                                have hnb34 := NB135_139.out
                                have hnc34 := NB139_135.out
                                obtain ⟨hcz35_0, hcz35_1, hcz35_2, hfz35_0, hfz35_1, hfz35_2⟩ := cell3 BK135
                                have p140 : 0 ≤ (x8_3 : Int) := of_decide_eq_true asE
                                have q140 : x8_3 < (l0_1.length : Int) := of_decide_eq_true asE
                                obtain ⟨ad140, A140_0, c140_0, e140, hx140_0, hl140_0, hi140_0⟩ := at_L5 HR0_1.out x8_3 p140 q140
                                cases e140
                                replace hx140_0 := (HB.out.cell (World.block_lt_of_cell? w _ hx140_0)).trans hx140_0
                                have HR140_0 := Aside0.mk hi140_0
                                have HC140_0 := Aside0.mk hl140_0
                                clear hi140_0 hl140_0
                                replace p140 := eq_true p140
                                replace q140 := eq_true q140
                                go_wp2
                                go_loopg [10] k4 (fun kq v10 w' => ∃ (x10_5 : Int) (x140000_5 : Int) (x140001_5 : Int) (x140002_5 : Int) (x140003_5 : Int), v10 = .int .i64 x10_5 ∧ Aside0 (recoupref22_Best.l3 kq x8_3 x9_4 x10_5 l0_0 l0_1 l0_2 x140000_5 x140001_5 x140002_5 x140003_5 = some (r1, r2, r3, r4, r5, r6)) ∧ Aside0 (kq ≤ k4) ∧ Aside0 (w'.heap[gb135]? = some (.cells #[(.slice A0_0 l0_0.length c0_0), (.slice (some ad140) l0_1.length c0_1), (.slice A0_2 l0_2.length c0_2)] 25 (0, 0))) ∧ Aside0 (w'.heap[gb136]? = some (.cells #[.int .i64 0, .int .i64 0, .int .u8 0, .int .i64 0] 31 (0, 0))) ∧ Aside0 (w'.heap[gb139]? = some (.cells #[.int .i64 x140000_5, .int .i64 x140001_5, .int .u8 x140002_5, .int .i64 x140003_5] 31 (0, 0))) ∧ Aside0 (Below w.heap.size w w'))
                                case atStart => exact ⟨(wrap64 (x9_4 + 1)), (x140000_4), (x140001_4), (x140002_4), (x140003_4), rsE, H', ⟨Nat.le_refl _⟩, ⟨bkA BK135.out⟩, ⟨bkA BK136.out⟩, ⟨bkA BK139.out⟩, ⟨hbA HB.out⟩⟩
                                case round =>
                                  clear H'
                                  (try clear c1); (try clear p1 p1); (try clear q1 q1); (try clear hx1); (try clear c2); (try clear p2 p2); (try clear c3); (try clear c6); (try clear p6 p6); (try clear c9); (try clear c9b0); (try clear c10); (try clear c10b0); (try clear c11); (try clear c13); (try clear p13 p13); (try clear q13 q13); (try clear hx13); (try clear c14); (try clear p14); (try clear q14); (try clear hx14); (try clear c16); (try clear c16b0); (try clear c17); (try clear c18); (try clear c19); (try clear c20); (try clear c23); (try clear c24); (try clear c26); (try clear c26b0); (try clear c27); (try clear c28); (try clear c30); (try clear c30b0); (try clear c31); (try clear c31b0); (try clear c32); (try clear c32b0); (try clear c33); (try clear c34); (try clear hcz12_0 hcz12_1 hcz12_2 hfz12_0 hfz12_1 hfz12_2); (try clear hcz15_0 hcz15_1 hcz15_2 hfz15_0 hfz15_1 hfz15_2); (try clear hcz18_0 hcz18_1 hcz18_2 hfz18_0 hfz18_1 hfz18_2); (try clear hcz21_0 hcz21_1 hcz21_2 hcz21_3 hfz21_0 hfz21_1 hfz21_2 hfz21_3); (try clear hcz25_0 hcz25_1 hcz25_2 hcz25_3 hfz25_0 hfz25_1 hfz25_2 hfz25_3); (try clear hcz29_0 hcz29_1 hcz29_2 hfz29_0 hfz29_1 hfz29_2); (try clear hcz35_0 hcz35_1 hcz35_2 hfz35_0 hfz35_1 hfz35_2); (try clear hcz7_0 hcz7_1 hcz7_2 hfz7_0 hfz7_1 hfz7_2); (try clear hx138_0); (try clear hx140_0); (try clear p138); (try clear p140); (try clear q138); (try clear q140)
                                  obtain ⟨x10_5, x140000_5, x140001_5, x140002_5, x140003_5, rfl, HA, HK5, BK135, BK136, BK139, HB⟩ := hrel
                                  cases gk with
                                  | zero => exact absurd HA.out (by simp [recoupref22_Best.l3])
                                  | succ k5 =>
                                    have H := HA.out
                                    clear HA
                                    simp only [recoupref22_Best.l3] at H
                                    by_cases c36 : 0 ≤ x8_3
                                    · rw [if_pos c36] at H
                                      have c36b0 : decide (0 ≤ x8_3) = true := decide_eq_true c36
                                      clear c36
                                      by_cases c37 : x8_3 < (l0_1.length : Int)
                                      · rw [if_pos c37] at H
                                        have c37b0 : decide (x8_3 < (l0_1.length : Int)) = true := decide_eq_true c37
                                        clear c37
                                        by_cases c38 : x10_5 < ((rd_L5 l0_1 x8_3).length : Int)
                                        · rw [if_pos c38] at H
                                          have c38b0 : decide (x10_5 < ((rd_L5 l0_1 x8_3).length : Int)) = true := decide_eq_true c38
                                          clear c38
                                          by_cases c39 : 0 ≤ x9_4
                                          · rw [if_pos c39] at H
                                            have c39b0 : decide (0 ≤ x9_4) = true := decide_eq_true c39
                                            clear c39
                                            by_cases c40 : x9_4 < ((rd_L5 l0_1 x8_3).length : Int)
                                            · rw [if_pos c40] at H
                                              have c40b0 : decide (x9_4 < ((rd_L5 l0_1 x8_3).length : Int)) = true := decide_eq_true c40
                                              clear c40
                                              by_cases c41 : 0 ≤ x10_5
                                              · rw [if_pos c41] at H
                                                have c41b0 : decide (0 ≤ x10_5) = true := decide_eq_true c41
                                                clear c41
                                                obtain ⟨⟨t149, t150⟩, A42, H⟩ := bindO H
                                                (try dsimp only at H)
                                                obtain ⟨t153, A43, H⟩ := bindO H
                                                (try dsimp only at H)
                                                have H' := Aside0.mk H
                                                clear H
                                                have hnb44 := NB135_136.out
                                                have hnc44 := NB136_135.out
                                                have hnb45 := NB135_139.out
                                                have hnc45 := NB139_135.out
                                                obtain ⟨hcz46_0, hcz46_1, hcz46_2, hfz46_0, hfz46_1, hfz46_2⟩ := cell3 BK135
                                                have p141 : 0 ≤ (x8_3 : Int) := of_decide_eq_true asE
                                                have q141 : x8_3 < (l0_1.length : Int) := of_decide_eq_true asE
                                                obtain ⟨ad141, A141_0, c141_0, e141, hx141_0, hl141_0, hi141_0⟩ := at_L5 HR0_1.out x8_3 p141 q141
                                                obtain rfl : ad140 = ad141 := (by injection e141)
                                                replace hx141_0 := (HB.out.cell (World.block_lt_of_cell? w _ hx141_0)).trans hx141_0
                                                have HR141_0 := Aside0.mk hi141_0
                                                have HC141_0 := Aside0.mk hl141_0
                                                clear hi141_0 hl141_0
                                                replace p141 := eq_true p141
                                                replace q141 := eq_true q141
                                                try go_wp2
                                                replace BK135 := Aside0.mk (blk_drew BK135.out)
                                                replace BK136 := Aside0.mk (blk_drew BK136.out)
                                                replace BK139 := Aside0.mk (blk_drew BK139.out)
                                                replace HB := Aside0.mk (below_drew1 HB.out)
                                                have p142 : 0 ≤ (x8_3 : Int) := of_decide_eq_true asE
                                                have q142 : x8_3 < (l0_1.length : Int) := of_decide_eq_true asE
                                                obtain ⟨ad142, A142_0, c142_0, e142, hx142_0, hl142_0, hi142_0⟩ := at_L5 HR0_1.out x8_3 p142 q142
                                                have hw142_0 := hx142_0
                                                obtain rfl : ad140 = ad142 := (by injection e142)
                                                replace hx142_0 := (HB.out.cell (World.block_lt_of_cell? w _ hx142_0)).trans hx142_0
                                                have HR142_0 := Aside0.mk hi142_0
                                                have HC142_0 := Aside0.mk hl142_0
                                                clear hi142_0 hl142_0
                                                replace p142 := eq_true p142
                                                replace q142 := eq_true q142
                                                have p143 : 0 ≤ (x9_4 : Int) := of_decide_eq_true asE
                                                have q143 : x9_4 < ((rd_L5 l0_1 x8_3).length : Int) := of_decide_eq_true asE
                                                obtain ⟨ad143, e143, hx143_0, hx143_1⟩ := at_T61 HR142_0.out x9_4 p143 q143
                                                have hw143_1 := hx143_1
                                                have hw143_0 := hx143_0
                                                cases e143
                                                replace hx143_0 := (HB.out.cell (World.block_lt_of_cell? w _ hx143_0)).trans hx143_0
                                                replace hx143_1 := (HB.out.cell (World.block_lt_of_cell? w _ hx143_1)).trans hx143_1
                                                replace p143 := eq_true p143
                                                replace q143 := eq_true q143
                                                have p144 : 0 ≤ (x8_3 : Int) := of_decide_eq_true asE
                                                have q144 : x8_3 < (l0_1.length : Int) := of_decide_eq_true asE
                                                obtain ⟨ad144, A144_0, c144_0, e144, hx144_0, hl144_0, hi144_0⟩ := at_L5 HR0_1.out x8_3 p144 q144
                                                have hw144_0 := hx144_0
                                                obtain rfl : ad140 = ad144 := (by injection e144)
                                                replace hx144_0 := (HB.out.cell (World.block_lt_of_cell? w _ hx144_0)).trans hx144_0
                                                have HR144_0 := Aside0.mk hi144_0
                                                have HC144_0 := Aside0.mk hl144_0
                                                clear hi144_0 hl144_0
                                                replace p144 := eq_true p144
                                                replace q144 := eq_true q144
                                                have ea_ := Option.some.inj (hx142_0.symm.trans hx144_0)
                                                injection ea_ with ea_ en_ ec_
                                                subst ea_
                                                subst ec_
                                                clear en_
                                                have p145 : 0 ≤ (x10_5 : Int) := of_decide_eq_true asE
                                                have q145 : x10_5 < ((rd_L5 l0_1 x8_3).length : Int) := of_decide_eq_true asE
                                                obtain ⟨ad145, e145, hx145_0, hx145_1⟩ := at_T61 HR144_0.out x10_5 p145 q145
                                                have hw145_1 := hx145_1
                                                have hw145_0 := hx145_0
                                                cases e145
                                                replace hx145_0 := (HB.out.cell (World.block_lt_of_cell? w _ hx145_0)).trans hx145_0
                                                replace hx145_1 := (HB.out.cell (World.block_lt_of_cell? w _ hx145_1)).trans hx145_1
                                                replace p145 := eq_true p145
                                                replace q145 := eq_true q145
                                                refine start_ (n := 21) (S := fun w' => w'.cell? ⟨gb135, 0, none⟩ = some (.slice A0_0 l0_0.length c0_0) ∧ w'.cell? ⟨gb135, 1, none⟩ = some (.slice (some ad140) l0_1.length c0_1) ∧ w'.cell? ⟨gb135, 2, none⟩ = some (.slice A0_2 l0_2.length c0_2) ∧ w'.cell? (ad140.add (x8_3).toNat) = some (.slice (some ad143) (rd_L5 l0_1 x8_3).length c142_0) ∧ w'.cell? (ad143.add ((x9_4).toNat * 2)) = some (.int .i64 ((rd_T61 (rd_L5 l0_1 x8_3) x9_4).f0)) ∧ w'.cell? ⟨(ad143.add ((x9_4).toNat * 2)).block, (ad143.add ((x9_4).toNat * 2)).off + 1, none⟩ = some (.int .u8 ((rd_T61 (rd_L5 l0_1 x8_3) x9_4).f1)) ∧ w'.cell? (ad140.add (x8_3).toNat) = some (.slice (some ad143) (rd_L5 l0_1 x8_3).length c142_0) ∧ w'.cell? (ad143.add ((x10_5).toNat * 2)) = some (.int .i64 ((rd_T61 (rd_L5 l0_1 x8_3) x10_5).f0)) ∧ w'.cell? ⟨(ad143.add ((x10_5).toNat * 2)).block, (ad143.add ((x10_5).toNat * 2)).off + 1, none⟩ = some (.int .u8 ((rd_T61 (rd_L5 l0_1 x8_3) x10_5).f1))) (ds := []) (.replicate 21 false) (by kernel_rfl) rfl rfl ⟨(blk_cell BK135.out 0).trans rfl, (blk_cell BK135.out 1).trans rfl, (blk_cell BK135.out 2).trans rfl, ((HB.out.cell (World.block_lt_of_cell? w _ hw142_0)).trans hw142_0), ((HB.out.cell (World.block_lt_of_cell? w _ hw143_0)).trans hw143_0), ((HB.out.cell (World.block_lt_of_cell? w _ hw143_1)).trans hw143_1), ((HB.out.cell (World.block_lt_of_cell? w _ hw144_0)).trans hw144_0), ((HB.out.cell (World.block_lt_of_cell? w _ hw145_0)).trans hw145_0), ((HB.out.cell (World.block_lt_of_cell? w _ hw145_1)).trans hw145_1)⟩ (fun hHeld => ?_); refine with_tabW recoupref22_Best.tab20 recoupref22_Best.bits20 (fun HT_ HW_ => ?_)
                                                generalize wr.drew = w47 at BK135 BK136 BK139 HB HR142_0 HR144_0 hx142_0 hx143_0 hx143_1 hx144_0 hx145_0 hx145_1 hHeld ⊢
                                                refine pu 0 (some 73) (mB 21 1) HT_ ?_
                                                refine pu 2 (some 75) (mB 21 5) HT_ ?_
                                                refine pu 5 (some 78) (mB 21 37) HT_ ?_
                                                refine pu 9 (some 82) (mB 21 549) HT_ ?_
                                                refine pu 11 (some 84) (mB 21 2597) HT_ ?_
                                                refine pu 14 (some 87) (mB 21 18981) HT_ ?_
                                                refine tk9 1 (some 74) (mB 21 18983) HT_ HW_ hHeld ?_
                                                refine pu 3 (some 76) (mB 21 18991) HT_ ?_
                                                refine tk9 4 (some 77) (mB 21 19007) HT_ HW_ hHeld ?_
                                                refine pu 6 (some 79) (mB 21 19071) HT_ ?_
                                                refine pu 7 (some 80) (mB 21 19199) HT_ ?_
                                                refine tk9 8 (some 81) (mB 21 19455) HT_ HW_ hHeld ?_
                                                refine tk9 10 (some 83) (mB 21 20479) HT_ HW_ hHeld ?_
                                                refine pu 12 (some 85) (mB 21 24575) HT_ ?_
                                                refine tk9 13 (some 86) (mB 21 32767) HT_ HW_ hHeld ?_
                                                refine pu 15 (some 88) (mB 21 65535) HT_ ?_
                                                refine pu 16 (some 89) (mB 21 131071) HT_ ?_
                                                refine tk9 17 (some 90) (mB 21 262143) HT_ HW_ hHeld ?_
                                                refine pu 18 (some 91) (mB 21 524287) HT_ ?_
                                                refine one_ (i := 19) (N := some 11) (mB 21 1048575) rfl rfl (one_of HT_.out (by kernel_rfl)) (by decide) (fun K hK => ?_)
                                                refine box_step ?hg (N := 11) ?hd (cs := #[.int .i64 0, .int .i64 0, .int .u8 0, .int .i64 0]) (t := 31) ?hr ?_; (case hd => rfl); (case hg => rfl); (case hr => first | (go_simp; done) | (go_simp; rfl))
                                                intro gb146 hg w48 hbox hb
                                                have BK146 := Aside0.mk (hbox)
                                                have GW146 := hbS HB hg
                                                have GE146 := hbS HB hg
                                                replace HB := hbB HB hb
                                                have NB135_146 := neL BK135 hg
                                                have NB146_135 := neG BK135 hg
                                                replace BK135 := bkB BK135 hb
                                                have NB136_146 := neL BK136 hg
                                                have NB146_136 := neG BK136 hg
                                                replace BK136 := bkB BK136 hb
                                                have NB139_146 := neL BK139 hg
                                                have NB146_139 := neG BK139 hg
                                                replace BK139 := bkB BK139 hb
                                                clear hb hbox hg
                                                refine hK.out _ _ ⟨(blk_cell BK135.out 0).trans rfl, (blk_cell BK135.out 1).trans rfl, (blk_cell BK135.out 2).trans rfl, ((HB.out.cell (World.block_lt_of_cell? w _ hw142_0)).trans hw142_0), ((HB.out.cell (World.block_lt_of_cell? w _ hw143_0)).trans hw143_0), ((HB.out.cell (World.block_lt_of_cell? w _ hw143_1)).trans hw143_1), ((HB.out.cell (World.block_lt_of_cell? w _ hw144_0)).trans hw144_0), ((HB.out.cell (World.block_lt_of_cell? w _ hw145_0)).trans hw145_0), ((HB.out.cell (World.block_lt_of_cell? w _ hw145_1)).trans hw145_1)⟩ (fun hHeld => ?_)
                                                clear hK K
                                                refine norm_ (a' := ?_) ?_ ?_
                                                rotate_left
                                                · show Act.put _ (some 11) _ = _
                                                  simp only [Act.put, List.setIfInBounds_toArray, List.set_cons_zero, List.set_cons_succ, i64_w, i32_w]
                                                  rfl
                                                refine one_ (i := 20) (N := none) (mB 21 2097151) rfl rfl (one_of HT_.out (by kernel_rfl)) (by decide) (fun K hK => ?_)
                                                have hs49 : w48.cell? ⟨gb146, 0, none⟩ = some (.int .i64 0) := (blk_cell BK146.out 0).trans rfl
                                                have hfs49 := blk_frozen BK146.out 0
                                                have hns49_0 := NB135_146.out
                                                have hns49_1 := NB136_146.out
                                                have hns49_2 := NB139_146.out
                                                have hms49_0 := NB146_135.out
                                                have hms49_1 := NB146_136.out
                                                have hms49_2 := NB146_139.out
                                                have hs50 : w48.cell? ⟨gb146, 1, none⟩ = some (.int .i64 0) := (blk_cell BK146.out 1).trans rfl
                                                have hfs50 := blk_frozen BK146.out 1
                                                have hns50_0 := NB135_146.out
                                                have hns50_1 := NB136_146.out
                                                have hns50_2 := NB139_146.out
                                                have hms50_0 := NB146_135.out
                                                have hms50_1 := NB146_136.out
                                                have hms50_2 := NB146_139.out
                                                have hs51 : w48.cell? ⟨gb146, 2, none⟩ = some (.int .u8 0) := (blk_cell BK146.out 2).trans rfl
                                                have hfs51 := blk_frozen BK146.out 2
                                                have hns51_0 := NB135_146.out
                                                have hns51_1 := NB136_146.out
                                                have hns51_2 := NB139_146.out
                                                have hms51_0 := NB146_135.out
                                                have hms51_1 := NB146_136.out
                                                have hms51_2 := NB146_139.out
                                                have hs52 : w48.cell? ⟨gb146, 3, none⟩ = some (.int .i64 0) := (blk_cell BK146.out 3).trans rfl
                                                have hfs52 := blk_frozen BK146.out 3
                                                have hns52_0 := NB135_146.out
                                                have hns52_1 := NB136_146.out
                                                have hns52_2 := NB139_146.out
                                                have hms52_0 := NB146_135.out
                                                have hms52_1 := NB146_136.out
                                                have hms52_2 := NB146_139.out
                                                refine skip_ (w1 := ?_) (by rfl) rfl ?_ ?_
                                                rotate_left
                                                · go_simp
                                                  rfl
                                                refine hK.out _ _ ⟨((cell_far (p := ⟨gb146, _, none⟩) NB135_146.out _).trans (((cell_far (p := ⟨gb146, _, none⟩) NB135_146.out _).trans (((cell_far (p := ⟨gb146, _, none⟩) NB135_146.out _).trans (((cell_far (p := ⟨gb146, _, none⟩) NB135_146.out _).trans (hHeld.1)))))))), ((cell_far (p := ⟨gb146, _, none⟩) NB135_146.out _).trans (((cell_far (p := ⟨gb146, _, none⟩) NB135_146.out _).trans (((cell_far (p := ⟨gb146, _, none⟩) NB135_146.out _).trans (((cell_far (p := ⟨gb146, _, none⟩) NB135_146.out _).trans (hHeld.2.1)))))))), ((cell_far (p := ⟨gb146, _, none⟩) NB135_146.out _).trans (((cell_far (p := ⟨gb146, _, none⟩) NB135_146.out _).trans (((cell_far (p := ⟨gb146, _, none⟩) NB135_146.out _).trans (((cell_far (p := ⟨gb146, _, none⟩) NB135_146.out _).trans (hHeld.2.2.1)))))))), ((cell_far (p := ⟨gb146, _, none⟩) (by first | exact Nat.ne_of_lt (Nat.lt_of_lt_of_le (by have := World.block_lt_of_cell? _ _ hw142_0; first | rwa [add_block] at this | exact this) GW146.out) | (rw [add_block]; exact Nat.ne_of_lt (Nat.lt_of_lt_of_le (by have := World.block_lt_of_cell? _ _ hw142_0; first | rwa [add_block] at this | exact this) GW146.out)) | (show (Addr.add _ _).block ≠ _; rw [add_block]; exact Nat.ne_of_lt (Nat.lt_of_lt_of_le (by have := World.block_lt_of_cell? _ _ hw142_0; first | rwa [add_block] at this | exact this) GW146.out)) | (dsimp only; exact Nat.ne_of_lt (Nat.lt_of_lt_of_le (by have := World.block_lt_of_cell? _ _ hw142_0; first | rwa [add_block] at this | exact this) GW146.out))) _).trans (((cell_far (p := ⟨gb146, _, none⟩) (by first | exact Nat.ne_of_lt (Nat.lt_of_lt_of_le (by have := World.block_lt_of_cell? _ _ hw142_0; first | rwa [add_block] at this | exact this) GW146.out) | (rw [add_block]; exact Nat.ne_of_lt (Nat.lt_of_lt_of_le (by have := World.block_lt_of_cell? _ _ hw142_0; first | rwa [add_block] at this | exact this) GW146.out)) | (show (Addr.add _ _).block ≠ _; rw [add_block]; exact Nat.ne_of_lt (Nat.lt_of_lt_of_le (by have := World.block_lt_of_cell? _ _ hw142_0; first | rwa [add_block] at this | exact this) GW146.out)) | (dsimp only; exact Nat.ne_of_lt (Nat.lt_of_lt_of_le (by have := World.block_lt_of_cell? _ _ hw142_0; first | rwa [add_block] at this | exact this) GW146.out))) _).trans (((cell_far (p := ⟨gb146, _, none⟩) (by first | exact Nat.ne_of_lt (Nat.lt_of_lt_of_le (by have := World.block_lt_of_cell? _ _ hw142_0; first | rwa [add_block] at this | exact this) GW146.out) | (rw [add_block]; exact Nat.ne_of_lt (Nat.lt_of_lt_of_le (by have := World.block_lt_of_cell? _ _ hw142_0; first | rwa [add_block] at this | exact this) GW146.out)) | (show (Addr.add _ _).block ≠ _; rw [add_block]; exact Nat.ne_of_lt (Nat.lt_of_lt_of_le (by have := World.block_lt_of_cell? _ _ hw142_0; first | rwa [add_block] at this | exact this) GW146.out)) | (dsimp only; exact Nat.ne_of_lt (Nat.lt_of_lt_of_le (by have := World.block_lt_of_cell? _ _ hw142_0; first | rwa [add_block] at this | exact this) GW146.out))) _).trans (((cell_far (p := ⟨gb146, _, none⟩) (by first | exact Nat.ne_of_lt (Nat.lt_of_lt_of_le (by have := World.block_lt_of_cell? _ _ hw142_0; first | rwa [add_block] at this | exact this) GW146.out) | (rw [add_block]; exact Nat.ne_of_lt (Nat.lt_of_lt_of_le (by have := World.block_lt_of_cell? _ _ hw142_0; first | rwa [add_block] at this | exact this) GW146.out)) | (show (Addr.add _ _).block ≠ _; rw [add_block]; exact Nat.ne_of_lt (Nat.lt_of_lt_of_le (by have := World.block_lt_of_cell? _ _ hw142_0; first | rwa [add_block] at this | exact this) GW146.out)) | (dsimp only; exact Nat.ne_of_lt (Nat.lt_of_lt_of_le (by have := World.block_lt_of_cell? _ _ hw142_0; first | rwa [add_block] at this | exact this) GW146.out))) _).trans (hHeld.2.2.2.1)))))))), ((cell_far (p := ⟨gb146, _, none⟩) (by first | exact Nat.ne_of_lt (Nat.lt_of_lt_of_le (by have := World.block_lt_of_cell? _ _ hw143_0; first | rwa [add_block] at this | exact this) GW146.out) | (rw [add_block]; exact Nat.ne_of_lt (Nat.lt_of_lt_of_le (by have := World.block_lt_of_cell? _ _ hw143_0; first | rwa [add_block] at this | exact this) GW146.out)) | (show (Addr.add _ _).block ≠ _; rw [add_block]; exact Nat.ne_of_lt (Nat.lt_of_lt_of_le (by have := World.block_lt_of_cell? _ _ hw143_0; first | rwa [add_block] at this | exact this) GW146.out)) | (dsimp only; exact Nat.ne_of_lt (Nat.lt_of_lt_of_le (by have := World.block_lt_of_cell? _ _ hw143_0; first | rwa [add_block] at this | exact this) GW146.out))) _).trans (((cell_far (p := ⟨gb146, _, none⟩) (by first | exact Nat.ne_of_lt (Nat.lt_of_lt_of_le (by have := World.block_lt_of_cell? _ _ hw143_0; first | rwa [add_block] at this | exact this) GW146.out) | (rw [add_block]; exact Nat.ne_of_lt (Nat.lt_of_lt_of_le (by have := World.block_lt_of_cell? _ _ hw143_0; first | rwa [add_block] at this | exact this) GW146.out)) | (show (Addr.add _ _).block ≠ _; rw [add_block]; exact Nat.ne_of_lt (Nat.lt_of_lt_of_le (by have := World.block_lt_of_cell? _ _ hw143_0; first | rwa [add_block] at this | exact this) GW146.out)) | (dsimp only; exact Nat.ne_of_lt (Nat.lt_of_lt_of_le (by have := World.block_lt_of_cell? _ _ hw143_0; first | rwa [add_block] at this | exact this) GW146.out))) _).trans (((cell_far (p := ⟨gb146, _, none⟩) (by first | exact Nat.ne_of_lt (Nat.lt_of_lt_of_le (by have := World.block_lt_of_cell? _ _ hw143_0; first | rwa [add_block] at this | exact this) GW146.out) | (rw [add_block]; exact Nat.ne_of_lt (Nat.lt_of_lt_of_le (by have := World.block_lt_of_cell? _ _ hw143_0; first | rwa [add_block] at this | exact this) GW146.out)) | (show (Addr.add _ _).block ≠ _; rw [add_block]; exact Nat.ne_of_lt (Nat.lt_of_lt_of_le (by have := World.block_lt_of_cell? _ _ hw143_0; first | rwa [add_block] at this | exact this) GW146.out)) | (dsimp only; exact Nat.ne_of_lt (Nat.lt_of_lt_of_le (by have := World.block_lt_of_cell? _ _ hw143_0; first | rwa [add_block] at this | exact this) GW146.out))) _).trans (((cell_far (p := ⟨gb146, _, none⟩) (by first | exact Nat.ne_of_lt (Nat.lt_of_lt_of_le (by have := World.block_lt_of_cell? _ _ hw143_0; first | rwa [add_block] at this | exact this) GW146.out) | (rw [add_block]; exact Nat.ne_of_lt (Nat.lt_of_lt_of_le (by have := World.block_lt_of_cell? _ _ hw143_0; first | rwa [add_block] at this | exact this) GW146.out)) | (show (Addr.add _ _).block ≠ _; rw [add_block]; exact Nat.ne_of_lt (Nat.lt_of_lt_of_le (by have := World.block_lt_of_cell? _ _ hw143_0; first | rwa [add_block] at this | exact this) GW146.out)) | (dsimp only; exact Nat.ne_of_lt (Nat.lt_of_lt_of_le (by have := World.block_lt_of_cell? _ _ hw143_0; first | rwa [add_block] at this | exact this) GW146.out))) _).trans (hHeld.2.2.2.2.1)))))))), ((cell_far (p := ⟨gb146, _, none⟩) (by first | exact Nat.ne_of_lt (Nat.lt_of_lt_of_le (by have := World.block_lt_of_cell? _ _ hw143_1; first | rwa [add_block] at this | exact this) GW146.out) | (rw [add_block]; exact Nat.ne_of_lt (Nat.lt_of_lt_of_le (by have := World.block_lt_of_cell? _ _ hw143_1; first | rwa [add_block] at this | exact this) GW146.out)) | (show (Addr.add _ _).block ≠ _; rw [add_block]; exact Nat.ne_of_lt (Nat.lt_of_lt_of_le (by have := World.block_lt_of_cell? _ _ hw143_1; first | rwa [add_block] at this | exact this) GW146.out)) | (dsimp only; exact Nat.ne_of_lt (Nat.lt_of_lt_of_le (by have := World.block_lt_of_cell? _ _ hw143_1; first | rwa [add_block] at this | exact this) GW146.out))) _).trans (((cell_far (p := ⟨gb146, _, none⟩) (by first | exact Nat.ne_of_lt (Nat.lt_of_lt_of_le (by have := World.block_lt_of_cell? _ _ hw143_1; first | rwa [add_block] at this | exact this) GW146.out) | (rw [add_block]; exact Nat.ne_of_lt (Nat.lt_of_lt_of_le (by have := World.block_lt_of_cell? _ _ hw143_1; first | rwa [add_block] at this | exact this) GW146.out)) | (show (Addr.add _ _).block ≠ _; rw [add_block]; exact Nat.ne_of_lt (Nat.lt_of_lt_of_le (by have := World.block_lt_of_cell? _ _ hw143_1; first | rwa [add_block] at this | exact this) GW146.out)) | (dsimp only; exact Nat.ne_of_lt (Nat.lt_of_lt_of_le (by have := World.block_lt_of_cell? _ _ hw143_1; first | rwa [add_block] at this | exact this) GW146.out))) _).trans (((cell_far (p := ⟨gb146, _, none⟩) (by first | exact Nat.ne_of_lt (Nat.lt_of_lt_of_le (by have := World.block_lt_of_cell? _ _ hw143_1; first | rwa [add_block] at this | exact this) GW146.out) | (rw [add_block]; exact Nat.ne_of_lt (Nat.lt_of_lt_of_le (by have := World.block_lt_of_cell? _ _ hw143_1; first | rwa [add_block] at this | exact this) GW146.out)) | (show (Addr.add _ _).block ≠ _; rw [add_block]; exact Nat.ne_of_lt (Nat.lt_of_lt_of_le (by have := World.block_lt_of_cell? _ _ hw143_1; first | rwa [add_block] at this | exact this) GW146.out)) | (dsimp only; exact Nat.ne_of_lt (Nat.lt_of_lt_of_le (by have := World.block_lt_of_cell? _ _ hw143_1; first | rwa [add_block] at this | exact this) GW146.out))) _).trans (((cell_far (p := ⟨gb146, _, none⟩) (by first | exact Nat.ne_of_lt (Nat.lt_of_lt_of_le (by have := World.block_lt_of_cell? _ _ hw143_1; first | rwa [add_block] at this | exact this) GW146.out) | (rw [add_block]; exact Nat.ne_of_lt (Nat.lt_of_lt_of_le (by have := World.block_lt_of_cell? _ _ hw143_1; first | rwa [add_block] at this | exact this) GW146.out)) | (show (Addr.add _ _).block ≠ _; rw [add_block]; exact Nat.ne_of_lt (Nat.lt_of_lt_of_le (by have := World.block_lt_of_cell? _ _ hw143_1; first | rwa [add_block] at this | exact this) GW146.out)) | (dsimp only; exact Nat.ne_of_lt (Nat.lt_of_lt_of_le (by have := World.block_lt_of_cell? _ _ hw143_1; first | rwa [add_block] at this | exact this) GW146.out))) _).trans (hHeld.2.2.2.2.2.1)))))))), ((cell_far (p := ⟨gb146, _, none⟩) (by first | exact Nat.ne_of_lt (Nat.lt_of_lt_of_le (by have := World.block_lt_of_cell? _ _ hw144_0; first | rwa [add_block] at this | exact this) GW146.out) | (rw [add_block]; exact Nat.ne_of_lt (Nat.lt_of_lt_of_le (by have := World.block_lt_of_cell? _ _ hw144_0; first | rwa [add_block] at this | exact this) GW146.out)) | (show (Addr.add _ _).block ≠ _; rw [add_block]; exact Nat.ne_of_lt (Nat.lt_of_lt_of_le (by have := World.block_lt_of_cell? _ _ hw144_0; first | rwa [add_block] at this | exact this) GW146.out)) | (dsimp only; exact Nat.ne_of_lt (Nat.lt_of_lt_of_le (by have := World.block_lt_of_cell? _ _ hw144_0; first | rwa [add_block] at this | exact this) GW146.out))) _).trans (((cell_far (p := ⟨gb146, _, none⟩) (by first | exact Nat.ne_of_lt (Nat.lt_of_lt_of_le (by have := World.block_lt_of_cell? _ _ hw144_0; first | rwa [add_block] at this | exact this) GW146.out) | (rw [add_block]; exact Nat.ne_of_lt (Nat.lt_of_lt_of_le (by have := World.block_lt_of_cell? _ _ hw144_0; first | rwa [add_block] at this | exact this) GW146.out)) | (show (Addr.add _ _).block ≠ _; rw [add_block]; exact Nat.ne_of_lt (Nat.lt_of_lt_of_le (by have := World.block_lt_of_cell? _ _ hw144_0; first | rwa [add_block] at this | exact this) GW146.out)) | (dsimp only; exact Nat.ne_of_lt (Nat.lt_of_lt_of_le (by have := World.block_lt_of_cell? _ _ hw144_0; first | rwa [add_block] at this | exact this) GW146.out))) _).trans (((cell_far (p := ⟨gb146, _, none⟩) (by first | exact Nat.ne_of_lt (Nat.lt_of_lt_of_le (by have := World.block_lt_of_cell? _ _ hw144_0; first | rwa [add_block] at this | exact this) GW146.out) | (rw [add_block]; exact Nat.ne_of_lt (Nat.lt_of_lt_of_le (by have := World.block_lt_of_cell? _ _ hw144_0; first | rwa [add_block] at this | exact this) GW146.out)) | (show (Addr.add _ _).block ≠ _; rw [add_block]; exact Nat.ne_of_lt (Nat.lt_of_lt_of_le (by have := World.block_lt_of_cell? _ _ hw144_0; first | rwa [add_block] at this | exact this) GW146.out)) | (dsimp only; exact Nat.ne_of_lt (Nat.lt_of_lt_of_le (by have := World.block_lt_of_cell? _ _ hw144_0; first | rwa [add_block] at this | exact this) GW146.out))) _).trans (((cell_far (p := ⟨gb146, _, none⟩) (by first | exact Nat.ne_of_lt (Nat.lt_of_lt_of_le (by have := World.block_lt_of_cell? _ _ hw144_0; first | rwa [add_block] at this | exact this) GW146.out) | (rw [add_block]; exact Nat.ne_of_lt (Nat.lt_of_lt_of_le (by have := World.block_lt_of_cell? _ _ hw144_0; first | rwa [add_block] at this | exact this) GW146.out)) | (show (Addr.add _ _).block ≠ _; rw [add_block]; exact Nat.ne_of_lt (Nat.lt_of_lt_of_le (by have := World.block_lt_of_cell? _ _ hw144_0; first | rwa [add_block] at this | exact this) GW146.out)) | (dsimp only; exact Nat.ne_of_lt (Nat.lt_of_lt_of_le (by have := World.block_lt_of_cell? _ _ hw144_0; first | rwa [add_block] at this | exact this) GW146.out))) _).trans (hHeld.2.2.2.2.2.2.1)))))))), ((cell_far (p := ⟨gb146, _, none⟩) (by first | exact Nat.ne_of_lt (Nat.lt_of_lt_of_le (by have := World.block_lt_of_cell? _ _ hw145_0; first | rwa [add_block] at this | exact this) GW146.out) | (rw [add_block]; exact Nat.ne_of_lt (Nat.lt_of_lt_of_le (by have := World.block_lt_of_cell? _ _ hw145_0; first | rwa [add_block] at this | exact this) GW146.out)) | (show (Addr.add _ _).block ≠ _; rw [add_block]; exact Nat.ne_of_lt (Nat.lt_of_lt_of_le (by have := World.block_lt_of_cell? _ _ hw145_0; first | rwa [add_block] at this | exact this) GW146.out)) | (dsimp only; exact Nat.ne_of_lt (Nat.lt_of_lt_of_le (by have := World.block_lt_of_cell? _ _ hw145_0; first | rwa [add_block] at this | exact this) GW146.out))) _).trans (((cell_far (p := ⟨gb146, _, none⟩) (by first | exact Nat.ne_of_lt (Nat.lt_of_lt_of_le (by have := World.block_lt_of_cell? _ _ hw145_0; first | rwa [add_block] at this | exact this) GW146.out) | (rw [add_block]; exact Nat.ne_of_lt (Nat.lt_of_lt_of_le (by have := World.block_lt_of_cell? _ _ hw145_0; first | rwa [add_block] at this | exact this) GW146.out)) | (show (Addr.add _ _).block ≠ _; rw [add_block]; exact Nat.ne_of_lt (Nat.lt_of_lt_of_le (by have := World.block_lt_of_cell? _ _ hw145_0; first | rwa [add_block] at this | exact this) GW146.out)) | (dsimp only; exact Nat.ne_of_lt (Nat.lt_of_lt_of_le (by have := World.block_lt_of_cell? _ _ hw145_0; first | rwa [add_block] at this | exact this) GW146.out))) _).trans (((cell_far (p := ⟨gb146, _, none⟩) (by first | exact Nat.ne_of_lt (Nat.lt_of_lt_of_le (by have := World.block_lt_of_cell? _ _ hw145_0; first | rwa [add_block] at this | exact this) GW146.out) | (rw [add_block]; exact Nat.ne_of_lt (Nat.lt_of_lt_of_le (by have := World.block_lt_of_cell? _ _ hw145_0; first | rwa [add_block] at this | exact this) GW146.out)) | (show (Addr.add _ _).block ≠ _; rw [add_block]; exact Nat.ne_of_lt (Nat.lt_of_lt_of_le (by have := World.block_lt_of_cell? _ _ hw145_0; first | rwa [add_block] at this | exact this) GW146.out)) | (dsimp only; exact Nat.ne_of_lt (Nat.lt_of_lt_of_le (by have := World.block_lt_of_cell? _ _ hw145_0; first | rwa [add_block] at this | exact this) GW146.out))) _).trans (((cell_far (p := ⟨gb146, _, none⟩) (by first | exact Nat.ne_of_lt (Nat.lt_of_lt_of_le (by have := World.block_lt_of_cell? _ _ hw145_0; first | rwa [add_block] at this | exact this) GW146.out) | (rw [add_block]; exact Nat.ne_of_lt (Nat.lt_of_lt_of_le (by have := World.block_lt_of_cell? _ _ hw145_0; first | rwa [add_block] at this | exact this) GW146.out)) | (show (Addr.add _ _).block ≠ _; rw [add_block]; exact Nat.ne_of_lt (Nat.lt_of_lt_of_le (by have := World.block_lt_of_cell? _ _ hw145_0; first | rwa [add_block] at this | exact this) GW146.out)) | (dsimp only; exact Nat.ne_of_lt (Nat.lt_of_lt_of_le (by have := World.block_lt_of_cell? _ _ hw145_0; first | rwa [add_block] at this | exact this) GW146.out))) _).trans (hHeld.2.2.2.2.2.2.2.1)))))))), ((cell_far (p := ⟨gb146, _, none⟩) (by first | exact Nat.ne_of_lt (Nat.lt_of_lt_of_le (by have := World.block_lt_of_cell? _ _ hw145_1; first | rwa [add_block] at this | exact this) GW146.out) | (rw [add_block]; exact Nat.ne_of_lt (Nat.lt_of_lt_of_le (by have := World.block_lt_of_cell? _ _ hw145_1; first | rwa [add_block] at this | exact this) GW146.out)) | (show (Addr.add _ _).block ≠ _; rw [add_block]; exact Nat.ne_of_lt (Nat.lt_of_lt_of_le (by have := World.block_lt_of_cell? _ _ hw145_1; first | rwa [add_block] at this | exact this) GW146.out)) | (dsimp only; exact Nat.ne_of_lt (Nat.lt_of_lt_of_le (by have := World.block_lt_of_cell? _ _ hw145_1; first | rwa [add_block] at this | exact this) GW146.out))) _).trans (((cell_far (p := ⟨gb146, _, none⟩) (by first | exact Nat.ne_of_lt (Nat.lt_of_lt_of_le (by have := World.block_lt_of_cell? _ _ hw145_1; first | rwa [add_block] at this | exact this) GW146.out) | (rw [add_block]; exact Nat.ne_of_lt (Nat.lt_of_lt_of_le (by have := World.block_lt_of_cell? _ _ hw145_1; first | rwa [add_block] at this | exact this) GW146.out)) | (show (Addr.add _ _).block ≠ _; rw [add_block]; exact Nat.ne_of_lt (Nat.lt_of_lt_of_le (by have := World.block_lt_of_cell? _ _ hw145_1; first | rwa [add_block] at this | exact this) GW146.out)) | (dsimp only; exact Nat.ne_of_lt (Nat.lt_of_lt_of_le (by have := World.block_lt_of_cell? _ _ hw145_1; first | rwa [add_block] at this | exact this) GW146.out))) _).trans (((cell_far (p := ⟨gb146, _, none⟩) (by first | exact Nat.ne_of_lt (Nat.lt_of_lt_of_le (by have := World.block_lt_of_cell? _ _ hw145_1; first | rwa [add_block] at this | exact this) GW146.out) | (rw [add_block]; exact Nat.ne_of_lt (Nat.lt_of_lt_of_le (by have := World.block_lt_of_cell? _ _ hw145_1; first | rwa [add_block] at this | exact this) GW146.out)) | (show (Addr.add _ _).block ≠ _; rw [add_block]; exact Nat.ne_of_lt (Nat.lt_of_lt_of_le (by have := World.block_lt_of_cell? _ _ hw145_1; first | rwa [add_block] at this | exact this) GW146.out)) | (dsimp only; exact Nat.ne_of_lt (Nat.lt_of_lt_of_le (by have := World.block_lt_of_cell? _ _ hw145_1; first | rwa [add_block] at this | exact this) GW146.out))) _).trans (((cell_far (p := ⟨gb146, _, none⟩) (by first | exact Nat.ne_of_lt (Nat.lt_of_lt_of_le (by have := World.block_lt_of_cell? _ _ hw145_1; first | rwa [add_block] at this | exact this) GW146.out) | (rw [add_block]; exact Nat.ne_of_lt (Nat.lt_of_lt_of_le (by have := World.block_lt_of_cell? _ _ hw145_1; first | rwa [add_block] at this | exact this) GW146.out)) | (show (Addr.add _ _).block ≠ _; rw [add_block]; exact Nat.ne_of_lt (Nat.lt_of_lt_of_le (by have := World.block_lt_of_cell? _ _ hw145_1; first | rwa [add_block] at this | exact this) GW146.out)) | (dsimp only; exact Nat.ne_of_lt (Nat.lt_of_lt_of_le (by have := World.block_lt_of_cell? _ _ hw145_1; first | rwa [add_block] at this | exact this) GW146.out))) _).trans (hHeld.2.2.2.2.2.2.2.2))))))))⟩ (fun hHeld => ?_)
                                                clear hK K
                                                refine done_ (done_of HT_.out (by kernel_rfl)) ?_
                                                have hnb53 := NB135_146.out
                                                have hnc53 := NB146_135.out
                                                obtain ⟨hcz54_0, hcz54_1, hcz54_2, hfz54_0, hfz54_1, hfz54_2⟩ := cell3 BK135
                                                have p147 : 0 ≤ (x8_3 : Int) := of_decide_eq_true asE
                                                have q147 : x8_3 < (l0_1.length : Int) := of_decide_eq_true asE
                                                obtain ⟨ad147, A147_0, c147_0, e147, hx147_0, hl147_0, hi147_0⟩ := at_L5 HR0_1.out x8_3 p147 q147
                                                obtain rfl : ad140 = ad147 := (by injection e147)
                                                have hn147_0 : ad140.block ≠ gb146 := Nat.ne_of_lt (Nat.lt_of_lt_of_le (by have := World.block_lt_of_cell? _ _ hx147_0; first | rwa [add_block] at this | exact this) GW146.out)
                                                have hn147_1 : ad140.block ≠ gb146 := Nat.ne_of_lt (Nat.lt_of_lt_of_le (by have := World.block_lt_of_cell? _ _ hx147_0; first | rwa [add_block] at this | exact this) GW146.out)
                                                have hn147_2 : ad140.block ≠ gb146 := Nat.ne_of_lt (Nat.lt_of_lt_of_le (by have := World.block_lt_of_cell? _ _ hx147_0; first | rwa [add_block] at this | exact this) GW146.out)
                                                have hn147_3 : ad140.block ≠ gb146 := Nat.ne_of_lt (Nat.lt_of_lt_of_le (by have := World.block_lt_of_cell? _ _ hx147_0; first | rwa [add_block] at this | exact this) GW146.out)
                                                replace hx147_0 := (HB.out.cell (World.block_lt_of_cell? w _ hx147_0)).trans hx147_0
                                                have HR147_0 := Aside0.mk hi147_0
                                                have HC147_0 := Aside0.mk hl147_0
                                                clear hi147_0 hl147_0
                                                replace hx147_0 := (cell_far (p := ⟨gb146, 0, none⟩) (by first | (rw [add_block]; exact hn147_0) | (show (Addr.add _ _).block ≠ _; rw [add_block]; exact hn147_0) | exact hn147_0) (.int .i64 ((rd_T61 (rd_L5 l0_1 x8_3) x9_4).f0))).trans hx147_0
                                                replace hx147_0 := (cell_far (p := ⟨gb146, 1, none⟩) (by first | (rw [add_block]; exact hn147_1) | (show (Addr.add _ _).block ≠ _; rw [add_block]; exact hn147_1) | exact hn147_1) (.int .i64 ((rd_T61 (rd_L5 l0_1 x8_3) x10_5).f0))).trans hx147_0
                                                replace hx147_0 := (cell_far (p := ⟨gb146, 2, none⟩) (by first | (rw [add_block]; exact hn147_2) | (show (Addr.add _ _).block ≠ _; rw [add_block]; exact hn147_2) | exact hn147_2) (.int .u8 0)).trans hx147_0
                                                replace hx147_0 := (cell_far (p := ⟨gb146, 3, none⟩) (by first | (rw [add_block]; exact hn147_3) | (show (Addr.add _ _).block ≠ _; rw [add_block]; exact hn147_3) | exact hn147_3) (.int .i64 0)).trans hx147_0
                                                clear hn147_0
                                                clear hn147_1
                                                clear hn147_2
                                                clear hn147_3
                                                replace p147 := eq_true p147
                                                replace q147 := eq_true q147
                                                have p148 : 0 ≤ (x9_4 : Int) := of_decide_eq_true asE
                                                have q148 : x9_4 < ((rd_L5 l0_1 x8_3).length : Int) := of_decide_eq_true asE
                                                obtain ⟨ad148, e148, hx148_0, hx148_1⟩ := at_T61 HR147_0.out x9_4 p148 q148
                                                cases e148
                                                have hn148_0 : ad148.block ≠ gb146 := Nat.ne_of_lt (Nat.lt_of_lt_of_le (by have := World.block_lt_of_cell? _ _ hx148_0; first | rwa [add_block] at this | exact this) GW146.out)
                                                have hn148_1 : ad148.block ≠ gb146 := Nat.ne_of_lt (Nat.lt_of_lt_of_le (by have := World.block_lt_of_cell? _ _ hx148_0; first | rwa [add_block] at this | exact this) GW146.out)
                                                have hn148_2 : ad148.block ≠ gb146 := Nat.ne_of_lt (Nat.lt_of_lt_of_le (by have := World.block_lt_of_cell? _ _ hx148_0; first | rwa [add_block] at this | exact this) GW146.out)
                                                have hn148_3 : ad148.block ≠ gb146 := Nat.ne_of_lt (Nat.lt_of_lt_of_le (by have := World.block_lt_of_cell? _ _ hx148_0; first | rwa [add_block] at this | exact this) GW146.out)
                                                replace hx148_0 := (HB.out.cell (World.block_lt_of_cell? w _ hx148_0)).trans hx148_0
                                                replace hx148_1 := (HB.out.cell (World.block_lt_of_cell? w _ hx148_1)).trans hx148_1
                                                replace hx148_0 := (cell_far (p := ⟨gb146, 0, none⟩) (by first | (rw [add_block]; exact hn148_0) | (show (Addr.add _ _).block ≠ _; rw [add_block]; exact hn148_0) | exact hn148_0) (.int .i64 ((rd_T61 (rd_L5 l0_1 x8_3) x9_4).f0))).trans hx148_0
                                                replace hx148_1 := (cell_far (p := ⟨gb146, 0, none⟩) (by first | (rw [add_block]; exact hn148_0) | (show (Addr.add _ _).block ≠ _; rw [add_block]; exact hn148_0) | exact hn148_0) (.int .i64 ((rd_T61 (rd_L5 l0_1 x8_3) x9_4).f0))).trans hx148_1
                                                replace hx148_0 := (cell_far (p := ⟨gb146, 1, none⟩) (by first | (rw [add_block]; exact hn148_1) | (show (Addr.add _ _).block ≠ _; rw [add_block]; exact hn148_1) | exact hn148_1) (.int .i64 ((rd_T61 (rd_L5 l0_1 x8_3) x10_5).f0))).trans hx148_0
                                                replace hx148_1 := (cell_far (p := ⟨gb146, 1, none⟩) (by first | (rw [add_block]; exact hn148_1) | (show (Addr.add _ _).block ≠ _; rw [add_block]; exact hn148_1) | exact hn148_1) (.int .i64 ((rd_T61 (rd_L5 l0_1 x8_3) x10_5).f0))).trans hx148_1
                                                replace hx148_0 := (cell_far (p := ⟨gb146, 2, none⟩) (by first | (rw [add_block]; exact hn148_2) | (show (Addr.add _ _).block ≠ _; rw [add_block]; exact hn148_2) | exact hn148_2) (.int .u8 0)).trans hx148_0
                                                replace hx148_1 := (cell_far (p := ⟨gb146, 2, none⟩) (by first | (rw [add_block]; exact hn148_2) | (show (Addr.add _ _).block ≠ _; rw [add_block]; exact hn148_2) | exact hn148_2) (.int .u8 0)).trans hx148_1
                                                replace hx148_0 := (cell_far (p := ⟨gb146, 3, none⟩) (by first | (rw [add_block]; exact hn148_3) | (show (Addr.add _ _).block ≠ _; rw [add_block]; exact hn148_3) | exact hn148_3) (.int .i64 0)).trans hx148_0
                                                replace hx148_1 := (cell_far (p := ⟨gb146, 3, none⟩) (by first | (rw [add_block]; exact hn148_3) | (show (Addr.add _ _).block ≠ _; rw [add_block]; exact hn148_3) | exact hn148_3) (.int .i64 0)).trans hx148_1
                                                clear hn148_0
                                                clear hn148_1
                                                clear hn148_2
                                                clear hn148_3
                                                replace p148 := eq_true p148
                                                replace q148 := eq_true q148
                                                try go_wp2_with (first | ((with_reducible refine gC 26 rfl ?_); refine cG (some 102) Try.func26 #[.int .u8 ((rd_T61 (rd_L5 l0_1 x8_3) x9_4).f1)] ?_; (with_reducible refine (recoupref01_Inv.calls k5 ((rd_T61 (rd_L5 l0_1 x8_3) x9_4).f1) t149 t150 _ A42.out).mono ?_); rintro e w' ⟨rfl, ⟨nd, rfl⟩⟩; refine ⟨_, rfl, ?_⟩; have p151 : 0 ≤ (x8_3 : Int) := of_decide_eq_true asE; have q151 : x8_3 < (l0_1.length : Int) := of_decide_eq_true asE; obtain ⟨ad151, A151_0, c151_0, e151, hx151_0, hl151_0, hi151_0⟩ := at_L5 HR0_1.out x8_3 p151 q151; obtain rfl : ad140 = ad151 := (by injection e151); have hn151_0 : ad140.block ≠ gb146 := Nat.ne_of_lt (Nat.lt_of_lt_of_le (by have := World.block_lt_of_cell? _ _ hx151_0; first | rwa [add_block] at this | exact this) GW146.out); have hn151_1 : ad140.block ≠ gb146 := Nat.ne_of_lt (Nat.lt_of_lt_of_le (by have := World.block_lt_of_cell? _ _ hx151_0; first | rwa [add_block] at this | exact this) GW146.out); have hn151_2 : ad140.block ≠ gb146 := Nat.ne_of_lt (Nat.lt_of_lt_of_le (by have := World.block_lt_of_cell? _ _ hx151_0; first | rwa [add_block] at this | exact this) GW146.out); have hn151_3 : ad140.block ≠ gb146 := Nat.ne_of_lt (Nat.lt_of_lt_of_le (by have := World.block_lt_of_cell? _ _ hx151_0; first | rwa [add_block] at this | exact this) GW146.out); replace hx151_0 := (HB.out.cell (World.block_lt_of_cell? w _ hx151_0)).trans hx151_0; have HR151_0 := Aside0.mk hi151_0; have HC151_0 := Aside0.mk hl151_0; clear hi151_0 hl151_0; replace hx151_0 := (cell_far (p := ⟨gb146, 0, none⟩) (by first | (rw [add_block]; exact hn151_0) | (show (Addr.add _ _).block ≠ _; rw [add_block]; exact hn151_0) | exact hn151_0) (.int .i64 ((rd_T61 (rd_L5 l0_1 x8_3) x9_4).f0))).trans hx151_0; replace hx151_0 := (cell_far (p := ⟨gb146, 1, none⟩) (by first | (rw [add_block]; exact hn151_1) | (show (Addr.add _ _).block ≠ _; rw [add_block]; exact hn151_1) | exact hn151_1) (.int .i64 ((rd_T61 (rd_L5 l0_1 x8_3) x10_5).f0))).trans hx151_0; replace hx151_0 := (cell_far (p := ⟨gb146, 2, none⟩) (by first | (rw [add_block]; exact hn151_2) | (show (Addr.add _ _).block ≠ _; rw [add_block]; exact hn151_2) | exact hn151_2) (.int .u8 0)).trans hx151_0; replace hx151_0 := (cell_far (p := ⟨gb146, 3, none⟩) (by first | (rw [add_block]; exact hn151_3) | (show (Addr.add _ _).block ≠ _; rw [add_block]; exact hn151_3) | exact hn151_3) (.int .i64 0)).trans hx151_0; clear hn151_0; clear hn151_1; clear hn151_2; clear hn151_3; replace p151 := eq_true p151; replace q151 := eq_true q151; have p152 : 0 ≤ (x10_5 : Int) := of_decide_eq_true asE; have q152 : x10_5 < ((rd_L5 l0_1 x8_3).length : Int) := of_decide_eq_true asE; obtain ⟨ad152, e152, hx152_0, hx152_1⟩ := at_T61 HR151_0.out x10_5 p152 q152; cases e152; have hn152_0 : ad152.block ≠ gb146 := Nat.ne_of_lt (Nat.lt_of_lt_of_le (by have := World.block_lt_of_cell? _ _ hx152_0; first | rwa [add_block] at this | exact this) GW146.out); have hn152_1 : ad152.block ≠ gb146 := Nat.ne_of_lt (Nat.lt_of_lt_of_le (by have := World.block_lt_of_cell? _ _ hx152_0; first | rwa [add_block] at this | exact this) GW146.out); have hn152_2 : ad152.block ≠ gb146 := Nat.ne_of_lt (Nat.lt_of_lt_of_le (by have := World.block_lt_of_cell? _ _ hx152_0; first | rwa [add_block] at this | exact this) GW146.out); have hn152_3 : ad152.block ≠ gb146 := Nat.ne_of_lt (Nat.lt_of_lt_of_le (by have := World.block_lt_of_cell? _ _ hx152_0; first | rwa [add_block] at this | exact this) GW146.out); replace hx152_0 := (HB.out.cell (World.block_lt_of_cell? w _ hx152_0)).trans hx152_0; replace hx152_1 := (HB.out.cell (World.block_lt_of_cell? w _ hx152_1)).trans hx152_1; replace hx152_0 := (cell_far (p := ⟨gb146, 0, none⟩) (by first | (rw [add_block]; exact hn152_0) | (show (Addr.add _ _).block ≠ _; rw [add_block]; exact hn152_0) | exact hn152_0) (.int .i64 ((rd_T61 (rd_L5 l0_1 x8_3) x9_4).f0))).trans hx152_0; replace hx152_1 := (cell_far (p := ⟨gb146, 0, none⟩) (by first | (rw [add_block]; exact hn152_0) | (show (Addr.add _ _).block ≠ _; rw [add_block]; exact hn152_0) | exact hn152_0) (.int .i64 ((rd_T61 (rd_L5 l0_1 x8_3) x9_4).f0))).trans hx152_1; replace hx152_0 := (cell_far (p := ⟨gb146, 1, none⟩) (by first | (rw [add_block]; exact hn152_1) | (show (Addr.add _ _).block ≠ _; rw [add_block]; exact hn152_1) | exact hn152_1) (.int .i64 ((rd_T61 (rd_L5 l0_1 x8_3) x10_5).f0))).trans hx152_0; replace hx152_1 := (cell_far (p := ⟨gb146, 1, none⟩) (by first | (rw [add_block]; exact hn152_1) | (show (Addr.add _ _).block ≠ _; rw [add_block]; exact hn152_1) | exact hn152_1) (.int .i64 ((rd_T61 (rd_L5 l0_1 x8_3) x10_5).f0))).trans hx152_1; replace hx152_0 := (cell_far (p := ⟨gb146, 2, none⟩) (by first | (rw [add_block]; exact hn152_2) | (show (Addr.add _ _).block ≠ _; rw [add_block]; exact hn152_2) | exact hn152_2) (.int .u8 0)).trans hx152_0; replace hx152_1 := (cell_far (p := ⟨gb146, 2, none⟩) (by first | (rw [add_block]; exact hn152_2) | (show (Addr.add _ _).block ≠ _; rw [add_block]; exact hn152_2) | exact hn152_2) (.int .u8 0)).trans hx152_1; replace hx152_0 := (cell_far (p := ⟨gb146, 3, none⟩) (by first | (rw [add_block]; exact hn152_3) | (show (Addr.add _ _).block ≠ _; rw [add_block]; exact hn152_3) | exact hn152_3) (.int .i64 0)).trans hx152_0; replace hx152_1 := (cell_far (p := ⟨gb146, 3, none⟩) (by first | (rw [add_block]; exact hn152_3) | (show (Addr.add _ _).block ≠ _; rw [add_block]; exact hn152_3) | exact hn152_3) (.int .i64 0)).trans hx152_1; clear hn152_0; clear hn152_1; clear hn152_2; clear hn152_3; replace p152 := eq_true p152; replace q152 := eq_true q152) | ((with_reducible refine gC 27 rfl ?_); refine cG (some 115) Try.func27 #[.int .u8 ((rd_T61 (rd_L5 l0_1 x8_3) x10_5).f1), .int .u8 t149] ?_; (with_reducible refine (recoupref01_Mul.calls k5 ((rd_T61 (rd_L5 l0_1 x8_3) x10_5).f1) t149 t153 _ A43.out).mono ?_); rintro e w' ⟨rfl, ⟨nd, rfl⟩⟩; refine ⟨_, rfl, ?_⟩; have hnb55 := NB146_136.out; have hnc55 := NB136_146.out; have hnb56 := NB146_139.out; have hnc56 := NB139_146.out; obtain ⟨hcz57_0, hcz57_1, hcz57_2, hcz57_3, hfz57_0, hfz57_1, hfz57_2, hfz57_3⟩ := cell4 BK146))
                                                go_loopg [14] k5 (fun kq v14 w' => ∃ (x14_6 : Int) (x147003_6 : Int), v14 = .int .i64 x14_6 ∧ Aside0 (recoupref22_Best.l4 kq x8_3 x9_4 x10_5 x14_6 l0_0 l0_1 l0_2 x140000_5 x140001_5 x140002_5 x140003_5 ((rd_T61 (rd_L5 l0_1 x8_3) x9_4).f0) ((rd_T61 (rd_L5 l0_1 x8_3) x10_5).f0) t153 x147003_6 = some (r1, r2, r3, r4, r5, r6)) ∧ Aside0 (kq ≤ k5) ∧ Aside0 (w'.heap[gb135]? = some (.cells #[(.slice A0_0 l0_0.length c0_0), (.slice (some ad140) l0_1.length c0_1), (.slice A0_2 l0_2.length c0_2)] 25 (0, 0))) ∧ Aside0 (w'.heap[gb136]? = some (.cells #[.int .i64 0, .int .i64 0, .int .u8 0, .int .i64 0] 31 (0, 0))) ∧ Aside0 (w'.heap[gb139]? = some (.cells #[.int .i64 x140000_5, .int .i64 x140001_5, .int .u8 x140002_5, .int .i64 x140003_5] 31 (0, 0))) ∧ Aside0 (w'.heap[gb146]? = some (.cells #[.int .i64 ((rd_T61 (rd_L5 l0_1 x8_3) x9_4).f0), .int .i64 ((rd_T61 (rd_L5 l0_1 x8_3) x10_5).f0), .int .u8 t153, .int .i64 x147003_6] 31 (0, 0))) ∧ Aside0 (Below w.heap.size w w'))
                                                case atStart => exact ⟨(0), (0), rsE, H', ⟨Nat.le_refl _⟩, ⟨by refine bkR ?_; refine blk_far ?_ NB135_146.out _; refine bkR ?_; refine blk_far ?_ NB135_146.out _; refine bkR ?_; refine blk_far ?_ NB135_146.out _; refine bkR ?_; refine blk_far ?_ NB135_146.out _; refine bkR ?_; refine blk_far ?_ NB135_146.out _; refine bkR ?_; exact BK135.out⟩, ⟨by refine bkR ?_; refine blk_far ?_ NB136_146.out _; refine bkR ?_; refine blk_far ?_ NB136_146.out _; refine bkR ?_; refine blk_far ?_ NB136_146.out _; refine bkR ?_; refine blk_far ?_ NB136_146.out _; refine bkR ?_; refine blk_far ?_ NB136_146.out _; refine bkR ?_; exact BK136.out⟩, ⟨by refine bkR ?_; refine blk_far ?_ NB139_146.out _; refine bkR ?_; refine blk_far ?_ NB139_146.out _; refine bkR ?_; refine blk_far ?_ NB139_146.out _; refine bkR ?_; refine blk_far ?_ NB139_146.out _; refine bkR ?_; refine blk_far ?_ NB139_146.out _; refine bkR ?_; exact BK139.out⟩, ⟨by refine bkR ?_; refine blk_put (cs := #[.int .i64 ((rd_T61 (rd_L5 l0_1 x8_3) x9_4).f0), .int .i64 ((rd_T61 (rd_L5 l0_1 x8_3) x10_5).f0), .int .u8 0, .int .i64 0]) ?_ 2 _ rfl; refine bkR ?_; refine blk_put (cs := #[.int .i64 ((rd_T61 (rd_L5 l0_1 x8_3) x9_4).f0), .int .i64 ((rd_T61 (rd_L5 l0_1 x8_3) x10_5).f0), .int .u8 0, .int .i64 0]) ?_ 3 _ rfl; refine bkR ?_; refine blk_put (cs := #[.int .i64 ((rd_T61 (rd_L5 l0_1 x8_3) x9_4).f0), .int .i64 ((rd_T61 (rd_L5 l0_1 x8_3) x10_5).f0), .int .u8 0, .int .i64 0]) ?_ 2 _ rfl; refine bkR ?_; refine blk_put (cs := #[.int .i64 ((rd_T61 (rd_L5 l0_1 x8_3) x9_4).f0), .int .i64 0, .int .u8 0, .int .i64 0]) ?_ 1 _ rfl; refine bkR ?_; refine blk_put (cs := #[.int .i64 0, .int .i64 0, .int .u8 0, .int .i64 0]) ?_ 0 _ rfl; refine bkR ?_; exact BK146.out⟩, ⟨hbA HB.out⟩⟩
                                                case round =>
                                                  clear H'
                                                  (try clear c1); (try clear p1 p1); (try clear q1 q1); (try clear hx1); (try clear c2); (try clear p2 p2); (try clear c3); (try clear c4); (try clear c5); (try clear c6); (try clear p6 p6); (try clear c9); (try clear c9b0); (try clear c10); (try clear c10b0); (try clear c11); (try clear c13); (try clear p13 p13); (try clear q13 q13); (try clear hx13); (try clear c14); (try clear p14 p14); (try clear q14 q14); (try clear hx14); (try clear c15); (try clear p15); (try clear q15); (try clear hx15); (try clear c16); (try clear c16b0); (try clear c17); (try clear c18); (try clear c19); (try clear c20); (try clear c23); (try clear c24); (try clear c26); (try clear c26b0); (try clear c27); (try clear c28); (try clear c30); (try clear c30b0); (try clear c31); (try clear c31b0); (try clear c32); (try clear c32b0); (try clear c33); (try clear c34); (try clear c36); (try clear c36b0); (try clear c37); (try clear c37b0); (try clear c38); (try clear c38b0); (try clear c39); (try clear c39b0); (try clear c40); (try clear c40b0); (try clear c41); (try clear c41b0); (try clear c44); (try clear c45); (try clear c53); (try clear c55); (try clear c56); (try clear hcz12_0 hcz12_1 hcz12_2 hfz12_0 hfz12_1 hfz12_2); (try clear hcz15_0 hcz15_1 hcz15_2 hfz15_0 hfz15_1 hfz15_2); (try clear hcz18_0 hcz18_1 hcz18_2 hfz18_0 hfz18_1 hfz18_2); (try clear hcz21_0 hcz21_1 hcz21_2 hcz21_3 hfz21_0 hfz21_1 hfz21_2 hfz21_3); (try clear hcz25_0 hcz25_1 hcz25_2 hcz25_3 hfz25_0 hfz25_1 hfz25_2 hfz25_3); (try clear hcz29_0 hcz29_1 hcz29_2 hfz29_0 hfz29_1 hfz29_2); (try clear hcz35_0 hcz35_1 hcz35_2 hfz35_0 hfz35_1 hfz35_2); (try clear hcz46_0 hcz46_1 hcz46_2 hfz46_0 hfz46_1 hfz46_2); (try clear hcz54_0 hcz54_1 hcz54_2 hfz54_0 hfz54_1 hfz54_2); (try clear hcz57_0 hcz57_1 hcz57_2 hcz57_3 hfz57_0 hfz57_1 hfz57_2 hfz57_3); (try clear hcz7_0 hcz7_1 hcz7_2 hfz7_0 hfz7_1 hfz7_2); (try clear hx138_0); (try clear hx140_0); (try clear hx141_0); (try clear hx142_0); (try clear hx143_0); (try clear hx143_1); (try clear hx144_0); (try clear hx145_0); (try clear hx145_1); (try clear hx147_0); (try clear hx148_0); (try clear hx148_1); (try clear hx151_0); (try clear hx152_0); (try clear hx152_1); (try clear p138); (try clear p140); (try clear p141); (try clear p142); (try clear p143); (try clear p144); (try clear p145); (try clear p147); (try clear p148); (try clear p151); (try clear p152); (try clear q138); (try clear q140); (try clear q141); (try clear q142); (try clear q143); (try clear q144); (try clear q145); (try clear q147); (try clear q148); (try clear q151); (try clear q152)
                                                  obtain ⟨x14_6, x147003_6, rfl, HA, HK6, BK135, BK136, BK139, BK146, HB⟩ := hrel
                                                  cases gk with
                                                  | zero => exact absurd HA.out (by simp [recoupref22_Best.l4])
                                                  | succ k6 =>
                                                    have H := HA.out
                                                    clear HA
                                                    simp only [recoupref22_Best.l4] at H
                                                    by_cases c58 : x14_6 < (l0_1.length : Int)
                                                    · rw [if_pos c58] at H
                                                      have c58b0 : decide (x14_6 < (l0_1.length : Int)) = true := decide_eq_true c58
                                                      clear c58
                                                      by_cases c59 : 0 ≤ x14_6
                                                      · rw [if_pos c59] at H
                                                        have c59b0 : decide (0 ≤ x14_6) = true := decide_eq_true c59
                                                        clear c59
                                                        obtain ⟨t155, A60, H⟩ := bindO H
                                                        (try dsimp only at H)
                                                        by_cases c61 : t155 = true
                                                        · subst c61
                                                          rw [if_pos rfl] at H
                                                          have H' := Aside0.mk H
                                                          clear H
                                                          have hnb62 := NB135_136.out
                                                          have hnc62 := NB136_135.out
                                                          have hnb63 := NB135_139.out
                                                          have hnc63 := NB139_135.out
                                                          have hnb64 := NB135_146.out
                                                          have hnc64 := NB146_135.out
                                                          obtain ⟨hcz65_0, hcz65_1, hcz65_2, hfz65_0, hfz65_1, hfz65_2⟩ := cell3 BK135
                                                          try go_wp2
                                                          replace BK135 := Aside0.mk (blk_drew BK135.out)
                                                          replace BK136 := Aside0.mk (blk_drew BK136.out)
                                                          replace BK139 := Aside0.mk (blk_drew BK139.out)
                                                          replace BK146 := Aside0.mk (blk_drew BK146.out)
                                                          replace HB := Aside0.mk (below_drew1 HB.out)
                                                          have p154 : 0 ≤ (x14_6 : Int) := of_decide_eq_true asE
                                                          have q154 : x14_6 < (l0_1.length : Int) := of_decide_eq_true asE
                                                          obtain ⟨ad154, A154_0, c154_0, e154, hx154_0, hl154_0, hi154_0⟩ := at_L5 HR0_1.out x14_6 p154 q154
                                                          have hw154_0 := hx154_0
                                                          obtain rfl : ad140 = ad154 := (by injection e154)
                                                          replace hx154_0 := (HB.out.cell (World.block_lt_of_cell? w _ hx154_0)).trans hx154_0
                                                          have HR154_0 := Aside0.mk hi154_0
                                                          have HC154_0 := Aside0.mk hl154_0
                                                          clear hi154_0 hl154_0
                                                          replace p154 := eq_true p154
                                                          replace q154 := eq_true q154
                                                          refine start_ (n := 12) (S := fun w' => w'.cell? ⟨gb135, 0, none⟩ = some (.slice A0_0 l0_0.length c0_0) ∧ w'.cell? ⟨gb135, 1, none⟩ = some (.slice (some ad140) l0_1.length c0_1) ∧ w'.cell? ⟨gb135, 2, none⟩ = some (.slice A0_2 l0_2.length c0_2) ∧ w'.cell? ⟨gb146, 0, none⟩ = some (.int .i64 ((rd_T61 (rd_L5 l0_1 x8_3) x9_4).f0)) ∧ w'.cell? ⟨gb146, 1, none⟩ = some (.int .i64 ((rd_T61 (rd_L5 l0_1 x8_3) x10_5).f0)) ∧ w'.cell? ⟨gb146, 2, none⟩ = some (.int .u8 t153) ∧ w'.cell? ⟨gb146, 3, none⟩ = some (.int .i64 x147003_6) ∧ w'.cell? (ad140.add (x14_6).toNat) = some (.slice A154_0 (rd_L5 l0_1 x14_6).length c154_0)) (ds := []) (.replicate 12 false) (by kernel_rfl) rfl rfl ⟨(blk_cell BK135.out 0).trans rfl, (blk_cell BK135.out 1).trans rfl, (blk_cell BK135.out 2).trans rfl, (blk_cell BK146.out 0).trans rfl, (blk_cell BK146.out 1).trans rfl, (blk_cell BK146.out 2).trans rfl, (blk_cell BK146.out 3).trans rfl, ((HB.out.cell (World.block_lt_of_cell? w _ hw154_0)).trans hw154_0)⟩ (fun hHeld => ?_); refine with_tabW recoupref22_Best.tab26 recoupref22_Best.bits26 (fun HT_ HW_ => ?_)
                                                          generalize wr.drew = w66 at BK135 BK136 BK139 BK146 HB HR154_0 hx154_0 hHeld ⊢
                                                          refine pu 0 (some 124) (mB 12 1) HT_ ?_
                                                          refine pu 2 (some 126) (mB 12 5) HT_ ?_
                                                          refine pu 5 (some 129) (mB 12 37) HT_ ?_
                                                          refine pu 7 (some 131) (mB 12 165) HT_ ?_
                                                          refine pu 9 (some 133) (mB 12 677) HT_ ?_
                                                          refine tk8 1 (some 125) (mB 12 679) HT_ HW_ hHeld ?_
                                                          refine pu 3 (some 127) (mB 12 687) HT_ ?_
                                                          refine tk8 4 (some 128) (mB 12 703) HT_ HW_ hHeld ?_
                                                          refine tk8 6 (some 130) (mB 12 767) HT_ HW_ hHeld ?_
                                                          refine tk8 8 (some 132) (mB 12 1023) HT_ HW_ hHeld ?_
                                                          refine tk8 10 (some 134) (mB 12 2047) HT_ HW_ hHeld ?_
                                                          refine one_ (i := 11) (N := some 135) (mB 12 4095) rfl rfl (one_of HT_.out (by kernel_rfl)) (by decide) (fun K hK => ?_)
                                                          refine goes_ Try.func28 (by kernel_rfl) rfl #[.slice A154_0 (rd_L5 l0_1 x14_6).length c154_0, .int .i64 ((rd_T61 (rd_L5 l0_1 x8_3) x9_4).f0), .int .i64 ((rd_T61 (rd_L5 l0_1 x8_3) x10_5).f0), .int .u8 t153] (by rfl) rfl rfl (by (try simp only [List.map_toArray, List.map_cons, List.map_nil]); first | done | rfl | (simp only [List.length_drop, List.length_take]; rfl)) ?_
                                                          with_reducible refine (recoupref22_in.calls k6 _ _ (rd_L5 l0_1 x14_6) ((rd_T61 (rd_L5 l0_1 x8_3) x9_4).f0) ((rd_T61 (rd_L5 l0_1 x8_3) x10_5).f0) t153 true _ ?side1 ?side2 A60.out).mono ?_
                                                          (case side1 => exact kcB HR154_0 HB)
                                                          (case side2 => exact HC154_0.out)
                                                          rintro e w' ⟨rfl, ⟨nd, rfl⟩⟩
                                                          refine ⟨_, rfl, ?_⟩
                                                          refine hK.out _ _ ⟨(blk_cell BK135.out 0).trans rfl, (blk_cell BK135.out 1).trans rfl, (blk_cell BK135.out 2).trans rfl, (blk_cell BK146.out 0).trans rfl, (blk_cell BK146.out 1).trans rfl, (blk_cell BK146.out 2).trans rfl, (blk_cell BK146.out 3).trans rfl, ((HB.out.cell (World.block_lt_of_cell? w _ hw154_0)).trans hw154_0)⟩ (fun hHeld => ?_)
                                                          clear hK K
                                                          refine norm_ (a' := ?_) ?_ ?_
                                                          rotate_left
                                                          · show Act.put _ (some 135) _ = _
                                                            simp only [Act.put, List.setIfInBounds_toArray, List.set_cons_zero, List.set_cons_succ, i64_w, i32_w]
                                                            rfl
                                                          refine done_ (done_of HT_.out (by kernel_rfl)) ?_
                                                          have hnb67 := NB146_136.out
                                                          have hnc67 := NB136_146.out
                                                          have hnb68 := NB146_139.out
                                                          have hnc68 := NB139_146.out
                                                          obtain ⟨hcz69_0, hcz69_1, hcz69_2, hcz69_3, hfz69_0, hfz69_1, hfz69_2, hfz69_3⟩ := cell4 BK146
                                                          try go_wp2
                                                          go_roundg k6
                                                          case measure => have := HK1.out; have := HJ12.out; have := HK3.out; have := HK4.out; have := HK5.out; have := HK6.out; omega
                                                          case rel => exact ⟨(wrap64 (x14_6 + 1)), (wrap64 (x147003_6 + 1)), rsE, H', ⟨by have := HK1.out; have := HJ12.out; have := HK3.out; have := HK4.out; have := HK5.out; have := HK6.out; omega⟩, ⟨by refine bkR ?_; refine blk_far ?_ NB135_146.out _; refine bkR ?_; exact BK135.out⟩, ⟨by refine bkR ?_; refine blk_far ?_ NB136_146.out _; refine bkR ?_; exact BK136.out⟩, ⟨by refine bkR ?_; refine blk_far ?_ NB139_146.out _; refine bkR ?_; exact BK139.out⟩, ⟨by refine bkR ?_; refine blk_put (cs := #[.int .i64 ((rd_T61 (rd_L5 l0_1 x8_3) x9_4).f0), .int .i64 ((rd_T61 (rd_L5 l0_1 x8_3) x10_5).f0), .int .u8 t153, .int .i64 x147003_6]) ?_ 3 _ rfl; refine bkR ?_; exact BK146.out⟩, ⟨hbA HB.out⟩⟩
                                                        · replace c61 := Bool.eq_false_iff.mpr c61
                                                          subst c61
                                                          rw [if_neg nofT] at H
                                                          have H' := Aside0.mk H
                                                          clear H
                                                          have hnb70 := NB135_136.out
                                                          have hnc70 := NB136_135.out
                                                          have hnb71 := NB135_139.out
                                                          have hnc71 := NB139_135.out
                                                          have hnb72 := NB135_146.out
                                                          have hnc72 := NB146_135.out
                                                          obtain ⟨hcz73_0, hcz73_1, hcz73_2, hfz73_0, hfz73_1, hfz73_2⟩ := cell3 BK135
                                                          try go_wp2
                                                          replace BK135 := Aside0.mk (blk_drew BK135.out)
                                                          replace BK136 := Aside0.mk (blk_drew BK136.out)
                                                          replace BK139 := Aside0.mk (blk_drew BK139.out)
                                                          replace BK146 := Aside0.mk (blk_drew BK146.out)
                                                          replace HB := Aside0.mk (below_drew1 HB.out)
                                                          have p154 : 0 ≤ (x14_6 : Int) := of_decide_eq_true asE
                                                          have q154 : x14_6 < (l0_1.length : Int) := of_decide_eq_true asE
                                                          obtain ⟨ad154, A154_0, c154_0, e154, hx154_0, hl154_0, hi154_0⟩ := at_L5 HR0_1.out x14_6 p154 q154
                                                          have hw154_0 := hx154_0
                                                          obtain rfl : ad140 = ad154 := (by injection e154)
                                                          replace hx154_0 := (HB.out.cell (World.block_lt_of_cell? w _ hx154_0)).trans hx154_0
                                                          have HR154_0 := Aside0.mk hi154_0
                                                          have HC154_0 := Aside0.mk hl154_0
                                                          clear hi154_0 hl154_0
                                                          replace p154 := eq_true p154
                                                          replace q154 := eq_true q154
                                                          refine start_ (n := 12) (S := fun w' => w'.cell? ⟨gb135, 0, none⟩ = some (.slice A0_0 l0_0.length c0_0) ∧ w'.cell? ⟨gb135, 1, none⟩ = some (.slice (some ad140) l0_1.length c0_1) ∧ w'.cell? ⟨gb135, 2, none⟩ = some (.slice A0_2 l0_2.length c0_2) ∧ w'.cell? ⟨gb146, 0, none⟩ = some (.int .i64 ((rd_T61 (rd_L5 l0_1 x8_3) x9_4).f0)) ∧ w'.cell? ⟨gb146, 1, none⟩ = some (.int .i64 ((rd_T61 (rd_L5 l0_1 x8_3) x10_5).f0)) ∧ w'.cell? ⟨gb146, 2, none⟩ = some (.int .u8 t153) ∧ w'.cell? ⟨gb146, 3, none⟩ = some (.int .i64 x147003_6) ∧ w'.cell? (ad140.add (x14_6).toNat) = some (.slice A154_0 (rd_L5 l0_1 x14_6).length c154_0)) (ds := []) (.replicate 12 false) (by kernel_rfl) rfl rfl ⟨(blk_cell BK135.out 0).trans rfl, (blk_cell BK135.out 1).trans rfl, (blk_cell BK135.out 2).trans rfl, (blk_cell BK146.out 0).trans rfl, (blk_cell BK146.out 1).trans rfl, (blk_cell BK146.out 2).trans rfl, (blk_cell BK146.out 3).trans rfl, ((HB.out.cell (World.block_lt_of_cell? w _ hw154_0)).trans hw154_0)⟩ (fun hHeld => ?_); refine with_tabW recoupref22_Best.tab26 recoupref22_Best.bits26 (fun HT_ HW_ => ?_)
                                                          generalize wr.drew = w74 at BK135 BK136 BK139 BK146 HB HR154_0 hx154_0 hHeld ⊢
                                                          refine pu 0 (some 124) (mB 12 1) HT_ ?_
                                                          refine pu 2 (some 126) (mB 12 5) HT_ ?_
                                                          refine pu 5 (some 129) (mB 12 37) HT_ ?_
                                                          refine pu 7 (some 131) (mB 12 165) HT_ ?_
                                                          refine pu 9 (some 133) (mB 12 677) HT_ ?_
                                                          refine tk8 1 (some 125) (mB 12 679) HT_ HW_ hHeld ?_
                                                          refine pu 3 (some 127) (mB 12 687) HT_ ?_
                                                          refine tk8 4 (some 128) (mB 12 703) HT_ HW_ hHeld ?_
                                                          refine tk8 6 (some 130) (mB 12 767) HT_ HW_ hHeld ?_
                                                          refine tk8 8 (some 132) (mB 12 1023) HT_ HW_ hHeld ?_
                                                          refine tk8 10 (some 134) (mB 12 2047) HT_ HW_ hHeld ?_
                                                          refine one_ (i := 11) (N := some 135) (mB 12 4095) rfl rfl (one_of HT_.out (by kernel_rfl)) (by decide) (fun K hK => ?_)
                                                          refine goes_ Try.func28 (by kernel_rfl) rfl #[.slice A154_0 (rd_L5 l0_1 x14_6).length c154_0, .int .i64 ((rd_T61 (rd_L5 l0_1 x8_3) x9_4).f0), .int .i64 ((rd_T61 (rd_L5 l0_1 x8_3) x10_5).f0), .int .u8 t153] (by rfl) rfl rfl (by (try simp only [List.map_toArray, List.map_cons, List.map_nil]); first | done | rfl | (simp only [List.length_drop, List.length_take]; rfl)) ?_
                                                          with_reducible refine (recoupref22_in.calls k6 _ _ (rd_L5 l0_1 x14_6) ((rd_T61 (rd_L5 l0_1 x8_3) x9_4).f0) ((rd_T61 (rd_L5 l0_1 x8_3) x10_5).f0) t153 false _ ?side1 ?side2 A60.out).mono ?_
                                                          (case side1 => exact kcB HR154_0 HB)
                                                          (case side2 => exact HC154_0.out)
                                                          rintro e w' ⟨rfl, ⟨nd, rfl⟩⟩
                                                          refine ⟨_, rfl, ?_⟩
                                                          refine hK.out _ _ ⟨(blk_cell BK135.out 0).trans rfl, (blk_cell BK135.out 1).trans rfl, (blk_cell BK135.out 2).trans rfl, (blk_cell BK146.out 0).trans rfl, (blk_cell BK146.out 1).trans rfl, (blk_cell BK146.out 2).trans rfl, (blk_cell BK146.out 3).trans rfl, ((HB.out.cell (World.block_lt_of_cell? w _ hw154_0)).trans hw154_0)⟩ (fun hHeld => ?_)
                                                          clear hK K
                                                          refine norm_ (a' := ?_) ?_ ?_
                                                          rotate_left
                                                          · show Act.put _ (some 135) _ = _
                                                            simp only [Act.put, List.setIfInBounds_toArray, List.set_cons_zero, List.set_cons_succ, i64_w, i32_w]
                                                            rfl
                                                          refine done_ (done_of HT_.out (by kernel_rfl)) ?_
                                                          try go_wp2
                                                          go_roundg k6
                                                          case measure => have := HK1.out; have := HJ12.out; have := HK3.out; have := HK4.out; have := HK5.out; have := HK6.out; omega
                                                          case rel => exact ⟨(wrap64 (x14_6 + 1)), (x147003_6), rsE, H', ⟨by have := HK1.out; have := HJ12.out; have := HK3.out; have := HK4.out; have := HK5.out; have := HK6.out; omega⟩, ⟨bkA BK135.out⟩, ⟨bkA BK136.out⟩, ⟨bkA BK139.out⟩, ⟨bkA BK146.out⟩, ⟨hbA HB.out⟩⟩
                                                      · rw [if_neg c59] at H
                                                        exact absurd H (by simp)
                                                    · rw [if_neg c58] at H
                                                      have c58b0 : decide (x14_6 < (l0_1.length : Int)) = false := decide_eq_false c58
                                                      clear c58
                                                      by_cases c75 : x147003_6 > x140003_5
                                                      · rw [if_pos c75] at H
                                                        have c75b0 : decide (x140003_5 < x147003_6) = true := decide_eq_true c75
                                                        clear c75
                                                        have H' := Aside0.mk H
                                                        clear H
                                                        have hnb76 := NB135_136.out
                                                        have hnc76 := NB136_135.out
                                                        have hnb77 := NB135_139.out
                                                        have hnc77 := NB139_135.out
                                                        have hnb78 := NB135_146.out
                                                        have hnc78 := NB146_135.out
                                                        obtain ⟨hcz79_0, hcz79_1, hcz79_2, hfz79_0, hfz79_1, hfz79_2⟩ := cell3 BK135
                                                        have hnb80 := NB146_136.out
                                                        have hnc80 := NB136_146.out
                                                        have hnb81 := NB146_139.out
                                                        have hnc81 := NB139_146.out
                                                        obtain ⟨hcz82_0, hcz82_1, hcz82_2, hcz82_3, hfz82_0, hfz82_1, hfz82_2, hfz82_3⟩ := cell4 BK146
                                                        have hnb83 := NB139_136.out
                                                        have hnc83 := NB136_139.out
                                                        obtain ⟨hcz84_0, hcz84_1, hcz84_2, hcz84_3, hfz84_0, hfz84_1, hfz84_2, hfz84_3⟩ := cell4 BK139
                                                        go_wp2
                                                        go_roundg k6
                                                        case measure => have := HK1.out; have := HJ12.out; have := HK3.out; have := HK4.out; have := HK5.out; have := HK6.out; omega
                                                        case rel => exact ⟨(wrap64 (x10_5 + 1)), (((rd_T61 (rd_L5 l0_1 x8_3) x9_4).f0)), (((rd_T61 (rd_L5 l0_1 x8_3) x10_5).f0)), (t153), (x147003_6), rsE, H', ⟨by have := HK1.out; have := HJ12.out; have := HK3.out; have := HK4.out; have := HK5.out; have := HK6.out; omega⟩, ⟨by refine bkR ?_; refine blk_far ?_ NB135_139.out _; refine bkR ?_; refine blk_far ?_ NB135_139.out _; refine bkR ?_; refine blk_far ?_ NB135_139.out _; refine bkR ?_; refine blk_far ?_ NB135_139.out _; refine bkR ?_; exact BK135.out⟩, ⟨by refine bkR ?_; refine blk_far ?_ NB136_139.out _; refine bkR ?_; refine blk_far ?_ NB136_139.out _; refine bkR ?_; refine blk_far ?_ NB136_139.out _; refine bkR ?_; refine blk_far ?_ NB136_139.out _; refine bkR ?_; exact BK136.out⟩, ⟨by refine bkR ?_; refine blk_put (cs := #[.int .i64 ((rd_T61 (rd_L5 l0_1 x8_3) x9_4).f0), .int .i64 ((rd_T61 (rd_L5 l0_1 x8_3) x10_5).f0), .int .u8 t153, .int .i64 x140003_5]) ?_ 3 _ rfl; refine bkR ?_; refine blk_put (cs := #[.int .i64 ((rd_T61 (rd_L5 l0_1 x8_3) x9_4).f0), .int .i64 ((rd_T61 (rd_L5 l0_1 x8_3) x10_5).f0), .int .u8 x140002_5, .int .i64 x140003_5]) ?_ 2 _ rfl; refine bkR ?_; refine blk_put (cs := #[.int .i64 ((rd_T61 (rd_L5 l0_1 x8_3) x9_4).f0), .int .i64 x140001_5, .int .u8 x140002_5, .int .i64 x140003_5]) ?_ 1 _ rfl; refine bkR ?_; refine blk_put (cs := #[.int .i64 x140000_5, .int .i64 x140001_5, .int .u8 x140002_5, .int .i64 x140003_5]) ?_ 0 _ rfl; refine bkR ?_; exact BK139.out⟩, ⟨hbA HB.out⟩⟩
                                                      · rw [if_neg c75] at H
                                                        have c75b0 : decide (x140003_5 < x147003_6) = false := decide_eq_false c75
                                                        clear c75
                                                        by_cases c85 : x147003_6 = x140003_5
                                                        · rw [if_pos c85] at H
                                                          have c85b0 : (x147003_6 == x140003_5) = true := beq_iff_eq.mpr c85
                                                          have c85b1 : (x147003_6 != x140003_5) = false := bne_eq_false_iff_eq.mpr c85
                                                          clear c85
                                                          by_cases c86 : x147003_6 > 1
                                                          · rw [if_pos c86] at H
                                                            have c86b0 : decide (1 < x147003_6) = true := decide_eq_true c86
                                                            clear c86
                                                            obtain ⟨t156, A87, H⟩ := bindO H
                                                            (try dsimp only at H)
                                                            by_cases c88 : t156 = true
                                                            · subst c88
                                                              rw [if_pos rfl] at H
                                                              have H' := Aside0.mk H
                                                              clear H
                                                              have hnb89 := NB135_136.out
                                                              have hnc89 := NB136_135.out
                                                              have hnb90 := NB135_139.out
                                                              have hnc90 := NB139_135.out
                                                              have hnb91 := NB135_146.out
                                                              have hnc91 := NB146_135.out
                                                              obtain ⟨hcz92_0, hcz92_1, hcz92_2, hfz92_0, hfz92_1, hfz92_2⟩ := cell3 BK135
                                                              have hnb93 := NB146_136.out
                                                              have hnc93 := NB136_146.out
                                                              have hnb94 := NB146_139.out
                                                              have hnc94 := NB139_146.out
                                                              obtain ⟨hcz95_0, hcz95_1, hcz95_2, hcz95_3, hfz95_0, hfz95_1, hfz95_2, hfz95_3⟩ := cell4 BK146
                                                              have hnb96 := NB139_136.out
                                                              have hnc96 := NB136_139.out
                                                              obtain ⟨hcz97_0, hcz97_1, hcz97_2, hcz97_3, hfz97_0, hfz97_1, hfz97_2, hfz97_3⟩ := cell4 BK139
                                                              go_wp2_with (first | (go_at_call 29; (with_reducible refine (recoupref22_less.calls ((rd_T61 (rd_L5 l0_1 x8_3) x9_4).f0) ((rd_T61 (rd_L5 l0_1 x8_3) x10_5).f0) t153 x147003_6 x140000_5 x140001_5 x140002_5 x140003_5 true _ A87.out).mono ?_); rintro e w98 ⟨rfl, hb⟩; replace BK135 := bkB BK135 hb; replace BK136 := bkB BK136 hb; replace BK139 := bkB BK139 hb; replace BK146 := bkB BK146 hb; replace HB := hbB HB hb; (try clear hb); (try clear hb2); (try clear hk); (try clear hi); obtain ⟨hcz99_0, hcz99_1, hcz99_2, hcz99_3, hfz99_0, hfz99_1, hfz99_2, hfz99_3⟩ := cell4 BK146; obtain ⟨hcz100_0, hcz100_1, hcz100_2, hcz100_3, hfz100_0, hfz100_1, hfz100_2, hfz100_3⟩ := cell4 BK139))
                                                              go_roundg k6
                                                              case measure => have := HK1.out; have := HJ12.out; have := HK3.out; have := HK4.out; have := HK5.out; have := HK6.out; omega
                                                              case rel => exact ⟨(wrap64 (x10_5 + 1)), (((rd_T61 (rd_L5 l0_1 x8_3) x9_4).f0)), (((rd_T61 (rd_L5 l0_1 x8_3) x10_5).f0)), (t153), (x147003_6), rsE, H', ⟨by have := HK1.out; have := HJ12.out; have := HK3.out; have := HK4.out; have := HK5.out; have := HK6.out; omega⟩, ⟨by refine bkR ?_; refine blk_far ?_ NB135_139.out _; refine bkR ?_; refine blk_far ?_ NB135_139.out _; refine bkR ?_; refine blk_far ?_ NB135_139.out _; refine bkR ?_; refine blk_far ?_ NB135_139.out _; refine bkR ?_; exact BK135.out⟩, ⟨by refine bkR ?_; refine blk_far ?_ NB136_139.out _; refine bkR ?_; refine blk_far ?_ NB136_139.out _; refine bkR ?_; refine blk_far ?_ NB136_139.out _; refine bkR ?_; refine blk_far ?_ NB136_139.out _; refine bkR ?_; exact BK136.out⟩, ⟨by refine bkR ?_; refine blk_put (cs := #[.int .i64 ((rd_T61 (rd_L5 l0_1 x8_3) x9_4).f0), .int .i64 ((rd_T61 (rd_L5 l0_1 x8_3) x10_5).f0), .int .u8 t153, .int .i64 x140003_5]) ?_ 3 _ rfl; refine bkR ?_; refine blk_put (cs := #[.int .i64 ((rd_T61 (rd_L5 l0_1 x8_3) x9_4).f0), .int .i64 ((rd_T61 (rd_L5 l0_1 x8_3) x10_5).f0), .int .u8 x140002_5, .int .i64 x140003_5]) ?_ 2 _ rfl; refine bkR ?_; refine blk_put (cs := #[.int .i64 ((rd_T61 (rd_L5 l0_1 x8_3) x9_4).f0), .int .i64 x140001_5, .int .u8 x140002_5, .int .i64 x140003_5]) ?_ 1 _ rfl; refine bkR ?_; refine blk_put (cs := #[.int .i64 x140000_5, .int .i64 x140001_5, .int .u8 x140002_5, .int .i64 x140003_5]) ?_ 0 _ rfl; refine bkR ?_; exact BK139.out⟩, ⟨hbA HB.out⟩⟩
                                                            · replace c88 := Bool.eq_false_iff.mpr c88
                                                              subst c88
                                                              rw [if_neg nofT] at H
                                                              have H' := Aside0.mk H
                                                              clear H
                                                              have hnb101 := NB135_136.out
                                                              have hnc101 := NB136_135.out
                                                              have hnb102 := NB135_139.out
                                                              have hnc102 := NB139_135.out
                                                              have hnb103 := NB135_146.out
                                                              have hnc103 := NB146_135.out
                                                              obtain ⟨hcz104_0, hcz104_1, hcz104_2, hfz104_0, hfz104_1, hfz104_2⟩ := cell3 BK135
                                                              have hnb105 := NB146_136.out
                                                              have hnc105 := NB136_146.out
                                                              have hnb106 := NB146_139.out
                                                              have hnc106 := NB139_146.out
                                                              obtain ⟨hcz107_0, hcz107_1, hcz107_2, hcz107_3, hfz107_0, hfz107_1, hfz107_2, hfz107_3⟩ := cell4 BK146
                                                              have hnb108 := NB139_136.out
                                                              have hnc108 := NB136_139.out
                                                              obtain ⟨hcz109_0, hcz109_1, hcz109_2, hcz109_3, hfz109_0, hfz109_1, hfz109_2, hfz109_3⟩ := cell4 BK139
                                                              go_wp2_with (first | (go_at_call 29; (with_reducible refine (recoupref22_less.calls ((rd_T61 (rd_L5 l0_1 x8_3) x9_4).f0) ((rd_T61 (rd_L5 l0_1 x8_3) x10_5).f0) t153 x147003_6 x140000_5 x140001_5 x140002_5 x140003_5 false _ A87.out).mono ?_); rintro e w110 ⟨rfl, hb⟩; replace BK135 := bkB BK135 hb; replace BK136 := bkB BK136 hb; replace BK139 := bkB BK139 hb; replace BK146 := bkB BK146 hb; replace HB := hbB HB hb; (try clear hb); (try clear hb2); (try clear hk); (try clear hi)))
                                                              go_roundg k6
                                                              case measure => have := HK1.out; have := HJ12.out; have := HK3.out; have := HK4.out; have := HK5.out; have := HK6.out; omega
                                                              case rel => exact ⟨(wrap64 (x10_5 + 1)), (x140000_5), (x140001_5), (x140002_5), (x140003_5), rsE, H', ⟨by have := HK1.out; have := HJ12.out; have := HK3.out; have := HK4.out; have := HK5.out; have := HK6.out; omega⟩, ⟨bkA BK135.out⟩, ⟨bkA BK136.out⟩, ⟨bkA BK139.out⟩, ⟨hbA HB.out⟩⟩
                                                          · rw [if_neg c86] at H
                                                            have c86b0 : decide (1 < x147003_6) = false := decide_eq_false c86
                                                            clear c86
                                                            have H' := Aside0.mk H
                                                            clear H
                                                            have hnb111 := NB135_136.out
                                                            have hnc111 := NB136_135.out
                                                            have hnb112 := NB135_139.out
                                                            have hnc112 := NB139_135.out
                                                            have hnb113 := NB135_146.out
                                                            have hnc113 := NB146_135.out
                                                            obtain ⟨hcz114_0, hcz114_1, hcz114_2, hfz114_0, hfz114_1, hfz114_2⟩ := cell3 BK135
                                                            have hnb115 := NB146_136.out
                                                            have hnc115 := NB136_146.out
                                                            have hnb116 := NB146_139.out
                                                            have hnc116 := NB139_146.out
                                                            obtain ⟨hcz117_0, hcz117_1, hcz117_2, hcz117_3, hfz117_0, hfz117_1, hfz117_2, hfz117_3⟩ := cell4 BK146
                                                            have hnb118 := NB139_136.out
                                                            have hnc118 := NB136_139.out
                                                            obtain ⟨hcz119_0, hcz119_1, hcz119_2, hcz119_3, hfz119_0, hfz119_1, hfz119_2, hfz119_3⟩ := cell4 BK139
                                                            go_wp2
                                                            go_roundg k6
                                                            case measure => have := HK1.out; have := HJ12.out; have := HK3.out; have := HK4.out; have := HK5.out; have := HK6.out; omega
                                                            case rel => exact ⟨(wrap64 (x10_5 + 1)), (x140000_5), (x140001_5), (x140002_5), (x140003_5), rsE, H', ⟨by have := HK1.out; have := HJ12.out; have := HK3.out; have := HK4.out; have := HK5.out; have := HK6.out; omega⟩, ⟨bkA BK135.out⟩, ⟨bkA BK136.out⟩, ⟨bkA BK139.out⟩, ⟨hbA HB.out⟩⟩
                                                        · rw [if_neg c85] at H
                                                          have c85b0 : (x147003_6 == x140003_5) = false := beq_eq_false_iff_ne.mpr c85
                                                          have c85b1 : (x147003_6 != x140003_5) = true := bne_iff_ne.mpr c85
                                                          have H' := Aside0.mk H
                                                          clear H
                                                          have hnb120 := NB135_136.out
                                                          have hnc120 := NB136_135.out
                                                          have hnb121 := NB135_139.out
                                                          have hnc121 := NB139_135.out
                                                          have hnb122 := NB135_146.out
                                                          have hnc122 := NB146_135.out
                                                          obtain ⟨hcz123_0, hcz123_1, hcz123_2, hfz123_0, hfz123_1, hfz123_2⟩ := cell3 BK135
                                                          have hnb124 := NB146_136.out
                                                          have hnc124 := NB136_146.out
                                                          have hnb125 := NB146_139.out
                                                          have hnc125 := NB139_146.out
                                                          obtain ⟨hcz126_0, hcz126_1, hcz126_2, hcz126_3, hfz126_0, hfz126_1, hfz126_2, hfz126_3⟩ := cell4 BK146
                                                          have hnb127 := NB139_136.out
                                                          have hnc127 := NB136_139.out
                                                          obtain ⟨hcz128_0, hcz128_1, hcz128_2, hcz128_3, hfz128_0, hfz128_1, hfz128_2, hfz128_3⟩ := cell4 BK139
                                                          go_wp2
                                                          go_roundg k6
                                                          case measure => have := HK1.out; have := HJ12.out; have := HK3.out; have := HK4.out; have := HK5.out; have := HK6.out; omega
                                                          case rel => exact ⟨(wrap64 (x10_5 + 1)), (x140000_5), (x140001_5), (x140002_5), (x140003_5), rsE, H', ⟨by have := HK1.out; have := HJ12.out; have := HK3.out; have := HK4.out; have := HK5.out; have := HK6.out; omega⟩, ⟨bkA BK135.out⟩, ⟨bkA BK136.out⟩, ⟨bkA BK139.out⟩, ⟨hbA HB.out⟩⟩
                                              · rw [if_neg c41] at H
                                                exact absurd H (by simp)
                                            · rw [if_neg c40] at H
                                              exact absurd H (by simp)
                                          · rw [if_neg c39] at H
                                            exact absurd H (by simp)
                                        · rw [if_neg c38] at H
                                          have c38b0 : decide (x10_5 < ((rd_L5 l0_1 x8_3).length : Int)) = false := decide_eq_false c38
                                          clear c38
                                          have H' := Aside0.mk H
                                          clear H
                                          have hnb129 := NB135_136.out
                                          have hnc129 := NB136_135.out
                                          have hnb130 := NB135_139.out
                                          have hnc130 := NB139_135.out
                                          obtain ⟨hcz131_0, hcz131_1, hcz131_2, hfz131_0, hfz131_1, hfz131_2⟩ := cell3 BK135
                                          have p141 : 0 ≤ (x8_3 : Int) := of_decide_eq_true asE
                                          have q141 : x8_3 < (l0_1.length : Int) := of_decide_eq_true asE
                                          obtain ⟨ad141, A141_0, c141_0, e141, hx141_0, hl141_0, hi141_0⟩ := at_L5 HR0_1.out x8_3 p141 q141
                                          obtain rfl : ad140 = ad141 := (by injection e141)
                                          replace hx141_0 := (HB.out.cell (World.block_lt_of_cell? w _ hx141_0)).trans hx141_0
                                          have HR141_0 := Aside0.mk hi141_0
                                          have HC141_0 := Aside0.mk hl141_0
                                          clear hi141_0 hl141_0
                                          replace p141 := eq_true p141
                                          replace q141 := eq_true q141
                                          go_wp2
                                          go_roundg k5
                                          case measure => have := HK1.out; have := HJ12.out; have := HK3.out; have := HK4.out; have := HK5.out; omega
                                          case rel => exact ⟨(wrap64 (x9_4 + 1)), (x140000_5), (x140001_5), (x140002_5), (x140003_5), rsE, H', ⟨by have := HK1.out; have := HJ12.out; have := HK3.out; have := HK4.out; have := HK5.out; omega⟩, ⟨bkA BK135.out⟩, ⟨bkA BK136.out⟩, ⟨bkA BK139.out⟩, ⟨hbA HB.out⟩⟩
                                      · rw [if_neg c37] at H
                                        exact absurd H (by simp)
                                    · rw [if_neg c36] at H
                                      exact absurd H (by simp)
                              · rw [if_neg c32] at H
                                have c32b0 : decide (x9_4 < ((rd_L5 l0_1 x8_3).length : Int)) = false := decide_eq_false c32
                                clear c32
                                have H' := Aside0.mk H
                                clear H
                                have hnb132 := NB135_136.out
                                have hnc132 := NB136_135.out
                                have hnb133 := NB135_139.out
                                have hnc133 := NB139_135.out
                                obtain ⟨hcz134_0, hcz134_1, hcz134_2, hfz134_0, hfz134_1, hfz134_2⟩ := cell3 BK135
                                have p140 : 0 ≤ (x8_3 : Int) := of_decide_eq_true asE
                                have q140 : x8_3 < (l0_1.length : Int) := of_decide_eq_true asE
                                obtain ⟨ad140, A140_0, c140_0, e140, hx140_0, hl140_0, hi140_0⟩ := at_L5 HR0_1.out x8_3 p140 q140
                                cases e140
                                replace hx140_0 := (HB.out.cell (World.block_lt_of_cell? w _ hx140_0)).trans hx140_0
                                have HR140_0 := Aside0.mk hi140_0
                                have HC140_0 := Aside0.mk hl140_0
                                clear hi140_0 hl140_0
                                replace p140 := eq_true p140
                                replace q140 := eq_true q140
                                go_wp2
                                go_roundg k4
                                case measure => have := HK1.out; have := HJ12.out; have := HK3.out; have := HK4.out; omega
                                case rel => exact ⟨(wrap64 (x8_3 + 1)), (x140000_4), (x140001_4), (x140002_4), (x140003_4), rsE, H', ⟨by have := HK1.out; have := HJ12.out; have := HK3.out; have := HK4.out; omega⟩, ⟨bkA BK135.out⟩, ⟨bkA BK136.out⟩, ⟨bkA BK139.out⟩, ⟨hbA HB.out⟩⟩
                            · rw [if_neg c31] at H
                              exact absurd H (by simp)
                          · rw [if_neg c30] at H
                            exact absurd H (by simp)
                    · rw [if_neg c26] at H
                      have c26b0 : decide (x8_3 < (l0_1.length : Int)) = false := decide_eq_false c26
                      clear c26
                      by_cases c135 : x140003_3 < 2
                      · rw [if_pos c135] at H
                        have c135b0 : decide (x140003_3 < 2) = true := decide_eq_true c135
                        clear c135
                        simp only [Option.some.injEq, Prod.mk.injEq] at H
                        obtain ⟨rfl, rfl, rfl, rfl, rfl, rfl⟩ := H
                        have hnb136 := NB135_136.out
                        have hnc136 := NB136_135.out
                        have hnb137 := NB135_139.out
                        have hnc137 := NB139_135.out
                        obtain ⟨hcz138_0, hcz138_1, hcz138_2, hfz138_0, hfz138_1, hfz138_2⟩ := cell3 BK135
                        have hnb139 := NB139_136.out
                        have hnc139 := NB136_139.out
                        obtain ⟨hcz140_0, hcz140_1, hcz140_2, hcz140_3, hfz140_0, hfz140_1, hfz140_2, hfz140_3⟩ := cell4 BK139
                        obtain ⟨hcz141_0, hcz141_1, hcz141_2, hcz141_3, hfz141_0, hfz141_1, hfz141_2, hfz141_3⟩ := cell4 BK136
                        go_wp2
                        refine bodyPost_ret (results_ctt rfl _ _ gb136 31 #[.int .i64 0, .int .i64 0, .int .u8 0, .int .i64 0] (0, 0) _ rfl (by refine bkR ?_; refine blk_put (cs := #[.int .i64 0, .int .i64 0, .int .u8 0, .int .i64 0]) ?_ 3 _ rfl; refine bkR ?_; refine blk_put (cs := #[.int .i64 0, .int .i64 0, .int .u8 0, .int .i64 0]) ?_ 2 _ rfl; refine bkR ?_; refine blk_put (cs := #[.int .i64 0, .int .i64 0, .int .u8 0, .int .i64 0]) ?_ 1 _ rfl; refine bkR ?_; refine blk_put (cs := #[.int .i64 0, .int .i64 0, .int .u8 0, .int .i64 0]) ?_ 0 _ rfl; refine bkR ?_; exact BK136.out) Try.underlying31 rfl (by kernel_rfl)) rfl ?_
                        exact ⟨rfE, hbA HB.out⟩
                      · rw [if_neg c135] at H
                        have c135b0 : decide (x140003_3 < 2) = false := decide_eq_false c135
                        clear c135
                        simp only [Option.some.injEq, Prod.mk.injEq] at H
                        obtain ⟨rfl, rfl, rfl, rfl, rfl, rfl⟩ := H
                        have hnb142 := NB135_136.out
                        have hnc142 := NB136_135.out
                        have hnb143 := NB135_139.out
                        have hnc143 := NB139_135.out
                        obtain ⟨hcz144_0, hcz144_1, hcz144_2, hfz144_0, hfz144_1, hfz144_2⟩ := cell3 BK135
                        have hnb145 := NB139_136.out
                        have hnc145 := NB136_139.out
                        obtain ⟨hcz146_0, hcz146_1, hcz146_2, hcz146_3, hfz146_0, hfz146_1, hfz146_2, hfz146_3⟩ := cell4 BK139
                        obtain ⟨hcz147_0, hcz147_1, hcz147_2, hcz147_3, hfz147_0, hfz147_1, hfz147_2, hfz147_3⟩ := cell4 BK136
                        go_wp2
                        refine bodyPost_ret (results_ctt rfl _ _ gb136 31 #[.int .i64 x140000_3, .int .i64 x140001_3, .int .u8 x140002_3, .int .i64 x140003_3] (0, 0) _ rfl (by refine bkR ?_; refine blk_put (cs := #[.int .i64 x140000_3, .int .i64 x140001_3, .int .u8 x140002_3, .int .i64 0]) ?_ 3 _ rfl; refine bkR ?_; refine blk_put (cs := #[.int .i64 x140000_3, .int .i64 x140001_3, .int .u8 0, .int .i64 0]) ?_ 2 _ rfl; refine bkR ?_; refine blk_put (cs := #[.int .i64 x140000_3, .int .i64 0, .int .u8 0, .int .i64 0]) ?_ 1 _ rfl; refine bkR ?_; refine blk_put (cs := #[.int .i64 0, .int .i64 0, .int .u8 0, .int .i64 0]) ?_ 0 _ rfl; refine bkR ?_; exact BK136.out) Try.underlying31 rfl (by kernel_rfl)) rfl ?_
                        exact ⟨rfE, hbA HB.out⟩
  · replace c3 := Bool.eq_false_iff.mpr c3
    subst c3
    rw [if_neg nofT] at H
    simp only [Option.some.injEq, Prod.mk.injEq] at H
    obtain ⟨rfl, rfl, rfl, rfl, rfl, rfl⟩ := H
    go_enter Try.func11, Try.ntmps11
    go_wp2_with (first | ((with_reducible refine gD 1 rfl ?_); (try (refine gate_guard (by rfl) ?_; dsimp only)); refine bE 1 #[.slice A0_0 l0_0.length c0_0, .slice A0_1 l0_1.length c0_1, .slice A0_2 l0_2.length c0_2] 25 ?_; intro gb135 hg w148 hbox hb; have BK135 := Aside0.mk (hbox); have GW135 := hbS HB hg; have GE135 := hbS HB hg; replace HB := hbB HB hb; clear hb hbox hg) | ((with_reducible refine gD 2 rfl ?_); (try (refine gate_guard (by rfl) ?_; dsimp only)); refine bE 2 #[.int .i64 0, .int .i64 0, .int .u8 0, .int .i64 0] 31 ?_; intro gb136 hg w149 hbox hb; have BK136 := Aside0.mk (hbox); have GW136 := hbS HB hg; have GE136 := hbS HB hg; replace HB := hbB HB hb; have NB135_136 := neL BK135 hg; have NB136_135 := neG BK135 hg; replace BK135 := bkB BK135 hb; clear hb hbox hg; have hnb150 := NB135_136.out; have hnc150 := NB136_135.out; obtain ⟨hcz151_0, hcz151_1, hcz151_2, hfz151_0, hfz151_1, hfz151_2⟩ := cell3 BK135) | ((with_reducible refine gC 18 rfl ?_); refine cG (some 16) Try.func18 #[.agg #[.slice A0_0 l0_0.length c0_0, .slice A0_1 l0_1.length c0_1, .slice A0_2 l0_2.length c0_2]] ?_; (with_reducible refine (recoupref21_May.calls k _ _ l0_0 _ _ l0_1 _ _ l0_2 false _ ?side1 ?side2 ?side3 ?side4 ?side5 ?side6 A2.out).mono ?_); (case side1 => exact kcB HR0_0 HB); (case side2 => exact HC0_0.out); (case side3 => exact kcB HR0_1 HB); (case side4 => exact HC0_1.out); (case side5 => exact kcB HR0_2 HB); (case side6 => exact HC0_2.out); rintro e w152 ⟨rfl, hb⟩; refine ⟨_, rfl, ?_⟩; replace BK135 := bkB BK135 hb; replace BK136 := bkB BK136 hb; replace HB := hbB HB hb; (try clear hb); (try clear hb2); (try clear hk); (try clear hi); obtain ⟨hcz153_0, hcz153_1, hcz153_2, hcz153_3, hfz153_0, hfz153_1, hfz153_2, hfz153_3⟩ := cell4 BK136))
    refine bodyPost_ret (results_ctt rfl _ _ gb136 31 #[.int .i64 0, .int .i64 0, .int .u8 0, .int .i64 0] (0, 0) _ rfl (by refine bkR ?_; refine blk_put (cs := #[.int .i64 0, .int .i64 0, .int .u8 0, .int .i64 0]) ?_ 3 _ rfl; refine bkR ?_; refine blk_put (cs := #[.int .i64 0, .int .i64 0, .int .u8 0, .int .i64 0]) ?_ 2 _ rfl; refine bkR ?_; refine blk_put (cs := #[.int .i64 0, .int .i64 0, .int .u8 0, .int .i64 0]) ?_ 1 _ rfl; refine bkR ?_; refine blk_put (cs := #[.int .i64 0, .int .i64 0, .int .u8 0, .int .i64 0]) ?_ 0 _ rfl; refine bkR ?_; exact BK136.out) Try.underlying31 rfl (by kernel_rfl)) rfl ?_
    exact ⟨rfE, hbA HB.out⟩

end Go.Proofs.Ytnfemjnajfdepaa.Q
