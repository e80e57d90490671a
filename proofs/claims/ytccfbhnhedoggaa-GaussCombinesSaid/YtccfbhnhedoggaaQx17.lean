/- Written by drive.py (a program of this repo, over the kit's print): each Go function named here answers what the Lean function beside it answers, wherever that one answers, in every world that meets the stated premises. -/
import Derived.Test.YtccfbhnhedoggaaQx0
import Derived.Test.YtccfbhnhedoggaaQx7
import Derived.Test.YtccfbhnhedoggaaQx8
import Derived.Test.YtccfbhnhedoggaaQx11
namespace Go.Proofs.Ytccfbhnhedoggaa.Q
open Go.RowKit Go.Proofs.YtccfbhnhedoggaaW.PrintWords Go.Proofs.YtccfbhnhedoggaaW.PrintLast Go.Proofs.YtccfbhnhedoggaaW.PrintMore
attribute [local go_sem] max2_int min2_int max_two min_two max_three min_three max_four min_four   -- for this text's walks alone
set_option linter.unusedVariables false
set_option linter.unusedSimpArgs false

/-! ### recoupref04_wide: function 52 -/
theorem kd_block {w : World} {e base : Nat} {ok : Nat → Prop} {g n cap : Nat} {xs : List Int} {k : IntKind} (h : Kd.R (Kd.int k) e w base ok (.slice (some ⟨g, 0, none⟩) n cap) xs) : ∃ cells, w.heap[g]? = some (.cells cells e (0, 0)) := by
 obtain ⟨inner, ho⟩ := Kd.R_own h
 rcases ho.2 with ⟨h', _⟩ | ⟨g', cap', cur, h', _, hh, _⟩
 ·cases h'
 ·have : g = g' := by injection h' with h'; injection h' with h'; injection h' with h'
  subst this
  exact ⟨_, hh⟩
mutual
def recoupref04_wide.l0 : Nat → List Int → Int → Int → Int → List Int → Option (Int × Int × List Int × List Int)
 | 0, _, _, _, _, _ => none
 | k + 1, x4, x5, x235000, x235001, x235002 => if x5 < x235001 then (recoupref04_wide.l1 k x4 x5 (x4.length : Int) (x4.length : Int) x235000 x235001 x235002) else (some (x235000, x235001, x235002, x4))
def recoupref04_wide.l1 : Nat → List Int → Int → Int → Int → Int → Int → List Int → Option (Int × Int × List Int × List Int)
 | 0, _, _, _, _, _, _, _ => none
 | k + 1, x4, x5, x6, x7, x235000, x235001, x235002 => if x7 < x235000 then ((recoupref03_At.f x235000 x235001 x235002 x7 x5).bind fun t236 => (if t236 = 0 then (recoupref04_wide.l1 k x4 x5 x6 (wrap64 (x7 + 1)) x235000 x235001 x235002) else ((recoupref01_Inv.f k t236).bind fun bt237 => (recoupref04_wide.l2 k x4 x5 x6 x7 bt237.1 0 x235000 x235001 x235002)))) else (recoupref04_wide.l0 k x4 (wrap64 (x5 + 1)) x235000 x235001 x235002)
def recoupref04_wide.l2 : Nat → List Int → Int → Int → Int → Int → Int → Int → Int → List Int → Option (Int × Int × List Int × List Int)
 | 0, _, _, _, _, _, _, _, _, _ => none
 | k + 1, x4, x5, x6, x7, x9, x11, x235000, x235001, x235002 => if x11 < x235001 then ((recoupref03_At.f x235000 x235001 x235002 x6 x11).bind fun t239 => ((recoupref03_At.f x235000 x235001 x235002 x7 x11).bind fun t240 => (if 0 ≤ (wrap64 ((wrap64 (x7 * x235001)) + x11)) then (if (wrap64 ((wrap64 (x7 * x235001)) + x11)) < (x235002.length : Int) then ((recoupref01_Mul.f k x9 t240).bind fun t242 => (if 0 ≤ (wrap64 ((wrap64 (x6 * x235001)) + x11)) then (if (wrap64 ((wrap64 (x6 * x235001)) + x11)) < (x235002.length : Int) then (recoupref04_wide.l2 k x4 x5 x6 x7 x9 (wrap64 (x11 + 1)) x235000 x235001 ((x235002.set ((wrap64 ((wrap64 (x7 * x235001)) + x11)) : Int).toNat t239).set ((wrap64 ((wrap64 (x6 * x235001)) + x11)) : Int).toNat t242)) else (none)) else (none))) else (none)) else (none)))) else (recoupref04_wide.l3 k x4 x5 x6 0 x235000 x235001 x235002)
def recoupref04_wide.l3 : Nat → List Int → Int → Int → Int → Int → Int → List Int → Option (Int × Int × List Int × List Int)
 | 0, _, _, _, _, _, _, _ => none
 | k + 1, x4, x5, x6, x14, x235000, x235001, x235002 => if x14 < x235000 then ((recoupref03_At.f x235000 x235001 x235002 x14 x5).bind fun t247 => (recoupref04_wide.l4 k x4 x5 x6 x14 t247 0 x235000 x235001 x235002)) else (if x4.length < 17592186044416 then (recoupref04_wide.l0 k (x4 ++ [x5]) (wrap64 (x5 + 1)) x235000 x235001 x235002) else (none))
def recoupref04_wide.l4 : Nat → List Int → Int → Int → Int → Int → Int → Int → Int → List Int → Option (Int × Int × List Int × List Int)
 | 0, _, _, _, _, _, _, _, _, _ => none
 | k + 1, x4, x5, x6, x14, x15, x16, x235000, x235001, x235002 => if x16 < x235001 then (recoupref04_wide.j5 k x4 x5 x6 x14 x15 x16 (x14 != x6) x235000 x235001 x235002) else (recoupref04_wide.j5 k x4 x5 x6 x14 x15 x16 false x235000 x235001 x235002)
def recoupref04_wide.j5 : Nat → List Int → Int → Int → Int → Int → Int → Bool → Int → Int → List Int → Option (Int × Int × List Int × List Int)
 | 0, _, _, _, _, _, _, _, _, _, _ => none
 | k + 1, x4, x5, x6, x14, x15, x16, x97, x235000, x235001, x235002 => if x97 = true then (if 0 ≤ (wrap64 ((wrap64 (x14 * x235001)) + x16)) then (if (wrap64 ((wrap64 (x14 * x235001)) + x16)) < (x235002.length : Int) then ((recoupref03_At.f x235000 x235001 x235002 x6 x16).bind fun t249 => ((recoupref01_Mul.f k x15 t249).bind fun t250 => (recoupref04_wide.l4 k x4 x5 x6 x14 x15 (wrap64 (x16 + 1)) x235000 x235001 (x235002.set ((wrap64 ((wrap64 (x14 * x235001)) + x16)) : Int).toNat (Go.bits .xor .u8 (rd x235002 (wrap64 ((wrap64 (x14 * x235001)) + x16))) t250))))) else (none)) else (none)) else (recoupref04_wide.l3 k x4 x5 x6 (wrap64 (x14 + 1)) x235000 x235001 x235002)
end
def recoupref04_wide.f (k : Nat) (a0_0 : Int) (a0_1 : Int) (l0_2 : List Int) : Option (Int × Int × List Int × List Int) := recoupref04_wide.l0 k ([] : List Int) 0 a0_0 a0_1 l0_2
theorem recoupref04_wide.mono_l : ∀ k, (∀ y0 y1 y2 y3 y4, LeO (recoupref04_wide.l0 k y0 y1 y2 y3 y4) (recoupref04_wide.l0 (k + 1) y0 y1 y2 y3 y4)) ∧ (∀ y0 y1 y2 y3 y4 y5 y6, LeO (recoupref04_wide.l1 k y0 y1 y2 y3 y4 y5 y6) (recoupref04_wide.l1 (k + 1) y0 y1 y2 y3 y4 y5 y6)) ∧ (∀ y0 y1 y2 y3 y4 y5 y6 y7 y8, LeO (recoupref04_wide.l2 k y0 y1 y2 y3 y4 y5 y6 y7 y8) (recoupref04_wide.l2 (k + 1) y0 y1 y2 y3 y4 y5 y6 y7 y8)) ∧ (∀ y0 y1 y2 y3 y4 y5 y6, LeO (recoupref04_wide.l3 k y0 y1 y2 y3 y4 y5 y6) (recoupref04_wide.l3 (k + 1) y0 y1 y2 y3 y4 y5 y6)) ∧ (∀ y0 y1 y2 y3 y4 y5 y6 y7 y8, LeO (recoupref04_wide.l4 k y0 y1 y2 y3 y4 y5 y6 y7 y8) (recoupref04_wide.l4 (k + 1) y0 y1 y2 y3 y4 y5 y6 y7 y8)) ∧ (∀ y0 y1 y2 y3 y4 y5 y6 y7 y8 y9, LeO (recoupref04_wide.j5 k y0 y1 y2 y3 y4 y5 y6 y7 y8 y9) (recoupref04_wide.j5 (k + 1) y0 y1 y2 y3 y4 y5 y6 y7 y8 y9))
 | 0 => ⟨fun _ _ _ _ _ r h => by simp [recoupref04_wide.l0] at h, fun _ _ _ _ _ _ _ r h => by simp [recoupref04_wide.l1] at h, fun _ _ _ _ _ _ _ _ _ r h => by simp [recoupref04_wide.l2] at h, fun _ _ _ _ _ _ _ r h => by simp [recoupref04_wide.l3] at h, fun _ _ _ _ _ _ _ _ _ r h => by simp [recoupref04_wide.l4] at h, fun _ _ _ _ _ _ _ _ _ _ r h => by simp [recoupref04_wide.j5] at h⟩
 | k + 1 => by
  obtain ⟨ih0, ih1, ih2, ih3, ih4, ih5⟩ := recoupref04_wide.mono_l k
  refine ⟨?_, ?_, ?_, ?_, ?_, ?_⟩
  all_goals (intros; first | unfold recoupref04_wide.l0 | unfold recoupref04_wide.l1 | unfold recoupref04_wide.l2 | unfold recoupref04_wide.l3 | unfold recoupref04_wide.l4 | unfold recoupref04_wide.j5)
  all_goals repeat' first | (with_reducible exact ih0 _ _ _ _ _) | (with_reducible exact ih1 _ _ _ _ _ _ _) | (with_reducible exact ih2 _ _ _ _ _ _ _ _ _) | (with_reducible exact ih3 _ _ _ _ _ _ _) | (with_reducible exact ih4 _ _ _ _ _ _ _ _ _) | (with_reducible exact ih5 _ _ _ _ _ _ _ _ _ _) | (with_reducible exact recoupref01_Inv.mono _ _) | (with_reducible exact recoupref01_Mul.mono _ _ _) | (with_reducible exact LeO.refl _) | (with_reducible exact LeO.none _) | (with_reducible refine LeO.ite ?_ ?_) | (with_reducible refine LeO.bind ?_ (fun _ => ?_)) | exact ih0 _ _ _ _ _ | exact ih1 _ _ _ _ _ _ _ | exact ih2 _ _ _ _ _ _ _ _ _ | exact ih3 _ _ _ _ _ _ _ | exact ih4 _ _ _ _ _ _ _ _ _ | exact ih5 _ _ _ _ _ _ _ _ _ _ | exact recoupref01_Inv.mono _ _ | exact recoupref01_Mul.mono _ _ _ | exact LeO.none _ | refine LeO.ite ?_ ?_ | refine LeO.bind ?_ (fun _ => ?_)
theorem recoupref04_wide.mono : ∀ a0 a1 a2 k, LeO (recoupref04_wide.f k a0 a1 a2) (recoupref04_wide.f (k + 1) a0 a1 a2) := by
 intro a0 a1 a2 k
 obtain ⟨ih0, ih1, ih2, ih3, ih4, ih5⟩ := recoupref04_wide.mono_l k
 unfold recoupref04_wide.f
 repeat' first
   | (with_reducible exact ih0 _ _ _ _ _)
   | (with_reducible exact ih1 _ _ _ _ _ _ _)
   | (with_reducible exact ih2 _ _ _ _ _ _ _ _ _)
   | (with_reducible exact ih3 _ _ _ _ _ _ _)
   | (with_reducible exact ih4 _ _ _ _ _ _ _ _ _)
   | (with_reducible exact ih5 _ _ _ _ _ _ _ _ _ _)
   | (with_reducible exact recoupref01_Inv.mono _ _)
   | (with_reducible exact recoupref01_Mul.mono _ _ _)
   | (with_reducible exact LeO.refl _)
   | (with_reducible exact LeO.none _)
   | (with_reducible refine LeO.ite ?_ ?_)
   | (with_reducible refine LeO.bind ?_ (fun _ => ?_))
   | exact ih0 _ _ _ _ _
   | exact ih1 _ _ _ _ _ _ _
   | exact ih2 _ _ _ _ _ _ _ _ _
   | exact ih3 _ _ _ _ _ _ _
   | exact ih4 _ _ _ _ _ _ _ _ _
   | exact ih5 _ _ _ _ _ _ _ _ _ _
   | exact recoupref01_Inv.mono _ _
   | exact recoupref01_Mul.mono _ _ _
   | exact LeO.none _
   | refine LeO.ite ?_ ?_
   | refine LeO.bind ?_ (fun _ => ?_)
def recoupref04_wide.T15 : Bool × List (List Nat × List Nat) := (true, [([], []), ([], []), ([], []), ([0, 1, 2], [0, 1, 2]), ([], []), ([], []), ([], []), ([4, 5, 6, 3], [4, 5, 6]), ([3, 7, 0, 1, 2, 3], [3]), ([7, 8, 0, 1, 2, 3, 4, 5, 6, 7, 8], [7])])
def recoupref04_wide.B15 : List Nat := [0, 0, 0, 7, 0, 0, 0, 127, 255, 511]
theorem recoupref04_wide.tab15 : rtab .any (opsOf Try.f52 15) = recoupref04_wide.T15 := by kernel_rfl
theorem recoupref04_wide.bits15 : waitsOk recoupref04_wide.T15.2 recoupref04_wide.B15 = true := by kernel_rfl
def recoupref04_wide.T17 : Bool × List (List Nat × List Nat) := (true, [([], []), ([0], [0]), ([], []), ([], []), ([3], [3]), ([2, 4], [2, 4]), ([], []), ([5, 6], [5, 6]), ([], []), ([], []), ([8, 9], [8, 9]), ([1, 7, 0, 1, 2, 3, 4, 5, 6, 7, 8, 9, 10], [1, 7]), ([11, 10, 10, 0, 1, 2, 3, 4, 5, 6, 7, 8, 9, 10], [10, 11])])
def recoupref04_wide.B17 : List Nat := [0, 1, 0, 0, 8, 28, 0, 124, 0, 0, 768, 2047, 4095]
theorem recoupref04_wide.tab17 : rtab .any (opsOf Try.f52 17) = recoupref04_wide.T17 := by kernel_rfl
theorem recoupref04_wide.bits17 : waitsOk recoupref04_wide.T17.2 recoupref04_wide.B17 = true := by kernel_rfl
def recoupref04_wide.T25 : Bool × List (List Nat × List Nat) := (true, [([], []), ([0], [0]), ([], []), ([], []), ([3], [3]), ([2, 4], [2, 4]), ([], []), ([5, 6], [5, 6]), ([1, 7], [1, 7]), ([8], [8]), ([], []), ([], []), ([], []), ([], []), ([11, 12, 13], [11, 12, 13]), ([10, 14, 14], [10, 14]), ([9, 15], [9, 15]), ([1, 7, 0, 1, 2, 3, 4, 5, 6, 7, 8, 9, 10, 11, 12, 13, 14, 15, 16], [1, 7]), ([17, 16, 15, 0, 1, 2, 3, 4, 5, 6, 7, 8, 9, 10, 11, 12, 13, 14, 15, 16], [16, 17])])
def recoupref04_wide.B25 : List Nat := [0, 1, 0, 0, 8, 28, 0, 124, 255, 511, 0, 0, 0, 0, 14336, 31744, 65535, 131071, 262143]
theorem recoupref04_wide.tab25 : rtab .any (opsOf Try.f52 25) = recoupref04_wide.T25 := by kernel_rfl
theorem recoupref04_wide.bits25 : waitsOk recoupref04_wide.T25.2 recoupref04_wide.B25 = true := by kernel_rfl
set_option maxHeartbeats 8000000 in
set_option maxRecDepth 100000 in
theorem recoupref04_wide.calls (k : Nat) (a0_0 : Int) (a0_1 : Int) (P0_2_ : Nat → Prop) (u9000_ : Value) (l0_2 : List Int) (r1 : Int) (r2 : Int) (r3 : List Int) (r4 : List Int) (w0 w : World) (hB : Below w0.heap.size w0 w) (ho0_2 : Kd.R (Kd.int .u8) 5 w w0.heap.size P0_2_ u9000_ l0_2) (h : recoupref04_wide.f k a0_0 a0_1 l0_2 = some (r1, r2, r3, r4)) :
  Calls Try.prog 52 #[.agg #[.int .i64 a0_0, .int .i64 a0_1, u9000_]] w fun e w' => ∃ v2_ v3_ : Value, e = .returned (.tuple #[.agg #[.int .i64 r1, .int .i64 r2, v2_], v3_]) ∧ Kd.R (Kd.int .u8) 5 w' w0.heap.size (fun k_ => (P0_2_ k_ ∨ w.heap.size ≤ k_)) v2_ r3 ∧ Kd.R (Kd.int .i64) 3 w' w0.heap.size (fun k_ => (P0_2_ k_ ∨ w.heap.size ≤ k_)) v3_ r4 ∧ Below w0.heap.size w0 w' ∧ Kept w w' (fun k_ => P0_2_ k_) := by
 have hu24 := Try.underlying24
 have HO0_2 := Aside0.mk (show Kd.R (Kd.int .u8) 5 w w0.heap.size (fun k_ => (P0_2_ k_ ∨ w.heap.size ≤ k_)) u9000_ l0_2 from Kd.R_mono ho0_2 (fun k_ hk => (.inl hk)))
 have HK := Aside0.mk (Kept.refl w (fun k_ => P0_2_ k_))
 have HW0 := Aside0.mk hB.size
 have HB := Aside0.mk hB
 clear hB
 have H : (recoupref04_wide.l0 k ([] : List Int) 0 a0_0 a0_1 l0_2) = some (r1, r2, r3, r4) := h
 clear h
 have H' := Aside0.mk H
 clear H
 obtain ⟨Ao2, co2, eo2⟩ := Kd.R_slice HO0_2.out
 subst eo2
 go_enter Try.func52, Try.ntmps52
 go_wp2_with (first | ((with_reducible refine gD 1 rfl ?_); refine bE 1 #[.int .i64 a0_0, .int .i64 a0_1, .slice Ao2 l0_2.length co2] 24 ?_; intro gb234 hg w3 hbox hb; replace HO0_2 := kdB HO0_2 hb; have BK234 := Aside0.mk (hbox); have GW234 := Aside0.mk ((by rw [hg]; exact (by first | exact HK.out.1 | exact (show Kept w _ (fun k_ => P0_2_ k_) from by repeat (first | (with_reducible first | exact HK.out | apply Kept.alloc | apply Kept.drewN | apply Kept.drew) | exact HK.out)).1) : w.heap.size ≤ gb234)); replace HK := Aside0.mk (Kept.below (S := (fun k_ => P0_2_ k_)) (by repeat (first | (with_reducible first | exact HK.out | apply Kept.alloc | apply Kept.drewN | apply Kept.drew) | exact HK.out)) hb); have GE234 := Aside0.mk ((by rw [hg]; exact (below_size (hbA HB.out)) : w0.heap.size ≤ gb234)); replace HB := hbB HB hb; clear hb hbox hg) | ((with_reducible refine gD 2 rfl ?_); refine bE 2 #[.int .i64 0, .int .i64 0, .slice none 0 0] 24 ?_; intro gb235 hg w4 hbox hb; replace HO0_2 := kdB HO0_2 hb; have BK235 := Aside0.mk (hbox); have GW235 := Aside0.mk ((by rw [hg]; exact (by first | exact HK.out.1 | exact (show Kept w _ (fun k_ => P0_2_ k_) from by repeat (first | (with_reducible first | exact HK.out | apply Kept.alloc | apply Kept.drewN | apply Kept.drew | refine Kept.setCell ?_ (.inr GW234.out) _) | exact HK.out)).1) : w.heap.size ≤ gb235)); replace HK := Aside0.mk (Kept.below (S := (fun k_ => P0_2_ k_)) (by repeat (first | (with_reducible first | exact HK.out | apply Kept.alloc | apply Kept.drewN | apply Kept.drew | refine Kept.setCell ?_ (.inr GW234.out) _) | exact HK.out)) hb); have GE235 := Aside0.mk ((by rw [hg]; exact (below_size (hbA HB.out)) : w0.heap.size ≤ gb235)); replace HB := hbB HB hb; have NB234_235 := neL BK234 hg; have NB235_234 := neG BK234 hg; replace BK234 := bkB BK234 hb; clear hb hbox hg))
 go_loopg [4, 5] k (fun kq v4 v5 w' => ∃ (x4_1 : List Int) (x5_1 : Int) (x235002_1 : List Int) (u235002 : Value), v5 = .int .i64 x5_1 ∧ Aside0 (recoupref04_wide.l0 kq x4_1 x5_1 a0_0 a0_1 x235002_1 = some (r1, r2, r3, r4)) ∧ Aside0 (kq ≤ k) ∧ Aside0 (Kd.R (Kd.int .i64) 3 w' w0.heap.size (fun k_ => (P0_2_ k_ ∨ w.heap.size ≤ k_)) v4 x4_1) ∧ Aside0 (Kd.R (Kd.int .u8) 5 w' w0.heap.size (fun k_ => (P0_2_ k_ ∨ w.heap.size ≤ k_)) u235002 x235002_1) ∧ Aside0 (w'.heap[gb234]? = some (.cells #[.int .i64 a0_0, .int .i64 a0_1, u235002] 24 (0, 0))) ∧ Aside0 (w'.heap[gb235]? = some (.cells #[.int .i64 0, .int .i64 0, (.slice none 0 0)] 24 (0, 0))) ∧ Aside0 (Kept w w' (fun k_ => P0_2_ k_)) ∧ Aside0 (Below w0.heap.size w0 w'))
 case atStart => exact ⟨(([] : List Int)), (0), (l0_2), (.slice Ao2 l0_2.length co2), rsE, H', ⟨Nat.le_refl _⟩, ⟨nilE⟩, ⟨kdA HO0_2.out⟩, ⟨bkA BK234.out⟩, ⟨bkA BK235.out⟩, ⟨by repeat (first | (with_reducible first | exact HK.out | apply Kept.alloc | apply Kept.drewN | apply Kept.drew | refine Kept.setCell ?_ (.inr GW234.out) _ | refine Kept.setCell ?_ (.inr GW235.out) _) | exact HK.out)⟩, ⟨hbA HB.out⟩⟩
 case round =>
  clear H'
  (try clear p2)
  obtain ⟨x4_1, x5_1, x235002_1, u235002, rfl, HA, HK1, HO_4, HO_235002, BK234, BK235, HK, HB⟩ := hrel
  cases gk with
  | zero => exact absurd HA.out (by simp [recoupref04_wide.l0])
  | succ k1 =>
   have H := HA.out
   clear HA
   simp only [recoupref04_wide.l0] at H
   by_cases c5 : x5_1 < a0_1
   ·rw [if_pos c5] at H
    have c5b0 : decide (x5_1 < a0_1) = true := decide_eq_true c5
    clear c5
    have H' := Aside0.mk H
    clear H
    have hnb6 := NB234_235.out
    have hnc6 := NB235_234.out
    obtain ⟨hcz7_0, hcz7_1, hcz7_2, hfz7_0, hfz7_1, hfz7_2⟩ := cell3 BK234
    obtain ⟨Ao8, co8, eo8⟩ := Kd.R_slice HO_4.out
    subst eo8
    go_wp2
    go_loopg [4, 7] k1 (fun kq v4 v7 w' => ∃ (x4_2 : List Int) (x7_2 : Int) (x235002_2 : List Int) (u235002 : Value), v7 = .int .i64 x7_2 ∧ Aside0 (recoupref04_wide.l1 kq x4_2 x5_1 (x4_1.length : Int) x7_2 a0_0 a0_1 x235002_2 = some (r1, r2, r3, r4)) ∧ Aside0 (kq ≤ k1) ∧ Aside0 (Kd.R (Kd.int .i64) 3 w' w0.heap.size (fun k_ => (P0_2_ k_ ∨ w.heap.size ≤ k_)) v4 x4_2) ∧ Aside0 (Kd.R (Kd.int .u8) 5 w' w0.heap.size (fun k_ => (P0_2_ k_ ∨ w.heap.size ≤ k_)) u235002 x235002_2) ∧ Aside0 (w'.heap[gb234]? = some (.cells #[.int .i64 a0_0, .int .i64 a0_1, u235002] 24 (0, 0))) ∧ Aside0 (w'.heap[gb235]? = some (.cells #[.int .i64 0, .int .i64 0, (.slice none 0 0)] 24 (0, 0))) ∧ Aside0 (Kept w w' (fun k_ => P0_2_ k_)) ∧ Aside0 (Below w0.heap.size w0 w'))
    case atStart => exact ⟨(x4_1), ((x4_1.length : Int)), (x235002_1), (u235002), rsE, H', ⟨Nat.le_refl _⟩, ⟨kdA HO_4.out⟩, ⟨kdA HO_235002.out⟩, ⟨bkA BK234.out⟩, ⟨bkA BK235.out⟩, ⟨by repeat (first | (with_reducible first | exact HK.out | apply Kept.alloc | apply Kept.drewN | apply Kept.drew | refine Kept.setCell ?_ (.inr GW234.out) _ | refine Kept.setCell ?_ (.inr GW235.out) _) | exact HK.out)⟩, ⟨hbA HB.out⟩⟩
    case round =>
     clear H'
     (try clear p2 p2); (try clear c5); (try clear c5b0); (try clear c6); (try clear hcz7_0 hcz7_1 hcz7_2 hfz7_0 hfz7_1 hfz7_2)
     obtain ⟨x4_2, x7_2, x235002_2, u235002, rfl, HA, HK2, HO_4, HO_235002, BK234, BK235, HK, HB⟩ := hrel
     cases gk with
     | zero => exact absurd HA.out (by simp [recoupref04_wide.l1])
     | succ k2 =>
      have H := HA.out
      clear HA
      simp only [recoupref04_wide.l1] at H
      by_cases c9 : x7_2 < a0_0
      ·rw [if_pos c9] at H
       have c9b0 : decide (x7_2 < a0_0) = true := decide_eq_true c9
       clear c9
       obtain ⟨t236, A10, H⟩ := bindO H
       (try dsimp only at H)
       by_cases c11 : t236 = 0
       ·rw [if_pos c11] at H
        have c11b0 : (t236 == 0) = true := beq_iff_eq.mpr c11
        have c11b1 : (t236 != 0) = false := bne_eq_false_iff_eq.mpr c11
        clear c11
        have H' := Aside0.mk H
        clear H
        have hnb12 := NB234_235.out
        have hnc12 := NB235_234.out
        obtain ⟨hcz13_0, hcz13_1, hcz13_2, hfz13_0, hfz13_1, hfz13_2⟩ := cell3 BK234
        obtain ⟨Ao14, co14, eo14⟩ := Kd.R_slice HO_235002.out
        subst eo14
        go_wp2_with (first | ((with_reducible refine gC 24 rfl ?_); refine cG (some 35) Try.func24 #[.agg #[.int .i64 a0_0, .int .i64 a0_1, .slice Ao14 x235002_2.length co14], .int .i64 x7_2, .int .i64 x5_1] ?_; (with_reducible refine (recoupref03_At.calls a0_0 a0_1 _ _ x235002_2 x7_2 x5_1 t236 _ ?side1 ?side2 A10.out).mono ?_); (case side1 => exact kcA (Kd.R_reads' HO_235002.out).2.2); (case side2 => exact (Kd.R_reads' HO_235002.out).2.1); rintro e w15 ⟨rfl, hb⟩; refine ⟨_, rfl, ?_⟩; replace HO_4 := kdB HO_4 hb; replace HO_235002 := kdB HO_235002 hb; replace BK234 := bkB BK234 hb; replace BK235 := bkB BK235 hb; replace HK := Aside0.mk (Kept.below (S := (fun k_ => P0_2_ k_)) (by repeat (first | (with_reducible first | exact HK.out | apply Kept.alloc | apply Kept.drewN | apply Kept.drew | refine Kept.setCell ?_ (.inr GW234.out) _ | refine Kept.setCell ?_ (.inr GW235.out) _) | exact HK.out)) hb); replace HB := hbB HB hb; (try clear hb); (try clear hb2); (try clear hk); (try clear hi)))
        go_roundg k2
        case measure => have := HK1.out; have := HK2.out; omega
        case rel => exact ⟨(x4_2), (wrap64 (x7_2 + 1)), (x235002_2), (.slice Ao14 x235002_2.length co14), rsE, H', ⟨by have := HK1.out; have := HK2.out; omega⟩, ⟨kdA HO_4.out⟩, ⟨kdA HO_235002.out⟩, ⟨bkA BK234.out⟩, ⟨bkA BK235.out⟩, ⟨by repeat (first | (with_reducible first | exact HK.out | apply Kept.alloc | apply Kept.drewN | apply Kept.drew | refine Kept.setCell ?_ (.inr GW234.out) _ | refine Kept.setCell ?_ (.inr GW235.out) _) | exact HK.out)⟩, ⟨hbA HB.out⟩⟩
       ·rw [if_neg c11] at H
        have c11b0 : (t236 == 0) = false := beq_eq_false_iff_ne.mpr c11
        have c11b1 : (t236 != 0) = true := bne_iff_ne.mpr c11
        obtain ⟨⟨t237, t238⟩, A16, H⟩ := bindO H
        (try dsimp only at H)
        have H' := Aside0.mk H
        clear H
        have hnb17 := NB234_235.out
        have hnc17 := NB235_234.out
        obtain ⟨hcz18_0, hcz18_1, hcz18_2, hfz18_0, hfz18_1, hfz18_2⟩ := cell3 BK234
        obtain ⟨Ao19, co19, eo19⟩ := Kd.R_slice HO_235002.out
        subst eo19
        go_wp2_with (first | ((with_reducible refine gC 24 rfl ?_); refine cG (some 35) Try.func24 #[.agg #[.int .i64 a0_0, .int .i64 a0_1, .slice Ao19 x235002_2.length co19], .int .i64 x7_2, .int .i64 x5_1] ?_; (with_reducible refine (recoupref03_At.calls a0_0 a0_1 _ _ x235002_2 x7_2 x5_1 t236 _ ?side1 ?side2 A10.out).mono ?_); (case side1 => exact kcA (Kd.R_reads' HO_235002.out).2.2); (case side2 => exact (Kd.R_reads' HO_235002.out).2.1); rintro e w20 ⟨rfl, hb⟩; refine ⟨_, rfl, ?_⟩; replace HO_4 := kdB HO_4 hb; replace HO_235002 := kdB HO_235002 hb; replace BK234 := bkB BK234 hb; replace BK235 := bkB BK235 hb; replace HK := Aside0.mk (Kept.below (S := (fun k_ => P0_2_ k_)) (by repeat (first | (with_reducible first | exact HK.out | apply Kept.alloc | apply Kept.drewN | apply Kept.drew | refine Kept.setCell ?_ (.inr GW234.out) _ | refine Kept.setCell ?_ (.inr GW235.out) _) | exact HK.out)) hb); replace HB := hbB HB hb; (try clear hb); (try clear hb2); (try clear hk); (try clear hi)) | ((with_reducible refine gC 47 rfl ?_); refine cG (some 40) Try.func47 #[.int .u8 t236] ?_; (with_reducible refine (recoupref01_Inv.calls k2 t236 t237 t238 _ A16.out).mono ?_); rintro e w' ⟨rfl, ⟨nd, rfl⟩⟩; refine ⟨_, rfl, ?_⟩))
        go_loopg [11] k2 (fun kq v11 w' => ∃ (x11_3 : Int) (x235002_3 : List Int) (u235002 : Value), v11 = .int .i64 x11_3 ∧ Aside0 (recoupref04_wide.l2 kq x4_2 x5_1 (x4_1.length : Int) x7_2 t237 x11_3 a0_0 a0_1 x235002_3 = some (r1, r2, r3, r4)) ∧ Aside0 (kq ≤ k2) ∧ Aside0 (Kd.R (Kd.int .i64) 3 w' w0.heap.size (fun k_ => (P0_2_ k_ ∨ w.heap.size ≤ k_)) u4 x4_2) ∧ Aside0 (Kd.R (Kd.int .u8) 5 w' w0.heap.size (fun k_ => (P0_2_ k_ ∨ w.heap.size ≤ k_)) u235002 x235002_3) ∧ Aside0 (w'.heap[gb234]? = some (.cells #[.int .i64 a0_0, .int .i64 a0_1, u235002] 24 (0, 0))) ∧ Aside0 (w'.heap[gb235]? = some (.cells #[.int .i64 0, .int .i64 0, (.slice none 0 0)] 24 (0, 0))) ∧ Aside0 (Kept w w' (fun k_ => P0_2_ k_)) ∧ Aside0 (Below w0.heap.size w0 w'))
        case atStart => exact ⟨(0), (x235002_2), (.slice Ao19 x235002_2.length co19), rsE, H', ⟨Nat.le_refl _⟩, ⟨kdA HO_4.out⟩, ⟨kdA HO_235002.out⟩, ⟨bkA BK234.out⟩, ⟨bkA BK235.out⟩, ⟨by repeat (first | (with_reducible first | exact HK.out | apply Kept.alloc | apply Kept.drewN | apply Kept.drew | refine Kept.setCell ?_ (.inr GW234.out) _ | refine Kept.setCell ?_ (.inr GW235.out) _) | exact HK.out)⟩, ⟨hbA HB.out⟩⟩
        case round =>
         clear H'
         (try clear c1); (try clear c2); (try clear p2 p2); (try clear c4); (try clear c5); (try clear c5b0); (try clear c6); (try clear p6); (try clear c9); (try clear c9b0); (try clear c11); (try clear c11b0); (try clear c11b1); (try clear c12); (try clear c17); (try clear hcz13_0 hcz13_1 hcz13_2 hfz13_0 hfz13_1 hfz13_2); (try clear hcz18_0 hcz18_1 hcz18_2 hfz18_0 hfz18_1 hfz18_2); (try clear hcz7_0 hcz7_1 hcz7_2 hfz7_0 hfz7_1 hfz7_2)
         obtain ⟨x11_3, x235002_3, u235002, rfl, HA, HK3, HO_4, HO_235002, BK234, BK235, HK, HB⟩ := hrel
         cases gk with
         | zero => exact absurd HA.out (by simp [recoupref04_wide.l2])
         | succ k3 =>
          have H := HA.out
          clear HA
          simp only [recoupref04_wide.l2] at H
          by_cases c21 : x11_3 < a0_1
          ·rw [if_pos c21] at H
           have c21b0 : decide (x11_3 < a0_1) = true := decide_eq_true c21
           clear c21
           obtain ⟨t239, A22, H⟩ := bindO H
           (try dsimp only at H)
           obtain ⟨t240, A23, H⟩ := bindO H
           (try dsimp only at H)
           obtain ⟨ji24, hji24⟩ : ∃ j_ : Int, (wrap64 ((wrap64 (x7_2 * a0_1)) + x11_3)) = j_ := ⟨_, rfl⟩
           replace H : (if 0 ≤ (ji24) then (if (ji24) < (x235002_3.length : Int) then ((recoupref01_Mul.f k3 t237 t240).bind fun t242 => (if 0 ≤ (wrap64 ((wrap64 ((x4_1.length : Int) * a0_1)) + x11_3)) then (if (wrap64 ((wrap64 ((x4_1.length : Int) * a0_1)) + x11_3)) < (x235002_3.length : Int) then (recoupref04_wide.l2 k3 x4_2 x5_1 (x4_1.length : Int) x7_2 t237 (wrap64 (x11_3 + 1)) a0_0 a0_1 ((x235002_3.set ((ji24) : Int).toNat t239).set ((wrap64 ((wrap64 ((x4_1.length : Int) * a0_1)) + x11_3)) : Int).toNat t242)) else (none)) else (none))) else (none)) else (none)) = some (r1, r2, r3, r4) := by first | (rw [hji24] at H; exact H) | (simp only [hji24] at H ⊢; exact H)
           (try rw [hji24] at A22)
           (try rw [hji24] at A23)
           have hji24w : (IntKind.i64.wrap ((wrap64 (x7_2 * a0_1)) + x11_3)) = ji24 := (i64_w _).trans hji24
           by_cases c25 : 0 ≤ (ji24)
           ·rw [if_pos c25] at H
            have c25b0 : decide (0 ≤ (ji24)) = true := decide_eq_true c25
            clear c25
            by_cases c26 : (ji24) < (x235002_3.length : Int)
            ·rw [if_pos c26] at H
             have c26b0 : decide ((ji24) < (x235002_3.length : Int)) = true := decide_eq_true c26
             clear c26
             obtain ⟨y241, hy241⟩ : ∃ y_ : List Int, y_ = (x235002_3.set ((ji24) : Int).toNat t239) := ⟨_, rfl⟩
             replace H : ((recoupref01_Mul.f k3 t237 t240).bind fun t242 => (if 0 ≤ (wrap64 ((wrap64 ((x4_1.length : Int) * a0_1)) + x11_3)) then (if (wrap64 ((wrap64 ((x4_1.length : Int) * a0_1)) + x11_3)) < (x235002_3.length : Int) then (recoupref04_wide.l2 k3 x4_2 x5_1 (x4_1.length : Int) x7_2 t237 (wrap64 (x11_3 + 1)) a0_0 a0_1 (y241.set ((wrap64 ((wrap64 ((x4_1.length : Int) * a0_1)) + x11_3)) : Int).toNat t242)) else (none)) else (none))) = some (r1, r2, r3, r4) := by first | (rw [hy241]; with_reducible exact H) | (have H2_ := (Option.bind_some _ _).symm.trans H; rw [hy241]; with_reducible exact H2_) | (have H2_ := (Option.bind_some _ _).symm.trans H; with_reducible exact H2_) | with_reducible exact H | (rw [hy241]; exact H) | exact H
             have Ny241 := Aside0.mk hy241
             clear hy241
             obtain ⟨t242, A28, H⟩ := bindO H
             (try dsimp only at H)
             obtain ⟨ji29, hji29⟩ : ∃ j_ : Int, (wrap64 ((wrap64 ((x4_1.length : Int) * a0_1)) + x11_3)) = j_ := ⟨_, rfl⟩
             replace H : (if 0 ≤ (ji29) then (if (ji29) < (x235002_3.length : Int) then (recoupref04_wide.l2 k3 x4_2 x5_1 (x4_1.length : Int) x7_2 t237 (wrap64 (x11_3 + 1)) a0_0 a0_1 (y241.set ((ji29) : Int).toNat t242)) else (none)) else (none)) = some (r1, r2, r3, r4) := by first | (rw [hji29] at H; exact H) | (simp only [hji29] at H ⊢; exact H)
             (try rw [hji29] at A22)
             (try rw [hji29] at A23)
             (try rw [hji29] at A28)
             have hji29w : (IntKind.i64.wrap ((wrap64 ((x4_1.length : Int) * a0_1)) + x11_3)) = ji29 := (i64_w _).trans hji29
             by_cases c30 : 0 ≤ (ji29)
             ·rw [if_pos c30] at H
              have c30b0 : decide (0 ≤ (ji29)) = true := decide_eq_true c30
              clear c30
              by_cases c31 : (ji29) < (x235002_3.length : Int)
              ·rw [if_pos c31] at H
               have c31b0 : decide ((ji29) < (x235002_3.length : Int)) = true := decide_eq_true c31
               clear c31
               obtain ⟨y243, hy243⟩ : ∃ y_ : List Int, y_ = (y241.set ((ji29) : Int).toNat t242) := ⟨_, rfl⟩
               replace H : (recoupref04_wide.l2 k3 x4_2 x5_1 (x4_1.length : Int) x7_2 t237 (wrap64 (x11_3 + 1)) a0_0 a0_1 y243) = some (r1, r2, r3, r4) := by first | (rw [hy243]; with_reducible exact H) | (have H2_ := (Option.bind_some _ _).symm.trans H; rw [hy243]; with_reducible exact H2_) | (have H2_ := (Option.bind_some _ _).symm.trans H; with_reducible exact H2_) | with_reducible exact H | (rw [hy243]; exact H) | exact H
               have Ny243 := Aside0.mk hy243
               clear hy243
               have H' := Aside0.mk H
               clear H
               have hnb33 := NB234_235.out
               have hnc33 := NB235_234.out
               obtain ⟨hcz34_0, hcz34_1, hcz34_2, hfz34_0, hfz34_1, hfz34_2⟩ := cell3 BK234
               try go_wp2
               replace HO_4 := Aside0.mk (Kd.R_drew HO_4.out)
               replace HO_235002 := Aside0.mk (Kd.R_drew HO_235002.out)
               replace BK234 := Aside0.mk (blk_drew BK234.out)
               replace BK235 := Aside0.mk (blk_drew BK235.out)
               replace HK := Aside0.mk (Kept.drew HK.out)
               replace HB := Aside0.mk (below_drew1 HB.out)
               obtain ⟨Ao36, co36, eo36⟩ := Kd.R_slice HO_235002.out
               (first | subst eo36 | (injection eo36 with f1_ f2_ f3_; have f4_ := f1_.symm; have f5_ := f3_.symm; clear f1_ f2_ f3_; subst f4_; subst f5_))
               refine start_ (n := 10) (S := fun w' => w'.cell? ⟨gb234, 0, none⟩ = some (.int .i64 a0_0) ∧ w'.cell? ⟨gb234, 1, none⟩ = some (.int .i64 a0_1) ∧ w'.cell? ⟨gb234, 2, none⟩ = some (.slice Ao36 x235002_3.length co36)) (ds := []) (.replicate 10 false) (by kernel_rfl) rfl rfl ⟨(blk_cell BK234.out 0).trans rfl, (blk_cell BK234.out 1).trans rfl, (blk_cell BK234.out 2).trans rfl⟩ (fun hHeld => ?_); refine with_tabW recoupref04_wide.tab15 recoupref04_wide.bits15 (fun HT_ HW_ => ?_)
               generalize wr.drew = w35 at HO_4 HO_235002 BK234 BK235 HK HB hHeld ⊢
               refine pu 1 (some 50) (mB 10 2) HT_ ?_
               refine pu 2 (some 51) (mB 10 6) HT_ ?_
               refine pu 5 (some 54) (mB 10 38) HT_ ?_
               refine pu 6 (some 55) (mB 10 102) HT_ ?_
               refine tk3 0 (some 49) (mB 10 103) HT_ HW_ hHeld ?_
               refine tk3 4 (some 53) (mB 10 119) HT_ HW_ hHeld ?_
               refine one_ (i := 3) (N := some 52) (mB 10 127) rfl rfl (one_of HT_.out (by kernel_rfl)) (by decide) (fun K hK => ?_)
               refine goes_ Try.func24 (by kernel_rfl) rfl #[.agg #[.int .i64 a0_0, .int .i64 a0_1, .slice Ao36 x235002_3.length co36], .int .i64 (x4_1.length : Int), .int .i64 x11_3] (by rfl) rfl rfl (by (try simp only [List.map_toArray, List.map_cons, List.map_nil]); first | done | rfl | (simp only [List.length_drop, List.length_take]; rfl)) ?_
               with_reducible refine (recoupref03_At.calls a0_0 a0_1 _ _ x235002_3 (x4_1.length : Int) x11_3 t239 _ ?side1 ?side2 A22.out).mono ?_
               (case side1 => exact kcA (Kd.R_reads' HO_235002.out).2.2)
               (case side2 => exact (Kd.R_reads' HO_235002.out).2.1)
               rintro e w37 ⟨rfl, hb⟩
               refine ⟨_, rfl, ?_⟩
               replace HO_4 := kdB HO_4 hb
               replace HO_235002 := kdB HO_235002 hb
               replace BK234 := bkB BK234 hb
               replace BK235 := bkB BK235 hb
               replace HK := Aside0.mk (Kept.below (S := (fun k_ => P0_2_ k_)) (by repeat (first | (with_reducible first | exact HK.out | apply Kept.alloc | apply Kept.drewN | apply Kept.drew | refine Kept.setCell ?_ (.inr GW234.out) _ | refine Kept.setCell ?_ (.inr GW235.out) _) | exact HK.out)) hb)
               replace HB := hbB HB hb
               (try clear hb)
               (try clear hb2)
               (try clear hk)
               (try clear hi)
               refine hK.out _ _ ⟨(blk_cell BK234.out 0).trans rfl, (blk_cell BK234.out 1).trans rfl, (blk_cell BK234.out 2).trans rfl⟩ (fun hHeld => ?_)
               clear hK K
               refine norm_ (a' := ?_) ?_ ?_
               rotate_left
               ·show Act.put _ (some 52) _ = _
                simp only [Act.put, List.setIfInBounds_toArray, List.set_cons_zero, List.set_cons_succ, i64_w, i32_w]
                rfl
               refine one_ (i := 7) (N := some 56) (mB 10 255) rfl rfl (one_of HT_.out (by kernel_rfl)) (by decide) (fun K hK => ?_)
               refine goes_ Try.func24 (by kernel_rfl) rfl #[.agg #[.int .i64 a0_0, .int .i64 a0_1, .slice Ao36 x235002_3.length co36], .int .i64 x7_2, .int .i64 x11_3] (by rfl) rfl rfl (by (try simp only [List.map_toArray, List.map_cons, List.map_nil]); first | done | rfl | (simp only [List.length_drop, List.length_take]; rfl)) ?_
               with_reducible refine (recoupref03_At.calls a0_0 a0_1 _ _ x235002_3 x7_2 x11_3 t240 _ ?side1 ?side2 A23.out).mono ?_
               (case side1 => exact kcA (Kd.R_reads' HO_235002.out).2.2)
               (case side2 => exact (Kd.R_reads' HO_235002.out).2.1)
               rintro e w38 ⟨rfl, hb⟩
               refine ⟨_, rfl, ?_⟩
               replace HO_4 := kdB HO_4 hb
               replace HO_235002 := kdB HO_235002 hb
               replace BK234 := bkB BK234 hb
               replace BK235 := bkB BK235 hb
               replace HK := Aside0.mk (Kept.below (S := (fun k_ => P0_2_ k_)) (by repeat (first | (with_reducible first | exact HK.out | apply Kept.alloc | apply Kept.drewN | apply Kept.drew | refine Kept.setCell ?_ (.inr GW234.out) _ | refine Kept.setCell ?_ (.inr GW235.out) _) | exact HK.out)) hb)
               replace HB := hbB HB hb
               (try clear hb)
               (try clear hb2)
               (try clear hk)
               (try clear hi)
               refine hK.out _ _ ⟨(blk_cell BK234.out 0).trans rfl, (blk_cell BK234.out 1).trans rfl, (blk_cell BK234.out 2).trans rfl⟩ (fun hHeld => ?_)
               clear hK K
               refine norm_ (a' := ?_) ?_ ?_
               rotate_left
               ·show Act.put _ (some 56) _ = _
                simp only [Act.put, List.setIfInBounds_toArray, List.set_cons_zero, List.set_cons_succ, i64_w, i32_w]
                rfl
               refine pu 8 (some 12) (mB 10 511) HT_ ?_
               refine pu 9 (some 13) (mB 10 1023) HT_ ?_
               refine done_ (done_of HT_.out (by kernel_rfl)) ?_
               obtain ⟨hcz39_0, hcz39_1, hcz39_2, hfz39_0, hfz39_1, hfz39_2⟩ := cell3 BK234
               have p27 : 0 ≤ ((ji24) : Int) := of_decide_eq_true asE
               have q27 : ((ji24) : Int) < ((x235002_3.length : Int) : Int) := of_decide_eq_true asE
               obtain ⟨go27, co27, eo27, gb27, gl27, cl27, HG27⟩ := Kd.R_form HO_235002.out (by omega)
               (first | cases eo27 | (injection eo27 with ea_ en_ ec_; (first | subst ea_ | (injection ea_ with ea_; subst ea_)); subst ec_; clear en_))
               have GB27 := Aside0.mk gb27
               have GG27 := Aside0.mk HG27
               clear gb27 gl27 HG27
               have HMgo27 := Aside0.mk (show (P0_2_ go27 ∨ w.heap.size ≤ go27) from (HO_235002.out.1 _ rfl))
               obtain ⟨hx27_0, hf27_0⟩ := Kd.R_celln 0 HO_235002.out ((ji24) : Int) p27 q27
               replace p27 := eq_true p27
               replace q27 := eq_true q27
               obtain ⟨hy40_, hz40_⟩ := Kd.R_celln 0 HO_235002.out ((ji24) : Int) (of_decide_eq_true asE) (of_decide_eq_true asE)
               have HP40 := Kd.R_putg HO_235002.out ((ji24) : Int) t239
               try go_wp2_with (first | ((with_reducible refine gate_store (t := 5) (p := 66) rfl ?_); refine store_event (t := 5) (p := 66) (v := ?vo_w41) (w1 := (w38.setCell ⟨go27, ((ji24) : Int).toNat, none⟩ (.int .u8 t239))) ?hg ?ho ?hn ?hr ?_; (case ho => rfl); (case hg => rfl); (case hn => rfl); (case hr => first | (go_simp; done) | (go_simp; rfl)); intro w41 hw; have hg : w38.grownBy w41 (some go27) := (by rw [hw]; exact HP40.2); have hp_ : Kd.R (Kd.int .u8) 5 w41 w0.heap.size (fun k_ => (P0_2_ k_ ∨ w.heap.size ≤ k_)) (.slice (some ⟨go27, 0, none⟩) x235002_3.length co36) y241 := (by rw [hw, Ny241.out]; exact HP40.1); clear HP40; replace HO_4 := Aside0.mk (Kd.R_over' (v := (.slice (some ⟨go27, 0, none⟩) x235002_3.length co36)) (kdA HO_4.out) (Kd.R_typed HO_235002.out) (by decide) hg); replace BK234 := bkG BK234 hg (Kd.R_ne HO_235002.out BK234.out (by decide)); replace BK235 := bkG BK235 hg (Kd.R_ne HO_235002.out BK235.out (by decide)); replace HB := Aside0.mk ((by rw [hw]; exact below_set (HB.out) GB27.out : Below w0.heap.size w0 w41)); replace HK := Aside0.mk (Kept.of_grown (S := (fun k_ => P0_2_ k_)) hg (by repeat (first | (with_reducible first | exact HK.out | apply Kept.alloc | apply Kept.drewN | apply Kept.drew | refine Kept.setCell ?_ (.inr GW234.out) _ | refine Kept.setCell ?_ (.inr GW235.out) _) | exact HK.out)) (fun k_ e_ => (HO_235002.out.1 k_ e_))); replace HO_235002 := Aside0.mk (hp_); clear hg hw hp_))
               replace HO_4 := Aside0.mk (Kd.R_drew HO_4.out)
               replace HO_235002 := Aside0.mk (Kd.R_drew HO_235002.out)
               replace BK234 := Aside0.mk (blk_drew BK234.out)
               replace BK235 := Aside0.mk (blk_drew BK235.out)
               replace HK := Aside0.mk (Kept.drew HK.out)
               replace HB := Aside0.mk (below_drew1 HB.out)
               refine start_ (n := 13) (S := fun w' => w'.cell? ⟨gb234, 0, none⟩ = some (.int .i64 a0_0) ∧ w'.cell? ⟨gb234, 1, none⟩ = some (.int .i64 a0_1) ∧ w'.cell? ⟨gb234, 2, none⟩ = some (.slice (some ⟨go27, 0, none⟩) x235002_3.length co36)) (ds := [12]) (.replicate 13 false) (by kernel_rfl) rfl rfl ⟨(blk_cell BK234.out 0).trans rfl, (blk_cell BK234.out 1).trans rfl, (blk_cell BK234.out 2).trans rfl⟩ (fun hHeld => ?_); refine with_tabW recoupref04_wide.tab17 recoupref04_wide.bits17 (fun HT_ HW_ => ?_)
               generalize w41.drew = w42 at HO_4 HO_235002 BK234 BK235 HK HB hHeld ⊢
               refine pu 0 (some 67) (mB 13 1) HT_ ?_
               refine pu 2 (some 69) (mB 13 5) HT_ ?_
               refine pu 3 (some 70) (mB 13 13) HT_ ?_
               refine pu 6 (some 73) (mB 13 77) HT_ ?_
               refine pu 8 (some 75) (mB 13 333) HT_ ?_
               refine pu 9 (some 76) (mB 13 845) HT_ ?_
               refine tk3 1 (some 68) (mB 13 847) HT_ HW_ hHeld ?_
               refine tk3 4 (some 71) (mB 13 863) HT_ HW_ hHeld ?_
               refine pu 5 (some 72) (mB 13 895) HT_ ?_
               refine pu 7 (some 74) (mB 13 1023) HT_ ?_
               refine one_ (i := 10) (N := some 77) (mB 13 2047) rfl rfl (one_of HT_.out (by kernel_rfl)) (by decide) (fun K hK => ?_)
               refine goes_ Try.func25 (by kernel_rfl) rfl #[.int .u8 t237, .int .u8 t240] (by rfl) rfl rfl (by (try simp only [List.map_toArray, List.map_cons, List.map_nil]); first | done | rfl | (simp only [List.length_drop, List.length_take]; rfl)) ?_
               with_reducible refine (recoupref01_Mul.calls k3 t237 t240 t242 _ A28.out).mono ?_
               rintro e w' ⟨rfl, ⟨nd, rfl⟩⟩
               refine ⟨_, rfl, ?_⟩
               have p32 : 0 ≤ ((ji29) : Int) := of_decide_eq_true asE
               have q32 : ((ji29) : Int) < ((x235002_3.length : Int) : Int) := of_decide_eq_true asE
               obtain ⟨hx32_0, hf32_0⟩ := Kd.R_celln 0 HO_235002.out ((ji29) : Int) p32 q32
               replace p32 := eq_true p32
               replace q32 := eq_true q32
               have HP43 := Kd.R_putn HO_235002.out ((ji29) : Int) t242
               rw [← Ny243.out] at HP43
               have HQ43 := Aside0.mk HP43
               clear HP43
               refine hK.out _ _ ⟨(blk_cell BK234.out 0).trans rfl, (blk_cell BK234.out 1).trans rfl, (blk_cell BK234.out 2).trans rfl⟩ (fun hHeld => ?_)
               clear hK K
               refine norm_ (a' := ?_) ?_ ?_
               rotate_left
               ·show Act.put _ (some 77) _ = _
                simp only [Act.put, List.setIfInBounds_toArray, List.set_cons_zero, List.set_cons_succ, i64_w, i32_w]
                rfl
               refine pu 11 (some 78) (mB 13 4095) HT_ ?_
               refine last_ (i := 12) (N := none) (mB 13 8191) rfl rfl (one_of HT_.out (by kernel_rfl)) (by decide) (fun K hK => ?_)
               refine skip_ (w1 := ?_) (by rfl) rfl ?_ ?_
               rotate_left
               ·go_simp
                rfl
               refine hK.out _ _ ?_
               clear hK K
               refine done_ (done_of HT_.out (by kernel_rfl)) ?_
               try go_wp2
               go_roundg k3
               case measure => have := HK1.out; have := HK2.out; have := HK3.out; omega
               case rel => exact ⟨(wrap64 (x11_3 + 1)), (y243), (.slice (some ⟨go27, 0, none⟩) x235002_3.length co36), rsE, H', ⟨by have := HK1.out; have := HK2.out; have := HK3.out; omega⟩, ⟨by (with_reducible repeat (first | apply Kd.R_alloc | apply Kd.R_drewN | apply Kd.R_drew)); exact Kd.R_mono (Kd.R_far (p := ⟨go27, ((ji29) : Int).toNat, none⟩) (Kd.R_types HO_4.out (kd_block HO_235002.out).choose_spec (by decide)) (fun _ hk => hk.2) (.int .u8 t242)) (fun _ hk => hk.1)⟩, ⟨kdA HQ43.out⟩, ⟨by refine bkR ?_; refine blk_far ?_ (by have h_ := Kd.R_ne HO_235002.out BK234.out (by decide); intro e_; exact h_ (by rw [e_]; rfl)) _; refine bkR ?_; exact BK234.out⟩, ⟨by refine bkR ?_; refine blk_far ?_ (by have h_ := Kd.R_ne HO_235002.out BK235.out (by decide); intro e_; exact h_ (by rw [e_]; rfl)) _; refine bkR ?_; exact BK235.out⟩, ⟨by repeat (first | (with_reducible first | exact HK.out | apply Kept.alloc | apply Kept.drewN | apply Kept.drew | refine Kept.setCell ?_ HMgo27.out _ | refine Kept.setCell ?_ (.inr GW234.out) _ | refine Kept.setCell ?_ (.inr GW235.out) _) | exact HK.out)⟩, ⟨hbA HB.out⟩⟩
              ·rw [if_neg c31] at H
               exact absurd H (by simp)
             ·rw [if_neg c30] at H
              exact absurd H (by simp)
            ·rw [if_neg c26] at H
             exact absurd H (by simp)
           ·rw [if_neg c25] at H
            exact absurd H (by simp)
          ·rw [if_neg c21] at H
           have c21b0 : decide (x11_3 < a0_1) = false := decide_eq_false c21
           clear c21
           have H' := Aside0.mk H
           clear H
           have hnb44 := NB234_235.out
           have hnc44 := NB235_234.out
           obtain ⟨hcz45_0, hcz45_1, hcz45_2, hfz45_0, hfz45_1, hfz45_2⟩ := cell3 BK234
           go_wp2
           go_loopg [14] k3 (fun kq v14 w' => ∃ (x14_4 : Int) (x235002_4 : List Int) (u235002 : Value), v14 = .int .i64 x14_4 ∧ Aside0 (recoupref04_wide.l3 kq x4_2 x5_1 (x4_1.length : Int) x14_4 a0_0 a0_1 x235002_4 = some (r1, r2, r3, r4)) ∧ Aside0 (kq ≤ k3) ∧ Aside0 (Kd.R (Kd.int .i64) 3 w' w0.heap.size (fun k_ => (P0_2_ k_ ∨ w.heap.size ≤ k_)) u4 x4_2) ∧ Aside0 (Kd.R (Kd.int .u8) 5 w' w0.heap.size (fun k_ => (P0_2_ k_ ∨ w.heap.size ≤ k_)) u235002 x235002_4) ∧ Aside0 (w'.heap[gb234]? = some (.cells #[.int .i64 a0_0, .int .i64 a0_1, u235002] 24 (0, 0))) ∧ Aside0 (w'.heap[gb235]? = some (.cells #[.int .i64 0, .int .i64 0, (.slice none 0 0)] 24 (0, 0))) ∧ Aside0 (Kept w w' (fun k_ => P0_2_ k_)) ∧ Aside0 (Below w0.heap.size w0 w'))
           case atStart => exact ⟨(0), (x235002_3), (u235002), rsE, H', ⟨Nat.le_refl _⟩, ⟨kdA HO_4.out⟩, ⟨kdA HO_235002.out⟩, ⟨bkA BK234.out⟩, ⟨bkA BK235.out⟩, ⟨by repeat (first | (with_reducible first | exact HK.out | apply Kept.alloc | apply Kept.drewN | apply Kept.drew | refine Kept.setCell ?_ (.inr GW234.out) _ | refine Kept.setCell ?_ (.inr GW235.out) _) | exact HK.out)⟩, ⟨hbA HB.out⟩⟩
           case round =>
            clear H'
            (try clear c1); (try clear c2); (try clear p2 p2); (try clear q2); (try clear hx2); (try clear hf2); (try clear c3); (try clear p3); (try clear q3); (try clear hx3); (try clear hf3); (try clear c4); (try clear c5); (try clear c5b0); (try clear c6); (try clear p6 p6); (try clear c9); (try clear c9b0); (try clear c11); (try clear c11b0); (try clear c11b1); (try clear c12); (try clear c17); (try clear c21); (try clear c21b0); (try clear c24); (try clear c25); (try clear c25b0); (try clear c26); (try clear c26b0); (try clear p27 p27); (try clear q27 q27); (try clear hx27); (try clear hf27); (try clear c30); (try clear c30b0); (try clear c31); (try clear c31b0); (try clear p32 p32); (try clear q32 q32); (try clear hx32); (try clear hf32); (try clear c33); (try clear c44); (try clear hcz13_0 hcz13_1 hcz13_2 hfz13_0 hfz13_1 hfz13_2); (try clear hcz18_0 hcz18_1 hcz18_2 hfz18_0 hfz18_1 hfz18_2); (try clear hcz34_0 hcz34_1 hcz34_2 hfz34_0 hfz34_1 hfz34_2); (try clear hcz39_0 hcz39_1 hcz39_2 hfz39_0 hfz39_1 hfz39_2); (try clear hcz45_0 hcz45_1 hcz45_2 hfz45_0 hfz45_1 hfz45_2); (try clear hcz7_0 hcz7_1 hcz7_2 hfz7_0 hfz7_1 hfz7_2); (try clear hx27_0); (try clear hx32_0)
            obtain ⟨x14_4, x235002_4, u235002, rfl, HA, HK4, HO_4, HO_235002, BK234, BK235, HK, HB⟩ := hrel
            cases gk with
            | zero => exact absurd HA.out (by simp [recoupref04_wide.l3])
            | succ k4 =>
             have H := HA.out
             clear HA
             simp only [recoupref04_wide.l3] at H
             by_cases c46 : x14_4 < a0_0
             ·rw [if_pos c46] at H
              have c46b0 : decide (x14_4 < a0_0) = true := decide_eq_true c46
              clear c46
              obtain ⟨t247, A47, H⟩ := bindO H
              (try dsimp only at H)
              have H' := Aside0.mk H
              clear H
              have hnb48 := NB234_235.out
              have hnc48 := NB235_234.out
              obtain ⟨hcz49_0, hcz49_1, hcz49_2, hfz49_0, hfz49_1, hfz49_2⟩ := cell3 BK234
              obtain ⟨Ao50, co50, eo50⟩ := Kd.R_slice HO_235002.out
              subst eo50
              go_wp2_with (first | ((with_reducible refine gC 24 rfl ?_); refine cG (some 88) Try.func24 #[.agg #[.int .i64 a0_0, .int .i64 a0_1, .slice Ao50 x235002_4.length co50], .int .i64 x14_4, .int .i64 x5_1] ?_; (with_reducible refine (recoupref03_At.calls a0_0 a0_1 _ _ x235002_4 x14_4 x5_1 t247 _ ?side1 ?side2 A47.out).mono ?_); (case side1 => exact kcA (Kd.R_reads' HO_235002.out).2.2); (case side2 => exact (Kd.R_reads' HO_235002.out).2.1); rintro e w51 ⟨rfl, hb⟩; refine ⟨_, rfl, ?_⟩; replace HO_4 := kdB HO_4 hb; replace HO_235002 := kdB HO_235002 hb; replace BK234 := bkB BK234 hb; replace BK235 := bkB BK235 hb; replace HK := Aside0.mk (Kept.below (S := (fun k_ => P0_2_ k_)) (by repeat (first | (with_reducible first | exact HK.out | apply Kept.alloc | apply Kept.drewN | apply Kept.drew | refine Kept.setCell ?_ (.inr GW234.out) _ | refine Kept.setCell ?_ (.inr GW235.out) _) | exact HK.out)) hb); replace HB := hbB HB hb; (try clear hb); (try clear hb2); (try clear hk); (try clear hi)))
              go_loopg [16] k4 (fun kq v16 w' => ∃ (x16_5 : Int) (x235002_5 : List Int) (u235002 : Value), v16 = .int .i64 x16_5 ∧ Aside0 (recoupref04_wide.l4 kq x4_2 x5_1 (x4_1.length : Int) x14_4 t247 x16_5 a0_0 a0_1 x235002_5 = some (r1, r2, r3, r4)) ∧ Aside0 (kq ≤ k4) ∧ Aside0 (Kd.R (Kd.int .i64) 3 w' w0.heap.size (fun k_ => (P0_2_ k_ ∨ w.heap.size ≤ k_)) u4 x4_2) ∧ Aside0 (Kd.R (Kd.int .u8) 5 w' w0.heap.size (fun k_ => (P0_2_ k_ ∨ w.heap.size ≤ k_)) u235002 x235002_5) ∧ Aside0 (w'.heap[gb234]? = some (.cells #[.int .i64 a0_0, .int .i64 a0_1, u235002] 24 (0, 0))) ∧ Aside0 (w'.heap[gb235]? = some (.cells #[.int .i64 0, .int .i64 0, (.slice none 0 0)] 24 (0, 0))) ∧ Aside0 (Kept w w' (fun k_ => P0_2_ k_)) ∧ Aside0 (Below w0.heap.size w0 w'))
              case atStart => exact ⟨(0), (x235002_4), (.slice Ao50 x235002_4.length co50), rsE, H', ⟨Nat.le_refl _⟩, ⟨kdA HO_4.out⟩, ⟨kdA HO_235002.out⟩, ⟨bkA BK234.out⟩, ⟨bkA BK235.out⟩, ⟨by repeat (first | (with_reducible first | exact HK.out | apply Kept.alloc | apply Kept.drewN | apply Kept.drew | refine Kept.setCell ?_ (.inr GW234.out) _ | refine Kept.setCell ?_ (.inr GW235.out) _) | exact HK.out)⟩, ⟨hbA HB.out⟩⟩
              case round =>
               clear H'
               (try clear c1); (try clear c2); (try clear p2 p2); (try clear q2 q2); (try clear hx2); (try clear hf2); (try clear c3); (try clear p3 p3); (try clear q3 q3); (try clear hx3); (try clear hf3); (try clear c4); (try clear c5); (try clear c5b0); (try clear c6); (try clear p6 p6); (try clear c9); (try clear c9b0); (try clear c11); (try clear c11b0); (try clear c11b1); (try clear c12); (try clear c17); (try clear c21); (try clear c21b0); (try clear c24); (try clear c25); (try clear c25b0); (try clear c26); (try clear c26b0); (try clear p27 p27); (try clear q27 q27); (try clear hx27); (try clear hf27); (try clear c30); (try clear c30b0); (try clear c31); (try clear c31b0); (try clear p32 p32); (try clear q32 q32); (try clear hx32); (try clear hf32); (try clear c33); (try clear c44); (try clear c46); (try clear c46b0); (try clear c47); (try clear c48); (try clear hcz13_0 hcz13_1 hcz13_2 hfz13_0 hfz13_1 hfz13_2); (try clear hcz18_0 hcz18_1 hcz18_2 hfz18_0 hfz18_1 hfz18_2); (try clear hcz34_0 hcz34_1 hcz34_2 hfz34_0 hfz34_1 hfz34_2); (try clear hcz39_0 hcz39_1 hcz39_2 hfz39_0 hfz39_1 hfz39_2); (try clear hcz45_0 hcz45_1 hcz45_2 hfz45_0 hfz45_1 hfz45_2); (try clear hcz49_0 hcz49_1 hcz49_2 hfz49_0 hfz49_1 hfz49_2); (try clear hcz7_0 hcz7_1 hcz7_2 hfz7_0 hfz7_1 hfz7_2); (try clear hx27_0); (try clear hx32_0)
               obtain ⟨x16_5, x235002_5, u235002, rfl, HA, HK5, HO_4, HO_235002, BK234, BK235, HK, HB⟩ := hrel
               cases gk with
               | zero => exact absurd HA.out (by simp [recoupref04_wide.l4])
               | succ k5 =>
                have H := HA.out
                clear HA
                simp only [recoupref04_wide.l4] at H
                have HC52 := Aside0.mk H
                clear H
                go_upto_region 23 with (fail)
                go_cut [97] (fun v97 wc => ∃ (kq : Nat) (x97_51 : Bool), v97 = .bool x97_51 ∧ Aside0 (recoupref04_wide.j5 kq x4_2 x5_1 (x4_1.length : Int) x14_4 t247 x16_5 x97_51 a0_0 a0_1 x235002_5 = some (r1, r2, r3, r4)) ∧ Aside0 (kq ≤ k5) ∧ Aside0 (Kd.R (Kd.int .i64) 3 wc w0.heap.size (fun k_ => (P0_2_ k_ ∨ w.heap.size ≤ k_)) u4 x4_2) ∧ Aside0 (Kd.R (Kd.int .u8) 5 wc w0.heap.size (fun k_ => (P0_2_ k_ ∨ w.heap.size ≤ k_)) u235002 x235002_5) ∧ Aside0 (wc.heap[gb234]? = some (.cells #[.int .i64 a0_0, .int .i64 a0_1, u235002] 24 (0, 0))) ∧ Aside0 (wc.heap[gb235]? = some (.cells #[.int .i64 0, .int .i64 0, (.slice none 0 0)] 24 (0, 0))) ∧ Aside0 (Kept w wc (fun k_ => P0_2_ k_)) ∧ Aside0 (Below w0.heap.size w0 wc))
                case first =>
                 have H := HC52.out
                 clear HC52
                 by_cases c53 : x16_5 < a0_1
                 ·rw [if_pos c53] at H
                  have c53b0 : decide (x16_5 < a0_1) = true := decide_eq_true c53
                  clear c53
                  (first | rw [c53b0] | (simp only [i64_w, i32_w]; rw [c53b0]) | skip)
                  have H' := Aside0.mk H
                  clear H
                  have hnb54 := NB234_235.out
                  have hnc54 := NB235_234.out
                  obtain ⟨hcz55_0, hcz55_1, hcz55_2, hfz55_0, hfz55_1, hfz55_2⟩ := cell3 BK234
                  go_wp2
                  go_meet
                  case rel => exact ⟨_, ((x14_4 != (x4_1.length : Int))), rsE, H', ⟨by have := HK1.out; have := HK2.out; have := HK3.out; have := HK4.out; have := HK5.out; first | omega | exact Nat.le_refl _⟩, ⟨kdA HO_4.out⟩, ⟨kdA HO_235002.out⟩, ⟨bkA BK234.out⟩, ⟨bkA BK235.out⟩, ⟨by repeat (first | (with_reducible first | exact HK.out | apply Kept.alloc | apply Kept.drewN | apply Kept.drew | refine Kept.setCell ?_ (.inr GW234.out) _ | refine Kept.setCell ?_ (.inr GW235.out) _) | exact HK.out)⟩, ⟨hbA HB.out⟩⟩
                 ·rw [if_neg c53] at H
                  have c53b0 : decide (x16_5 < a0_1) = false := decide_eq_false c53
                  clear c53
                  (first | rw [c53b0] | (simp only [i64_w, i32_w]; rw [c53b0]) | skip)
                  have H' := Aside0.mk H
                  clear H
                  have hnb56 := NB234_235.out
                  have hnc56 := NB235_234.out
                  obtain ⟨hcz57_0, hcz57_1, hcz57_2, hfz57_0, hfz57_1, hfz57_2⟩ := cell3 BK234
                  go_wp2
                  go_meet
                  case rel => exact ⟨_, (false), rsE, H', ⟨by have := HK1.out; have := HK2.out; have := HK3.out; have := HK4.out; have := HK5.out; first | omega | exact Nat.le_refl _⟩, ⟨kdA HO_4.out⟩, ⟨kdA HO_235002.out⟩, ⟨bkA BK234.out⟩, ⟨bkA BK235.out⟩, ⟨by repeat (first | (with_reducible first | exact HK.out | apply Kept.alloc | apply Kept.drewN | apply Kept.drew | refine Kept.setCell ?_ (.inr GW234.out) _ | refine Kept.setCell ?_ (.inr GW235.out) _) | exact HK.out)⟩, ⟨hbA HB.out⟩⟩
                case rest =>
                 clear HC52
                 (try clear c1); (try clear c2); (try clear p2 p2); (try clear q2 q2); (try clear hx2); (try clear hf2); (try clear c3); (try clear p3 p3); (try clear q3 q3); (try clear hx3); (try clear hf3); (try clear c4); (try clear c5); (try clear c5b0); (try clear c6); (try clear p6 p6); (try clear c9); (try clear c9b0); (try clear c11); (try clear c11b0); (try clear c11b1); (try clear c12); (try clear c17); (try clear c21); (try clear c21b0); (try clear c24); (try clear c25); (try clear c25b0); (try clear c26); (try clear c26b0); (try clear p27 p27); (try clear q27 q27); (try clear hx27); (try clear hf27); (try clear c30); (try clear c30b0); (try clear c31); (try clear c31b0); (try clear p32 p32); (try clear q32 q32); (try clear hx32); (try clear hf32); (try clear c33); (try clear c44); (try clear c46); (try clear c46b0); (try clear c47); (try clear c48); (try clear c53); (try clear c53b0); (try clear c54); (try clear c56); (try clear hcz13_0 hcz13_1 hcz13_2 hfz13_0 hfz13_1 hfz13_2); (try clear hcz18_0 hcz18_1 hcz18_2 hfz18_0 hfz18_1 hfz18_2); (try clear hcz34_0 hcz34_1 hcz34_2 hfz34_0 hfz34_1 hfz34_2); (try clear hcz39_0 hcz39_1 hcz39_2 hfz39_0 hfz39_1 hfz39_2); (try clear hcz45_0 hcz45_1 hcz45_2 hfz45_0 hfz45_1 hfz45_2); (try clear hcz49_0 hcz49_1 hcz49_2 hfz49_0 hfz49_1 hfz49_2); (try clear hcz55_0 hcz55_1 hcz55_2 hfz55_0 hfz55_1 hfz55_2); (try clear hcz57_0 hcz57_1 hcz57_2 hfz57_0 hfz57_1 hfz57_2); (try clear hcz7_0 hcz7_1 hcz7_2 hfz7_0 hfz7_1 hfz7_2); (try clear hx27_0); (try clear hx32_0)
                 obtain ⟨kq, x97_51, rfl, HA, HJ51, HO_4, HO_235002, BK234, BK235, HK, HB⟩ := hcut
                 cases kq with
                 | zero => exact absurd HA.out (by simp [recoupref04_wide.j5])
                 | succ kj51 =>
                  have H := HA.out
                  clear HA
                  simp only [recoupref04_wide.j5] at H
                  by_cases c58 : x97_51 = true
                  ·subst c58
                   rw [if_pos rfl] at H
                   obtain ⟨ji59, hji59⟩ : ∃ j_ : Int, (wrap64 ((wrap64 (x14_4 * a0_1)) + x16_5)) = j_ := ⟨_, rfl⟩
                   replace H : (if 0 ≤ (ji59) then (if (ji59) < (x235002_5.length : Int) then ((recoupref03_At.f a0_0 a0_1 x235002_5 (x4_1.length : Int) x16_5).bind fun t249 => ((recoupref01_Mul.f kj51 t247 t249).bind fun t250 => (recoupref04_wide.l4 kj51 x4_2 x5_1 (x4_1.length : Int) x14_4 t247 (wrap64 (x16_5 + 1)) a0_0 a0_1 (x235002_5.set ((ji59) : Int).toNat (Go.bits .xor .u8 (rd x235002_5 (ji59)) t250))))) else (none)) else (none)) = some (r1, r2, r3, r4) := by first | (rw [hji59] at H; exact H) | (simp only [hji59] at H ⊢; exact H)
                   have hji59w : (IntKind.i64.wrap ((wrap64 (x14_4 * a0_1)) + x16_5)) = ji59 := (i64_w _).trans hji59
                   by_cases c60 : 0 ≤ (ji59)
                   ·rw [if_pos c60] at H
                    have c60b0 : decide (0 ≤ (ji59)) = true := decide_eq_true c60
                    clear c60
                    by_cases c61 : (ji59) < (x235002_5.length : Int)
                    ·rw [if_pos c61] at H
                     have c61b0 : decide ((ji59) < (x235002_5.length : Int)) = true := decide_eq_true c61
                     clear c61
                     obtain ⟨t249, A62, H⟩ := bindO H
                     (try dsimp only at H)
                     obtain ⟨t250, A63, H⟩ := bindO H
                     (try dsimp only at H)
                     obtain ⟨y251, hy251⟩ : ∃ y_ : List Int, y_ = (x235002_5.set ((ji59) : Int).toNat (Go.bits .xor .u8 (rd x235002_5 (ji59)) t250)) := ⟨_, rfl⟩
                     replace H : (recoupref04_wide.l4 kj51 x4_2 x5_1 (x4_1.length : Int) x14_4 t247 (wrap64 (x16_5 + 1)) a0_0 a0_1 y251) = some (r1, r2, r3, r4) := by first | (rw [hy251]; with_reducible exact H) | (have H2_ := (Option.bind_some _ _).symm.trans H; rw [hy251]; with_reducible exact H2_) | (have H2_ := (Option.bind_some _ _).symm.trans H; with_reducible exact H2_) | with_reducible exact H | (rw [hy251]; exact H) | exact H
                     have Ny251 := Aside0.mk hy251
                     clear hy251
                     have H' := Aside0.mk H
                     clear H
                     try go_wp2
                     replace HO_4 := Aside0.mk (Kd.R_drew HO_4.out)
                     replace HO_235002 := Aside0.mk (Kd.R_drew HO_235002.out)
                     replace BK234 := Aside0.mk (blk_drew BK234.out)
                     replace BK235 := Aside0.mk (blk_drew BK235.out)
                     replace HK := Aside0.mk (Kept.drew HK.out)
                     replace HB := Aside0.mk (below_drew1 HB.out)
                     obtain ⟨Ao66, co66, eo66⟩ := Kd.R_slice HO_235002.out
                     (first | subst eo66 | (injection eo66 with f1_ f2_ f3_; have f4_ := f1_.symm; have f5_ := f3_.symm; clear f1_ f2_ f3_; subst f4_; subst f5_))
                     have p248 : 0 ≤ ((ji59) : Int) := of_decide_eq_true asE
                     have q248 : (ji59) < (x235002_5.length : Int) := of_decide_eq_true asE
                     obtain ⟨ad248, e248, hx248_0⟩ := Kd.at_int (Kd.R_reads' HO_235002.out).2.2 (ji59) p248 q248
                     cases e248
                     replace p248 := eq_true p248
                     replace q248 := eq_true q248
                     refine start_ (n := 19) (S := fun w' => w'.cell? ⟨gb234, 0, none⟩ = some (.int .i64 a0_0) ∧ w'.cell? ⟨gb234, 1, none⟩ = some (.int .i64 a0_1) ∧ w'.cell? ⟨gb234, 2, none⟩ = some (.slice (some ad248) x235002_5.length co66) ∧ w'.cell? (ad248.add ((ji59)).toNat) = some (.int .u8 (rd x235002_5 (ji59)))) (ds := [18]) (.replicate 19 false) (by kernel_rfl) rfl rfl ⟨(blk_cell BK234.out 0).trans rfl, (blk_cell BK234.out 1).trans rfl, (blk_cell BK234.out 2).trans rfl, hx248_0⟩ (fun hHeld => ?_); refine with_tabW recoupref04_wide.tab25 recoupref04_wide.bits25 (fun HT_ HW_ => ?_)
                     generalize wc.drew = w65 at HO_4 HO_235002 BK234 BK235 HK HB hx248_0 hHeld ⊢
                     refine pu 0 (some 100) (mB 19 1) HT_ ?_
                     refine pu 2 (some 102) (mB 19 5) HT_ ?_
                     refine pu 3 (some 103) (mB 19 13) HT_ ?_
                     refine pu 6 (some 106) (mB 19 77) HT_ ?_
                     refine pu 10 (some 110) (mB 19 1101) HT_ ?_
                     refine pu 12 (some 112) (mB 19 5197) HT_ ?_
                     refine pu 13 (some 113) (mB 19 13389) HT_ ?_
                     refine tk4 1 (some 101) (mB 19 13391) HT_ HW_ hHeld ?_
                     refine tk4 4 (some 104) (mB 19 13407) HT_ HW_ hHeld ?_
                     refine pu 5 (some 105) (mB 19 13439) HT_ ?_
                     refine pu 7 (some 107) (mB 19 13567) HT_ ?_
                     refine pu 8 (some 108) (mB 19 13823) HT_ ?_
                     refine tk4 9 (some 109) (mB 19 14335) HT_ HW_ hHeld ?_
                     refine tk4 11 (some 111) (mB 19 16383) HT_ HW_ hHeld ?_
                     refine one_ (i := 14) (N := some 114) (mB 19 32767) rfl rfl (one_of HT_.out (by kernel_rfl)) (by decide) (fun K hK => ?_)
                     refine goes_ Try.func24 (by kernel_rfl) rfl #[.agg #[.int .i64 a0_0, .int .i64 a0_1, .slice (some ad248) x235002_5.length co66], .int .i64 (x4_1.length : Int), .int .i64 x16_5] (by rfl) rfl rfl (by (try simp only [List.map_toArray, List.map_cons, List.map_nil]); first | done | rfl | (simp only [List.length_drop, List.length_take]; rfl)) ?_
                     with_reducible refine (recoupref03_At.calls a0_0 a0_1 _ _ x235002_5 (x4_1.length : Int) x16_5 t249 _ ?side1 ?side2 A62.out).mono ?_
                     (case side1 => exact kcA (Kd.R_reads' HO_235002.out).2.2)
                     (case side2 => exact (Kd.R_reads' HO_235002.out).2.1)
                     rintro e w67 ⟨rfl, hb⟩
                     have HS3_ := (hb.cell (World.block_lt_of_cell? _ _ (hHeld.2.2.2))).trans (hHeld.2.2.2)
                     refine ⟨_, rfl, ?_⟩
                     replace HO_4 := kdB HO_4 hb
                     replace HO_235002 := kdB HO_235002 hb
                     replace BK234 := bkB BK234 hb
                     replace BK235 := bkB BK235 hb
                     replace HK := Aside0.mk (Kept.below (S := (fun k_ => P0_2_ k_)) (by repeat (first | (with_reducible first | exact HK.out | apply Kept.alloc | apply Kept.drewN | apply Kept.drew | refine Kept.setCell ?_ (.inr GW234.out) _ | refine Kept.setCell ?_ (.inr GW235.out) _) | exact HK.out)) hb)
                     replace HB := hbB HB hb
                     (try clear hb)
                     (try clear hb2)
                     (try clear hk)
                     (try clear hi)
                     refine hK.out _ _ ⟨(blk_cell BK234.out 0).trans rfl, (blk_cell BK234.out 1).trans rfl, (blk_cell BK234.out 2).trans rfl, HS3_⟩ (fun hHeld => ?_)
                     clear hK K
                     refine norm_ (a' := ?_) ?_ ?_
                     rotate_left
                     ·show Act.put _ (some 114) _ = _
                      simp only [Act.put, List.setIfInBounds_toArray, List.set_cons_zero, List.set_cons_succ, i64_w, i32_w]
                      rfl
                     refine one_ (i := 15) (N := some 115) (mB 19 65535) rfl rfl (one_of HT_.out (by kernel_rfl)) (by decide) (fun K hK => ?_)
                     refine goes_ Try.func25 (by kernel_rfl) rfl #[.int .u8 t247, .int .u8 t249] (by rfl) rfl rfl (by (try simp only [List.map_toArray, List.map_cons, List.map_nil]); first | done | rfl | (simp only [List.length_drop, List.length_take]; rfl)) ?_
                     with_reducible refine (recoupref01_Mul.calls kj51 t247 t249 t250 _ A63.out).mono ?_
                     rintro e w' ⟨rfl, ⟨nd, rfl⟩⟩
                     refine ⟨_, rfl, ?_⟩
                     have p64 : 0 ≤ ((ji59) : Int) := of_decide_eq_true asE
                     have q64 : ((ji59) : Int) < ((x235002_5.length : Int) : Int) := of_decide_eq_true asE
                     obtain ⟨go64, co64, eo64, gb64, gl64, cl64, HG64⟩ := Kd.R_form HO_235002.out (by omega)
                     (first | cases eo64 | (injection eo64 with ea_ en_ ec_; (first | subst ea_ | (injection ea_ with ea_; subst ea_)); subst ec_; clear en_))
                     have GB64 := Aside0.mk gb64
                     have GG64 := Aside0.mk HG64
                     clear gb64 gl64 HG64
                     have HMgo64 := Aside0.mk (show (P0_2_ go64 ∨ w.heap.size ≤ go64) from (HO_235002.out.1 _ rfl))
                     (first | simp only [add_plain] at hx248_0 | skip)
                     obtain ⟨hx64_0, hf64_0⟩ := Kd.R_celln 0 HO_235002.out ((ji59) : Int) p64 q64
                     replace p64 := eq_true p64
                     replace q64 := eq_true q64
                     have HP68 := Kd.R_putn HO_235002.out ((ji59) : Int) (Go.bits .xor .u8 (rd x235002_5 (ji59)) t250)
                     rw [← Ny251.out] at HP68
                     have HQ68 := Aside0.mk HP68
                     clear HP68
                     refine hK.out _ _ ⟨(blk_cell BK234.out 0).trans rfl, (blk_cell BK234.out 1).trans rfl, (blk_cell BK234.out 2).trans rfl, hHeld.2.2.2⟩ (fun hHeld => ?_)
                     clear hK K
                     refine norm_ (a' := ?_) ?_ ?_
                     rotate_left
                     ·show Act.put _ (some 115) _ = _
                      simp only [Act.put, List.setIfInBounds_toArray, List.set_cons_zero, List.set_cons_succ, i64_w, i32_w]
                      rfl
                     refine pu 16 (some 116) (mB 19 131071) HT_ ?_
                     refine pu 17 (some 117) (mB 19 262143) HT_ ?_
                     refine last_ (i := 18) (N := none) (mB 19 524287) rfl rfl (one_of HT_.out (by kernel_rfl)) (by decide) (fun K hK => ?_)
                     refine skip_ (w1 := ?_) (by rfl) rfl ?_ ?_
                     rotate_left
                     ·go_simp
                      rfl
                     refine hK.out _ _ ?_
                     clear hK K
                     refine done_ (done_of HT_.out (by kernel_rfl)) ?_
                     try go_wp2
                     go_roundg kj51
                     case measure => have := HK1.out; have := HK2.out; have := HK3.out; have := HK4.out; have := HK5.out; have := HJ51.out; omega
                     case rel => exact ⟨(wrap64 (x16_5 + 1)), (y251), (.slice (some ⟨go64, 0, none⟩) x235002_5.length co66), rsE, H', ⟨by have := HK1.out; have := HK2.out; have := HK3.out; have := HK4.out; have := HK5.out; have := HJ51.out; omega⟩, ⟨by (with_reducible repeat (first | apply Kd.R_alloc | apply Kd.R_drewN | apply Kd.R_drew)); exact Kd.R_mono (Kd.R_far (p := ⟨go64, ((ji59) : Int).toNat, none⟩) (Kd.R_types HO_4.out (kd_block HO_235002.out).choose_spec (by decide)) (fun _ hk => hk.2) (.int .u8 (Go.bits .xor .u8 (rd x235002_5 (ji59)) t250))) (fun _ hk => hk.1)⟩, ⟨kdA HQ68.out⟩, ⟨by refine bkR ?_; refine blk_far ?_ (by have h_ := Kd.R_ne HO_235002.out BK234.out (by decide); intro e_; exact h_ (by rw [e_]; rfl)) _; refine bkR ?_; exact BK234.out⟩, ⟨by refine bkR ?_; refine blk_far ?_ (by have h_ := Kd.R_ne HO_235002.out BK235.out (by decide); intro e_; exact h_ (by rw [e_]; rfl)) _; refine bkR ?_; exact BK235.out⟩, ⟨by repeat (first | (with_reducible first | exact HK.out | apply Kept.alloc | apply Kept.drewN | apply Kept.drew | refine Kept.setCell ?_ HMgo64.out _ | refine Kept.setCell ?_ (.inr GW234.out) _ | refine Kept.setCell ?_ (.inr GW235.out) _) | exact HK.out)⟩, ⟨hbA HB.out⟩⟩
                    ·rw [if_neg c61] at H
                     exact absurd H (by simp)
                   ·rw [if_neg c60] at H
                    exact absurd H (by simp)
                  ·replace c58 := Bool.eq_false_iff.mpr c58
                   subst c58
                   rw [if_neg nofT] at H
                   have H' := Aside0.mk H
                   clear H
                   go_wp2
                   go_roundg kj51
                   case measure => have := HK1.out; have := HK2.out; have := HK3.out; have := HK4.out; have := HK5.out; have := HJ51.out; omega
                   case rel => exact ⟨(wrap64 (x14_4 + 1)), (x235002_5), (u235002), rsE, H', ⟨by have := HK1.out; have := HK2.out; have := HK3.out; have := HK4.out; have := HK5.out; have := HJ51.out; omega⟩, ⟨kdA HO_4.out⟩, ⟨kdA HO_235002.out⟩, ⟨bkA BK234.out⟩, ⟨bkA BK235.out⟩, ⟨by repeat (first | (with_reducible first | exact HK.out | apply Kept.alloc | apply Kept.drewN | apply Kept.drew | refine Kept.setCell ?_ (.inr GW234.out) _ | refine Kept.setCell ?_ (.inr GW235.out) _) | exact HK.out)⟩, ⟨hbA HB.out⟩⟩
             ·rw [if_neg c46] at H
              have c46b0 : decide (x14_4 < a0_0) = false := decide_eq_false c46
              clear c46
              by_cases c69 : x4_2.length < 17592186044416
              ·rw [if_pos c69] at H
               have LMc69 := Aside0.mk c69
               clear c69
               obtain ⟨y244, hy244⟩ : ∃ y_ : List Int, y_ = (x4_2 ++ [x5_1]) := ⟨_, rfl⟩
               replace H : (recoupref04_wide.l0 k4 y244 (wrap64 (x5_1 + 1)) a0_0 a0_1 x235002_4) = some (r1, r2, r3, r4) := by first | (rw [hy244]; with_reducible exact H) | (have H2_ := (Option.bind_some _ _).symm.trans H; rw [hy244]; with_reducible exact H2_) | (have H2_ := (Option.bind_some _ _).symm.trans H; with_reducible exact H2_) | with_reducible exact H | (rw [hy244]; exact H) | exact H
               have Ny244 := Aside0.mk hy244
               clear hy244
               have H' := Aside0.mk H
               clear H
               have hnb70 := NB234_235.out
               have hnc70 := NB235_234.out
               obtain ⟨hcz71_0, hcz71_1, hcz71_2, hfz71_0, hfz71_1, hfz71_2⟩ := cell3 BK234
               go_wp2_with (first | ((with_reducible refine gate_builtin (b := .append) (xs := #[.tmp 118, .tmp 120]) rfl ?_); at_builtin; refine Kd.R_append (Kd.int .i64) (w0 := w0) w0.heap.size rfl (.tmp 118) (.tmp 120) 25 3 (.int .i64 0) 8 rfl Try.underlying25 info3 rfl (by decide) (by omega) u4 x4_2 x5_1 [.int .i64 x5_1] (fun k_ => (P0_2_ k_ ∨ w.heap.size ≤ k_)) (fun _ => False) rfl rfl ?aP (fun _ hk => hk.elim) ?aF ?aO ?aB ?aS ?aL ?_; (case aP => exact rfl); (case aB => exact (hbA HB.out)); (case aF => exact (fun k_ hk => (.inr (Nat.le_trans (by first | exact HK.out.1 | exact (show Kept w _ (fun k_ => P0_2_ k_) from by repeat (first | (with_reducible first | exact HK.out | apply Kept.alloc | apply Kept.drewN | apply Kept.drew | refine Kept.setCell ?_ (.inr GW234.out) _ | refine Kept.setCell ?_ (.inr GW235.out) _) | exact HK.out)).1) hk)))); (case aO => exact (kdA HO_4.out)); (case aS => exact (below_size (hbA HB.out))); (case aL => have := LMc69.out; omega); intro v245 w72 ho hb hg hat; rw [← Ny244.out] at ho; have n0_ := Aside0.mk (Kd.R_over' (kdA HO_235002.out) (Kd.R_typed (kdA HO_4.out)) (by decide) hg); have n1_ := Aside0.mk (blk_grown (g := gb234) (o := .cells #[.int .i64 a0_0, .int .i64 a0_1, u235002] 24 (0, 0)) (bkA BK234.out) hg (Kd.R_ne HO_4.out BK234.out (by decide))); have n2_ := Aside0.mk (blk_grown (g := gb235) (o := .cells #[.int .i64 0, .int .i64 0, .slice none 0 0] 24 (0, 0)) (bkA BK235.out) hg (Kd.R_ne HO_4.out BK235.out (by decide))); have n3_ := Aside0.mk (hb); have n4_ := Aside0.mk (Kept.of_grown (S := (fun k_ => P0_2_ k_)) hg (by repeat (first | (with_reducible first | exact HK.out | apply Kept.alloc | apply Kept.drewN | apply Kept.drew | refine Kept.setCell ?_ (.inr GW234.out) _ | refine Kept.setCell ?_ (.inr GW235.out) _) | exact HK.out)) (fun k_ e_ => (HO_4.out.1 k_ e_))); have n5_ := Aside0.mk (ho); clear HO_235002; clear BK234; clear BK235; clear HB; clear HK; clear HO_4; have HO_235002 := n0_; have BK234 := n1_; have BK235 := n2_; have HB := n3_; have HK := n4_; have HO246 := n5_; clear n0_ n1_ n2_ n3_ n4_ n5_; clear ho hb hg hat))
               go_roundg k4
               case measure => have := HK1.out; have := HK2.out; have := HK3.out; have := HK4.out; omega
               case rel => exact ⟨(y244), (wrap64 (x5_1 + 1)), (x235002_4), (u235002), rsE, H', ⟨by have := HK1.out; have := HK2.out; have := HK3.out; have := HK4.out; omega⟩, ⟨kdA HO246.out⟩, ⟨kdA HO_235002.out⟩, ⟨bkA BK234.out⟩, ⟨bkA BK235.out⟩, ⟨by repeat (first | (with_reducible first | exact HK.out | apply Kept.alloc | apply Kept.drewN | apply Kept.drew | refine Kept.setCell ?_ (.inr GW234.out) _ | refine Kept.setCell ?_ (.inr GW235.out) _) | exact HK.out)⟩, ⟨hbA HB.out⟩⟩
              ·rw [if_neg c69] at H
               exact absurd H (by simp)
      ·rw [if_neg c9] at H
       have c9b0 : decide (x7_2 < a0_0) = false := decide_eq_false c9
       clear c9
       have H' := Aside0.mk H
       clear H
       have hnb73 := NB234_235.out
       have hnc73 := NB235_234.out
       obtain ⟨hcz74_0, hcz74_1, hcz74_2, hfz74_0, hfz74_1, hfz74_2⟩ := cell3 BK234
       go_wp2
       go_roundg k2
       case measure => have := HK1.out; have := HK2.out; omega
       case rel => exact ⟨(x4_2), (wrap64 (x5_1 + 1)), (x235002_2), (u235002), rsE, H', ⟨by have := HK1.out; have := HK2.out; omega⟩, ⟨kdA HO_4.out⟩, ⟨kdA HO_235002.out⟩, ⟨bkA BK234.out⟩, ⟨bkA BK235.out⟩, ⟨by repeat (first | (with_reducible first | exact HK.out | apply Kept.alloc | apply Kept.drewN | apply Kept.drew | refine Kept.setCell ?_ (.inr GW234.out) _ | refine Kept.setCell ?_ (.inr GW235.out) _) | exact HK.out)⟩, ⟨hbA HB.out⟩⟩
   ·rw [if_neg c5] at H
    have c5b0 : decide (x5_1 < a0_1) = false := decide_eq_false c5
    clear c5
    simp only [Option.some.injEq, Prod.mk.injEq] at H
    obtain ⟨rfl, rfl, rfl, rfl⟩ := H
    have hnb75 := NB234_235.out
    have hnc75 := NB235_234.out
    obtain ⟨hcz76_0, hcz76_1, hcz76_2, hfz76_0, hfz76_1, hfz76_2⟩ := cell3 BK234
    obtain ⟨hcz77_0, hcz77_1, hcz77_2, hfz77_0, hfz77_1, hfz77_2⟩ := cell3 BK235
    obtain ⟨Ao78, co78, eo78⟩ := Kd.R_slice HO_235002.out
    subst eo78
    go_wp2
    refine bodyPost_ret (results_ct rfl _ _ gb235 24 #[.int .i64 a0_0, .int .i64 a0_1, .slice Ao78 x235002_1.length co78] (0, 0) _ rfl (by refine bkR ?_; refine blk_put (cs := #[.int .i64 a0_0, .int .i64 a0_1, .slice none 0 0]) ?_ 2 _ rfl; refine bkR ?_; refine blk_put (cs := #[.int .i64 a0_0, .int .i64 0, .slice none 0 0]) ?_ 1 _ rfl; refine bkR ?_; refine blk_put (cs := #[.int .i64 0, .int .i64 0, .slice none 0 0]) ?_ 0 _ rfl; refine bkR ?_; exact BK235.out) Try.underlying24 rfl (by kernel_rfl)) rfl ?_
    exact ⟨_, _, rfE, by (with_reducible repeat (first | apply Kd.R_alloc | apply Kd.R_drewN | apply Kd.R_drew)); exact Kd.R_mono (Kd.R_far (p := ⟨gb235, 2, none⟩) (Kd.R_far (p := ⟨gb235, 1, none⟩) (Kd.R_far (p := ⟨gb235, 0, none⟩) (Kd.R_types HO_235002.out BK235.out (by decide)) (fun _ hk => hk.2) (.int .i64 a0_0)) (fun _ hk => hk.2) (.int .i64 a0_1)) (fun _ hk => hk.2) (.slice Ao78 x235002_1.length co78)) (fun _ hk => hk.1), by (with_reducible repeat (first | apply Kd.R_alloc | apply Kd.R_drewN | apply Kd.R_drew)); exact Kd.R_mono (Kd.R_far (p := ⟨gb235, 2, none⟩) (Kd.R_far (p := ⟨gb235, 1, none⟩) (Kd.R_far (p := ⟨gb235, 0, none⟩) (Kd.R_types HO_4.out BK235.out (by decide)) (fun _ hk => hk.2) (.int .i64 a0_0)) (fun _ hk => hk.2) (.int .i64 a0_1)) (fun _ hk => hk.2) (.slice Ao78 x235002_1.length co78)) (fun _ hk => hk.1), hbA HB.out, by repeat (first | (with_reducible first | exact HK.out | apply Kept.alloc | apply Kept.drewN | apply Kept.drew | refine Kept.setCell ?_ (.inr GW234.out) _ | refine Kept.setCell ?_ (.inr GW235.out) _) | exact HK.out)⟩

end Go.Proofs.Ytccfbhnhedoggaa.Q
