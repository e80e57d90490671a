/- Written by drive.py (a program of this repo, over the kit's print): each Go function named here answers what the Lean function beside it answers, wherever that one answers, in every world that meets the stated premises. -/
import Derived.Test.YthjncmdlhmppiaaDoorQx0
import Derived.Test.YthjncmdlhmppiaaDoorQx147
import Derived.Test.YthjncmdlhmppiaaDoorQx153
import Derived.Test.YthjncmdlhmppiaaDoorQx154
namespace Go.Proofs.YthjncmdlhmppiaaDoor.Q
open Go.RowKit Go.Proofs.YthjncmdlhmppiaaDoorW.PrintWords Go.Proofs.YthjncmdlhmppiaaDoorW.PrintLast Go.Proofs.YthjncmdlhmppiaaDoorW.PrintMore
attribute [local go_sem] max2_int min2_int max_two min_two max_three min_three max_four min_four   -- for this text's walks alone
set_option linter.unusedVariables false
set_option linter.unusedSimpArgs false

/-! ### matrix_Row: function 42 -/
/-! ### matrix.Row -/
theorem C_seg {w : World} {A : Option Addr} {l : List Int} {f f2 cols : Nat} (h : Kd.C (Kd.int .u8) w A l.length l) (h2 : f2 = f + cols) (hfit : f2 ≤ l.length) : Kd.C (Kd.int .u8) w (if f2 = f then A else A.map (·.add f)) ((l.drop f).take cols).length ((l.drop f).take cols) := by
 have hr := Kd.reads_of_C (enc := Value.int .u8) (d := (0 : Int)) (h1 := fun _ => rfl) h
 have hl : ((l.drop f).take cols).length = cols := by rw [List.length_take, List.length_drop]; omega
 refine Kd.C_of_reads (enc := Value.int .u8) (d := (0 : Int)) (h1 := fun _ => rfl) ⟨rfl, by rw [hl]; have := hr.2.1; omega, fun hn => ?_⟩
 rw [hl] at hn ⊢
 obtain ⟨ad, e, hc⟩ := hr.2.2 (by omega)
 rw [if_neg (by omega), e]
 refine ⟨ad.add f, rfl, fun j hj => ?_⟩
 rw [Addr.add_add, hc (f + j) (by omega)]
 congr 2
 rw [List.getD_eq_getElem?_getD, List.getD_eq_getElem?_getD, List.getElem?_take_of_lt hj, List.getElem?_drop]
def rowSeg (b : Int) (l : List Int) (i : Int) : List Int := (l.drop (i.toNat * b.toNat)).take b.toNat
def matrix_Row.f (a b : Int) (l : List Int) (i : Int) : Option (List Int × Int) := (matrix_Right.f a b l).bind fun t => if t = true then (if 0 ≤ i ∧ i < a then some (rowSeg b l i, 0) else some ([], 2)) else some ([], 3)
set_option maxHeartbeats 4000000 in
set_option maxRecDepth 100000 in
theorem matrix_Row.calls (a0_0 : Int) (a0_1 : Int) (A0_2 : Option Addr) (c0_2 : Nat) (l0_2 : List Int) (a1 : Int) (r1 : List Int) (r2 : Int) (w : World) (hr0_2 : Kd.C (Kd.int .u8) w A0_2 l0_2.length l0_2) (hc0_2 : l0_2.length ≤ c0_2) (h : matrix_Row.f a0_0 a0_1 l0_2 a1 = some (r1, r2)) :
  Calls Tryd.prog 42 #[.agg #[.int .i64 a0_0, .int .i64 a0_1, .slice A0_2 l0_2.length c0_2], .int .i64 a1] w fun e w' => ∃ v0_ : Value, e = .returned (.tuple #[v0_, .int .i64 r2]) ∧ Kd.R (Kd.int .u8) 5 w' w.heap.size (fun _ => True) v0_ r1 ∧ Below w.heap.size w w' := by
 have hu24 := Tryd.underlying24
 have HR := Aside0.mk hr0_2
 have HC := Aside0.mk hc0_2
 clear hr0_2 hc0_2
 unfold matrix_Row.f at h
 obtain ⟨t, hm, h⟩ := Option.bind_eq_some_iff.mp h
 have HM := Aside0.mk hm
 go_enter Tryd.func42, Tryd.ntmps42
 go_upto_region 1 with (fail)
 have hb2 := below_alloc (Below.refl w.heap.size w) (.cells #[.int .i64 a0_0, .int .i64 a0_1, .slice A0_2 l0_2.length c0_2] 24)
 have hbm := blk_new w (.cells #[.int .i64 a0_0, .int .i64 a0_1, .slice A0_2 l0_2.length c0_2] 24)
 have HB2 := Aside0.mk hb2
 clear hb2
 generalize w.alloc (.cells #[.int .i64 a0_0, .int .i64 a0_1, .slice A0_2 l0_2.length c0_2] 24) = w2 at *
 have x0 : w2.cell? ⟨w.heap.size, 0, none⟩ = some (.int .i64 a0_0) := (blk_cell hbm 0).trans rfl
 have x1 : w2.cell? ⟨w.heap.size, 1, none⟩ = some (.int .i64 a0_1) := (blk_cell hbm 1).trans rfl
 have x2 : w2.cell? ⟨w.heap.size, 2, none⟩ = some (.slice A0_2 l0_2.length c0_2) := (blk_cell hbm 2).trans rfl
 have hcall := matrix_Right.calls a0_0 a0_1 A0_2 c0_2 l0_2 t w2 (Kd.C_below HR.out HB2.out) HC.out HM.out
 have HCALL := Aside0.mk hcall
 clear hcall
 cases t with
 | false =>
  simp only [Bool.false_eq_true, if_false, Option.some.injEq, Prod.mk.injEq] at h
  obtain ⟨rfl, rfl⟩ := h
  clear hm
  go_wp2_with fail
  refine HCALL.out.mono ?_
  rintro e w3 ⟨rfl, hb3⟩
  have HB3 := Aside0.mk (below_step HB2.out hb3)
  clear x0 x1 x2 hbm hb3
  go_wp2_with fail
  go_ret2
  exact ⟨_, rfl, Kd.R_nil _ _ _ _ _, HB3.out⟩
 | true =>
  have HL := Aside0.mk (right_true hm)
  rw [if_pos rfl] at h
  clear hm
  go_wp2_with fail
  refine HCALL.out.mono ?_
  rintro e w3 ⟨rfl, hb3⟩
  have hm3 := (hb3.block _ (lt_of_get hbm)).trans hbm
  have HB3 := Aside0.mk (below_step HB2.out hb3)
  clear x0 x1 x2 hbm hb3
  have x0 : w3.cell? ⟨w.heap.size, 0, none⟩ = some (.int .i64 a0_0) := (blk_cell hm3 0).trans rfl
  have x1 : w3.cell? ⟨w.heap.size, 1, none⟩ = some (.int .i64 a0_1) := (blk_cell hm3 1).trans rfl
  have x2 : w3.cell? ⟨w.heap.size, 2, none⟩ = some (.slice A0_2 l0_2.length c0_2) := (blk_cell hm3 2).trans rfl
  obtain ⟨e0, e1, e2, e3, hl⟩ := HL.out
  by_cases hi : 0 ≤ a1 ∧ a1 < a0_0
  ·rw [if_pos hi] at h
   simp only [Option.some.injEq, Prod.mk.injEq] at h
   obtain ⟨rfl, rfl⟩ := h
   obtain ⟨i, rfl⟩ := Int.eq_ofNat_of_zero_le hi.1
   obtain ⟨rows, rfl⟩ := Int.eq_ofNat_of_zero_le e0
   obtain ⟨cols, rfl⟩ := Int.eq_ofNat_of_zero_le e2
   rw [Int.toNat_natCast, Int.toNat_natCast] at hl
   have hir : i < rows := by omega
   have hr64 : rows ≤ 64 := by omega
   have hc64 : cols ≤ 64 := by omega
   have c1 : decide ((i : Int) < 0) = false := decide_eq_false (by omega)
   have c2 : decide ((rows : Int) ≤ (i : Int)) = false := decide_eq_false (by omega)
   have c3 : decide (rows ≤ i) = false := decide_eq_false (by omega)
   obtain ⟨f, hf⟩ : ∃ f : Nat, f = i * cols := ⟨_, rfl⟩
   obtain ⟨f2, hf2⟩ : ∃ f2 : Nat, f2 = (i + 1) * cols := ⟨_, rfl⟩
   have hf3 : f2 = f + cols := by rw [hf2, hf, Nat.add_mul, Nat.one_mul]
   have hfl : f2 ≤ l0_2.length := by rw [hf2, hl]; exact Nat.mul_le_mul_right _ hir
   have hseg : rowSeg (cols : Int) l0_2 (i : Int) = (l0_2.drop f).take cols := by unfold rowSeg; rw [Int.toNat_natCast, Int.toNat_natCast, hf]
   have hsl : ((l0_2.drop f).take cols).length = cols := by rw [List.length_take, List.length_drop]; omega
   have HRW := Aside0.mk (fun W => matrix_row.calls (rows : Int) cols i l0_2.length c0_2 f f2 A0_2 W hf hf2 (Nat.le_trans hfl HC.out) (by omega) hc64)
   have HSEG := Aside0.mk (C_seg HR.out hf3 hfl)
   rw [hsl] at HSEG
   have HSG := Aside0.mk hseg
   have HSL := Aside0.mk hsl
   have hcs : cols ≤ 1000000 := by omega
   generalize (if f2 = f then A0_2 else A0_2.map (·.add f)) = dp at HRW HSEG
   generalize (l0_2.drop f).take cols = seg at HSEG HSL HSG
   clear hf hf2 hf3 hfl hl hi e0 e1 e2 e3 hseg hsl hir hr64 hc64
   go_wp2_with fail
   refine (HRW.out _).mono ?_
   rintro e w4 ⟨rfl, hb4⟩
   have HB4 := Aside0.mk (below_step HB3.out hb4)
   clear x0 x1 x2 hm3 hb4
   go_wp2_with fail
   have hcl := HSL.out
   have HCL := Aside0.mk (bytes_Clone.calls dp cols seg w4 (by rw [hcl]; exact Kd.C_below HSEG.out HB4.out) (Nat.le_of_eq hcl) (by rw [hcl]; exact hcs))
   rw [hcl] at HCL
   clear hcl
   refine HCL.out.mono ?_
   rintro e w5 ⟨v, rfl, hq⟩
   have HQ := Aside0.mk (Kd.R_lower hq.out.1 HB4.out.size)
   have HB5 := Aside0.mk (below_step HB4.out hq.out.2)
   clear hq
   go_wp2_with fail
   go_ret2
   exact ⟨_, rfl, by rw [HSG.out]; exact HQ.out, HB5.out⟩
  ·rw [if_neg hi] at h
   simp only [Option.some.injEq, Prod.mk.injEq] at h
   obtain ⟨rfl, rfl⟩ := h
   clear e0 e1 e2 e3 hl
   by_cases h1 : a1 < 0
   ·have c1 : decide (a1 < 0) = true := decide_eq_true h1
    clear hi h1
    go_wp2_with fail
    go_ret2
    exact ⟨_, rfl, Kd.R_nil _ _ _ _ _, HB3.out⟩
   ·have c1 : decide (a1 < 0) = false := decide_eq_false h1
    have c2 : decide (a0_0 ≤ a1) = true := decide_eq_true (by omega)
    clear hi h1
    go_wp2_with fail
    go_ret2
    exact ⟨_, rfl, Kd.R_nil _ _ _ _ _, HB3.out⟩


end Go.Proofs.YthjncmdlhmppiaaDoor.Q
