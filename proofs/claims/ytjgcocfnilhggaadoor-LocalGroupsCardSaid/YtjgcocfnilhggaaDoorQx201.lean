/- Written by drive.py (a program of this repo, over the kit's print): each Go function named here answers what the Lean function beside it answers, wherever that one answers, in every world that meets the stated premises. -/
import Derived.Test.YtjgcocfnilhggaaDoorQx0
import Derived.Test.YtjgcocfnilhggaaDoorQx169
import Derived.Test.YtjgcocfnilhggaaDoorQx190
namespace Go.Proofs.YtjgcocfnilhggaaDoor.Q
open Go.RowKit Go.Proofs.YtjgcocfnilhggaaDoorW.PrintWords Go.Proofs.YtjgcocfnilhggaaDoorW.PrintLast Go.Proofs.YtjgcocfnilhggaaDoorW.PrintMore
attribute [local go_sem] max2_int min2_int max_two min_two max_three min_three max_four min_four   -- for this text's walks alone
set_option linter.unusedVariables false
set_option linter.unusedSimpArgs false

/-! ### shape_rows_row: function 101 -/
/-! a row's place in a matrix's data -/
theorem C_seg {w : World} {A : Option Addr} {l : List Int} {f f2 cols : Nat} (h : Kd.C (Kd.int .u8) w A l.length l) (h2 : f2 = f + cols) (hfit : f2 ≤ l.length) : Kd.C (Kd.int .u8) w (if f2 = f then A else A.map (·.add f)) ((l.drop f).take cols).length ((l.drop f).take cols) := by
 have hr := Kd.reads_of_C (enc := Value.int .u8) (d := (0 : Int)) (h1 := fun _ => rfl) h
 have hl : ((l.drop f).take cols).length = cols := by rw [List.length_take, List.length_drop]; omega
 refine Kd.C_of_reads (enc := Value.int .u8) (d := (0 : Int)) (h1 := fun _ => rfl) ⟨rfl, by rw [hl]; have := hr.2.1; omega, fun hn => ?_⟩
 rw [hl] at hn ⊢
 obtain ⟨ad, e, hc⟩ := hr.2.2 (by omega)
 rw [if_neg (by omega), e]
 refine ⟨ad.add f, rfl, fun j hj => ?_⟩
 rw [Addr.add_add, hc (f + j) (by omega)]
 congr 2
 rw [List.getD_eq_getElem?_getD, List.getD_eq_getElem?_getD, List.getElem?_take_of_lt hj, List.getElem?_drop]
def rowSeg (b : Int) (l : List Int) (i : Int) : List Int := (l.drop (i.toNat * b.toNat)).take b.toNat

/-! (shape.rows).row: a row of a right matrix, where it lies -/
def shape_rows_row.f (a b : Int) (l : List Int) (i : Int) : Option (List Int) := if 0 ≤ i ∧ i < a ∧ a ≤ 64 ∧ 0 ≤ b ∧ b ≤ 64 ∧ l.length = a.toNat * b.toNat then some (rowSeg b l i) else none
set_option maxHeartbeats 4000000 in
set_option maxRecDepth 100000 in
theorem shape_rows_row.goes (ra : Int) (cols i n c f f2 : Nat) (A : Option Addr) (w : World) (hf : f = i * cols) (hf2 : f2 = (i + 1) * cols) (hc : f2 ≤ c) (hi : i ≤ 64) (h64 : cols ≤ 64) :
  Calls Tryd.prog 101 #[.agg #[.int .i64 ra, .int .i64 cols, .slice A n c], .int .i64 i] w fun e w' => e = .returned (.slice (if f2 = f then A else A.map (·.add f)) cols cols) ∧ Below w.heap.size w w' := by
 have hu24 := Tryd.underlying24
 have hu99 := Tryd.underlying99
 have hff : f2 = f + cols := by rw [hf2, hf, Nat.add_mul, Nat.one_mul]
 have hfs : f ≤ 4096 := by rw [hf]; exact Nat.mul_le_mul hi h64
 have m1 := mul_small hf (by clear hf hf2; omega)
 have m2 := mul_small hf2 (by clear hf hf2 m1; omega)
 clear hf hf2
 obtain ⟨w1b, w1a⟩ := m1
 obtain ⟨w2b, w2a⟩ := m2
 rw [show ((i + 1 : Nat) : Int) = (i : Int) + 1 from by omega] at w2a w2b
 have HFF := Aside0.mk hff
 have hf12 : (f : Int) ≤ (f2 : Int) := by clear w1a w1b w2a w2b; omega
 have hf2c : (f2 : Int) ≤ (c : Int) := by clear w1a w1b w2a w2b; omega
 have hfi : (0 : Int) ≤ (f : Int) := by clear w1a w1b w2a w2b; omega
 have w3a : IntKind.i64.wrap ((i : Int) + 1) = (i : Int) + 1 := by clear w1a w1b w2a w2b; exact iwrap_small (by omega) (by omega)
 have w3b : wrap64 ((i : Int) + 1) = (i : Int) + 1 := by clear w1a w1b w2a w2b; unfold wrap64; omega
 clear hff
 go_enter Tryd.func101, Tryd.ntmps101
 go_upto_region 1 with (fail)
 have hb1 := below_alloc (Below.refl w.heap.size w) (.cells #[.int .i64 ra, .int .i64 cols, .slice A n c] 99)
 have hk1 := blk_new w (.cells #[.int .i64 ra, .int .i64 cols, .slice A n c] 99)
 generalize w.alloc (.cells #[.int .i64 ra, .int .i64 cols, .slice A n c] 99) = w1 at *
 have z1 : w1.cell? ⟨w.heap.size, 1, none⟩ = some (.int .i64 cols) := (blk_cell hk1 1).trans rfl
 have z2 : w1.cell? ⟨w.heap.size, 2, none⟩ = some (.slice A n c) := (blk_cell hk1 2).trans rfl
 have hsub : f2 - f = cols := by have := HFF.out; omega
 go_wp2_with fail
 all_goals
  go_ret
  exact ⟨rfl, hb1⟩
theorem shape_rows_row.calls (a b : Int) (A : Option Addr) (c : Nat) (l : List Int) (i : Int) (r : List Int) (w : World) (hr : Kd.C (Kd.int .u8) w A l.length l) (hc : l.length ≤ c) (h : shape_rows_row.f a b l i = some r) :
  Calls Tryd.prog 101 #[.agg #[.int .i64 a, .int .i64 b, .slice A l.length c], .int .i64 i] w fun e w' => ∃ (A2 : Option Addr) (c2 : Nat), e = .returned (.slice A2 r.length c2) ∧ Kd.C (Kd.int .u8) w' A2 r.length r ∧ r.length ≤ c2 ∧ Below w.heap.size w w' := by
 unfold shape_rows_row.f at h
 by_cases hg : 0 ≤ i ∧ i < a ∧ a ≤ 64 ∧ 0 ≤ b ∧ b ≤ 64 ∧ l.length = a.toNat * b.toNat
 ·rw [if_pos hg] at h
  obtain rfl := Option.some.inj h
  obtain ⟨h0, h1, h2, h3, h4, h5⟩ := hg
  obtain ⟨i, rfl⟩ := Int.eq_ofNat_of_zero_le h0
  obtain ⟨b, rfl⟩ := Int.eq_ofNat_of_zero_le h3
  obtain ⟨f, hf⟩ : ∃ f : Nat, f = i * b := ⟨_, rfl⟩
  obtain ⟨f2, hf2⟩ : ∃ f2 : Nat, f2 = (i + 1) * b := ⟨_, rfl⟩
  have hf3 : f2 = f + b := by rw [hf2, hf, Nat.add_mul, Nat.one_mul]
  have hfl : f2 ≤ l.length := by rw [hf2, h5, Int.toNat_natCast]; exact Nat.mul_le_mul_right _ (by omega)
  have hsg := C_seg hr hf3 hfl
  have hseg : rowSeg (b : Int) l (i : Int) = (l.drop f).take b := by unfold rowSeg; rw [Int.toNat_natCast, Int.toNat_natCast, hf]
  have hsl : ((l.drop f).take b).length = b := by rw [List.length_take, List.length_drop]; omega
  rw [hseg]
  refine (shape_rows_row.goes a b i l.length c f f2 A w hf hf2 (Nat.le_trans hfl hc) (by omega) (by omega)).mono ?_
  rintro e w' ⟨rfl, hb⟩
  exact ⟨_, b, by rw [hsl], Kd.C_below hsg hb, by rw [hsl]; exact Nat.le_refl _, hb⟩
 ·rw [if_neg hg] at h
  cases h


end Go.Proofs.YtjgcocfnilhggaaDoor.Q
