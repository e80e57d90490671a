/- Written by drive.py (a program of this repo, over the kit's print): each Go function named here answers what the Lean function beside it answers, wherever that one answers, in every world that meets the stated premises. -/
import Derived.Test.YtjgcocfnilhggaaDoorQx0
import Derived.Test.YtjgcocfnilhggaaDoorQx217
namespace Go.Proofs.YtjgcocfnilhggaaDoor.Q
open Go.RowKit Go.Proofs.YtjgcocfnilhggaaDoorW.PrintWords Go.Proofs.YtjgcocfnilhggaaDoorW.PrintLast Go.Proofs.YtjgcocfnilhggaaDoorW.PrintMore
attribute [local go_sem] max2_int min2_int max_two min_two max_three min_three max_four min_four   -- for this text's walks alone
set_option linter.unusedVariables false
set_option linter.unusedSimpArgs false

/-! ### field_Inv: function 108 -/
def field_Inv.f (a0 : Int) : Option (Int × Int) := (field_Pow.f a0 (-1)).bind fun bt114 => (some (bt114.1, bt114.2))
set_option maxHeartbeats 8000000 in
set_option maxRecDepth 100000 in
theorem field_Inv.calls (a0 : Int) (r1 : Int) (r2 : Int) (w : World) (h : field_Inv.f a0 = some (r1, r2)) :
  Calls Tryd.prog 108 #[.int .u8 a0] w fun e w' => e = .returned (.tuple #[.int .u8 r1, .int .i64 r2]) ∧ Below w.heap.size w w' := by
 have HB := Aside0.mk (Below.refl w.heap.size w)
 have H : ((field_Pow.f a0 (-1)).bind fun bt114 => (some (bt114.1, bt114.2))) = some (r1, r2) := h
 clear h
 obtain ⟨⟨t114, t115⟩, A2, H⟩ := bindO H
 (try dsimp only at H)
 simp only [Option.some.injEq, Prod.mk.injEq] at H
 obtain ⟨rfl, rfl⟩ := H
 go_enter Tryd.func108, Tryd.ntmps108
 go_wp2_with (first | ((with_reducible refine gC 117 rfl ?_); refine cG (some 5) Tryd.func117 #[.int .u8 a0, .int .i64 (-1)] ?_; (with_reducible refine (field_Pow.calls a0 (-1) t114 t115 _ A2.out).mono ?_); rintro e w3 ⟨rfl, hb⟩; refine ⟨_, rfl, ?_⟩; replace HB := hbB HB hb; (try clear hb); (try clear hb2); (try clear hk); (try clear hi)))
 go_ret2
 exact ⟨rfE, hbA HB.out⟩

/-! ### field_Scale: function 110 -/
def mulT (a b : Int) : Int := if a = 0 then 0 else if b = 0 then 0 else field_build.exp (field_build.log a.toNat + field_build.log b.toNat).toNat
set_option maxHeartbeats 2000000 in
set_option maxRecDepth 100000 in
theorem tables_mul.calls (g : Nat) (a b : Int) (w : World) (hb : w.heap[g]? = some (.cells field_build.T 156 (0, 0))) (a0 : 0 ≤ a) (a1 : a < 256) (b0 : 0 ≤ b) (b1 : b < 256) :
  Calls Tryd.prog 119 #[.pointer (some ⟨g, 0, none⟩), .int .u8 a, .int .u8 b] w fun e w' => e = .returned (.int .u8 (mulT a b)) ∧ Drawn0 w w' := by
 have HT := Aside0.mk hb
 clear hb
 by_cases h1 : a = 0
 ·have c1 : (a == 0) = true := beq_iff_eq.mpr h1
  have hfin := Aside0.mk (show mulT a b = 0 by unfold mulT; rw [if_pos h1])
  clear h1
  go_enter Tryd.func119, Tryd.ntmps119
  go_wp2
  go_ret
  exact ⟨by rw [hfin.out]; rfl, Drawn0.refl _⟩
 ·have c1 : (a == 0) = false := beq_eq_false_iff_ne.mpr h1
  by_cases h2 : b = 0
  ·have c2 : (b == 0) = true := beq_iff_eq.mpr h2
   have hfin := Aside0.mk (show mulT a b = 0 by unfold mulT; rw [if_neg h1, if_pos h2])
   clear h1 h2
   go_enter Tryd.func119, Tryd.ntmps119
   go_wp2
   go_ret
   exact ⟨by rw [hfin.out]; rfl, Drawn0.refl _⟩
  ·have c2 : (b == 0) = false := beq_eq_false_iff_ne.mpr h2
   have hfin := Aside0.mk (show mulT a b = field_build.exp (field_build.log a.toNat + field_build.log b.toNat).toNat by unfold mulT; rw [if_neg h1, if_neg h2])
   clear h1 h2
   obtain ⟨x0, x1⟩ := field_build.log_range (i := a.toNat) (by omega)
   obtain ⟨y0, y1⟩ := field_build.log_range (i := b.toNat) (by omega)
   have hc1 := field_build.cellL HT.out (j := a.toNat) (by omega)
   have hc2 := field_build.cellL HT.out (j := b.toNat) (by omega)
   have hc3 := field_build.cellE HT.out (j := (field_build.log a.toNat + field_build.log b.toNat).toNat) (by omega)
   generalize field_build.log a.toNat = x at *
   generalize field_build.log b.toNat = y at *
   go_enter Tryd.func119, Tryd.ntmps119
   go_wp2
   go_quiet (fail)
   go_wp2
   go_ret
   exact ⟨by rw [hfin.out]; rfl, by repeat (first | exact Drawn0.refl _ | apply Drawn0.step)⟩

/-! ### a row scaled -/
def bytesB (l : List Int) : Bool := l.all fun x => decide (0 ≤ x) && decide (x < 256)
theorem bytesB_at {l : List Int} (h : bytesB l = true) {i : Nat} (hi : i < l.length) : 0 ≤ l.getD i 0 ∧ l.getD i 0 < 256 := by
 have h1 := List.all_eq_true.1 h l[i] (List.getElem_mem hi)
 rw [List.getD_eq_getElem?_getD, List.getElem?_eq_getElem hi]
 simpa using h1
def field_Scale.f (c : Int) (l : List Int) : Option (List Int) := if 0 ≤ c ∧ c < 256 ∧ bytesB l = true ∧ l.length ≤ 140737488355328 then some (l.map (mulT c)) else none
/-- What is scaled up to place i, noughts behind. -/
def field_Scale.mid (c : Int) (l : List Int) (i : Nat) : List Int := (l.take i).map (mulT c) ++ List.replicate (l.length - i) 0
theorem field_Scale.mid_length (c : Int) (l : List Int) (i : Nat) (h : i ≤ l.length) : (field_Scale.mid c l i).length = l.length := by
 simp [field_Scale.mid]
 omega
theorem field_Scale.mid_set (c : Int) (l : List Int) (i : Nat) (h : i < l.length) : (field_Scale.mid c l i).set i (mulT c (l.getD i 0)) = field_Scale.mid c l (i + 1) := by
 unfold field_Scale.mid
 obtain ⟨d, hd⟩ : ∃ d, l.length - i = d + 1 := ⟨l.length - i - 1, by omega⟩
 rw [hd, List.set_append, if_neg (by simp; omega), show l.length - (i + 1) = d from by omega, List.take_succ_eq_append_getElem h, List.map_append]
 have e : i - ((l.take i).map (mulT c)).length = 0 := by simp; omega
 rw [e, List.replicate_succ, List.set_cons_zero, List.getD_eq_getElem?_getD, List.getElem?_eq_getElem h]
 simp
theorem field_Scale.info5 : (Tryd.prog.info? 5).map (fun i => (i.zero, i.size, i.bytes)) = some (some (.int .u8 0), 1, 1) := by kernel_rfl
set_option maxHeartbeats 2000000 in
set_option maxRecDepth 100000 in
theorem field_Scale.calls (a0 : Int) (A1 : Option Addr) (c1 : Nat) (l1 : List Int) (r : List Int) (w : World) (hr1 : Kd.C (Kd.int .u8) w A1 l1.length l1) (hc1 : l1.length ≤ c1) (h : field_Scale.f a0 l1 = some r) :
  Calls Tryd.prog 110 #[.int .u8 a0, .slice A1 l1.length c1] w fun e w' => ∃ v0_ : Value, e = .returned (v0_) ∧ Kd.R (Kd.int .u8) 5 w' w.heap.size (fun _ => True) v0_ r ∧ Below w.heap.size w w' := by
 unfold field_Scale.f at h
 by_cases hh : 0 ≤ a0 ∧ a0 < 256 ∧ bytesB l1 = true ∧ l1.length ≤ 140737488355328
 ·rw [if_pos hh] at h
  obtain ⟨h0, h1, hbs, hlen⟩ := hh
  have HF := Aside0.mk (Option.some.inj h)
  have HBS := Aside0.mk hbs
  have HC := Aside0.mk hr1
  clear h hbs hr1
  obtain ⟨len, hlen'⟩ : ∃ n, n = l1.length := ⟨_, rfl⟩
  rw [← hlen'] at hlen hc1 HC ⊢
  have HLN := Aside0.mk hlen'
  clear hlen'
  have hz := field_build.zero
  have hmk := print_make (P := Tryd.prog) 22 5 .u8 1 Tryd.underlying22 field_Scale.info5 (by decide) len (by omega)
  go_enter Tryd.func110, Tryd.ntmps110
  go_wp2_with (first | (go_at_call 118; refine (field_build.calls _).mono ?_; rintro e w1 ⟨rfl, hb1⟩; have HB1 := Aside0.mk hb1; clear hb1) | (with_reducible refine wpList_store_row rfl 156 (.tmp 5) (.tmp 9) rfl w1.heap.size field_build.T rfl rfl 156 _ (blk_new _ _) field_build.infoT field_build.sizeZ field_build.oneT ?_; rw [World.setRow_alloc_new]; simp only [Act.put, List.setIfInBounds_toArray, List.set_cons_succ, List.set_cons_zero]))
  have hw1 := HB1.out.size
  have hown := own_made (w1.alloc (.cells field_build.T 156)) w.heap.size 5 .u8 len (by simp; omega) (by omega)
  rw [World.size_alloc] at hown
  have hTb : ((w1.alloc (.cells field_build.T 156)).alloc (.cells (madeCells #[.int .u8 0] len) 5)).heap[w1.heap.size]? = some (.cells field_build.T 156 (0, 0)) := heap_alloc2_old w1 _ _
  have hBb : Below w.heap.size w ((w1.alloc (.cells field_build.T 156)).alloc (.cells (madeCells #[.int .u8 0] len) 5)) := below_alloc (below_alloc HB1.out _) _
  generalize (w1.alloc (.cells field_build.T 156)).alloc (.cells (madeCells #[.int .u8 0] len) 5) = W1 at *
  go_loopw [15] (fun v wr => ∃ i : Nat, i ≤ len ∧ v = .int .i64 i ∧ Aside0 (wr.ownsRow w.heap.size 5 1 (.slice (some ⟨w1.heap.size + 1, 0, none⟩) len len) len (nums .u8 (field_Scale.mid a0 l1 i))) ∧ Aside0 (wr.heap[w1.heap.size]? = some (.cells field_build.T 156 (0, 0))) ∧ Aside0 (Below w.heap.size w wr)) (fun v _ => len - (intOf v).toNat)
  case atStart =>
   refine ⟨0, by omega, rfl, ⟨?_⟩, ⟨hTb⟩, ⟨hBb⟩⟩
   have : field_Scale.mid a0 l1 0 = List.replicate len 0 := by simp [field_Scale.mid, ← HLN.out]
   rw [this]
   exact hown
  case round =>
   obtain ⟨i, hi, rfl, HO, HTB, HB⟩ := hrel
   clear hown hTb hBb
   by_cases hlt : i < len
   ·obtain ⟨ad, eA, hx0⟩ := Kd.at_int HC.out (i : Int) (by omega) (by have := HLN.out; omega)
    subst eA
    have hx1 := pw_cell_below HB.out hx0
    have hx : wr.cell? (ad.add i) = some (.int .u8 (l1.getD i 0)) := by
     rw [show l1.getD i 0 = rd l1 (i : Int) from by simp [rd]]
     simpa using hx1
    have hbi := bytesB_at HBS.out (i := i) (by have := HLN.out; omega)
    have HMS := Aside0.mk (field_Scale.mid_set a0 l1 i (by have := HLN.out; omega))
    obtain ⟨x, ex⟩ : ∃ x : Int, x = l1.getD i 0 := ⟨_, rfl⟩
    rw [← ex] at hx hbi HMS
    clear ex hx0 hx1
    obtain ⟨x0, x1⟩ := hbi
    obtain ⟨ho1, ho2⟩ := own_at HO.out (i : Int) (by omega) (by omega)
    rw [Int.toNat_natCast] at ho1 ho2
    go_wp2_with (go_at_call 119; refine (tables_mul.calls w1.heap.size a0 x _ HTB.out h0 h1 x0 x1).mono ?_; rintro e w' ⟨rfl, ⟨nd, rfl⟩⟩)
    go_roundw
    case rel =>
     refine ⟨i + 1, by omega, by go_num, ⟨?_⟩, ⟨?_⟩, ⟨?_⟩⟩
     ·have h2 := (own_store (pw_own_drewN HO.out nd) (i : Int) (mulT a0 x)).1
      rw [Int.toNat_natCast, HMS.out] at h2
      exact h2
     ·exact blk_far (blk_drewN HTB.out _) (by simp) _
     ·exact (pw_below_drewN HB.out _).setCell (by simp; omega) _
    case measure => simp [intOf]; omega
   ·obtain rfl : i = len := by omega
    have hfin : field_Scale.mid a0 l1 i = l1.map (mulT a0) := by unfold field_Scale.mid; rw [HLN.out]; simp
    go_wp2
    go_ret
    refine ⟨_, rfl, ?_, HB.out⟩
    have HO2 := HO.out
    rw [hfin, HF.out] at HO2
    have hrl : r.length = i := by rw [← HF.out, List.length_map]; exact HLN.out.symm
    refine Kd.R_of_own ?_ (fun _ _ => trivial)
    rw [hrl]
    exact HO2
 ·rw [if_neg hh] at h
  cases h


end Go.Proofs.YtjgcocfnilhggaaDoor.Q
