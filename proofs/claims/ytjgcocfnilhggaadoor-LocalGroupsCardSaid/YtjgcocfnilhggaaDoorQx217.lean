/- Written by drive.py (a program of this repo, over the kit's print): each Go function named here answers what the Lean function beside it answers, wherever that one answers, in every world that meets the stated premises. -/
import Derived.Test.YtjgcocfnilhggaaDoorQx0
import Derived.Test.YtjgcocfnilhggaaDoorQx220
namespace Go.Proofs.YtjgcocfnilhggaaDoor.Q
open Go.RowKit Go.Proofs.YtjgcocfnilhggaaDoorW.PrintWords Go.Proofs.YtjgcocfnilhggaaDoorW.PrintLast Go.Proofs.YtjgcocfnilhggaaDoorW.PrintMore
attribute [local go_sem] max2_int min2_int max_two min_two max_three min_three max_four min_four   -- for this text's walks alone
set_option linter.unusedVariables false
set_option linter.unusedSimpArgs false

/-! ### field_Pow: function 117 -/
def field_build.dbl (a : Int) : Int := (field_double.f a).getD 0
/-- The tables behind n rounds: the powers, the exponents, the next power. -/
def field_build.st : Nat → List Int × List Int × Int
 | 0 => (List.replicate 510 0, List.replicate 256 0, 1)
 | n + 1 => let s := field_build.st n; ((s.1.set n s.2.2).set (n + 255) s.2.2, s.2.1.set s.2.2.toNat n, field_build.dbl s.2.2)
/-- The tables' cells. -/
def field_build.cells (e l : List Int) : Array Value := (nums .u8 e ++ nums .i64 l).toArray
def field_build.T : Array Value := field_build.cells (field_build.st 255).1 (field_build.st 255).2.1
theorem field_build.st_length (n : Nat) : (field_build.st n).1.length = 510 ∧ (field_build.st n).2.1.length = 256 := by
 induction n with
 | zero => exact ⟨List.length_replicate, List.length_replicate⟩
 | succ n ih =>
  unfold field_build.st
  simp only [List.length_set]
  exact ih
def field_build.elsB : Nat → Int → Bool
 | 0, _ => true
 | n + 1, a => decide (0 ≤ a) && decide (a < 256) && field_build.elsB n (field_build.dbl a)
theorem field_build.els_ok : field_build.elsB 256 1 = true := by decide +kernel
theorem field_build.elsB_at : ∀ (n : Nat) (k : Nat), n < k → field_build.elsB (k - n) (field_build.st n).2.2 = true → 0 ≤ (field_build.st n).2.2 ∧ (field_build.st n).2.2 < 256 ∧ field_build.elsB (k - (n + 1)) (field_build.st (n + 1)).2.2 = true := by
 intro n k hk h
 obtain ⟨j, hj⟩ : ∃ j, k - n = j + 1 := ⟨k - n - 1, by omega⟩
 rw [hj] at h
 simp only [field_build.elsB, Bool.and_eq_true, decide_eq_true_eq] at h
 refine ⟨h.1.1, h.1.2, ?_⟩
 rw [show k - (n + 1) = j from by omega]
 exact h.2
theorem field_build.elsB_all : ∀ n, n ≤ 255 → field_build.elsB (256 - n) (field_build.st n).2.2 = true
 | 0, _ => field_build.els_ok
 | n + 1, h => (field_build.elsB_at n 256 (by omega) (field_build.elsB_all n (by omega))).2.2
theorem field_build.el_range (n : Nat) (h : n ≤ 255) : 0 ≤ (field_build.st n).2.2 ∧ (field_build.st n).2.2 < 256 :=
 ⟨(field_build.elsB_at n 256 (by omega) (field_build.elsB_all n h)).1, (field_build.elsB_at n 256 (by omega) (field_build.elsB_all n h)).2.1⟩
theorem field_build.cells_size (e l : List Int) : (field_build.cells e l).size = e.length + l.length := by simp [field_build.cells, nums]
theorem field_build.cell_exp {e l : List Int} {j : Nat} (h : j < e.length) : (field_build.cells e l)[j]? = some (.int .u8 (e.getD j 0)) := by
 simp [field_build.cells, nums, List.getElem?_append_left, h, List.getD_eq_getElem?_getD]
theorem field_build.cell_log {e l : List Int} {j : Nat} (h : j < l.length) : (field_build.cells e l)[e.length + j]? = some (.int .i64 (l.getD j 0)) := by
 simp [field_build.cells, nums, h, List.getD_eq_getElem?_getD]
theorem field_build.set_exp {e l : List Int} {j : Nat} (h : j < e.length) (x : Int) : (field_build.cells e l).setIfInBounds j (.int .u8 x) = field_build.cells (e.set j x) l := by
 simp only [field_build.cells, nums, List.setIfInBounds_toArray]
 rw [List.set_append_left _ _ (by simpa using h), List.map_set]
theorem field_build.set_log {e l : List Int} {j : Nat} (x : Int) : (field_build.cells e l).setIfInBounds (e.length + j) (.int .i64 x) = field_build.cells e (l.set j x) := by
 simp only [field_build.cells, nums, List.setIfInBounds_toArray]
 rw [List.set_append_right _ _ (by simp), List.map_set]
 simp
theorem field_build.one (e l : List Int) : (field_build.cells e l).all (·.oneCell') = true := by
 rw [Array.all_eq_true_iff_forall_mem]
 intro x hx
 simp only [field_build.cells, nums, List.mem_toArray, List.mem_append, List.mem_map] at hx
 rcases hx with ⟨y, _, rfl⟩ | ⟨y, _, rfl⟩ <;> rfl
def field_build.Z : Array Value := field_build.cells (List.replicate 510 0) (List.replicate 256 0)
theorem field_build.zero (w : World) : (zeroValue 156).run Tryd.prog w = .ok (.agg field_build.Z) w := by kernel_rfl
theorem field_build.info : (Tryd.prog.info? 156).map (·.size) = some 766 := by kernel_rfl
theorem field_build.T_size : field_build.T.size = 766 := by
 obtain ⟨h1, h2⟩ := field_build.st_length 255
 unfold field_build.T
 rw [field_build.cells_size, h1, h2]
theorem field_build.infoT : (Tryd.prog.info? 156).map (·.size) = some field_build.T.size := by rw [field_build.T_size]; exact field_build.info
theorem field_build.oneT : field_build.T.all (·.oneCell') = true := field_build.one _ _
theorem field_build.sizeZ : field_build.Z.size = field_build.T.size := by
 unfold field_build.Z
 rw [field_build.T_size, field_build.cells_size, List.length_replicate, List.length_replicate]
theorem field_build.dbl_call {a : Int} : field_double.f a = some (field_build.dbl a) := by
 unfold field_build.dbl field_double.f
 split <;> rfl
set_option maxHeartbeats 2000000 in
set_option maxRecDepth 100000 in
theorem field_build.calls (w : World) : Calls Tryd.prog 118 #[] w fun e w' => e = .returned (.agg field_build.T) ∧ Below w.heap.size w w' := by
 have hz := field_build.zero
 go_enter Tryd.func118, Tryd.ntmps118
 go_wp2_with fail
 go_loopw [2, 4] (fun v2 v4 wr => ∃ n : Nat, n ≤ 255 ∧ v4 = .int .i64 n ∧ v2 = .int .u8 (field_build.st n).2.2 ∧ Aside0 (wr.heap[w.heap.size + 1]? = some (.cells (field_build.cells (field_build.st n).1 (field_build.st n).2.1) 156 (0, 0))) ∧ Aside0 (wr.heap[w.heap.size]? = some (.cells field_build.Z 156 (0, 0))) ∧ Aside0 (Below w.heap.size w wr)) (fun _ v _ => 255 - (intOf v).toNat)
 case atStart =>
  refine ⟨0, by omega, rfl, rfl, ⟨?_⟩, ⟨?_⟩, ⟨below_alloc (below_alloc (Below.refl _ _) _) _⟩⟩
  ·exact (heap_alloc2_new w _ _).trans rfl
  ·exact heap_alloc2_old w _ _
 case round =>
  obtain ⟨n, hn, rfl, rfl, HT, HR, HB⟩ := hrel
  obtain ⟨l1, l2⟩ := field_build.st_length n
  by_cases hlt : n < 255
  ·obtain ⟨r0, r1⟩ := field_build.el_range n hn
   obtain ⟨a, ha⟩ : ∃ a, a = (field_build.st n).2.2 := ⟨_, rfl⟩
   obtain ⟨e, he⟩ : ∃ e, e = (field_build.st n).1 := ⟨_, rfl⟩
   obtain ⟨l, hl⟩ : ∃ l, l = (field_build.st n).2.1 := ⟨_, rfl⟩
   rw [← he, ← hl] at HT
   rw [← ha] at r0 r1 ⊢
   rw [← he] at l1
   rw [← hl] at l2
   have HA := Aside0.mk ha
   have HE := Aside0.mk he
   have HL := Aside0.mk hl
   clear ha he hl
   have hc1 := (blk_cell HT.out n).trans (field_build.cell_exp (by omega))
   have hc2 := (blk_cell HT.out (n + 255)).trans (field_build.cell_exp (by omega))
   have hc3 : wr.cell? ⟨w.heap.size + 1, 510 + a.toNat, none⟩ = some (.int .i64 (l.getD a.toNat 0)) := by
    rw [blk_cell HT.out, ← l1]
    exact field_build.cell_log (by omega)
   have hf1 := blk_frozen HT.out n
   have hf2 := blk_frozen HT.out (n + 255)
   have hf3 := blk_frozen HT.out (510 + a.toNat)
   have q1 : (n + 255 = 510 + a.toNat) = False := by simp; omega
   have q2 : (n = 510 + a.toNat) = False := by simp; omega
   have q3 : (510 + a.toNat = n + 255) = False := by simp; omega
   have q4 : (510 + a.toNat = n) = False := by simp; omega
   have L1 := Aside0.mk l1
   have L2 := Aside0.mk l2
   clear l1 l2
   go_wp2_with (go_at_call 120; refine (field_double.calls a (field_build.dbl a) _ field_build.dbl_call).mono ?_; rintro e' w' ⟨rfl, ⟨nd, rfl⟩⟩)
   go_roundw
   case rel =>
    refine ⟨n + 1, by omega, by go_num, ?_, ⟨?_⟩, ⟨?_⟩, ⟨?_⟩⟩
    ·rw [HA.out]; rfl
    ·have s1 := blk_set HT.out n (.int .u8 a)
     have s2 := blk_set s1 (n + 255) (.int .u8 a)
     have s3 := blk_set s2 (510 + a.toNat) (.int .i64 n)
     refine (blk_drewN s3 _).trans ?_
     rw [field_build.set_exp (by rw [L1.out]; omega), field_build.set_exp (by rw [List.length_set, L1.out]; omega), ← L1.out]
     have s4 := field_build.set_log (e := (e.set n a).set (n + 255) a) (l := l) (j := a.toNat) (n : Int)
     simp only [List.length_set] at s4
     rw [s4, HA.out, HE.out, HL.out]
     rfl
    ·exact blk_drewN (blk_far (blk_far (blk_far HR.out (by simp) _) (by simp) _) (by simp) _) _
    ·exact pw_below_drewN (((HB.out.setCell (by simp) _).setCell (by simp) _).setCell (by simp) _) _
   case measure => simp [intOf]; omega
  ·have hT : wr.heap[w.heap.size + 1]? = some (.cells field_build.T 156 (0, 0)) := by
    have h := HT.out
    rw [show n = 255 from by omega] at h
    exact h
   have HT2 := Aside0.mk hT
   clear hT HT l1 l2
   generalize (field_build.st n).2.2 = a
   go_wp2_with (first | (with_reducible refine wpList_load_row rfl 156 (.tmp 1) rfl (w.heap.size + 1) rfl 156 field_build.T (0, 0) _ HT2.out Tryd.underlying156 rfl field_build.infoT ?_) | (with_reducible refine wpList_store_row rfl 156 (.tmp 0) (.tmp 23) rfl w.heap.size field_build.T rfl rfl 156 _ HR.out field_build.infoT field_build.sizeZ field_build.oneT ?_))
   exact bodyPost_ret (v := .agg field_build.T) (results_cell_row rfl _ _ w.heap.size 156 field_build.T (0, 0) _ rfl (setRow_heap _ _ _ _ _ _ HR.out) Tryd.underlying156 rfl field_build.infoT) rfl ⟨rfl, below_setRow HB.out (Nat.le_refl _) _⟩

/-! ### a product by the tables -/
def field_build.logB (l : List Int) : Bool := l.all fun x => decide (0 ≤ x) && decide (x < 255)
theorem field_build.log_ok : field_build.logB (field_build.st 255).2.1 = true := by decide +kernel
def field_build.exp (i : Nat) : Int := (field_build.st 255).1.getD i 0
def field_build.log (i : Nat) : Int := (field_build.st 255).2.1.getD i 0
theorem field_build.log_range {i : Nat} (h : i < 256) : 0 ≤ field_build.log i ∧ field_build.log i < 255 := by
 have hl := (field_build.st_length 255).2
 have h1 := List.all_eq_true.1 field_build.log_ok ((field_build.st 255).2.1[i]'(by omega)) (List.getElem_mem _)
 unfold field_build.log
 rw [List.getD_eq_getElem?_getD, List.getElem?_eq_getElem (by omega)]
 simpa using h1
theorem field_build.cellE {W : World} {g : Nat} (h : W.heap[g]? = some (.cells field_build.T 156 (0, 0))) {j : Nat} (hj : j < 510) : W.cell? ⟨g, j, none⟩ = some (.int .u8 (field_build.exp j)) := by
 rw [blk_cell h]
 exact field_build.cell_exp (by rw [(field_build.st_length 255).1]; exact hj)
theorem field_build.cellL {W : World} {g : Nat} (h : W.heap[g]? = some (.cells field_build.T 156 (0, 0))) {j : Nat} (hj : j < 256) : W.cell? ⟨g, 510 + j, none⟩ = some (.int .i64 (field_build.log j)) := by
 rw [blk_cell h]
 have h1 := field_build.cell_log (e := (field_build.st 255).1) (l := (field_build.st 255).2.1) (j := j) (by rw [(field_build.st_length 255).2]; exact hj)
 rw [(field_build.st_length 255).1] at h1
 exact h1
/-! ### powers -/
def field_Pow.f (a n : Int) : Option (Int × Int) :=
 if n = 0 then some (1, 0) else if a = 0 then (if n < 0 then some (0, 5) else some (0, 0))
 else if 0 ≤ a ∧ a < 256 then (field_bounded.f n).bind fun b => if 0 ≤ b ∧ b < 255 then some (field_build.exp ((field_build.log a.toNat * b) % 255).toNat, 0) else none else none
set_option maxHeartbeats 2000000 in
set_option maxRecDepth 100000 in
theorem field_Pow.calls (a0 a1 : Int) (r1 r2 : Int) (w : World) (h : field_Pow.f a0 a1 = some (r1, r2)) :
  Calls Tryd.prog 117 #[.int .u8 a0, .int .i64 a1] w fun e w' => e = .returned (.tuple #[.int .u8 r1, .int .i64 r2]) ∧ Below w.heap.size w w' := by
 unfold field_Pow.f at h
 by_cases h1 : a1 = 0
 ·rw [if_pos h1] at h
  obtain ⟨rfl, rfl⟩ := Prod.mk.inj (Option.some.inj h)
  have c1 : (a1 == 0) = true := beq_iff_eq.mpr h1
  clear h1 h
  go_enter Tryd.func117, Tryd.ntmps117
  go_wp2
  go_ret2
  exact ⟨rfl, Below.refl _ _⟩
 ·rw [if_neg h1] at h
  have c1 : (a1 == 0) = false := beq_eq_false_iff_ne.mpr h1
  clear h1
  by_cases h2 : a0 = 0
  ·rw [if_pos h2] at h
   have c2 : (a0 == 0) = true := beq_iff_eq.mpr h2
   clear h2
   by_cases h3 : a1 < 0
   ·rw [if_pos h3] at h
    obtain ⟨rfl, rfl⟩ := Prod.mk.inj (Option.some.inj h)
    clear h
    go_enter Tryd.func117, Tryd.ntmps117
    go_wp2
    go_ret2
    exact ⟨rfl, Below.refl _ _⟩
   ·rw [if_neg h3] at h
    obtain ⟨rfl, rfl⟩ := Prod.mk.inj (Option.some.inj h)
    clear h
    go_enter Tryd.func117, Tryd.ntmps117
    go_wp2
    go_ret2
    exact ⟨rfl, Below.refl _ _⟩
  ·rw [if_neg h2] at h
   have c2 : (a0 == 0) = false := beq_eq_false_iff_ne.mpr h2
   clear h2
   by_cases h3 : 0 ≤ a0 ∧ a0 < 256
   ·rw [if_pos h3] at h
    obtain ⟨b, hb, h⟩ := Option.bind_eq_some_iff.mp h
    by_cases h4 : 0 ≤ b ∧ b < 255
    ·rw [if_pos h4] at h
     obtain ⟨h5, h6⟩ := Prod.mk.inj (Option.some.inj h)
     obtain ⟨a00, a01⟩ := h3
     obtain ⟨b0, b1⟩ := h4
     have HBd := Aside0.mk hb
     have H5 := Aside0.mk h5
     subst h6
     clear hb h h5
     obtain ⟨x0, x1⟩ := field_build.log_range (i := a0.toNat) (by omega)
     have hlog : ∀ W : World, ∀ g, W.heap[g]? = some (.cells field_build.T 156 (0, 0)) → W.cell? ⟨g, 510 + a0.toNat, none⟩ = some (.int .i64 (field_build.log a0.toNat)) := fun W g hW => field_build.cellL hW (by omega)
     have hexp : ∀ W : World, ∀ g, W.heap[g]? = some (.cells field_build.T 156 (0, 0)) → W.cell? ⟨g, ((field_build.log a0.toNat * b) % 255).toNat, none⟩ = some (.int .u8 (field_build.exp ((field_build.log a0.toNat * b) % 255).toNat)) := fun W g hW => field_build.cellE hW (by omega)
     have HLG := Aside0.mk hlog
     have HEX := Aside0.mk hexp
     clear hlog hexp
     generalize field_build.log a0.toNat = x at *
     have m0 : 0 ≤ x * b := Int.mul_nonneg x0 b0
     have m1 : x * b ≤ 254 * 254 := Int.mul_le_mul (by omega) (by omega) b0 (by omega)
     have e1 : IntKind.i64.wrap (x * b) = x * b := by rw [i64_w]; unfold wrap64; omega
     obtain ⟨q, hq⟩ : ∃ q : Int, q = x * b % 255 := ⟨_, rfl⟩
     have e2 : Int.tmod (x * b) 255 = q := by rw [hq]; exact Int.tmod_eq_emod_of_nonneg m0
     have q0 : 0 ≤ q := by omega
     have q1 : q < 255 := by omega
     have e3 : IntKind.i64.wrap q = q := by rw [i64_w]; unfold wrap64; omega
     rw [← hq] at HEX H5
     clear hq m0 m1
     have hz := field_build.zero
     go_enter Tryd.func117, Tryd.ntmps117
     go_wp2_with (first | (go_at_call 118; refine (field_build.calls _).mono ?_; rintro e w1 ⟨rfl, hb1⟩; have HB1 := Aside0.mk hb1; clear hb1) | (with_reducible refine wpList_store_row rfl 156 (.tmp 6) (.tmp 20) rfl w1.heap.size field_build.T rfl rfl 156 _ (blk_new _ _) field_build.infoT field_build.sizeZ field_build.oneT ?_; rw [World.setRow_alloc_new]; have hc1 := HLG.out _ _ (blk_new w1 (.cells field_build.T 156)); have hc2 := HEX.out _ _ (blk_new w1 (.cells field_build.T 156))))
     simp only [Act.put, List.setIfInBounds_toArray, List.set_cons_succ, List.set_cons_zero]
     go_quiet ((go_at_call 122; exact Calls.quiet_of ((field_bounded.calls a1 b _ HBd.out).mono (fun _ _ h => ⟨h.1, h.2.out⟩))))
     go_wp2
     go_ret2
     exact ⟨by rw [← H5.out]; rfl, by repeat (first | exact HB1.out | apply pw_below_drewN | apply below_alloc)⟩
    ·rw [if_neg h4] at h
     cases h
   ·rw [if_neg h3] at h
    cases h



end Go.Proofs.YtjgcocfnilhggaaDoor.Q
