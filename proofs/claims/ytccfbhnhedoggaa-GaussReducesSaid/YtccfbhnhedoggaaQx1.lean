/- Written by drive.py (a program of this repo, over the kit's print): each Go function named here answers what the Lean function beside it answers, wherever that one answers, in every world that meets the stated premises. -/
import Derived.Test.YtccfbhnhedoggaaQx0
namespace Go.Proofs.Ytccfbhnhedoggaa.Q
open Go.RowKit Go.Proofs.YtccfbhnhedoggaaW.PrintWords Go.Proofs.YtccfbhnhedoggaaW.PrintLast Go.Proofs.YtccfbhnhedoggaaW.PrintMore
attribute [local go_sem] max2_int min2_int max_two min_two max_three min_three max_four min_four   -- for this text's walks alone
set_option linter.unusedVariables false
set_option linter.unusedSimpArgs false

/-! ### field_double: function 73 -/
def field_double.f (a0 : Int) : Option (Int) := if (Go.bits .and .u8 a0 128) = 0 then (some ((a0 * 2) % 256)) else (some (Go.bits .xor .u8 ((a0 * 2) % 256) 29))
set_option maxHeartbeats 8000000 in
set_option maxRecDepth 100000 in
theorem field_double.calls (a0 : Int) (r : Int) (w : World) (h : field_double.f a0 = some r) :
    Calls Try.prog 73 #[.int .u8 a0] w fun e w' => e = .returned (.int .u8 r) ∧ Drawn0 w w' := by
  have H : (if (Go.bits .and .u8 a0 128) = 0 then (some ((a0 * 2) % 256)) else (some (Go.bits .xor .u8 ((a0 * 2) % 256) 29))) = some r := h
  clear h
  by_cases c2 : (Go.bits .and .u8 a0 128) = 0
  · rw [if_pos c2] at H
    have c2b0 : ((Go.bits .and .u8 a0 128) == 0) = true := beq_iff_eq.mpr c2
    have c2b1 : ((Go.bits .and .u8 a0 128) != 0) = false := bne_eq_false_iff_eq.mpr c2
    clear c2
    obtain rfl := Option.some.inj H
    go_enter Try.func73, Try.ntmps73
    go_wp2
    go_ret
    exact ⟨by first | rfl | (simp; done) | (simp [*]; done), by repeat (first | exact Drawn0.refl _ | apply Drawn0.step)⟩
  · rw [if_neg c2] at H
    have c2b0 : ((Go.bits .and .u8 a0 128) == 0) = false := beq_eq_false_iff_ne.mpr c2
    have c2b1 : ((Go.bits .and .u8 a0 128) != 0) = true := bne_iff_ne.mpr c2
    obtain rfl := Option.some.inj H
    go_enter Try.func73, Try.ntmps73
    go_wp2
    go_ret
    exact ⟨by first | rfl | (simp; done) | (simp [*]; done), by repeat (first | exact Drawn0.refl _ | apply Drawn0.step)⟩

/-! ### field_bounded: function 72 -/
def field_bounded.f (a0 : Int) : Option (Int) := some (Int.tmod (wrap64 ((Int.tmod a0 255) + 255)) 255)
set_option maxHeartbeats 8000000 in
set_option maxRecDepth 100000 in
theorem field_bounded.calls (a0 : Int) (r : Int) (w : World) (h : field_bounded.f a0 = some r) :
    Calls Try.prog 72 #[.int .i64 a0] w fun e w' => e = .returned (.int .i64 r) ∧ Drawn0 w w' := by
  have H : (some (Int.tmod (wrap64 ((Int.tmod a0 255) + 255)) 255)) = some r := h
  clear h
  obtain rfl := Option.some.inj H
  go_enter Try.func72, Try.ntmps72
  go_wp2
  go_ret
  exact ⟨by first | rfl | (simp; done) | (simp [*]; done), by repeat (first | exact Drawn0.refl _ | apply Drawn0.step)⟩

/-! ### field_Pow: function 68 -/
def field_build.dbl (a : Int) : Int := (field_double.f a).getD 0
/-- The tables behind n rounds: the powers, the exponents, the next power. -/
def field_build.st : Nat → List Int × List Int × Int
  | 0 => (List.replicate 510 0, List.replicate 256 0, 1)
  | n + 1 => let s := field_build.st n; ((s.1.set n s.2.2).set (n + 255) s.2.2, s.2.1.set s.2.2.toNat n, field_build.dbl s.2.2)
/-- The tables' cells. -/
def field_build.cells (e l : List Int) : Array Value := (nums .u8 e ++ nums .i64 l).toArray
def field_build.T : Array Value := field_build.cells (field_build.st 255).1 (field_build.st 255).2.1
theorem field_build.st_length (n : Nat) : (field_build.st n).1.length = 510 ∧ (field_build.st n).2.1.length = 256 := by
  induction n with
  | zero => exact ⟨List.length_replicate, List.length_replicate⟩
  | succ n ih =>
    unfold field_build.st
    simp only [List.length_set]
    exact ih
def field_build.elsB : Nat → Int → Bool
  | 0, _ => true
  | n + 1, a => decide (0 ≤ a) && decide (a < 256) && field_build.elsB n (field_build.dbl a)
theorem field_build.els_ok : field_build.elsB 256 1 = true := by decide +kernel
theorem field_build.elsB_at : ∀ (n : Nat) (k : Nat), n < k → field_build.elsB (k - n) (field_build.st n).2.2 = true → 0 ≤ (field_build.st n).2.2 ∧ (field_build.st n).2.2 < 256 ∧ field_build.elsB (k - (n + 1)) (field_build.st (n + 1)).2.2 = true := by
  intro n k hk h
  obtain ⟨j, hj⟩ : ∃ j, k - n = j + 1 := ⟨k - n - 1, by omega⟩
  rw [hj] at h
  simp only [field_build.elsB, Bool.and_eq_true, decide_eq_true_eq] at h
  refine ⟨h.1.1, h.1.2, ?_⟩
  rw [show k - (n + 1) = j from by omega]
  exact h.2
theorem field_build.elsB_all : ∀ n, n ≤ 255 → field_build.elsB (256 - n) (field_build.st n).2.2 = true
  | 0, _ => field_build.els_ok
  | n + 1, h => (field_build.elsB_at n 256 (by omega) (field_build.elsB_all n (by omega))).2.2
theorem field_build.el_range (n : Nat) (h : n ≤ 255) : 0 ≤ (field_build.st n).2.2 ∧ (field_build.st n).2.2 < 256 :=
  ⟨(field_build.elsB_at n 256 (by omega) (field_build.elsB_all n h)).1, (field_build.elsB_at n 256 (by omega) (field_build.elsB_all n h)).2.1⟩
theorem field_build.cells_size (e l : List Int) : (field_build.cells e l).size = e.length + l.length := by simp [field_build.cells, nums]
theorem field_build.cell_exp {e l : List Int} {j : Nat} (h : j < e.length) : (field_build.cells e l)[j]? = some (.int .u8 (e.getD j 0)) := by
  simp [field_build.cells, nums, List.getElem?_append_left, h, List.getD_eq_getElem?_getD]
theorem field_build.cell_log {e l : List Int} {j : Nat} (h : j < l.length) : (field_build.cells e l)[e.length + j]? = some (.int .i64 (l.getD j 0)) := by
  simp [field_build.cells, nums, h, List.getD_eq_getElem?_getD]
theorem field_build.set_exp {e l : List Int} {j : Nat} (h : j < e.length) (x : Int) : (field_build.cells e l).setIfInBounds j (.int .u8 x) = field_build.cells (e.set j x) l := by
  simp only [field_build.cells, nums, List.setIfInBounds_toArray]
  rw [List.set_append_left _ _ (by simpa using h), List.map_set]
theorem field_build.set_log {e l : List Int} {j : Nat} (x : Int) : (field_build.cells e l).setIfInBounds (e.length + j) (.int .i64 x) = field_build.cells e (l.set j x) := by
  simp only [field_build.cells, nums, List.setIfInBounds_toArray]
  rw [List.set_append_right _ _ (by simp), List.map_set]
  simp
theorem field_build.one (e l : List Int) : (field_build.cells e l).all (·.oneCell') = true := by
  rw [Array.all_eq_true_iff_forall_mem]
  intro x hx
  simp only [field_build.cells, nums, List.mem_toArray, List.mem_append, List.mem_map] at hx
  rcases hx with ⟨y, _, rfl⟩ | ⟨y, _, rfl⟩ <;> rfl
def field_build.Z : Array Value := field_build.cells (List.replicate 510 0) (List.replicate 256 0)
theorem field_build.zero (w : World) : (zeroValue 97).run Try.prog w = .ok (.agg field_build.Z) w := by kernel_rfl
theorem field_build.info : (Try.prog.info? 97).map (·.size) = some 766 := by kernel_rfl
theorem field_build.T_size : field_build.T.size = 766 := by
  obtain ⟨h1, h2⟩ := field_build.st_length 255
  unfold field_build.T
  rw [field_build.cells_size, h1, h2]
theorem field_build.infoT : (Try.prog.info? 97).map (·.size) = some field_build.T.size := by rw [field_build.T_size]; exact field_build.info
theorem field_build.oneT : field_build.T.all (·.oneCell') = true := field_build.one _ _
theorem field_build.sizeZ : field_build.Z.size = field_build.T.size := by
  unfold field_build.Z
  rw [field_build.T_size, field_build.cells_size, List.length_replicate, List.length_replicate]
theorem field_build.dbl_call {a : Int} : field_double.f a = some (field_build.dbl a) := by
  unfold field_build.dbl field_double.f
  split <;> rfl
set_option maxHeartbeats 2000000 in
set_option maxRecDepth 100000 in
theorem field_build.calls (w : World) : Calls Try.prog 69 #[] w fun e w' => e = .returned (.agg field_build.T) ∧ Below w.heap.size w w' := by
  have hz := field_build.zero
  go_enter Try.func69, Try.ntmps69
  go_wp2_with fail
  go_loopw [2, 4] (fun v2 v4 wr => ∃ n : Nat, n ≤ 255 ∧ v4 = .int .i64 n ∧ v2 = .int .u8 (field_build.st n).2.2 ∧ Aside0 (wr.heap[w.heap.size + 1]? = some (.cells (field_build.cells (field_build.st n).1 (field_build.st n).2.1) 97 (0, 0))) ∧ Aside0 (wr.heap[w.heap.size]? = some (.cells field_build.Z 97 (0, 0))) ∧ Aside0 (Below w.heap.size w wr)) (fun _ v _ => 255 - (intOf v).toNat)
  case atStart =>
    refine ⟨0, by omega, rfl, rfl, ⟨?_⟩, ⟨?_⟩, ⟨below_alloc (below_alloc (Below.refl _ _) _) _⟩⟩
    · exact (heap_alloc2_new w _ _).trans rfl
    · exact heap_alloc2_old w _ _
  case round =>
    obtain ⟨n, hn, rfl, rfl, HT, HR, HB⟩ := hrel
    obtain ⟨l1, l2⟩ := field_build.st_length n
    by_cases hlt : n < 255
    · obtain ⟨r0, r1⟩ := field_build.el_range n hn
      obtain ⟨a, ha⟩ : ∃ a, a = (field_build.st n).2.2 := ⟨_, rfl⟩
      obtain ⟨e, he⟩ : ∃ e, e = (field_build.st n).1 := ⟨_, rfl⟩
      obtain ⟨l, hl⟩ : ∃ l, l = (field_build.st n).2.1 := ⟨_, rfl⟩
      rw [← he, ← hl] at HT
      rw [← ha] at r0 r1 ⊢
      rw [← he] at l1
      rw [← hl] at l2
      have HA := Aside0.mk ha
      have HE := Aside0.mk he
      have HL := Aside0.mk hl
      clear ha he hl
      have hc1 := (blk_cell HT.out n).trans (field_build.cell_exp (by omega))
      have hc2 := (blk_cell HT.out (n + 255)).trans (field_build.cell_exp (by omega))
      have hc3 : wr.cell? ⟨w.heap.size + 1, 510 + a.toNat, none⟩ = some (.int .i64 (l.getD a.toNat 0)) := by
        rw [blk_cell HT.out, ← l1]
        exact field_build.cell_log (by omega)
      have hf1 := blk_frozen HT.out n
      have hf2 := blk_frozen HT.out (n + 255)
      have hf3 := blk_frozen HT.out (510 + a.toNat)
      have q1 : (n + 255 = 510 + a.toNat) = False := by simp; omega
      have q2 : (n = 510 + a.toNat) = False := by simp; omega
      have q3 : (510 + a.toNat = n + 255) = False := by simp; omega
      have q4 : (510 + a.toNat = n) = False := by simp; omega
      have L1 := Aside0.mk l1
      have L2 := Aside0.mk l2
      clear l1 l2
      go_wp2_with (go_at_call 73; refine (field_double.calls a (field_build.dbl a) _ field_build.dbl_call).mono ?_; rintro e' w' ⟨rfl, ⟨nd, rfl⟩⟩)
      go_roundw
      case rel =>
        refine ⟨n + 1, by omega, by go_num, ?_, ⟨?_⟩, ⟨?_⟩, ⟨?_⟩⟩
        · rw [HA.out]; rfl
        · have s1 := blk_set HT.out n (.int .u8 a)
          have s2 := blk_set s1 (n + 255) (.int .u8 a)
          have s3 := blk_set s2 (510 + a.toNat) (.int .i64 n)
          refine (blk_drewN s3 _).trans ?_
          rw [field_build.set_exp (by rw [L1.out]; omega), field_build.set_exp (by rw [List.length_set, L1.out]; omega), ← L1.out]
          have s4 := field_build.set_log (e := (e.set n a).set (n + 255) a) (l := l) (j := a.toNat) (n : Int)
          simp only [List.length_set] at s4
          rw [s4, HA.out, HE.out, HL.out]
          rfl
        · exact blk_drewN (blk_far (blk_far (blk_far HR.out (by simp) _) (by simp) _) (by simp) _) _
        · exact pw_below_drewN (((HB.out.setCell (by simp) _).setCell (by simp) _).setCell (by simp) _) _
      case measure => simp [intOf]; omega
    · have hT : wr.heap[w.heap.size + 1]? = some (.cells field_build.T 97 (0, 0)) := by
        have h := HT.out
        rw [show n = 255 from by omega] at h
        exact h
      have HT2 := Aside0.mk hT
      clear hT HT l1 l2
      generalize (field_build.st n).2.2 = a
      go_wp2_with (first | (with_reducible refine wpList_load_row rfl 97 (.tmp 1) rfl (w.heap.size + 1) rfl 97 field_build.T (0, 0) _ HT2.out Try.underlying97 rfl field_build.infoT ?_) | (with_reducible refine wpList_store_row rfl 97 (.tmp 0) (.tmp 23) rfl w.heap.size field_build.T rfl rfl 97 _ HR.out field_build.infoT field_build.sizeZ field_build.oneT ?_))
      exact bodyPost_ret (v := .agg field_build.T) (results_cell_row rfl _ _ w.heap.size 97 field_build.T (0, 0) _ rfl (setRow_heap _ _ _ _ _ _ HR.out) Try.underlying97 rfl field_build.infoT) rfl ⟨rfl, below_setRow HB.out (Nat.le_refl _) _⟩

/-! ### a product by the tables -/
def field_build.logB (l : List Int) : Bool := l.all fun x => decide (0 ≤ x) && decide (x < 255)
theorem field_build.log_ok : field_build.logB (field_build.st 255).2.1 = true := by decide +kernel
def field_build.exp (i : Nat) : Int := (field_build.st 255).1.getD i 0
def field_build.log (i : Nat) : Int := (field_build.st 255).2.1.getD i 0
theorem field_build.log_range {i : Nat} (h : i < 256) : 0 ≤ field_build.log i ∧ field_build.log i < 255 := by
  have hl := (field_build.st_length 255).2
  have h1 := List.all_eq_true.1 field_build.log_ok ((field_build.st 255).2.1[i]'(by omega)) (List.getElem_mem _)
  unfold field_build.log
  rw [List.getD_eq_getElem?_getD, List.getElem?_eq_getElem (by omega)]
  simpa using h1
theorem field_build.cellE {W : World} {g : Nat} (h : W.heap[g]? = some (.cells field_build.T 97 (0, 0))) {j : Nat} (hj : j < 510) : W.cell? ⟨g, j, none⟩ = some (.int .u8 (field_build.exp j)) := by
  rw [blk_cell h]
  exact field_build.cell_exp (by rw [(field_build.st_length 255).1]; exact hj)
theorem field_build.cellL {W : World} {g : Nat} (h : W.heap[g]? = some (.cells field_build.T 97 (0, 0))) {j : Nat} (hj : j < 256) : W.cell? ⟨g, 510 + j, none⟩ = some (.int .i64 (field_build.log j)) := by
  rw [blk_cell h]
  have h1 := field_build.cell_log (e := (field_build.st 255).1) (l := (field_build.st 255).2.1) (j := j) (by rw [(field_build.st_length 255).2]; exact hj)
  rw [(field_build.st_length 255).1] at h1
  exact h1
/-! ### powers -/
def field_Pow.f (a n : Int) : Option (Int × Int) :=
  if n = 0 then some (1, 0) else if a = 0 then (if n < 0 then some (0, 5) else some (0, 0))
  else if 0 ≤ a ∧ a < 256 then (field_bounded.f n).bind fun b => if 0 ≤ b ∧ b < 255 then some (field_build.exp ((field_build.log a.toNat * b) % 255).toNat, 0) else none else none
set_option maxHeartbeats 2000000 in
set_option maxRecDepth 100000 in
theorem field_Pow.calls (a0 a1 : Int) (r1 r2 : Int) (w : World) (h : field_Pow.f a0 a1 = some (r1, r2)) :
    Calls Try.prog 68 #[.int .u8 a0, .int .i64 a1] w fun e w' => e = .returned (.tuple #[.int .u8 r1, .int .i64 r2]) ∧ Below w.heap.size w w' := by
  unfold field_Pow.f at h
  by_cases h1 : a1 = 0
  · rw [if_pos h1] at h
    obtain ⟨rfl, rfl⟩ := Prod.mk.inj (Option.some.inj h)
    have c1 : (a1 == 0) = true := beq_iff_eq.mpr h1
    clear h1 h
    go_enter Try.func68, Try.ntmps68
    go_wp2
    go_ret2
    exact ⟨rfl, Below.refl _ _⟩
  · rw [if_neg h1] at h
    have c1 : (a1 == 0) = false := beq_eq_false_iff_ne.mpr h1
    clear h1
    by_cases h2 : a0 = 0
    · rw [if_pos h2] at h
      have c2 : (a0 == 0) = true := beq_iff_eq.mpr h2
      clear h2
      by_cases h3 : a1 < 0
      · rw [if_pos h3] at h
        obtain ⟨rfl, rfl⟩ := Prod.mk.inj (Option.some.inj h)
        clear h
        go_enter Try.func68, Try.ntmps68
        go_wp2
        go_ret2
        exact ⟨rfl, Below.refl _ _⟩
      · rw [if_neg h3] at h
        obtain ⟨rfl, rfl⟩ := Prod.mk.inj (Option.some.inj h)
        clear h
        go_enter Try.func68, Try.ntmps68
        go_wp2
        go_ret2
        exact ⟨rfl, Below.refl _ _⟩
    · rw [if_neg h2] at h
      have c2 : (a0 == 0) = false := beq_eq_false_iff_ne.mpr h2
      clear h2
      by_cases h3 : 0 ≤ a0 ∧ a0 < 256
      · rw [if_pos h3] at h
        obtain ⟨b, hb, h⟩ := Option.bind_eq_some_iff.mp h
        by_cases h4 : 0 ≤ b ∧ b < 255
        · rw [if_pos h4] at h
          obtain ⟨h5, h6⟩ := Prod.mk.inj (Option.some.inj h)
          obtain ⟨a00, a01⟩ := h3
          obtain ⟨b0, b1⟩ := h4
          have HBd := Aside0.mk hb
          have H5 := Aside0.mk h5
          subst h6
          clear hb h h5
          obtain ⟨x0, x1⟩ := field_build.log_range (i := a0.toNat) (by omega)
          have hlog : ∀ W : World, ∀ g, W.heap[g]? = some (.cells field_build.T 97 (0, 0)) → W.cell? ⟨g, 510 + a0.toNat, none⟩ = some (.int .i64 (field_build.log a0.toNat)) := fun W g hW => field_build.cellL hW (by omega)
          have hexp : ∀ W : World, ∀ g, W.heap[g]? = some (.cells field_build.T 97 (0, 0)) → W.cell? ⟨g, ((field_build.log a0.toNat * b) % 255).toNat, none⟩ = some (.int .u8 (field_build.exp ((field_build.log a0.toNat * b) % 255).toNat)) := fun W g hW => field_build.cellE hW (by omega)
          have HLG := Aside0.mk hlog
          have HEX := Aside0.mk hexp
          clear hlog hexp
          generalize field_build.log a0.toNat = x at *
          have m0 : 0 ≤ x * b := Int.mul_nonneg x0 b0
          have m1 : x * b ≤ 254 * 254 := Int.mul_le_mul (by omega) (by omega) b0 (by omega)
          have e1 : IntKind.i64.wrap (x * b) = x * b := by rw [i64_w]; unfold wrap64; omega
          obtain ⟨q, hq⟩ : ∃ q : Int, q = x * b % 255 := ⟨_, rfl⟩
          have e2 : Int.tmod (x * b) 255 = q := by rw [hq]; exact Int.tmod_eq_emod_of_nonneg m0
          have q0 : 0 ≤ q := by omega
          have q1 : q < 255 := by omega
          have e3 : IntKind.i64.wrap q = q := by rw [i64_w]; unfold wrap64; omega
          rw [← hq] at HEX H5
          clear hq m0 m1
          have hz := field_build.zero
          go_enter Try.func68, Try.ntmps68
          go_wp2_with (first | (go_at_call 69; refine (field_build.calls _).mono ?_; rintro e w1 ⟨rfl, hb1⟩; have HB1 := Aside0.mk hb1; clear hb1) | (with_reducible refine wpList_store_row rfl 97 (.tmp 6) (.tmp 20) rfl w1.heap.size field_build.T rfl rfl 97 _ (blk_new _ _) field_build.infoT field_build.sizeZ field_build.oneT ?_; rw [World.setRow_alloc_new]; have hc1 := HLG.out _ _ (blk_new w1 (.cells field_build.T 97)); have hc2 := HEX.out _ _ (blk_new w1 (.cells field_build.T 97))))
          simp only [Act.put, List.setIfInBounds_toArray, List.set_cons_succ, List.set_cons_zero]
          go_quiet ((go_at_call 72; exact Calls.quiet_of ((field_bounded.calls a1 b _ HBd.out).mono (fun _ _ h => ⟨h.1, h.2.out⟩))))
          go_wp2
          go_ret2
          exact ⟨by rw [← H5.out]; rfl, by repeat (first | exact HB1.out | apply pw_below_drewN | apply below_alloc)⟩
        · rw [if_neg h4] at h
          cases h
      · rw [if_neg h3] at h
        cases h



/-! ### field_Inv: function 59 -/
def field_Inv.f (a0 : Int) : Option (Int × Int) := (field_Pow.f a0 (-1)).bind fun bt101 => (some (bt101.1, bt101.2))
set_option maxHeartbeats 8000000 in
set_option maxRecDepth 100000 in
theorem field_Inv.calls (a0 : Int) (r1 : Int) (r2 : Int) (w : World) (h : field_Inv.f a0 = some (r1, r2)) :
    Calls Try.prog 59 #[.int .u8 a0] w fun e w' => e = .returned (.tuple #[.int .u8 r1, .int .i64 r2]) ∧ Below w.heap.size w w' := by
  have HB := Aside0.mk (Below.refl w.heap.size w)
  have H : ((field_Pow.f a0 (-1)).bind fun bt101 => (some (bt101.1, bt101.2))) = some (r1, r2) := h
  clear h
  replace H := Option.bind_eq_some_iff.mp H
  obtain ⟨⟨t101, t102⟩, A20, H⟩ := H
  replace H : (some (t101, t102)) = some (r1, r2) := H
  have A2 := Aside0.mk A20
  clear A20
  simp only [Option.some.injEq, Prod.mk.injEq] at H
  obtain ⟨rfl, rfl⟩ := H
  go_enter Try.func59, Try.ntmps59
  go_wp2_with (first | ((with_reducible refine gate_callee (f := 68) rfl ?_); refine goesL_ (some 5) rfl rfl Try.func68 (by kernel_rfl) rfl #[.int .u8 a0, .int .i64 (-1)] rfl (by (try simp only [List.map_toArray, List.map_cons, List.map_nil]); first | done | rfl | (simp only [List.length_drop, List.length_take]; rfl)) ?_; (with_reducible refine (field_Pow.calls a0 (-1) t101 t102 _ A2.out).mono ?_); rintro e w3 ⟨rfl, hb⟩; refine ⟨_, rfl, ?_⟩; have n0_ := Aside0.mk (below_step (by repeat (first | (with_reducible first | exact HB.out | apply below_alloc | apply pw_below_drewN | apply below_drew1) | exact HB.out)) hb); clear HB; have HB := n0_; clear n0_; (try clear hb); (try clear hb2); (try clear hk); (try clear hi)))
  go_ret2
  exact ⟨by first | rfl | (simp [errW_none, errW_some] <;> rfl) | (simp [*, errW_none, errW_some] <;> rfl), by repeat (first | (with_reducible first | exact HB.out | apply below_alloc | apply pw_below_drewN | apply below_drew1) | exact HB.out)⟩

/-! ### field_Scale: function 61 -/
def mulT (a b : Int) : Int := if a = 0 then 0 else if b = 0 then 0 else field_build.exp (field_build.log a.toNat + field_build.log b.toNat).toNat
set_option maxHeartbeats 2000000 in
set_option maxRecDepth 100000 in
theorem tables_mul.calls (g : Nat) (a b : Int) (w : World) (hb : w.heap[g]? = some (.cells field_build.T 97 (0, 0))) (a0 : 0 ≤ a) (a1 : a < 256) (b0 : 0 ≤ b) (b1 : b < 256) :
    Calls Try.prog 70 #[.pointer (some ⟨g, 0, none⟩), .int .u8 a, .int .u8 b] w fun e w' => e = .returned (.int .u8 (mulT a b)) ∧ Drawn0 w w' := by
  have HT := Aside0.mk hb
  clear hb
  by_cases h1 : a = 0
  · have c1 : (a == 0) = true := beq_iff_eq.mpr h1
    have hfin := Aside0.mk (show mulT a b = 0 by unfold mulT; rw [if_pos h1])
    clear h1
    go_enter Try.func70, Try.ntmps70
    go_wp2
    go_ret
    exact ⟨by rw [hfin.out]; rfl, Drawn0.refl _⟩
  · have c1 : (a == 0) = false := beq_eq_false_iff_ne.mpr h1
    by_cases h2 : b = 0
    · have c2 : (b == 0) = true := beq_iff_eq.mpr h2
      have hfin := Aside0.mk (show mulT a b = 0 by unfold mulT; rw [if_neg h1, if_pos h2])
      clear h1 h2
      go_enter Try.func70, Try.ntmps70
      go_wp2
      go_ret
      exact ⟨by rw [hfin.out]; rfl, Drawn0.refl _⟩
    · have c2 : (b == 0) = false := beq_eq_false_iff_ne.mpr h2
      have hfin := Aside0.mk (show mulT a b = field_build.exp (field_build.log a.toNat + field_build.log b.toNat).toNat by unfold mulT; rw [if_neg h1, if_neg h2])
      clear h1 h2
      obtain ⟨x0, x1⟩ := field_build.log_range (i := a.toNat) (by omega)
      obtain ⟨y0, y1⟩ := field_build.log_range (i := b.toNat) (by omega)
      have hc1 := field_build.cellL HT.out (j := a.toNat) (by omega)
      have hc2 := field_build.cellL HT.out (j := b.toNat) (by omega)
      have hc3 := field_build.cellE HT.out (j := (field_build.log a.toNat + field_build.log b.toNat).toNat) (by omega)
      generalize field_build.log a.toNat = x at *
      generalize field_build.log b.toNat = y at *
      go_enter Try.func70, Try.ntmps70
      go_wp2
      go_quiet (fail)
      go_wp2
      go_ret
      exact ⟨by rw [hfin.out]; rfl, by repeat (first | exact Drawn0.refl _ | apply Drawn0.step)⟩

/-! ### a row scaled -/
def bytesB (l : List Int) : Bool := l.all fun x => decide (0 ≤ x) && decide (x < 256)
theorem bytesB_at {l : List Int} (h : bytesB l = true) {i : Nat} (hi : i < l.length) : 0 ≤ l.getD i 0 ∧ l.getD i 0 < 256 := by
  have h1 := List.all_eq_true.1 h l[i] (List.getElem_mem hi)
  rw [List.getD_eq_getElem?_getD, List.getElem?_eq_getElem hi]
  simpa using h1
def field_Scale.f (c : Int) (l : List Int) : Option (List Int) := if 0 ≤ c ∧ c < 256 ∧ bytesB l = true ∧ l.length ≤ 140737488355328 then some (l.map (mulT c)) else none
/-- What is scaled up to place i, noughts behind. -/
def field_Scale.mid (c : Int) (l : List Int) (i : Nat) : List Int := (l.take i).map (mulT c) ++ List.replicate (l.length - i) 0
theorem field_Scale.mid_length (c : Int) (l : List Int) (i : Nat) (h : i ≤ l.length) : (field_Scale.mid c l i).length = l.length := by
  simp [field_Scale.mid]
  omega
theorem field_Scale.mid_set (c : Int) (l : List Int) (i : Nat) (h : i < l.length) : (field_Scale.mid c l i).set i (mulT c (l.getD i 0)) = field_Scale.mid c l (i + 1) := by
  unfold field_Scale.mid
  obtain ⟨d, hd⟩ : ∃ d, l.length - i = d + 1 := ⟨l.length - i - 1, by omega⟩
  rw [hd, List.set_append, if_neg (by simp; omega), show l.length - (i + 1) = d from by omega, List.take_succ_eq_append_getElem h, List.map_append]
  have e : i - ((l.take i).map (mulT c)).length = 0 := by simp; omega
  rw [e, List.replicate_succ, List.set_cons_zero, List.getD_eq_getElem?_getD, List.getElem?_eq_getElem h]
  simp
theorem field_Scale.info5 : (Try.prog.info? 5).map (fun i => (i.zero, i.size, i.bytes)) = some (some (.int .u8 0), 1, 1) := by kernel_rfl
set_option maxHeartbeats 2000000 in
set_option maxRecDepth 100000 in
theorem field_Scale.calls (a0 : Int) (A1 : Option Addr) (c1 : Nat) (l1 : List Int) (r : List Int) (w : World) (hr1 : Kd.C (Kd.int .u8) w A1 l1.length l1) (hc1 : l1.length ≤ c1) (h : field_Scale.f a0 l1 = some r) :
    Calls Try.prog 61 #[.int .u8 a0, .slice A1 l1.length c1] w fun e w' => ∃ v0_ : Value, e = .returned (v0_) ∧ Kd.R (Kd.int .u8) 5 w' w.heap.size (fun _ => True) v0_ r ∧ Below w.heap.size w w' := by
  unfold field_Scale.f at h
  by_cases hh : 0 ≤ a0 ∧ a0 < 256 ∧ bytesB l1 = true ∧ l1.length ≤ 140737488355328
  · rw [if_pos hh] at h
    obtain ⟨h0, h1, hbs, hlen⟩ := hh
    have HF := Aside0.mk (Option.some.inj h)
    have HBS := Aside0.mk hbs
    have HC := Aside0.mk hr1
    clear h hbs hr1
    obtain ⟨len, hlen'⟩ : ∃ n, n = l1.length := ⟨_, rfl⟩
    rw [← hlen'] at hlen hc1 HC ⊢
    have HLN := Aside0.mk hlen'
    clear hlen'
    have hz := field_build.zero
    have hmk := print_make (P := Try.prog) 22 5 .u8 1 Try.underlying22 field_Scale.info5 (by decide) len (by omega)
    go_enter Try.func61, Try.ntmps61
    go_wp2_with (first | (go_at_call 69; refine (field_build.calls _).mono ?_; rintro e w1 ⟨rfl, hb1⟩; have HB1 := Aside0.mk hb1; clear hb1) | (with_reducible refine wpList_store_row rfl 97 (.tmp 5) (.tmp 9) rfl w1.heap.size field_build.T rfl rfl 97 _ (blk_new _ _) field_build.infoT field_build.sizeZ field_build.oneT ?_; rw [World.setRow_alloc_new]; simp only [Act.put, List.setIfInBounds_toArray, List.set_cons_succ, List.set_cons_zero]))
    have hw1 := HB1.out.size
    have hown := own_made (w1.alloc (.cells field_build.T 97)) w.heap.size 5 .u8 len (by simp; omega) (by omega)
    rw [World.size_alloc] at hown
    have hTb : ((w1.alloc (.cells field_build.T 97)).alloc (.cells (madeCells #[.int .u8 0] len) 5)).heap[w1.heap.size]? = some (.cells field_build.T 97 (0, 0)) := heap_alloc2_old w1 _ _
    have hBb : Below w.heap.size w ((w1.alloc (.cells field_build.T 97)).alloc (.cells (madeCells #[.int .u8 0] len) 5)) := below_alloc (below_alloc HB1.out _) _
    generalize (w1.alloc (.cells field_build.T 97)).alloc (.cells (madeCells #[.int .u8 0] len) 5) = W1 at *
    go_loopw [15] (fun v wr => ∃ i : Nat, i ≤ len ∧ v = .int .i64 i ∧ Aside0 (wr.ownsRow w.heap.size 5 1 (.slice (some ⟨w1.heap.size + 1, 0, none⟩) len len) len (nums .u8 (field_Scale.mid a0 l1 i))) ∧ Aside0 (wr.heap[w1.heap.size]? = some (.cells field_build.T 97 (0, 0))) ∧ Aside0 (Below w.heap.size w wr)) (fun v _ => len - (intOf v).toNat)
    case atStart =>
      refine ⟨0, by omega, rfl, ⟨?_⟩, ⟨hTb⟩, ⟨hBb⟩⟩
      have : field_Scale.mid a0 l1 0 = List.replicate len 0 := by simp [field_Scale.mid, ← HLN.out]
      rw [this]
      exact hown
    case round =>
      obtain ⟨i, hi, rfl, HO, HTB, HB⟩ := hrel
      clear hown hTb hBb
      by_cases hlt : i < len
      · obtain ⟨ad, eA, hx0⟩ := Kd.at_int HC.out (i : Int) (by omega) (by have := HLN.out; omega)
        subst eA
        have hx1 := pw_cell_below HB.out hx0
        have hx : wr.cell? (ad.add i) = some (.int .u8 (l1.getD i 0)) := by
          rw [show l1.getD i 0 = rd l1 (i : Int) from by simp [rd]]
          simpa using hx1
        have hbi := bytesB_at HBS.out (i := i) (by have := HLN.out; omega)
        have HMS := Aside0.mk (field_Scale.mid_set a0 l1 i (by have := HLN.out; omega))
        obtain ⟨x, ex⟩ : ∃ x : Int, x = l1.getD i 0 := ⟨_, rfl⟩
        rw [← ex] at hx hbi HMS
        clear ex hx0 hx1
        obtain ⟨x0, x1⟩ := hbi
        obtain ⟨ho1, ho2⟩ := own_at HO.out (i : Int) (by omega) (by omega)
        rw [Int.toNat_natCast] at ho1 ho2
        go_wp2_with (go_at_call 70; refine (tables_mul.calls w1.heap.size a0 x _ HTB.out h0 h1 x0 x1).mono ?_; rintro e w' ⟨rfl, ⟨nd, rfl⟩⟩)
        go_roundw
        case rel =>
          refine ⟨i + 1, by omega, by go_num, ⟨?_⟩, ⟨?_⟩, ⟨?_⟩⟩
          · have h2 := (own_store (pw_own_drewN HO.out nd) (i : Int) (mulT a0 x)).1
            rw [Int.toNat_natCast, HMS.out] at h2
            exact h2
          · exact blk_far (blk_drewN HTB.out _) (by simp) _
          · exact (pw_below_drewN HB.out _).setCell (by simp; omega) _
        case measure => simp [intOf]; omega
      · obtain rfl : i = len := by omega
        have hfin : field_Scale.mid a0 l1 i = l1.map (mulT a0) := by unfold field_Scale.mid; rw [HLN.out]; simp
        go_wp2
        go_ret
        refine ⟨_, rfl, ?_, HB.out⟩
        have HO2 := HO.out
        rw [hfin, HF.out] at HO2
        have hrl : r.length = i := by rw [← HF.out, List.length_map]; exact HLN.out.symm
        refine Kd.R_of_own ?_ (fun _ _ => trivial)
        rw [hrl]
        exact HO2
  · rw [if_neg hh] at h
    cases h


/-! ### field_Mac: function 63 -/
def field_Mac.l0 : Nat → List Int → List Int → Int → Int → Option (List Int × Int)
  | 0, _, _, _, _ => none
  | k + 1, x8, x19, x20, x21 => if x21 < x20 then (if 0 ≤ x21 then (if x21 < (x19.length : Int) then (if x21 < (x8.length : Int) then (field_Mac.l0 k (x8.set (x21 : Int).toNat (Go.bits .xor .u8 (rd x8 x21) (rd x19 x21))) x19 x20 (wrap64 (x21 + 1))) else (none)) else (none)) else (none)) else (some (x8, 0))
def field_Mac.f (k : Nat) (l0 : List Int) (a1 : Int) (l2 : List Int) : Option (List Int × Int) := if (l0.length : Int) = (l2.length : Int) then ((field_Scale.f a1 l2).bind fun t103 => (field_Mac.l0 k t103 l0 (l0.length : Int) 0)) else (some (([] : List Int), 3))
theorem field_Mac.mono_l : ∀ k, (∀ y0 y1 y2 y3, LeO (field_Mac.l0 k y0 y1 y2 y3) (field_Mac.l0 (k + 1) y0 y1 y2 y3))
  | 0 => fun _ _ _ _ r h => by simp [field_Mac.l0] at h
  | k + 1 => by
    have ih0 := field_Mac.mono_l k
    · intro y0 y1 y2 y3
      unfold field_Mac.l0
      repeat' first
      | (with_reducible exact ih0 _ _ _ _)
      | (with_reducible exact LeO.refl _)
      | (with_reducible exact LeO.none _)
      | (with_reducible refine LeO.ite ?_ ?_)
      | (with_reducible refine LeO.bind ?_ (fun _ => ?_))
      | exact ih0 _ _ _ _
      | exact LeO.none _
      | refine LeO.ite ?_ ?_
      | refine LeO.bind ?_ (fun _ => ?_)
theorem field_Mac.mono : ∀ a0 a1 a2 k, LeO (field_Mac.f k a0 a1 a2) (field_Mac.f (k + 1) a0 a1 a2) := by
  intro a0 a1 a2 k
  have ih0 := field_Mac.mono_l k
  unfold field_Mac.f
  repeat' first
      | (with_reducible exact ih0 _ _ _ _)
      | (with_reducible exact LeO.refl _)
      | (with_reducible exact LeO.none _)
      | (with_reducible refine LeO.ite ?_ ?_)
      | (with_reducible refine LeO.bind ?_ (fun _ => ?_))
      | exact ih0 _ _ _ _
      | exact LeO.none _
      | refine LeO.ite ?_ ?_
      | refine LeO.bind ?_ (fun _ => ?_)
set_option maxHeartbeats 8000000 in
set_option maxRecDepth 100000 in
theorem field_Mac.calls (k : Nat) (A0 : Option Addr) (c0 : Nat) (l0 : List Int) (a1 : Int) (A2 : Option Addr) (c2 : Nat) (l2 : List Int) (r1 : List Int) (r2 : Int) (w : World) (hr0 : Kd.C (Kd.int .u8) w A0 l0.length l0) (hc0 : l0.length ≤ c0) (hr2 : Kd.C (Kd.int .u8) w A2 l2.length l2) (hc2 : l2.length ≤ c2) (h : field_Mac.f k l0 a1 l2 = some (r1, r2)) :
    Calls Try.prog 63 #[.slice A0 l0.length c0, .int .u8 a1, .slice A2 l2.length c2] w fun e w' => ∃ v0_ : Value, e = .returned (.tuple #[v0_, .int .i64 r2]) ∧ Kd.R (Kd.int .u8) 5 w' w.heap.size (fun _ => True) v0_ r1 ∧ Below w.heap.size w w' := by
  have HR0 := Aside0.mk hr0
  have HC0 := Aside0.mk hc0
  clear hr0 hc0
  have HR2 := Aside0.mk hr2
  have HC2 := Aside0.mk hc2
  clear hr2 hc2
  have HB := Aside0.mk (Below.refl w.heap.size w)
  have H : (if (l0.length : Int) = (l2.length : Int) then ((field_Scale.f a1 l2).bind fun t103 => (field_Mac.l0 k t103 l0 (l0.length : Int) 0)) else (some (([] : List Int), 3))) = some (r1, r2) := h
  clear h
  by_cases c4 : (l0.length : Int) = (l2.length : Int)
  · rw [if_pos c4] at H
    have c4b0 : ((l0.length : Int) == (l2.length : Int)) = true := beq_iff_eq.mpr c4
    have c4b1 : ((l0.length : Int) != (l2.length : Int)) = false := bne_eq_false_iff_eq.mpr c4
    have c4b2 : (l0.length == l2.length) = true := by first | simpa using c4 | (simp at c4 ⊢; omega)
    clear c4
    replace H := Option.bind_eq_some_iff.mp H
    obtain ⟨t103, A50, H⟩ := H
    replace H : (field_Mac.l0 k t103 l0 (l0.length : Int) 0) = some (r1, r2) := H
    have A5 := Aside0.mk A50
    clear A50
    have H' := Aside0.mk H
    clear H
    go_enter Try.func63, Try.ntmps63
    go_wp2_with (first | ((with_reducible refine gate_callee (f := 61) rfl ?_); refine goesL_ (some 18) rfl rfl Try.func61 (by kernel_rfl) rfl #[.int .u8 a1, .slice A2 l2.length c2] rfl (by (try simp only [List.map_toArray, List.map_cons, List.map_nil]); first | done | rfl | (simp only [List.length_drop, List.length_take]; rfl)) ?_; (with_reducible refine (field_Scale.calls a1 _ _ l2 t103 _ ?side1 ?side2 A5.out).mono ?_); (case side1 => repeat (first | exact HR2.out | (with_reducible refine Kd.C_alloc ?_ _) | (with_reducible refine Kd.C_drewN ?_ _) | (with_reducible refine Kd.C_drew ?_))); (case side2 => exact HC2.out); rintro e w6 ⟨v104, rfl, ho0, hb⟩; refine ⟨_, rfl, ?_⟩; have n0_ := Aside0.mk (Kd.R_lower ho0 (below_size (by repeat (first | (with_reducible first | exact HB.out | apply below_alloc | apply pw_below_drewN | apply below_drew1) | exact HB.out)))); have n1_ := Aside0.mk (below_step (by repeat (first | (with_reducible first | exact HB.out | apply below_alloc | apply pw_below_drewN | apply below_drew1) | exact HB.out)) hb); clear HB; have HO105 := n0_; have HB := n1_; clear n0_ n1_; (try clear hb); (try clear hb2); (try clear hk); (try clear hi); (try clear ho0)))
    go_loopg [21] k (fun kq v21 w' => ∃ (x8_1 : List Int) (x21_1 : Int), v21 = .int .i64 x21_1 ∧ Aside0 (field_Mac.l0 kq x8_1 l0 (l0.length : Int) x21_1 = some (r1, r2)) ∧ Aside0 (kq ≤ k) ∧ Aside0 (Kd.R (Kd.int .u8) 5 w' w.heap.size (fun _ => True) v104 x8_1) ∧ Aside0 (Below w.heap.size w w'))
    case atStart => exact ⟨(t103), (0), (by first | rfl | (simp; done) | (simp [*]; done)), H', ⟨Nat.le_refl _⟩, ⟨by (with_reducible repeat (first | apply Kd.R_alloc | apply Kd.R_drewN | apply Kd.R_drew)); exact HO105.out⟩, ⟨by repeat (first | (with_reducible first | exact HB.out | apply below_alloc | apply pw_below_drewN | apply below_drew1) | exact HB.out)⟩⟩
    case round =>
      clear H'
      try clear c2
      try clear p2
      try clear c4
      try clear c4b0
      try clear c4b1
      try clear c4b2
      try clear c6
      obtain ⟨x8_1, x21_1, rfl, HA, HK1, HO_8, HB⟩ := hrel
      cases gk with
      | zero => exact absurd HA.out (by simp [field_Mac.l0])
      | succ k1 =>
        have H := HA.out
        clear HA
        simp only [field_Mac.l0] at H
        by_cases c7 : x21_1 < (l0.length : Int)
        · rw [if_pos c7] at H
          have c7b0 : decide (x21_1 < (l0.length : Int)) = true := decide_eq_true c7
          clear c7
          by_cases c8 : 0 ≤ x21_1
          · rw [if_pos c8] at H
            have c8b0 : decide (0 ≤ x21_1) = true := decide_eq_true c8
            clear c8
            by_cases c9 : x21_1 < (l0.length : Int)
            · rw [if_pos c9] at H
              have c9b0 : decide (x21_1 < (l0.length : Int)) = true := decide_eq_true c9
              clear c9
              by_cases c10 : x21_1 < (x8_1.length : Int)
              · rw [if_pos c10] at H
                have c10b0 : decide (x21_1 < (x8_1.length : Int)) = true := decide_eq_true c10
                clear c10
                obtain ⟨y108, hy108⟩ : ∃ y_ : List Int, y_ = (x8_1.set (x21_1 : Int).toNat (Go.bits .xor .u8 (rd x8_1 x21_1) (rd l0 x21_1))) := ⟨_, rfl⟩
                replace H : (field_Mac.l0 k1 y108 l0 (l0.length : Int) (wrap64 (x21_1 + 1))) = some (r1, r2) := by first | (rw [hy108]; with_reducible exact H) | (have H2_ := (Option.bind_some _ _).symm.trans H; rw [hy108]; with_reducible exact H2_) | (have H2_ := (Option.bind_some _ _).symm.trans H; with_reducible exact H2_) | with_reducible exact H | (rw [hy108]; exact H) | exact H
                have Ny108 := Aside0.mk hy108
                clear hy108
                have H' := Aside0.mk H
                clear H
                have p106 : 0 ≤ (x21_1 : Int) := of_decide_eq_true (by first | (with_reducible assumption) | assumption)
                have q106 : x21_1 < (l0.length : Int) := of_decide_eq_true (by first | (with_reducible assumption) | assumption)
                obtain ⟨ad106, e106, hx106_0⟩ := Kd.at_int HR0.out x21_1 p106 q106
                cases e106
                replace hx106_0 := (HB.out.cell (World.block_lt_of_cell? w _ hx106_0)).trans hx106_0
                replace p106 := eq_true p106
                replace q106 := eq_true q106
                obtain ⟨Ao12, co12, eo12⟩ := Kd.R_slice HO_8.out
                subst eo12
                have p107 : 0 ≤ (x21_1 : Int) := of_decide_eq_true (by first | (with_reducible assumption) | assumption)
                have q107 : x21_1 < (x8_1.length : Int) := of_decide_eq_true (by first | (with_reducible assumption) | assumption)
                obtain ⟨ad107, e107, hx107_0⟩ := Kd.at_int (Kd.R_reads' HO_8.out).2.2 x21_1 p107 q107
                cases e107
                replace p107 := eq_true p107
                replace q107 := eq_true q107
                have p11 : 0 ≤ (x21_1 : Int) := of_decide_eq_true (by first | (with_reducible assumption) | assumption)
                have q11 : (x21_1 : Int) < ((x8_1.length : Int) : Int) := of_decide_eq_true (by first | (with_reducible assumption) | assumption)
                obtain ⟨go11, co11, eo11, gb11, gl11, cl11, HG11⟩ := Kd.R_form HO_8.out (by omega)
                (first | cases eo11 | (injection eo11 with ea_ en_ ec_; (first | subst ea_ | (injection ea_ with ea_; subst ea_)); subst ec_; clear en_))
                have GB11 := Aside0.mk gb11
                have GG11 := Aside0.mk HG11
                clear gb11 gl11 HG11
                (first | simp only [add_plain] at hx107_0 | skip)
                obtain ⟨hx11_0, hf11_0⟩ := Kd.R_celln 0 HO_8.out (x21_1 : Int) p11 q11
                replace p11 := eq_true p11
                replace q11 := eq_true q11
                have HP13 := Kd.R_putg HO_8.out (x21_1 : Int) (Go.bits .xor .u8 (rd x8_1 x21_1) (rd l0 x21_1))
                go_wp2_with (first | ((with_reducible refine gate_store (t := 5) (p := 32) rfl ?_); refine store_event (t := 5) (p := 32) (v := ?vo_w14) (w1 := (wr.setCell ⟨go11, (x21_1 : Int).toNat, none⟩ (.int .u8 (Go.bits .xor .u8 (rd x8_1 x21_1) (rd l0 x21_1))))) ?hg ?ho ?hn ?hr ?_; (case ho => rfl); (case hg => rfl); (case hn => rfl); (case hr => first | (go_simp; done) | (go_simp; rfl)); intro w14 hw; have hg : wr.grownBy w14 (some go11) := (by rw [hw]; exact HP13.2); have hp_ : Kd.R (Kd.int .u8) 5 w14 w.heap.size (fun _ => True) (.slice (some ⟨go11, 0, none⟩) x8_1.length co12) y108 := (by rw [hw, Ny108.out]; exact HP13.1); clear HP13; have n0_ := Aside0.mk (hp_); have n1_ := Aside0.mk ((by rw [hw]; exact below_set (HB.out) GB11.out : Below w.heap.size w w14)); clear HO_8; clear HB; have HO_8 := n0_; have HB := n1_; clear n0_ n1_; clear hg hw hp_))
                go_roundg k1
                case measure => have := HK1.out; omega
                case rel => exact ⟨(y108), (wrap64 (x21_1 + 1)), (by first | rfl | (simp; done) | (simp [*]; done)), H', ⟨by have := HK1.out; omega⟩, ⟨by (with_reducible repeat (first | apply Kd.R_alloc | apply Kd.R_drewN | apply Kd.R_drew)); exact HO_8.out⟩, ⟨by repeat (first | (with_reducible first | exact HB.out | apply below_alloc | apply pw_below_drewN | apply below_drew1) | exact HB.out)⟩⟩
              · rw [if_neg c10] at H
                exact absurd H (by simp)
            · rw [if_neg c9] at H
              exact absurd H (by simp)
          · rw [if_neg c8] at H
            exact absurd H (by simp)
        · rw [if_neg c7] at H
          have c7b0 : decide (x21_1 < (l0.length : Int)) = false := decide_eq_false c7
          clear c7
          simp only [Option.some.injEq, Prod.mk.injEq] at H
          obtain ⟨rfl, rfl⟩ := H
          go_wp2
          go_ret2
          exact ⟨_, by first | rfl | (simp [errW_none, errW_some] <;> rfl) | (simp [*, errW_none, errW_some] <;> rfl), by (with_reducible repeat (first | apply Kd.R_alloc | apply Kd.R_drewN | apply Kd.R_drew)); exact HO_8.out, by repeat (first | (with_reducible first | exact HB.out | apply below_alloc | apply pw_below_drewN | apply below_drew1) | exact HB.out)⟩
  · rw [if_neg c4] at H
    have c4b0 : ((l0.length : Int) == (l2.length : Int)) = false := beq_eq_false_iff_ne.mpr c4
    have c4b1 : ((l0.length : Int) != (l2.length : Int)) = true := bne_iff_ne.mpr c4
    have c4b2 : (l0.length == l2.length) = false := by first | simpa using c4 | (simp at c4 ⊢; omega)
    simp only [Option.some.injEq, Prod.mk.injEq] at H
    obtain ⟨rfl, rfl⟩ := H
    go_enter Try.func63, Try.ntmps63
    go_wp2
    go_ret2
    exact ⟨_, by first | rfl | (simp [errW_none, errW_some] <;> rfl) | (simp [*, errW_none, errW_some] <;> rfl), by first | exact Kd.R_nil _ _ _ _ _ | exact Kd.N_nil _ _ _ _ _ | exact Kd.V_nil _ _ _ _ _ | exact Kd.Q_nil _ _ _ _ _ | exact Kd.S_nil _ _ _ _ _, by repeat (first | (with_reducible first | exact HB.out | apply below_alloc | apply pw_below_drewN | apply below_drew1) | exact HB.out)⟩

/-! ### matrix_side: function 55 -/
def matrix_side.f (a0 : Int) : Option (Bool) := if a0 ≥ 0 then (some (decide (a0 ≤ 64))) else (some false)
set_option maxHeartbeats 8000000 in
set_option maxRecDepth 100000 in
theorem matrix_side.calls (a0 : Int) (r : Bool) (w : World) (h : matrix_side.f a0 = some r) :
    Calls Try.prog 55 #[.int .i64 a0] w fun e w' => e = .returned (.bool r) ∧ Drawn0 w w' := by
  have H : (if a0 ≥ 0 then (some (decide (a0 ≤ 64))) else (some false)) = some r := h
  clear h
  by_cases c2 : a0 ≥ 0
  · rw [if_pos c2] at H
    have c2b0 : decide (0 ≤ a0) = true := decide_eq_true c2
    clear c2
    obtain rfl := Option.some.inj H
    go_enter Try.func55, Try.ntmps55
    go_wp2
    go_ret
    exact ⟨by first | rfl | (simp; done) | (simp [*]; done), by repeat (first | exact Drawn0.refl _ | apply Drawn0.step)⟩
  · rw [if_neg c2] at H
    have c2b0 : decide (0 ≤ a0) = false := decide_eq_false c2
    clear c2
    obtain rfl := Option.some.inj H
    go_enter Try.func55, Try.ntmps55
    go_wp2
    go_ret
    exact ⟨by first | rfl | (simp; done) | (simp [*]; done), by repeat (first | exact Drawn0.refl _ | apply Drawn0.step)⟩

/-! ### matrix_Right: function 42 -/
def matrix_Right.f (a0_0 : Int) (a0_1 : Int) (l0_2 : List Int) : Option (Bool) := (matrix_side.f a0_0).bind fun t110 => (if t110 = true then ((matrix_side.f a0_1).bind fun t111 => (if t111 = true then (some ((l0_2.length : Int) == (wrap64 (a0_0 * a0_1)))) else (some false))) else (some false))
set_option maxHeartbeats 8000000 in
set_option maxRecDepth 100000 in
theorem matrix_Right.calls (a0_0 : Int) (a0_1 : Int) (A0_2 : Option Addr) (c0_2 : Nat) (l0_2 : List Int) (r : Bool) (w : World) (hr0_2 : Kd.C (Kd.int .u8) w A0_2 l0_2.length l0_2) (hc0_2 : l0_2.length ≤ c0_2) (h : matrix_Right.f a0_0 a0_1 l0_2 = some r) :
    Calls Try.prog 42 #[.agg #[.int .i64 a0_0, .int .i64 a0_1, .slice A0_2 l0_2.length c0_2]] w fun e w' => e = .returned (.bool r) ∧ Below w.heap.size w w' := by
  have hu24 := Try.underlying24
  have HR0_2 := Aside0.mk hr0_2
  have HC0_2 := Aside0.mk hc0_2
  clear hr0_2 hc0_2
  have HB := Aside0.mk (Below.refl w.heap.size w)
  have H : ((matrix_side.f a0_0).bind fun t110 => (if t110 = true then ((matrix_side.f a0_1).bind fun t111 => (if t111 = true then (some ((l0_2.length : Int) == (wrap64 (a0_0 * a0_1)))) else (some false))) else (some false))) = some r := h
  clear h
  replace H := Option.bind_eq_some_iff.mp H
  obtain ⟨t110, A20, H⟩ := H
  replace H : (if t110 = true then ((matrix_side.f a0_1).bind fun t111 => (if t111 = true then (some ((l0_2.length : Int) == (wrap64 (a0_0 * a0_1)))) else (some false))) else (some false)) = some r := H
  have A2 := Aside0.mk A20
  clear A20
  by_cases c3 : t110 = true
  · subst c3
    have H1 : ((matrix_side.f a0_1).bind fun t111 => (if t111 = true then (some ((l0_2.length : Int) == (wrap64 (a0_0 * a0_1)))) else (some false))) = some r := by rw [if_pos rfl] at H; exact H
    clear H
    have H := H1
    clear H1
    replace H := Option.bind_eq_some_iff.mp H
    obtain ⟨t111, A40, H⟩ := H
    replace H : (if t111 = true then (some ((l0_2.length : Int) == (wrap64 (a0_0 * a0_1)))) else (some false)) = some r := H
    have A4 := Aside0.mk A40
    clear A40
    by_cases c5 : t111 = true
    · subst c5
      have H1 : (some ((l0_2.length : Int) == (wrap64 (a0_0 * a0_1)))) = some r := by rw [if_pos rfl] at H; exact H
      clear H
      have H := H1
      clear H1
      obtain rfl := Option.some.inj H
      go_enter Try.func42, Try.ntmps42
      go_wp2_with (first | ((with_reducible refine gate_dst (N := 1) rfl ?_); (try (refine gate_guard (by rfl) ?_; dsimp only)); refine box_event ?hg (N := 1) ?hd (cs := #[.int .i64 a0_0, .int .i64 a0_1, .slice A0_2 l0_2.length c0_2]) (t := 24) ?hr ?_; (case hd => rfl); (case hg => rfl); (case hr => first | (go_simp; done) | (go_simp; rfl)); intro gb109 hg w6 hbox hb; have n0_ := Aside0.mk (below_step (by repeat (first | (with_reducible first | exact HB.out | apply below_alloc | apply pw_below_drewN | apply below_drew1) | exact HB.out)) hb); have n1_ := Aside0.mk (hbox); have n2_ := Aside0.mk ((by rw [hg]; exact (below_size (by repeat (first | (with_reducible first | exact HB.out | apply below_alloc | apply pw_below_drewN | apply below_drew1) | exact HB.out))) : w.heap.size ≤ gb109)); have n3_ := Aside0.mk ((by rw [hg]; exact (below_size (by repeat (first | (with_reducible first | exact HB.out | apply below_alloc | apply pw_below_drewN | apply below_drew1) | exact HB.out))) : w.heap.size ≤ gb109)); clear HB; have HB := n0_; have BK109 := n1_; have GW109 := n2_; have GE109 := n3_; clear n0_ n1_ n2_ n3_; clear hb hbox hg; have hcz7_0 : w6.cell? ⟨gb109, 0, none⟩ = some (.int .i64 a0_0) := (blk_cell BK109.out 0).trans rfl; have hcz7_1 : w6.cell? ⟨gb109, 1, none⟩ = some (.int .i64 a0_1) := (blk_cell BK109.out 1).trans rfl; have hcz7_2 : w6.cell? ⟨gb109, 2, none⟩ = some (.slice A0_2 l0_2.length c0_2) := (blk_cell BK109.out 2).trans rfl; have hfz7_0 := blk_frozen BK109.out 0; have hfz7_1 := blk_frozen BK109.out 1; have hfz7_2 := blk_frozen BK109.out 2) | ((with_reducible refine gate_callee (f := 55) rfl ?_); refine goesL_ (some 5) rfl rfl Try.func55 (by kernel_rfl) rfl #[.int .i64 a0_0] rfl (by (try simp only [List.map_toArray, List.map_cons, List.map_nil]); first | done | rfl | (simp only [List.length_drop, List.length_take]; rfl)) ?_; (with_reducible refine (matrix_side.calls a0_0 true _ A2.out).mono ?_); rintro e w' ⟨rfl, ⟨nd, rfl⟩⟩; refine ⟨_, rfl, ?_⟩) | (go_at_call 55; (with_reducible refine (matrix_side.calls a0_1 true _ A4.out).mono ?_); rintro e w' ⟨rfl, ⟨nd, rfl⟩⟩))
      go_ret
      exact ⟨by first | rfl | (simp [errW_none, errW_some] <;> rfl) | (simp [*, errW_none, errW_some] <;> rfl), by repeat (first | (with_reducible first | exact HB.out | apply below_alloc | apply pw_below_drewN | apply below_drew1 | refine below_set ?_ GE109.out) | exact HB.out)⟩
    · replace c5 := Bool.eq_false_iff.mpr c5
      subst c5
      have H1 : (some false) = some r := by rw [if_neg (show ¬ (false = true) by decide)] at H; exact H
      clear H
      have H := H1
      clear H1
      obtain rfl := Option.some.inj H
      go_enter Try.func42, Try.ntmps42
      go_wp2_with (first | ((with_reducible refine gate_dst (N := 1) rfl ?_); (try (refine gate_guard (by rfl) ?_; dsimp only)); refine box_event ?hg (N := 1) ?hd (cs := #[.int .i64 a0_0, .int .i64 a0_1, .slice A0_2 l0_2.length c0_2]) (t := 24) ?hr ?_; (case hd => rfl); (case hg => rfl); (case hr => first | (go_simp; done) | (go_simp; rfl)); intro gb109 hg w8 hbox hb; have n0_ := Aside0.mk (below_step (by repeat (first | (with_reducible first | exact HB.out | apply below_alloc | apply pw_below_drewN | apply below_drew1) | exact HB.out)) hb); have n1_ := Aside0.mk (hbox); have n2_ := Aside0.mk ((by rw [hg]; exact (below_size (by repeat (first | (with_reducible first | exact HB.out | apply below_alloc | apply pw_below_drewN | apply below_drew1) | exact HB.out))) : w.heap.size ≤ gb109)); have n3_ := Aside0.mk ((by rw [hg]; exact (below_size (by repeat (first | (with_reducible first | exact HB.out | apply below_alloc | apply pw_below_drewN | apply below_drew1) | exact HB.out))) : w.heap.size ≤ gb109)); clear HB; have HB := n0_; have BK109 := n1_; have GW109 := n2_; have GE109 := n3_; clear n0_ n1_ n2_ n3_; clear hb hbox hg; have hcz9_0 : w8.cell? ⟨gb109, 0, none⟩ = some (.int .i64 a0_0) := (blk_cell BK109.out 0).trans rfl; have hcz9_1 : w8.cell? ⟨gb109, 1, none⟩ = some (.int .i64 a0_1) := (blk_cell BK109.out 1).trans rfl; have hcz9_2 : w8.cell? ⟨gb109, 2, none⟩ = some (.slice A0_2 l0_2.length c0_2) := (blk_cell BK109.out 2).trans rfl; have hfz9_0 := blk_frozen BK109.out 0; have hfz9_1 := blk_frozen BK109.out 1; have hfz9_2 := blk_frozen BK109.out 2) | ((with_reducible refine gate_callee (f := 55) rfl ?_); refine goesL_ (some 5) rfl rfl Try.func55 (by kernel_rfl) rfl #[.int .i64 a0_0] rfl (by (try simp only [List.map_toArray, List.map_cons, List.map_nil]); first | done | rfl | (simp only [List.length_drop, List.length_take]; rfl)) ?_; (with_reducible refine (matrix_side.calls a0_0 true _ A2.out).mono ?_); rintro e w' ⟨rfl, ⟨nd, rfl⟩⟩; refine ⟨_, rfl, ?_⟩) | (go_at_call 55; (with_reducible refine (matrix_side.calls a0_1 false _ A4.out).mono ?_); rintro e w' ⟨rfl, ⟨nd, rfl⟩⟩))
      go_ret
      exact ⟨by first | rfl | (simp [errW_none, errW_some] <;> rfl) | (simp [*, errW_none, errW_some] <;> rfl), by repeat (first | (with_reducible first | exact HB.out | apply below_alloc | apply pw_below_drewN | apply below_drew1 | refine below_set ?_ GE109.out) | exact HB.out)⟩
  · replace c3 := Bool.eq_false_iff.mpr c3
    subst c3
    have H1 : (some false) = some r := by rw [if_neg (show ¬ (false = true) by decide)] at H; exact H
    clear H
    have H := H1
    clear H1
    obtain rfl := Option.some.inj H
    go_enter Try.func42, Try.ntmps42
    go_wp2_with (first | ((with_reducible refine gate_dst (N := 1) rfl ?_); (try (refine gate_guard (by rfl) ?_; dsimp only)); refine box_event ?hg (N := 1) ?hd (cs := #[.int .i64 a0_0, .int .i64 a0_1, .slice A0_2 l0_2.length c0_2]) (t := 24) ?hr ?_; (case hd => rfl); (case hg => rfl); (case hr => first | (go_simp; done) | (go_simp; rfl)); intro gb109 hg w10 hbox hb; have n0_ := Aside0.mk (below_step (by repeat (first | (with_reducible first | exact HB.out | apply below_alloc | apply pw_below_drewN | apply below_drew1) | exact HB.out)) hb); have n1_ := Aside0.mk (hbox); have n2_ := Aside0.mk ((by rw [hg]; exact (below_size (by repeat (first | (with_reducible first | exact HB.out | apply below_alloc | apply pw_below_drewN | apply below_drew1) | exact HB.out))) : w.heap.size ≤ gb109)); have n3_ := Aside0.mk ((by rw [hg]; exact (below_size (by repeat (first | (with_reducible first | exact HB.out | apply below_alloc | apply pw_below_drewN | apply below_drew1) | exact HB.out))) : w.heap.size ≤ gb109)); clear HB; have HB := n0_; have BK109 := n1_; have GW109 := n2_; have GE109 := n3_; clear n0_ n1_ n2_ n3_; clear hb hbox hg; have hcz11_0 : w10.cell? ⟨gb109, 0, none⟩ = some (.int .i64 a0_0) := (blk_cell BK109.out 0).trans rfl; have hcz11_1 : w10.cell? ⟨gb109, 1, none⟩ = some (.int .i64 a0_1) := (blk_cell BK109.out 1).trans rfl; have hcz11_2 : w10.cell? ⟨gb109, 2, none⟩ = some (.slice A0_2 l0_2.length c0_2) := (blk_cell BK109.out 2).trans rfl; have hfz11_0 := blk_frozen BK109.out 0; have hfz11_1 := blk_frozen BK109.out 1; have hfz11_2 := blk_frozen BK109.out 2) | ((with_reducible refine gate_callee (f := 55) rfl ?_); refine goesL_ (some 5) rfl rfl Try.func55 (by kernel_rfl) rfl #[.int .i64 a0_0] rfl (by (try simp only [List.map_toArray, List.map_cons, List.map_nil]); first | done | rfl | (simp only [List.length_drop, List.length_take]; rfl)) ?_; (with_reducible refine (matrix_side.calls a0_0 false _ A2.out).mono ?_); rintro e w' ⟨rfl, ⟨nd, rfl⟩⟩; refine ⟨_, rfl, ?_⟩))
    go_ret
    exact ⟨by first | rfl | (simp [errW_none, errW_some] <;> rfl) | (simp [*, errW_none, errW_some] <;> rfl), by repeat (first | (with_reducible first | exact HB.out | apply below_alloc | apply pw_below_drewN | apply below_drew1 | refine below_set ?_ GE109.out) | exact HB.out)⟩

end Go.Proofs.Ytccfbhnhedoggaa.Q
