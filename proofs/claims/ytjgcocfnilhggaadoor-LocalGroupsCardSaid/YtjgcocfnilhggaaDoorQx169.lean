/- Written by drive.py (a program of this repo, over the kit's print): each Go function named here answers what the Lean function beside it answers, wherever that one answers, in every world that meets the stated premises. -/
import Derived.Test.YtjgcocfnilhggaaDoorQx0
import Derived.Test.YtjgcocfnilhggaaDoorQx164
import Derived.Test.YtjgcocfnilhggaaDoorQx190
namespace Go.Proofs.YtjgcocfnilhggaaDoor.Q
open Go.RowKit Go.Proofs.YtjgcocfnilhggaaDoorW.PrintWords Go.Proofs.YtjgcocfnilhggaaDoorW.PrintLast Go.Proofs.YtjgcocfnilhggaaDoorW.PrintMore
attribute [local go_sem] max2_int min2_int max_two min_two max_three min_three max_four min_four   -- for this text's walks alone
set_option linter.unusedVariables false
set_option linter.unusedSimpArgs false

/-! ### matrix_Transpose: function 69 -/
/-! ### matrix.row -/
theorem mul_small {i cols f : Nat} (hf : f = i * cols) (h : f ≤ 1000000) : wrap64 ((i : Int) * (cols : Int)) = (f : Int) ∧ IntKind.i64.wrap ((i : Int) * (cols : Int)) = (f : Int) := by
 have e : ((i : Int) * (cols : Int)) = (f : Int) := by rw [hf]; simp
 clear hf
 rw [e]
 exact ⟨wrap_small (by omega) (by omega), iwrap_small (by omega) (by omega)⟩
set_option maxHeartbeats 2000000 in
set_option maxRecDepth 100000 in
theorem matrix_row.calls (ra : Int) (cols i n c f f2 : Nat) (A : Option Addr) (w : World) (hf : f = i * cols) (hf2 : f2 = (i + 1) * cols) (hc : f2 ≤ c) (hi : i ≤ 64) (h64 : cols ≤ 64) :
  Calls Tryd.prog 66 #[.agg #[.int .i64 ra, .int .i64 cols, .slice A n c], .int .i64 i] w fun e w' => e = .returned (.slice (if f2 = f then A else A.map (·.add f)) cols cols) ∧ Below w.heap.size w w' := by
 have hu24 := Tryd.underlying24
 have hff : f2 = f + cols := by rw [hf2, hf, Nat.add_mul, Nat.one_mul]
 have hfs : f ≤ 4096 := by rw [hf]; exact Nat.mul_le_mul hi h64
 have m1 := mul_small hf (by clear hf hf2; omega)
 have m2 := mul_small hf2 (by clear hf hf2 m1; omega)
 clear hf hf2
 obtain ⟨w1b, w1a⟩ := m1
 obtain ⟨w2b, w2a⟩ := m2
 rw [show ((i + 1 : Nat) : Int) = (i : Int) + 1 from by omega] at w2a w2b
 have HFF := Aside0.mk hff
 have hf12 : (f : Int) ≤ (f2 : Int) := by clear w1a w1b w2a w2b; omega
 have hf2c : (f2 : Int) ≤ (c : Int) := by clear w1a w1b w2a w2b; omega
 have hfi : (0 : Int) ≤ (f : Int) := by clear w1a w1b w2a w2b; omega
 have w3a : IntKind.i64.wrap ((i : Int) + 1) = (i : Int) + 1 := by clear w1a w1b w2a w2b; exact iwrap_small (by omega) (by omega)
 clear hff
 go_enter Tryd.func66, Tryd.ntmps66
 go_wp2_with fail
 have hb1 := below_alloc (Below.refl w.heap.size w) (.cells #[.int .i64 ra, .int .i64 cols, .slice A n c] 24)
 have hk1 := blk_new w (.cells #[.int .i64 ra, .int .i64 cols, .slice A n c] 24)
 generalize w.alloc (.cells #[.int .i64 ra, .int .i64 cols, .slice A n c] 24) = w1 at *
 refine start_ (n := 11) (S := fun w' => w'.cell? ⟨w.heap.size, 1, none⟩ = some (.int .i64 cols)) (ds := []) #[false, false, false, false, false, false, false, false, false, false, false] (by kernel_rfl) rfl rfl ((blk_cell hk1 1).trans rfl) (fun hHeld => ?_)
 have hk2 : w1.drew.heap[w.heap.size]? = some (.cells #[.int .i64 ra, .int .i64 cols, .slice A n c] 24 (0, 0)) := hk1
 have hb2 : Below w.heap.size w w1.drew := below_drew hb1
 clear hk1 hb1
 generalize w1.drew = w2 at *
 refine pure_ (i := 0) (N := some 7) (v := ?_) (a' := ?_) #[true, false, false, false, false, false, false, false, false, false, false] rfl rfl (by kernel_rfl) (fun _ _ _ h => h) (Or.inl ⟨by rfl, ?_⟩) ?_ ?_
 rotate_left
 ·intro w'
  go_simp
  with_reducible rfl
 rotate_left
 ·simp only [Act.put, List.setIfInBounds_toArray, List.set_cons_zero, List.set_cons_succ, i64_w, i32_w]
  rfl
 refine pure_ (i := 1) (N := some 8) (v := ?_) (a' := ?_) #[true, true, false, false, false, false, false, false, false, false, false] rfl rfl (by kernel_rfl) (fun _ _ _ h => h) (Or.inl ⟨by rfl, ?_⟩) ?_ ?_
 rotate_left
 ·intro w'
  go_simp
  with_reducible rfl
 rotate_left
 ·simp only [Act.put, List.setIfInBounds_toArray, List.set_cons_zero, List.set_cons_succ, i64_w, i32_w]
  rfl
 refine pure_ (i := 4) (N := some 11) (v := ?_) (a' := ?_) #[true, true, false, false, true, false, false, false, false, false, false] rfl rfl (by kernel_rfl) (fun _ _ _ h => h) (Or.inl ⟨by rfl, ?_⟩) ?_ ?_
 rotate_left
 ·intro w'
  go_simp
  with_reducible rfl
 rotate_left
 ·simp only [Act.put, List.setIfInBounds_toArray, List.set_cons_zero, List.set_cons_succ, i64_w, i32_w]
  rfl
 refine pure_ (i := 5) (N := some 12) (v := ?_) (a' := ?_) #[true, true, false, false, true, true, false, false, false, false, false] rfl rfl (by kernel_rfl) (fun _ _ _ h => h) (Or.inl ⟨by rfl, ?_⟩) ?_ ?_
 rotate_left
 ·intro w'
  go_simp
  with_reducible rfl
 rotate_left
 ·simp only [Act.put, List.setIfInBounds_toArray, List.set_cons_zero, List.set_cons_succ, i64_w, i32_w]
  rfl
 refine pure_ (i := 6) (N := some 13) (v := ?_) (a' := ?_) #[true, true, false, false, true, true, true, false, false, false, false] rfl rfl (by kernel_rfl) (fun _ _ _ h => h) (Or.inl ⟨by rfl, ?_⟩) ?_ ?_
 rotate_left
 ·intro w'
  go_simp
  with_reducible rfl
 rotate_left
 ·simp only [Act.put, List.setIfInBounds_toArray, List.set_cons_zero, List.set_cons_succ, i64_w, i32_w]
  rfl
 refine take_ (i := 2) (N := some 9) (v := ?_) (a' := ?_) #[true, true, true, false, true, true, true, false, false, false, false] rfl rfl (by kernel_rfl) (fun _ _ _ h => h) (Or.inl ⟨by rfl, ?_⟩) hHeld ?_ ?_
 rotate_left
 ·intro w' s0
  go_simp
  with_reducible rfl
 rotate_left
 ·simp only [Act.put, List.setIfInBounds_toArray, List.set_cons_zero, List.set_cons_succ, i64_w, i32_w]
  rfl
 refine pure_ (i := 3) (N := some 10) (v := ?_) (a' := ?_) #[true, true, true, true, true, true, true, false, false, false, false] rfl rfl (by kernel_rfl) (fun _ _ _ h => h) (Or.inl ⟨by rfl, ?_⟩) ?_ ?_
 rotate_left
 ·intro w'
  go_simp
  with_reducible rfl
 rotate_left
 ·simp only [Act.put, List.setIfInBounds_toArray, List.set_cons_zero, List.set_cons_succ, i64_w, i32_w]
  rfl
 refine pure_ (i := 9) (N := some 5) (v := ?_) (a' := ?_) #[true, true, true, true, true, true, true, false, false, true, false] rfl rfl (by kernel_rfl) (fun _ _ _ h => h) (Or.inl ⟨by rfl, ?_⟩) ?_ ?_
 rotate_left
 ·intro w'
  go_simp
  with_reducible rfl
 rotate_left
 ·simp only [Act.put, List.setIfInBounds_toArray, List.set_cons_zero, List.set_cons_succ, i64_w, i32_w]
  rfl
 refine take_ (i := 7) (N := some 14) (v := ?_) (a' := ?_) #[true, true, true, true, true, true, true, true, false, true, false] rfl rfl (by kernel_rfl) (fun _ _ _ h => h) (Or.inl ⟨by rfl, ?_⟩) hHeld ?_ ?_
 rotate_left
 ·intro w' s0
  go_simp
  with_reducible rfl
 rotate_left
 ·simp only [Act.put, List.setIfInBounds_toArray, List.set_cons_zero, List.set_cons_succ, i64_w, i32_w]
  rfl
 refine pure_ (i := 8) (N := some 15) (v := ?_) (a' := ?_) #[true, true, true, true, true, true, true, true, true, true, false] rfl rfl (by kernel_rfl) (fun _ _ _ h => h) (Or.inl ⟨by rfl, ?_⟩) ?_ ?_
 rotate_left
 ·intro w'
  go_simp
  with_reducible rfl
 rotate_left
 ·simp only [Act.put, List.setIfInBounds_toArray, List.set_cons_zero, List.set_cons_succ, i64_w, i32_w]
  rfl
 refine pure_ (i := 10) (N := some 6) (v := ?_) (a' := ?_) #[true, true, true, true, true, true, true, true, true, true, true] rfl rfl (by kernel_rfl) (fun _ _ _ h => h) (Or.inl ⟨by rfl, ?_⟩) ?_ ?_
 rotate_left
 ·intro w'
  go_simp
  with_reducible rfl
 rotate_left
 ·simp only [Act.put, List.setIfInBounds_toArray, List.set_cons_zero, List.set_cons_succ, i64_w, i32_w]
  rfl
 refine done_ (by kernel_rfl) ?_
 clear hHeld w1a w2a w1b w2b w3a
 have z : w2.cell? ⟨w.heap.size, 2, none⟩ = some (.slice A n c) := (blk_cell hk2 2).trans rfl
 have hsub : f2 - f = cols := by have := HFF.out; omega
 go_wp2_with fail
 all_goals
  go_ret
  exact ⟨rfl, hb2⟩

/-! ### Transpose -/
/-- The transposed matrix, done to row i and, in it, to column j. -/
def midT (rows cols : Nat) (l : List Int) (i j : Nat) : List Int := (List.range (cols * rows)).map fun q => if q % rows < i ∨ (q % rows = i ∧ q / rows < j) then l.getD (q % rows * cols + q / rows) 0 else 0
def transL (rows cols : Nat) (l : List Int) : List Int := (List.range (cols * rows)).map fun q => l.getD (q % rows * cols + q / rows) 0
theorem midT_length (rows cols : Nat) (l : List Int) (i j : Nat) : (midT rows cols l i j).length = cols * rows := by simp [midT]
theorem midT_zero (rows cols : Nat) (l : List Int) : midT rows cols l 0 0 = List.replicate (cols * rows) 0 := by
 apply List.ext_getElem (by simp [midT])
 intro q h1 h2
 simp [midT]
theorem midT_step {rows cols : Nat} {l : List Int} {i j : Nat} (hi : i < rows) (hj : j < cols) : (midT rows cols l i j).set (j * rows + i) (l.getD (i * cols + j) 0) = midT rows cols l i (j + 1) := by
 have hm : (j * rows + i) % rows = i := by rw [Nat.add_comm, Nat.add_mul_mod_self_right, Nat.mod_eq_of_lt hi]
 have hd : (j * rows + i) / rows = j := by rw [Nat.add_comm, Nat.add_mul_div_right _ _ (by omega), Nat.div_eq_of_lt hi, Nat.zero_add]
 apply List.ext_getElem (by simp [midT])
 intro q h1 h2
 simp only [midT, List.getElem_set, List.getElem_map, List.getElem_range]
 by_cases e : j * rows + i = q
 ·subst e
  rw [if_pos rfl, hm, hd, if_pos (.inr ⟨rfl, by omega⟩)]
 ·rw [if_neg e]
  have hq := Nat.div_add_mod q rows
  by_cases c : q % rows < i ∨ (q % rows = i ∧ q / rows < j)
  ·rw [if_pos c, if_pos (c.imp id (fun ⟨a, b⟩ => ⟨a, by omega⟩))]
  ·rw [if_neg c, if_neg]
   rintro (h | ⟨h, h'⟩)
   ·exact c (.inl h)
   ·rcases Nat.lt_or_eq_of_le (Nat.le_of_lt_succ h') with h3 | h3
    ·exact c (.inr ⟨h, h3⟩)
    ·apply e
     rw [h, h3] at hq
     rw [Nat.mul_comm]
     exact hq
theorem midT_row {rows cols : Nat} {l : List Int} {i : Nat} : midT rows cols l i cols = midT rows cols l (i + 1) 0 := by
 apply List.ext_getElem (by simp [midT])
 intro q h1 h2
 rw [midT_length] at h1
 have hq : q / rows < cols := by
  rcases Nat.eq_zero_or_pos rows with h | h
  ·subst h; simp at h1
  ·exact (Nat.div_lt_iff_lt_mul h).2 h1
 simp only [midT, List.getElem_map, List.getElem_range]
 have : (q % rows < i ∨ (q % rows = i ∧ q / rows < cols)) ↔ (q % rows < i + 1 ∨ (q % rows = i + 1 ∧ q / rows < 0)) := by
  generalize q % rows = a at *
  generalize q / rows = b at *
  omega
 by_cases c : q % rows < i ∨ (q % rows = i ∧ q / rows < cols)
 ·rw [if_pos c, if_pos (this.1 c)]
 ·rw [if_neg c, if_neg (fun h => c (this.2 h))]
theorem midT_all {rows cols : Nat} {l : List Int} : midT rows cols l rows 0 = transL rows cols l := by
 apply List.ext_getElem (by simp [midT, transL])
 intro q h1 h2
 rw [midT_length] at h1
 have hr : 0 < rows := by
  rcases Nat.eq_zero_or_pos rows with h | h
  ·subst h; simp at h1
  ·exact h
 simp only [midT, transL, List.getElem_map, List.getElem_range]
 rw [if_pos (.inl (Nat.mod_lt _ hr))]
theorem blank_some {a b : Nat} (h : a * b ≤ 10000) : matrix_blank.f (a : Int) (b : Int) = some ((a : Int), (b : Int), List.replicate (a * b) (0 : Int)) := by
 unfold matrix_blank.f
 rw [(mul_small (i := a) (cols := b) rfl (by omega)).1, if_pos (by omega), Int.toNat_natCast, if_pos (by omega)]
/-- The memory of turned. -/
structure TS (w : World) (bm rb bt rows cols c : Nat) (A : Option Addr) (l : List Int) (vt : Value) (L : List Int) (wr : World) : Prop where
 hm : wr.heap[bm]? = some (.cells #[.int .i64 rows, .int .i64 cols, .slice A l.length c] 24 (0, 0))
 hr : wr.heap[rb]? = some (.cells #[.int .i64 0, .int .i64 0, .slice none 0 0] 24 (0, 0))
 ht : wr.heap[bt]? = some (.cells #[.int .i64 cols, .int .i64 rows, vt] 24 (0, 0))
 data : Kd.R (Kd.int .u8) 5 wr w.heap.size (fun _ => True) vt L
 below : Below w.heap.size w wr
 n1 : w.heap.size ≤ bm
 n2 : w.heap.size ≤ rb
 n3 : w.heap.size ≤ bt
theorem TS.next {w : World} {bm rb bt rows cols c : Nat} {A : Option Addr} {l : List Int} {vt : Value} {L : List Int} {wr w1 : World} (h : TS w bm rb bt rows cols c A l vt L wr) (hb : Below wr.heap.size wr w1) : TS w bm rb bt rows cols c A l vt L w1 :=
 ⟨(hb.block _ (lt_of_get h.hm)).trans h.hm, (hb.block _ (lt_of_get h.hr)).trans h.hr, (hb.block _ (lt_of_get h.ht)).trans h.ht, Kd.R_below h.data hb, below_step h.below hb, h.n1, h.n2, h.n3⟩
theorem TS.put {w : World} {bm rb bt rows cols c xb n cx : Nat} {A : Option Addr} {l : List Int} {L : List Int} {wr : World} (h : TS w bm rb bt rows cols c A l (.slice (some ⟨xb, 0, none⟩) n cx) L wr) (q : Nat) (x : Int) :
  TS w bm rb bt rows cols c A l (.slice (some ⟨xb, 0, none⟩) n cx) (L.set q x) (wr.setCell ⟨xb, q, none⟩ (.int .u8 x)) := by
 obtain ⟨_, cells, hc⟩ := own_addr (b := xb) h.data rfl
 have hx : w.heap.size ≤ xb := ((Kd.R_bound h.data).1 xb rfl).2.1
 have hne : ∀ (a : Nat) (ca : Array Value), wr.heap[a]? = some (.cells ca 24 (0, 0)) → a ≠ xb := fun a ca h1 e => by
  subst e
  rw [h1] at hc
  injection hc with hc
  injection hc with _ hc
  exact absurd hc (by decide)
 have hp := Kd.R_putn h.data (q : Int) x
 rw [Int.toNat_natCast] at hp
 exact ⟨(Below.heap_setCell _ _ _ _ (hne _ _ h.hm)).trans h.hm, (Below.heap_setCell _ _ _ _ (hne _ _ h.hr)).trans h.hr, (Below.heap_setCell _ _ _ _ (hne _ _ h.ht)).trans h.ht, hp, h.below.setCell hx _, h.n1, h.n2, h.n3⟩
/-- An element of a row of one's own. -/
theorem R_elt {w : World} {base : Nat} {ok : Nat → Prop} {b n c i : Nat} {L : List Int} (h : Kd.R (Kd.int .u8) 5 w base ok (.slice (some ⟨b, 0, none⟩) n c) L) (hi : i < L.length) : w.cell? ⟨b, i, none⟩ = some (.int .u8 (L.getD i 0)) ∧ w.frozen? ⟨b, i, none⟩ = false := by
 have h1 := Kd.reads_of_C (enc := Value.int .u8) (d := (0 : Int)) (h1 := fun _ => rfl) (Kd.R_reads' h).2.2
 obtain ⟨_, cells, hcc⟩ := own_addr (b := b) h rfl
 obtain ⟨ad0, ha0, hcell⟩ := h1.2.2 (by omega)
 cases ha0
 refine ⟨?_, by simp [World.frozen?, hcc]⟩
 rw [show (⟨b, i, none⟩ : Addr) = (⟨b, 0, none⟩ : Addr).add i from by unfold Addr.add; by_cases e : i = 0 <;> simp [e]]
 exact hcell i hi
/-- A row of one's own with something in it begins at its block's head. -/
theorem R_head {w : World} {base : Nat} {ok : Nat → Prop} {A : Option Addr} {n c : Nat} {L : List Int} (h : Kd.R (Kd.int .u8) 5 w base ok (.slice A n c) L) (hL : 0 < L.length) : ∃ b, A = some ⟨b, 0, none⟩ := by
 have h1 := Kd.reads_of_C (enc := Value.int .u8) (d := (0 : Int)) (h1 := fun _ => rfl) (Kd.R_reads' h).2.2
 obtain ⟨ad, ha, _⟩ := h1.2.2 hL
 subst ha
 obtain ⟨e, _⟩ := own_addr (b := ad.block) h rfl
 injection e with e
 exact ⟨ad.block, by rw [e]⟩

set_option maxHeartbeats 4000000 in
set_option maxRecDepth 100000 in
theorem matrix_turned.calls (rows cols : Nat) (A : Option Addr) (c : Nat) (l : List Int) (w : World) (hr : Kd.C (Kd.int .u8) w A l.length l) (hc : l.length ≤ c) (hl : l.length = rows * cols) (h64 : rows ≤ 64 ∧ cols ≤ 64) :
  Calls Tryd.prog 91 #[.agg #[.int .i64 rows, .int .i64 cols, .slice A l.length c]] w fun e w' => ∃ v, e = .returned (.agg #[.int .i64 cols, .int .i64 rows, v]) ∧ Aside0 (Kd.R (Kd.int .u8) 5 w' w.heap.size (fun _ => True) v (transL rows cols l) ∧ Below w.heap.size w w') := by
 have hu24 := Tryd.underlying24
 obtain ⟨h1, h2⟩ := h64
 have hcr : cols * rows ≤ 4096 := Nat.mul_le_mul (by omega : cols ≤ 64) (by omega : rows ≤ 64)
 have HR := Aside0.mk hr
 have HL := Aside0.mk hl
 have HBL := Aside0.mk (blank_some (a := cols) (b := rows) (by omega))
 clear hr hl
 go_enter Tryd.func91, Tryd.ntmps91
 go_upto_region 1 with (fail)
 have hb2 := below_alloc (below_alloc (Below.refl w.heap.size w) (.cells #[.int .i64 rows, .int .i64 cols, .slice A l.length c] 24)) (.cells #[.int .i64 0, .int .i64 0, .slice none 0 0] 24)
 have hbm := heap_alloc2_old w (.cells #[.int .i64 rows, .int .i64 cols, .slice A l.length c] 24) (.cells #[.int .i64 0, .int .i64 0, .slice none 0 0] 24)
 have hbr := blk_new (w.alloc (.cells #[.int .i64 rows, .int .i64 cols, .slice A l.length c] 24)) (.cells #[.int .i64 0, .int .i64 0, .slice none 0 0] 24)
 rw [World.size_alloc] at hbr
 have HB2 := Aside0.mk hb2
 clear hb2
 generalize (w.alloc (.cells #[.int .i64 rows, .int .i64 cols, .slice A l.length c] 24)).alloc (.cells #[.int .i64 0, .int .i64 0, .slice none 0 0] 24) = w2 at *
 have x0 : w2.cell? ⟨w.heap.size, 0, none⟩ = some (.int .i64 rows) := (blk_cell hbm 0).trans rfl
 have x1 : w2.cell? ⟨w.heap.size, 1, none⟩ = some (.int .i64 cols) := (blk_cell hbm 1).trans rfl
 go_wp2_with fail
 refine (matrix_blank.calls cols rows _ _ _ _ HBL.out).mono ?_
 rintro e w3 ⟨vt, rfl, ho, hb3⟩
 obtain ⟨At, ct, ev⟩ := Kd.R_slice ho
 rw [List.length_replicate] at ev
 subst ev
 have hm3 := (hb3.block _ (lt_of_get hbm)).trans hbm
 have hr3 := (hb3.block _ (lt_of_get hbr)).trans hbr
 have HO3 := Aside0.mk (Kd.R_lower ho HB2.out.size)
 have HB3 := Aside0.mk (below_step HB2.out hb3)
 clear x0 x1 hbm hbr ho hb3
 generalize hn : cols * rows = n at *
 have HN := Aside0.mk hn
 clear hn
 have x0 : w3.cell? ⟨w.heap.size, 0, none⟩ = some (.int .i64 rows) := (blk_cell hm3 0).trans rfl
 go_upto_region 2 with (fail)
 have hb4 := below_alloc (Below.refl w3.heap.size w3) (.cells #[.int .i64 cols, .int .i64 rows, .slice At n ct] 24)
 have HT : Aside0 (TS w w.heap.size (w.heap.size + 1) w3.heap.size rows cols c A l (.slice At n ct) (midT rows cols l 0 0) (w3.alloc (.cells #[.int .i64 cols, .int .i64 rows, .slice At n ct] 24))) := by
  rw [midT_zero, HN.out]
  exact ⟨(hb4.block _ (lt_of_get hm3)).trans hm3, (hb4.block _ (lt_of_get hr3)).trans hr3, blk_new _ _, Kd.R_below HO3.out hb4, below_step HB3.out hb4, Nat.le_refl _, by omega, HB3.out.size⟩
 have hrb := lt_of_get hr3
 clear hb4 hm3 hr3 HO3 x0
 generalize w3.alloc (.cells #[.int .i64 cols, .int .i64 rows, .slice At n ct] 24) = w4 at *
 generalize w3.heap.size = bt at *
 have x0 : w4.cell? ⟨w.heap.size, 0, none⟩ = some (.int .i64 rows) := (blk_cell HT.out.hm 0).trans rfl
 go_wp2_with fail
 clear x0
 go_loopg [13] rows (fun kq v13 wr => ∃ (i : Nat), v13 = .int .i64 i ∧ i ≤ rows ∧ Aside0 (kq + i = rows) ∧ Aside0 (TS w w.heap.size (w.heap.size + 1) bt rows cols c A l (.slice At n ct) (midT rows cols l i 0) wr))
 case atStart => exact ⟨0, rfl, Nat.zero_le _, ⟨by omega⟩, HT⟩
 case round =>
  obtain ⟨i, rfl, hi, HK, HO⟩ := hrel
  clear HT
  by_cases hlt : i < rows
  ·have tst : decide ((i : Int) < (rows : Int)) = true := by simpa using hlt
   have x1 : wr.cell? ⟨w.heap.size, 1, none⟩ = some (.int .i64 cols) := (blk_cell HO.out.hm 1).trans rfl
   go_wp2_with fail
   clear x1
   go_loopg [18] cols (fun kq v18 w5 => ∃ (j : Nat), v18 = .int .i64 j ∧ j ≤ cols ∧ Aside0 (kq + j = cols) ∧ Aside0 (TS w w.heap.size (w.heap.size + 1) bt rows cols c A l (.slice At n ct) (midT rows cols l i j) w5))
   case atStart => exact ⟨0, rfl, Nat.zero_le _, ⟨by omega⟩, HO⟩
   case round =>
    obtain ⟨j, rfl, hj, HK2, HO2⟩ := hrel
    clear HO
    by_cases hjl : j < cols
    ·have tst2 : decide ((j : Int) < (cols : Int)) = true := by simpa using hjl
     go_wp2_with fail
     obtain ⟨xb, hxb⟩ := R_head HO2.out.data (by rw [midT_length]; exact Nat.mul_pos (by omega) (by omega))
     subst hxb
     have hq1 : i * cols + j < l.length := by
      rw [HL.out]
      calc i * cols + j < i * cols + cols := by omega
       _ = (i + 1) * cols := by rw [Nat.add_mul, Nat.one_mul]
       _ ≤ rows * cols := Nat.mul_le_mul_right _ hlt
     have hq2 : j * rows + i < (midT rows cols l i j).length := by
      rw [midT_length]
      calc j * rows + i < j * rows + rows := by omega
       _ = (j + 1) * rows := by rw [Nat.add_mul, Nat.one_mul]
       _ ≤ cols * rows := Nat.mul_le_mul_right _ hjl
     obtain ⟨ad, eA, hx0⟩ := Kd.at_int HR.out ((i * cols + j : Nat) : Int) (by omega) (by omega)
     subst eA
     have hx1 := pw_cell_below HO2.out.below hx0
     obtain ⟨hc1, hc2⟩ := R_elt HO2.out.data hq2
     have HST := Aside0.mk (midT_step (l := l) hlt hjl)
     have hx : wr.cell? (ad.add (i * cols + j)) = some (.int .u8 (l.getD (i * cols + j) 0)) := by
      rw [show l.getD (i * cols + j) 0 = rd l ((i * cols + j : Nat) : Int) from by unfold rd; rw [Int.toNat_natCast]]
      have := hx1
      rwa [Int.toNat_natCast] at this
     clear hx0 hx1
     generalize l.getD (i * cols + j) 0 = x at *
     obtain ⟨f, hf⟩ : ∃ f : Nat, f = i * cols := ⟨_, rfl⟩
     obtain ⟨f2, hf2⟩ : ∃ f2 : Nat, f2 = (i + 1) * cols := ⟨_, rfl⟩
     obtain ⟨e, he⟩ : ∃ e : Nat, e = j * rows := ⟨_, rfl⟩
     obtain ⟨e2, he2⟩ : ∃ e2 : Nat, e2 = (j + 1) * rows := ⟨_, rfl⟩
     have hf3 : f2 = f + cols := by rw [hf2, hf, Nat.add_mul, Nat.one_mul]
     have he3 : e2 = e + rows := by rw [he2, he, Nat.add_mul, Nat.one_mul]
     have hfc : f2 ≤ c := Nat.le_trans (by rw [hf2, HL.out]; exact Nat.mul_le_mul_right _ hlt) hc
     have hec : e2 ≤ ct := Nat.le_trans (show e2 ≤ n by rw [he2, ← HN.out]; exact Nat.mul_le_mul_right _ hjl) (Kd.R_reads' HO2.out.data).2.1
     have hadd1 : (ad.add f).add j = ad.add (f + j) := by unfold Addr.add; by_cases a : f = 0 <;> by_cases b : j = 0 <;> simp [a, b]; all_goals omega
     have hadd2 : ((⟨xb, 0, none⟩ : Addr).add e).add i = ⟨xb, e + i, none⟩ := by unfold Addr.add; by_cases a : e = 0 <;> by_cases b : i = 0 <;> simp [a, b]
     rw [← hf, ← hadd1] at hx
     rw [← he] at hc1 hc2 HST
     have RW1 := fun W => matrix_row.calls (cols : Int) rows j n ct e e2 (some ⟨xb, 0, none⟩) W he he2 hec (by omega) h1
     have RW2 := fun W => matrix_row.calls (rows : Int) cols i l.length c f f2 (some ad) W hf hf2 hfc (by omega) h2
     rw [if_neg (by omega)] at RW1 RW2
     simp only [Option.map_some] at RW1 RW2
     have HRW1 := Aside0.mk RW1
     have HRW2 := Aside0.mk RW2
     clear RW1 RW2 hf hf2 he he2 hadd1 hf3 he3 hfc hec hq1 hq2
     have p0 : (0 : Int) ≤ (i : Int) := by omega
     have p1 : (i : Int) < (rows : Int) := by omega
     have p2 : (0 : Int) ≤ (j : Int) := by omega
     have p3 : (j : Int) < (cols : Int) := by omega
     have s0 : wr.cell? ⟨bt, 0, none⟩ = some (.int .i64 cols) := (blk_cell HO2.out.ht 0).trans rfl
     have s1 : wr.cell? ⟨bt, 1, none⟩ = some (.int .i64 rows) := (blk_cell HO2.out.ht 1).trans rfl
     have s2 : wr.cell? ⟨bt, 2, none⟩ = some (.slice (some ⟨xb, 0, none⟩) n ct) := (blk_cell HO2.out.ht 2).trans rfl
     have s3 : wr.cell? ⟨w.heap.size, 0, none⟩ = some (.int .i64 rows) := (blk_cell HO2.out.hm 0).trans rfl
     have s4 : wr.cell? ⟨w.heap.size, 1, none⟩ = some (.int .i64 cols) := (blk_cell HO2.out.hm 1).trans rfl
     have s5 : wr.cell? ⟨w.heap.size, 2, none⟩ = some (.slice (some ad) l.length c) := (blk_cell HO2.out.hm 2).trans rfl
     refine start_ (n := 12) (S := fun w' => w'.cell? ⟨bt, 0, none⟩ = some (.int .i64 cols) ∧ w'.cell? ⟨bt, 1, none⟩ = some (.int .i64 rows) ∧ w'.cell? ⟨bt, 2, none⟩ = some (.slice (some ⟨xb, 0, none⟩) n ct) ∧ w'.cell? ⟨w.heap.size, 0, none⟩ = some (.int .i64 rows) ∧ w'.cell? ⟨w.heap.size, 1, none⟩ = some (.int .i64 cols) ∧ w'.cell? ⟨w.heap.size, 2, none⟩ = some (.slice (some ad) l.length c) ∧ w'.cell? ((ad.add f).add j) = some (.int .u8 x)) (ds := [11]) #[false, false, false, false, false, false, false, false, false, false, false, false] (by kernel_rfl) rfl rfl ⟨s0, s1, s2, s3, s4, s5, hx⟩ (fun hHeld => ?_)
     have HT1 := Aside0.mk (HO2.out.next (below_drew (Below.refl _ _)))
     have hd1 : wr.drew.cell? ⟨xb, e + i, none⟩ = _ := hc1
     have hd2 : wr.drew.frozen? ⟨xb, e + i, none⟩ = false := hc2
     clear HO2 hc1 hc2 s0 s1 s2 s3 s4 s5 hx
     generalize wr.drew = w6 at *
     refine pure_ (i := 1) (N := some 22) (v := ?_) (a' := ?_) #[false, true, false, false, false, false, false, false, false, false, false, false] rfl rfl (by kernel_rfl) (fun _ _ _ h => h) (Or.inl ⟨by rfl, ?_⟩) ?_ ?_
     rotate_left
     ·intro w'
      go_simp
      with_reducible rfl
     rotate_left
     ·simp only [Act.put, List.setIfInBounds_toArray, List.set_cons_zero, List.set_cons_succ, i64_w, i32_w]
      rfl
     refine pure_ (i := 3) (N := some 24) (v := ?_) (a' := ?_) #[false, true, false, true, false, false, false, false, false, false, false, false] rfl rfl (by kernel_rfl) (fun _ _ _ h => h) (Or.inl ⟨by rfl, ?_⟩) ?_ ?_
     rotate_left
     ·intro w'
      go_simp
      with_reducible rfl
     rotate_left
     ·simp only [Act.put, List.setIfInBounds_toArray, List.set_cons_zero, List.set_cons_succ, i64_w, i32_w]
      rfl
     refine pure_ (i := 5) (N := some 26) (v := ?_) (a' := ?_) #[false, true, false, true, false, true, false, false, false, false, false, false] rfl rfl (by kernel_rfl) (fun _ _ _ h => h) (Or.inl ⟨by rfl, ?_⟩) ?_ ?_
     rotate_left
     ·intro w'
      go_simp
      with_reducible rfl
     rotate_left
     ·simp only [Act.put, List.setIfInBounds_toArray, List.set_cons_zero, List.set_cons_succ, i64_w, i32_w]
      rfl
     refine pure_ (i := 7) (N := some 28) (v := ?_) (a' := ?_) #[false, true, false, true, false, true, false, true, false, false, false, false] rfl rfl (by kernel_rfl) (fun _ _ _ h => h) (Or.inl ⟨by rfl, ?_⟩) ?_ ?_
     rotate_left
     ·intro w'
      go_simp
      with_reducible rfl
     rotate_left
     ·simp only [Act.put, List.setIfInBounds_toArray, List.set_cons_zero, List.set_cons_succ, i64_w, i32_w]
      rfl
     refine take_ (i := 0) (N := some 21) (v := ?_) (a' := ?_) #[true, true, false, true, false, true, false, true, false, false, false, false] rfl rfl (by kernel_rfl) (fun _ _ _ h => h) (Or.inl ⟨by rfl, ?_⟩) hHeld ?_ ?_
     rotate_left
     ·rintro w' ⟨s0, s1, s2, s3, s4, s5, s6⟩
      go_simp
      with_reducible rfl
     rotate_left
     ·simp only [Act.put, List.setIfInBounds_toArray, List.set_cons_zero, List.set_cons_succ, i64_w, i32_w]
      rfl
     refine take_ (i := 4) (N := some 25) (v := ?_) (a' := ?_) #[true, true, false, true, true, true, false, true, false, false, false, false] rfl rfl (by kernel_rfl) (fun _ _ _ h => h) (Or.inl ⟨by rfl, ?_⟩) hHeld ?_ ?_
     rotate_left
     ·rintro w' ⟨s0, s1, s2, s3, s4, s5, s6⟩
      go_simp
      with_reducible rfl
     rotate_left
     ·simp only [Act.put, List.setIfInBounds_toArray, List.set_cons_zero, List.set_cons_succ, i64_w, i32_w]
      rfl
     refine one_ (i := 2) (N := some 23) #[true, true, true, true, true, true, false, true, false, false, false, false] rfl rfl (by kernel_rfl) (by decide) (fun K hK => ?_)
     refine goes_ Tryd.func66 (by kernel_rfl) rfl #[.agg #[.int .i64 cols, .int .i64 rows, .slice (some ⟨xb, 0, none⟩) n ct], .int .i64 j] (by rfl) rfl rfl (by simp only [List.map_toArray, List.map_cons, List.map_nil]; rfl) ?_
     refine (HRW1.out _).mono ?_
     rintro e' w7 ⟨rfl, hb7⟩
     refine ⟨_, rfl, ?_⟩
     refine hK.out _ _ ⟨pw_cell_below hb7 hHeld.1, pw_cell_below hb7 hHeld.2.1, pw_cell_below hb7 hHeld.2.2.1, pw_cell_below hb7 hHeld.2.2.2.1, pw_cell_below hb7 hHeld.2.2.2.2.1, pw_cell_below hb7 hHeld.2.2.2.2.2.1, pw_cell_below hb7 hHeld.2.2.2.2.2.2⟩ (fun hHeld => ?_)
     clear hK K
     refine norm_ (a' := ?_) ?_ ?_
     rotate_left
     ·show Act.put _ (some 23) _ = _
      simp only [Act.put, List.setIfInBounds_toArray, List.set_cons_zero, List.set_cons_succ, i64_w, i32_w]
      rfl
     refine one_ (i := 6) (N := some 27) #[true, true, true, true, true, true, true, true, false, false, false, false] rfl rfl (by kernel_rfl) (by decide) (fun K hK => ?_)
     refine goes_ Tryd.func66 (by kernel_rfl) rfl #[.agg #[.int .i64 rows, .int .i64 cols, .slice (some ad) l.length c], .int .i64 i] (by rfl) rfl rfl (by simp only [List.map_toArray, List.map_cons, List.map_nil]; rfl) ?_
     refine (HRW2.out _).mono ?_
     rintro e' w8 ⟨rfl, hb8⟩
     refine ⟨_, rfl, ?_⟩
     have hb78 := below_step hb7 hb8
     have hd3 := pw_cell_below hb78 hd1
     have hd4 := (below_frozen hb78 (p := ⟨xb, e + i, none⟩) (World.block_lt_of_cell? _ _ hd1)).trans hd2
     refine hK.out _ _ ⟨pw_cell_below hb8 hHeld.1, pw_cell_below hb8 hHeld.2.1, pw_cell_below hb8 hHeld.2.2.1, pw_cell_below hb8 hHeld.2.2.2.1, pw_cell_below hb8 hHeld.2.2.2.2.1, pw_cell_below hb8 hHeld.2.2.2.2.2.1, pw_cell_below hb8 hHeld.2.2.2.2.2.2⟩ (fun hHeld => ?_)
     clear hK K
     refine norm_ (a' := ?_) ?_ ?_
     rotate_left
     ·show Act.put _ (some 27) _ = _
      simp only [Act.put, List.setIfInBounds_toArray, List.set_cons_zero, List.set_cons_succ, i64_w, i32_w]
      rfl
     refine pure_ (i := 8) (N := some 29) (v := ?_) (a' := ?_) #[true, true, true, true, true, true, true, true, true, false, false, false] rfl rfl (by kernel_rfl) (fun _ _ _ h => h) (Or.inl ⟨by rfl, ?_⟩) ?_ ?_
     rotate_left
     ·intro w'
      go_simp
      with_reducible rfl
     rotate_left
     ·simp only [Act.put, List.setIfInBounds_toArray, List.set_cons_zero, List.set_cons_succ, i64_w, i32_w]
      rfl
     refine take_ (i := 9) (N := some 30) (v := ?_) (a' := ?_) #[true, true, true, true, true, true, true, true, true, true, false, false] rfl rfl (by kernel_rfl) (fun _ _ _ h => h) (Or.inl ⟨by rfl, ?_⟩) hHeld ?_ ?_
     rotate_left
     ·rintro w' ⟨s0, s1, s2, s3, s4, s5, s6⟩
      go_simp
      with_reducible rfl
     rotate_left
     ·simp only [Act.put, List.setIfInBounds_toArray, List.set_cons_zero, List.set_cons_succ, i64_w, i32_w]
      rfl
     refine pure_ (i := 10) (N := some 31) (v := ?_) (a' := ?_) #[true, true, true, true, true, true, true, true, true, true, true, false] rfl rfl (by kernel_rfl) (fun _ _ _ h => h) (Or.inl ⟨by rfl, ?_⟩) ?_ ?_
     rotate_left
     ·intro w'
      go_simp
      with_reducible rfl
     rotate_left
     ·simp only [Act.put, List.setIfInBounds_toArray, List.set_cons_zero, List.set_cons_succ, i64_w, i32_w]
      rfl
     refine last_ (i := 11) (N := none) #[true, true, true, true, true, true, true, true, true, true, true, true] rfl rfl (by kernel_rfl) (by decide) (fun K hK => ?_)
     refine skip_ (w1 := ?_) (by rfl) rfl ?_ ?_
     rotate_left
     ·go_simp
      rfl
     refine hK.out _ _ ?_
     clear hK K
     refine done_ (by kernel_rfl) ?_
     clear hHeld
     have HT2 := Aside0.mk ((HT1.out.next hb78).put (e + i) x)
     rw [HST.out] at HT2
     clear HT1 hb78 hb7 hb8 hd1 hd2 hd3 hd4
     go_wp2_with fail
     go_roundg (cols - (j + 1))
     case measure => have := HK2.out; omega
     case rel => exact ⟨j + 1, by go_num, by omega, ⟨by omega⟩, HT2⟩
    ·obtain rfl : j = cols := by omega
     go_wp2_with fail
     go_roundg (rows - (i + 1))
     case measure => have := HK.out; omega
     case rel => exact ⟨i + 1, by go_num, by omega, ⟨by omega⟩, ⟨by rw [← midT_row]; exact HO2.out⟩⟩
  ·obtain rfl : i = rows := by omega
   have s0 : wr.cell? ⟨bt, 0, none⟩ = some (.int .i64 cols) := (blk_cell HO.out.ht 0).trans rfl
   have s1 : wr.cell? ⟨bt, 1, none⟩ = some (.int .i64 i) := (blk_cell HO.out.ht 1).trans rfl
   have s2 : wr.cell? ⟨bt, 2, none⟩ = some (.slice At n ct) := (blk_cell HO.out.ht 2).trans rfl
   have y0 : wr.cell? ⟨w.heap.size + 1, 0, none⟩ = some (.int .i64 0) := (blk_cell HO.out.hr 0).trans rfl
   have y1 : wr.cell? ⟨w.heap.size + 1, 1, none⟩ = some (.int .i64 0) := (blk_cell HO.out.hr 1).trans rfl
   have y2 : wr.cell? ⟨w.heap.size + 1, 2, none⟩ = some (.slice none 0 0) := (blk_cell HO.out.hr 2).trans rfl
   have f0 := blk_frozen HO.out.hr 0
   have f1 := blk_frozen HO.out.hr 1
   have f2 := blk_frozen HO.out.hr 2
   go_wp2_with fail
   refine bodyPost_ret (results_cell_row rfl _ _ (w.heap.size + 1) 24 #[.int .i64 cols, .int .i64 i, .slice At n ct] (0, 0) _ rfl (blk_put (cs := #[.int .i64 cols, .int .i64 i, .slice none 0 0]) (blk_put (cs := #[.int .i64 cols, .int .i64 0, .slice none 0 0]) (blk_put (cs := #[.int .i64 0, .int .i64 0, .slice none 0 0]) HO.out.hr 0 _ rfl) 1 _ rfl) 2 _ rfl) Tryd.underlying24 rfl (by kernel_rfl)) rfl ?_
   refine ⟨_, rfl, ⟨?_, ?_⟩⟩
   ·rw [← midT_all]
    have h1 := Kd.R_types HO.out.data HO.out.hr (fun q hq => by obtain rfl : q = 5 := (List.mem_cons.1 hq).elim id (fun hx => by cases hx); decide)
    exact Kd.R_mono (Kd.R_far (Kd.R_far (Kd.R_far h1 (p := ⟨w.heap.size + 1, 0, none⟩) (fun k hk => hk.2) _) (p := ⟨w.heap.size + 1, 1, none⟩) (fun k hk => hk.2) _) (p := ⟨w.heap.size + 1, 2, none⟩) (fun k hk => hk.2) _) (fun _ _ => trivial)
   ·exact ((HO.out.below.setCell (by show w.heap.size ≤ w.heap.size + 1; omega) _).setCell (by show w.heap.size ≤ w.heap.size + 1; omega) _).setCell (by show w.heap.size ≤ w.heap.size + 1; omega) _

def matrix_Transpose.f (a b : Int) (l : List Int) : Option (Int × Int × List Int × Int) := (matrix_Right.f a b l).bind fun t => if t = true then some (b, a, transL a.toNat b.toNat l, 0) else some (0, 0, [], 3)
set_option maxHeartbeats 4000000 in
set_option maxRecDepth 100000 in
theorem matrix_Transpose.calls (a0_0 : Int) (a0_1 : Int) (A0_2 : Option Addr) (c0_2 : Nat) (l0_2 : List Int) (r1 : Int) (r2 : Int) (r3 : List Int) (r4 : Int) (w : World) (hr0_2 : Kd.C (Kd.int .u8) w A0_2 l0_2.length l0_2) (hc0_2 : l0_2.length ≤ c0_2) (h : matrix_Transpose.f a0_0 a0_1 l0_2 = some (r1, r2, r3, r4)) :
  Calls Tryd.prog 69 #[.agg #[.int .i64 a0_0, .int .i64 a0_1, .slice A0_2 l0_2.length c0_2]] w fun e w' => ∃ v2_ : Value, e = .returned (.tuple #[.agg #[.int .i64 r1, .int .i64 r2, v2_], .int .i64 r4]) ∧ Kd.R (Kd.int .u8) 5 w' w.heap.size (fun _ => True) v2_ r3 ∧ Below w.heap.size w w' := by
 have hu24 := Tryd.underlying24
 have HR := Aside0.mk hr0_2
 have HC := Aside0.mk hc0_2
 clear hr0_2 hc0_2
 unfold matrix_Transpose.f at h
 obtain ⟨t, hm, h⟩ := Option.bind_eq_some_iff.mp h
 have HM := Aside0.mk hm
 cases t with
 | false =>
  simp only [Bool.false_eq_true, if_false, Option.some.injEq, Prod.mk.injEq] at h
  obtain ⟨rfl, rfl, rfl, rfl⟩ := h
  clear hm
  go_enter Tryd.func69, Tryd.ntmps69
  go_upto_region 1 with (fail)
  have hb2 := below_alloc (below_alloc (Below.refl w.heap.size w) (.cells #[.int .i64 a0_0, .int .i64 a0_1, .slice A0_2 l0_2.length c0_2] 24)) (.cells #[.int .i64 0, .int .i64 0, .slice none 0 0] 24)
  have hbm := heap_alloc2_old w (.cells #[.int .i64 a0_0, .int .i64 a0_1, .slice A0_2 l0_2.length c0_2] 24) (.cells #[.int .i64 0, .int .i64 0, .slice none 0 0] 24)
  have hbr := blk_new (w.alloc (.cells #[.int .i64 a0_0, .int .i64 a0_1, .slice A0_2 l0_2.length c0_2] 24)) (.cells #[.int .i64 0, .int .i64 0, .slice none 0 0] 24)
  rw [World.size_alloc] at hbr
  have HB2 := Aside0.mk hb2
  clear hb2
  generalize (w.alloc (.cells #[.int .i64 a0_0, .int .i64 a0_1, .slice A0_2 l0_2.length c0_2] 24)).alloc (.cells #[.int .i64 0, .int .i64 0, .slice none 0 0] 24) = w2 at *
  have x0 : w2.cell? ⟨w.heap.size, 0, none⟩ = some (.int .i64 a0_0) := (blk_cell hbm 0).trans rfl
  have x1 : w2.cell? ⟨w.heap.size, 1, none⟩ = some (.int .i64 a0_1) := (blk_cell hbm 1).trans rfl
  have x2 : w2.cell? ⟨w.heap.size, 2, none⟩ = some (.slice A0_2 l0_2.length c0_2) := (blk_cell hbm 2).trans rfl
  go_wp2_with fail
  refine (matrix_Right.calls a0_0 a0_1 A0_2 c0_2 l0_2 false _ (Kd.C_below HR.out HB2.out) HC.out HM.out).mono ?_
  rintro e w3 ⟨rfl, hb3⟩
  have hr3 := (hb3.block _ (lt_of_get hbr)).trans hbr
  have hm3 := (hb3.block _ (lt_of_get hbm)).trans hbm
  have HB3 := Aside0.mk (below_step HB2.out hb3)
  clear x0 x1 x2 hbr hbm hb3
  have x0 : w3.cell? ⟨w.heap.size, 0, none⟩ = some (.int .i64 a0_0) := (blk_cell hm3 0).trans rfl
  have x1 : w3.cell? ⟨w.heap.size, 1, none⟩ = some (.int .i64 a0_1) := (blk_cell hm3 1).trans rfl
  have x2 : w3.cell? ⟨w.heap.size, 2, none⟩ = some (.slice A0_2 l0_2.length c0_2) := (blk_cell hm3 2).trans rfl
  have y0 : w3.cell? ⟨w.heap.size + 1, 0, none⟩ = some (.int .i64 0) := (blk_cell hr3 0).trans rfl
  have y1 : w3.cell? ⟨w.heap.size + 1, 1, none⟩ = some (.int .i64 0) := (blk_cell hr3 1).trans rfl
  have y2 : w3.cell? ⟨w.heap.size + 1, 2, none⟩ = some (.slice none 0 0) := (blk_cell hr3 2).trans rfl
  have f0 := blk_frozen hr3 0
  have f1 := blk_frozen hr3 1
  have f2 := blk_frozen hr3 2
  clear x0 x1 x2 hm3
  go_wp2_with fail
  refine bodyPost_ret (results_ct rfl _ _ (w.heap.size + 1) 24 #[.int .i64 0, .int .i64 0, .slice none 0 0] (0, 0) _ rfl (blk_put (cs := #[.int .i64 0, .int .i64 0, .slice none 0 0]) (blk_put (cs := #[.int .i64 0, .int .i64 0, .slice none 0 0]) (blk_put (cs := #[.int .i64 0, .int .i64 0, .slice none 0 0]) hr3 0 _ rfl) 1 _ rfl) 2 _ rfl) Tryd.underlying24 rfl (by kernel_rfl)) rfl ?_
  refine ⟨_, rfl, Kd.R_nil _ _ _ _ _, ?_⟩
  exact ((HB3.out.setCell (by show w.heap.size ≤ w.heap.size + 1; omega) _).setCell (by show w.heap.size ≤ w.heap.size + 1; omega) _).setCell (by show w.heap.size ≤ w.heap.size + 1; omega) _
 | true =>
  obtain ⟨e0, e1, e2, e3, hl⟩ := right_true hm
  rw [if_pos rfl] at h
  simp only [Option.some.injEq, Prod.mk.injEq] at h
  obtain ⟨rows, rfl⟩ := Int.eq_ofNat_of_zero_le e0
  obtain ⟨cols, rfl⟩ := Int.eq_ofNat_of_zero_le e2
  rw [Int.toNat_natCast, Int.toNat_natCast] at h hl
  obtain ⟨rfl, rfl, rfl, rfl⟩ := h
  have hrw : rows ≤ 64 ∧ cols ≤ 64 := by omega
  have HL := Aside0.mk hl
  obtain ⟨F, hF⟩ : ∃ F, F = transL rows cols l0_2 := ⟨_, rfl⟩
  rw [← hF]
  have HF := Aside0.mk hF
  clear hm hl e0 e1 e2 e3 hF
  go_enter Tryd.func69, Tryd.ntmps69
  go_upto_region 1 with (fail)
  have hb2 := below_alloc (below_alloc (Below.refl w.heap.size w) (.cells #[.int .i64 (rows : Int), .int .i64 (cols : Int), .slice A0_2 l0_2.length c0_2] 24)) (.cells #[.int .i64 0, .int .i64 0, .slice none 0 0] 24)
  have hbm := heap_alloc2_old w (.cells #[.int .i64 (rows : Int), .int .i64 (cols : Int), .slice A0_2 l0_2.length c0_2] 24) (.cells #[.int .i64 0, .int .i64 0, .slice none 0 0] 24)
  have hbr := blk_new (w.alloc (.cells #[.int .i64 (rows : Int), .int .i64 (cols : Int), .slice A0_2 l0_2.length c0_2] 24)) (.cells #[.int .i64 0, .int .i64 0, .slice none 0 0] 24)
  rw [World.size_alloc] at hbr
  have HB2 := Aside0.mk hb2
  clear hb2
  generalize (w.alloc (.cells #[.int .i64 (rows : Int), .int .i64 (cols : Int), .slice A0_2 l0_2.length c0_2] 24)).alloc (.cells #[.int .i64 0, .int .i64 0, .slice none 0 0] 24) = w2 at *
  have x0 : w2.cell? ⟨w.heap.size, 0, none⟩ = some (.int .i64 (rows : Int)) := (blk_cell hbm 0).trans rfl
  have x1 : w2.cell? ⟨w.heap.size, 1, none⟩ = some (.int .i64 (cols : Int)) := (blk_cell hbm 1).trans rfl
  have x2 : w2.cell? ⟨w.heap.size, 2, none⟩ = some (.slice A0_2 l0_2.length c0_2) := (blk_cell hbm 2).trans rfl
  go_wp2_with fail
  refine (matrix_Right.calls (rows : Int) (cols : Int) A0_2 c0_2 l0_2 true _ (Kd.C_below HR.out HB2.out) HC.out HM.out).mono ?_
  rintro e w3 ⟨rfl, hb3⟩
  have hr3 := (hb3.block _ (lt_of_get hbr)).trans hbr
  have hm3 := (hb3.block _ (lt_of_get hbm)).trans hbm
  have HB3 := Aside0.mk (below_step HB2.out hb3)
  clear x0 x1 x2 hbr hbm hb3
  have x0 : w3.cell? ⟨w.heap.size, 0, none⟩ = some (.int .i64 (rows : Int)) := (blk_cell hm3 0).trans rfl
  have x1 : w3.cell? ⟨w.heap.size, 1, none⟩ = some (.int .i64 (cols : Int)) := (blk_cell hm3 1).trans rfl
  have x2 : w3.cell? ⟨w.heap.size, 2, none⟩ = some (.slice A0_2 l0_2.length c0_2) := (blk_cell hm3 2).trans rfl
  go_wp2_with fail
  refine (matrix_turned.calls rows cols A0_2 c0_2 l0_2 w3 (Kd.C_below HR.out HB3.out) HC.out HL.out hrw).mono ?_
  rintro e w4 ⟨v, rfl, hq⟩
  rw [← HF.out] at hq
  obtain ⟨Av, cv, ev⟩ := Kd.R_slice hq.out.1
  subst ev
  have hr4 := (hq.out.2.block _ (lt_of_get hr3)).trans hr3
  have hrl := lt_of_get hr3
  have HQ := Aside0.mk hq.out
  clear hq hr3 hm3 x0 x1 x2
  have y0 : w4.cell? ⟨w.heap.size + 1, 0, none⟩ = some (.int .i64 0) := (blk_cell hr4 0).trans rfl
  have y1 : w4.cell? ⟨w.heap.size + 1, 1, none⟩ = some (.int .i64 0) := (blk_cell hr4 1).trans rfl
  have y2 : w4.cell? ⟨w.heap.size + 1, 2, none⟩ = some (.slice none 0 0) := (blk_cell hr4 2).trans rfl
  have f0 := blk_frozen hr4 0
  have f1 := blk_frozen hr4 1
  have f2 := blk_frozen hr4 2
  go_wp2_with fail
  refine bodyPost_ret (results_ct rfl _ _ (w.heap.size + 1) 24 #[.int .i64 cols, .int .i64 rows, .slice Av F.length cv] (0, 0) _ rfl (blk_put (cs := #[.int .i64 cols, .int .i64 rows, .slice none 0 0]) (blk_put (cs := #[.int .i64 cols, .int .i64 0, .slice none 0 0]) (blk_put (cs := #[.int .i64 0, .int .i64 0, .slice none 0 0]) hr4 0 _ rfl) 1 _ rfl) 2 _ rfl) Tryd.underlying24 rfl (by kernel_rfl)) rfl ?_
  refine ⟨_, rfl, ?_, ?_⟩
  ·have h1 := Kd.R_lower (Kd.R_bound HQ.out.1) HB3.out.size
   exact Kd.R_mono (Kd.R_far (Kd.R_far (Kd.R_far h1 (p := ⟨w.heap.size + 1, 0, none⟩) (fun k hk => by show k ≠ w.heap.size + 1; have := hk.2.1; omega) _) (p := ⟨w.heap.size + 1, 1, none⟩) (fun k hk => by show k ≠ w.heap.size + 1; have := hk.2.1; omega) _) (p := ⟨w.heap.size + 1, 2, none⟩) (fun k hk => by show k ≠ w.heap.size + 1; have := hk.2.1; omega) _) (fun _ _ => trivial)
  ·exact (((below_step HB3.out HQ.out.2).setCell (by show w.heap.size ≤ w.heap.size + 1; omega) _).setCell (by show w.heap.size ≤ w.heap.size + 1; omega) _).setCell (by show w.heap.size ≤ w.heap.size + 1; omega) _


end Go.Proofs.YtjgcocfnilhggaaDoor.Q
