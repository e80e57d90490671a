/- Written by drive.py (a program of this repo, over the kit's print): each Go function named here answers what the Lean function beside it answers, wherever that one answers, in every world that meets the stated premises. -/
import Derived.Test.YtjgcocfnilhggaaDoorQx0
import Derived.Test.YtjgcocfnilhggaaDoorQx164
import Derived.Test.YtjgcocfnilhggaaDoorQx169
import Derived.Test.YtjgcocfnilhggaaDoorQx190
namespace Go.Proofs.YtjgcocfnilhggaaDoor.Q
open Go.RowKit Go.Proofs.YtjgcocfnilhggaaDoorW.PrintWords Go.Proofs.YtjgcocfnilhggaaDoorW.PrintLast Go.Proofs.YtjgcocfnilhggaaDoorW.PrintMore
attribute [local go_sem] max2_int min2_int max_two min_two max_three min_three max_four min_four   -- for this text's walks alone
set_option linter.unusedVariables false
set_option linter.unusedSimpArgs false

/-! ### matrix_Pick: function 34 -/
/-! ### Pick -/
/-- A copy, as a step of a region that draws its order: what is known behind it is F. -/
theorem copy_step {P : Program} {ops : Array Oper} {o : Oper} {a : Act} {w : World} {K : Act → World → Prop} {Q : Exit → Act → World → Prop} {E : Prop} (hgd : o.guard = none) (d s : Operand) (dT sT : TypeId)
  (ho : o.op = .call { callee := .builtin .copy, args := #[d, s], argTypes := #[dT, sT] }) (elem : TypeId) (hu : P.underlying dT = some (.slice elem)) (hsz : (P.info? elem).map (·.size) = some 1)
  (dp sp : Option Addr) (dLen dCap sLen sCap : Nat) (hd : a.eval d = .slice dp dLen dCap) (hs : a.eval s = .slice sp sLen sCap) (n : Nat) (hn : n = Nat.min sLen dLen) (F : World → Prop) (h0 : n = 0 → F w)
  (hpos : 0 < n → ∃ (g off : Nat) (cur : List Value) (t : TypeId) (cs : List Value) (ad : Addr), w.heap[g]? = some (.cells cur.toArray t (0, 0)) ∧ cs.length = n ∧ dp = some ⟨g, off, none⟩ ∧ sp = some ad ∧ (∀ j v, cs[j]? = some v → w.cell? (ad.add j) = some v) ∧ off + cs.length ≤ cur.length ∧ (∀ v ∈ cs, v.oneCell' = true) ∧
   ∀ w', w'.heap[g]? = some (.cells (splice cur off cs).toArray t (0, 0)) → w.grownBy w' (some g) → F w')
  (h : ∀ w', F w' → K (a.put o.dst (goInt n)) w') : if Region.wanted o (yielded ops a.tmps) = true then Oper.wp P o a w K Q else E := by
 have hw : Region.wanted o (yielded ops a.tmps) = true := by simp [Region.wanted, hgd]
 rw [if_pos hw]
 rcases Nat.eq_zero_or_pos n with e | e
 ·have hrun := run_copy_none (P := P) w dT sT o.type elem dp sp dLen dCap sLen sCap hu hsz (by omega)
  subst e
  unfold Oper.wp
  simp [execOp, ho, resolve, invoke, builtin, hd, hs, hrun, Result.andThen]
  exact h w (h0 rfl)
 ·obtain ⟨g, off, cur, t, cs, ad, hg, hcl, rfl, rfl, hsrc, hfit, h1, hF⟩ := hpos e
  have hrun := run_copy_row (P := P) w dT sT o.type elem g off dLen dCap ad sLen sCap cur.toArray t cs hu hsz hg (hcl.trans hn) hsrc (by simpa using hfit) h1
  subst hcl
  unfold Oper.wp
  simp [execOp, ho, resolve, invoke, builtin, hd, hs, hrun, Result.andThen]
  refine h _ (hF _ (by simpa [splice] using setRow_heap w g _ _ t _ hg) ⟨rfl, rfl, rfl, by simp [World.setRow], fun k _ hk => setRow_other w g k _ (fun e => hk (by rw [e]))⟩)
theorem R_cur {w : World} {base : Nat} {ok : Nat → Prop} {g n c : Nat} {L : List Int} (h : Kd.R (Kd.int .u8) 5 w base ok (.slice (some ⟨g, 0, none⟩) n c) L) : ∃ cur : List Value, w.heap[g]? = some (.cells cur.toArray 5 (0, 0)) ∧ cur.length = c ∧ n ≤ c ∧ n = L.length ∧ base ≤ g ∧ cur.take n = nums .u8 L ∧ c ≤ maxLen := by
 have ho := Kd.own_of_R h
 rcases ho.2 with ⟨h', _⟩ | ⟨g', cap', cur, h', hg1, hh, hle, hm, hsz, htk⟩
 ·cases h'
 ·injection h' with h1 h2 h3
  injection h1 with h1
  injection h1 with h1
  subst h1 h2 h3
  refine ⟨cur.toList, by simpa using hh, by simpa using hsz, hle, rfl, hg1, ?_, hm⟩
  simpa [nums, encs] using htk
theorem R_splice {w w1 : World} {base : Nat} {ok : Nat → Prop} {g n c off : Nat} {L seg : List Int} {cur : List Value} (h : Kd.R (Kd.int .u8) 5 w base ok (.slice (some ⟨g, 0, none⟩) n c) L) (hg : w.heap[g]? = some (.cells cur.toArray 5 (0, 0))) (hfit : off + seg.length ≤ L.length)
  (h1 : w1.heap[g]? = some (.cells (splice cur off (nums .u8 seg)).toArray 5 (0, 0))) : Kd.R (Kd.int .u8) 5 w1 base ok (.slice (some ⟨g, 0, none⟩) n c) (splice L off seg) := by
 obtain ⟨cur', hc1, hc2, hc3, hc4, hc5, hc6, hc7⟩ := R_cur h
 rw [hg] at hc1
 injection hc1 with hc1
 injection hc1 with hc1
 have hce : cur = cur' := by simpa using congrArg Array.toList hc1
 subst hce
 have hls : (splice L off seg).length = n := by rw [length_splice _ _ _ hfit, hc4]
 have hlc : (splice cur off (nums .u8 seg)).length = c := by rw [length_splice _ _ _ (by simp [nums]; omega), hc2]
 refine Kd.R_of_own ⟨by simp [encs], .inr ⟨g, c, (splice cur off (nums .u8 seg)).toArray, by rw [hls], hc5, h1, by omega, hc7, by simpa using hlc, ?_⟩⟩ h.1
 rw [hls, Nat.mul_one]
 show (splice cur off (nums .u8 seg)).take n = (splice L off seg).map _
 unfold splice
 rw [List.take_append, List.take_append, List.map_append, List.map_append]
 have e1 : (nums .u8 seg).length = seg.length := by simp [nums]
 rw [List.take_take, Nat.min_eq_right (by omega), List.length_take, Nat.min_eq_left (by omega), List.take_of_length_le (l := nums .u8 seg) (by omega), e1, List.take_drop]
 have e2 : off + seg.length + (n - off - seg.length) = n := by omega
 rw [e2]
 have e3 : cur.take off = (L.take off).map (fun x => Value.int .u8 x) := by
  have : (cur.take n).take off = (nums .u8 L).take off := by rw [hc6]
  rw [List.take_take, Nat.min_eq_left (by omega)] at this
  rw [this, nums, List.map_take]
 have e4 : (cur.take n).drop (off + seg.length) = (L.drop (off + seg.length)).map (fun x => Value.int .u8 x) := by
  rw [hc6, nums, List.map_drop]
 rw [e3, e4]
 rfl
def segP (cols : Nat) (l : List Int) (i : Int) : List Int := (l.drop (i.toNat * cols)).take cols
def pickL (cols : Nat) (l : List Int) (L : List Int) : List Int := (L.map (segP cols l)).flatten
/-- The first k rows are in their places. -/
def midP (cols : Nat) (l : List Int) (L : List Int) (k : Nat) : List Int := pickL cols l (L.take k) ++ List.replicate ((L.length - k) * cols) 0
theorem pickL_length {cols rows : Nat} {l : List Int} (hl : l.length = rows * cols) : ∀ L : List Int, (∀ x, x ∈ L → 0 ≤ x ∧ x < (rows : Int)) → (pickL cols l L).length = L.length * cols
 | [], _ => by simp [pickL]
 | x :: L, h => by
  have ih := pickL_length hl L fun y hy => h y (List.mem_cons_of_mem _ hy)
  have hx := h x (List.mem_cons_self ..)
  have hle : x.toNat * cols + cols ≤ l.length := by rw [hl, ← Nat.succ_mul]; exact Nat.mul_le_mul_right _ (by omega)
  unfold pickL at ih ⊢
  rw [List.map_cons, List.flatten_cons, List.length_append, ih, List.length_cons, Nat.add_mul, Nat.one_mul]
  unfold segP
  simp
  omega
theorem midP_zero (cols : Nat) (l L : List Int) : midP cols l L 0 = List.replicate (L.length * cols) 0 := by simp [midP, pickL]
theorem midP_all (cols : Nat) (l L : List Int) : midP cols l L L.length = pickL cols l L := by simp [midP]
theorem segP_length {cols rows : Nat} {l : List Int} (hl : l.length = rows * cols) {x : Int} (h : 0 ≤ x ∧ x < (rows : Int)) : (segP cols l x).length = cols := by
 have hle : x.toNat * cols + cols ≤ l.length := by rw [hl, ← Nat.succ_mul]; exact Nat.mul_le_mul_right _ (by omega)
 unfold segP
 simp
 omega
theorem midP_length {cols rows : Nat} {l L : List Int} (hl : l.length = rows * cols) (h : ∀ x, x ∈ L → 0 ≤ x ∧ x < (rows : Int)) {k : Nat} (hk : k ≤ L.length) : (midP cols l L k).length = L.length * cols := by
 unfold midP
 rw [List.length_append, pickL_length hl _ (fun x hx => h x (List.mem_of_mem_take hx)), List.length_take, Nat.min_eq_left hk, List.length_replicate, ← Nat.add_mul]
 congr 1
 omega
theorem midP_step {cols rows : Nat} {l L : List Int} (hl : l.length = rows * cols) (h : ∀ x, x ∈ L → 0 ≤ x ∧ x < (rows : Int)) {k : Nat} (hk : k < L.length) : splice (midP cols l L k) (k * cols) (segP cols l (L.getD k 0)) = midP cols l L (k + 1) := by
 have hp := pickL_length hl (L.take k) (fun x hx => h x (List.mem_of_mem_take hx))
 rw [List.length_take, Nat.min_eq_left (by omega)] at hp
 have hx : 0 ≤ L.getD k 0 ∧ L.getD k 0 < (rows : Int) := by
  rw [List.getD_eq_getElem?_getD, List.getElem?_eq_getElem hk]
  exact h _ (List.getElem_mem hk)
 have hs := segP_length hl hx
 unfold splice midP
 rw [hs, List.take_append, hp, Nat.sub_self, List.take_zero, List.append_nil, List.take_of_length_le (by omega), List.drop_append, List.drop_of_length_le (by omega), List.nil_append, hp, List.drop_replicate]
 rw [List.take_succ_eq_append_getElem hk]
 unfold pickL
 rw [List.map_append, List.flatten_append, List.append_assoc]
 congr 1
 rw [List.getD_eq_getElem?_getD, List.getElem?_eq_getElem hk]
 simp only [List.map_cons, List.map_nil, List.flatten_cons, List.flatten_nil, List.append_nil, Option.getD_some]
 congr 2
 have : (L.length - k) * cols = (L.length - (k + 1)) * cols + cols := by
  rw [show L.length - k = L.length - (k + 1) + 1 from by omega, Nat.add_mul, Nat.one_mul]
 omega

/-- The memory of Pick. -/
structure PS (w : World) (bm rb bt rows cols c : Nat) (o0 o1 : Int) (A : Option Addr) (l : List Int) (vt : Value) (L : List Int) (wr : World) : Prop where
 hm : wr.heap[bm]? = some (.cells #[.int .i64 rows, .int .i64 cols, .slice A l.length c] 24 (0, 0))
 hr : wr.heap[rb]? = some (.cells #[.int .i64 0, .int .i64 0, .slice none 0 0] 24 (0, 0))
 ht : wr.heap[bt]? = some (.cells #[.int .i64 o0, .int .i64 o1, vt] 24 (0, 0))
 data : Kd.R (Kd.int .u8) 5 wr w.heap.size (fun _ => True) vt L
 below : Below w.heap.size w wr
 n1 : w.heap.size ≤ bm
 n2 : w.heap.size ≤ rb
 n3 : w.heap.size ≤ bt
theorem PS.next {w : World} {bm rb bt rows cols c : Nat} {o0 o1 : Int} {A : Option Addr} {l : List Int} {vt : Value} {L : List Int} {wr w1 : World} (h : PS w bm rb bt rows cols c o0 o1 A l vt L wr) (hb : Below wr.heap.size wr w1) : PS w bm rb bt rows cols c o0 o1 A l vt L w1 :=
 ⟨(hb.block _ (lt_of_get h.hm)).trans h.hm, (hb.block _ (lt_of_get h.hr)).trans h.hr, (hb.block _ (lt_of_get h.ht)).trans h.ht, Kd.R_below h.data hb, below_step h.below hb, h.n1, h.n2, h.n3⟩
theorem PS.splice {w : World} {bm rb bt rows cols c xb n cx off : Nat} {o0 o1 : Int} {A : Option Addr} {l : List Int} {L seg : List Int} {cur : List Value} {wr w1 : World} (h : PS w bm rb bt rows cols c o0 o1 A l (.slice (some ⟨xb, 0, none⟩) n cx) L wr) (hg : wr.heap[xb]? = some (.cells cur.toArray 5 (0, 0))) (hfit : off + seg.length ≤ L.length)
  (h1 : w1.heap[xb]? = some (.cells (splice cur off (nums .u8 seg)).toArray 5 (0, 0))) (hgr : wr.grownBy w1 (some xb)) : PS w bm rb bt rows cols c o0 o1 A l (.slice (some ⟨xb, 0, none⟩) n cx) (splice L off seg) w1 := by
 have hx : w.heap.size ≤ xb := ((Kd.R_bound h.data).1 xb rfl).2.1
 have hne : ∀ (a : Nat) (ca : Array Value), wr.heap[a]? = some (.cells ca 24 (0, 0)) → a ≠ xb := fun a ca hq e => by
  subst e
  rw [hq] at hg
  injection hg with hc
  injection hc with _ hc
  exact absurd hc (by decide)
 have blk : ∀ (a : Nat) (ca : Array Value), wr.heap[a]? = some (.cells ca 24 (0, 0)) → w1.heap[a]? = some (.cells ca 24 (0, 0)) := fun a ca h1 => (hgr.block a (lt_of_get h1) (by simpa using hne a ca h1)).trans h1
 exact ⟨blk _ _ h.hm, blk _ _ h.hr, blk _ _ h.ht, R_splice h.data hg hfit h1, h.below.grown hgr h.below.size (fun k hk => by injection hk with hk; omega), h.n1, h.n2, h.n3⟩
def inB (a : Int) (L : List Int) : Bool := L.all fun x => decide (0 ≤ x) && decide (x < a)
def matrix_Pick.f (a b : Int) (l L : List Int) : Option (Int × Int × List Int × Int) :=
 (matrix_Right.f a b l).bind fun t => if t = true then (if inB a L = true then (if L.length ≤ 64 then some ((L.length : Int), b, pickL b.toNat l L, 0) else some (0, 0, [], 4)) else some (0, 0, [], 2)) else some (0, 0, [], 3)
set_option maxHeartbeats 4000000 in
set_option maxRecDepth 100000 in
theorem matrix_Pick.calls (a0_0 : Int) (a0_1 : Int) (A0_2 : Option Addr) (c0_2 : Nat) (l0_2 : List Int) (A1 : Option Addr) (c1 : Nat) (l1 : List Int) (r1 : Int) (r2 : Int) (r3 : List Int) (r4 : Int) (w : World) (hr0_2 : Kd.C (Kd.int .u8) w A0_2 l0_2.length l0_2) (hc0_2 : l0_2.length ≤ c0_2) (hr1 : Kd.C (Kd.int .i64) w A1 l1.length l1) (hc1 : l1.length ≤ c1) (h : matrix_Pick.f a0_0 a0_1 l0_2 l1 = some (r1, r2, r3, r4)) :
  Calls Tryd.prog 34 #[.agg #[.int .i64 a0_0, .int .i64 a0_1, .slice A0_2 l0_2.length c0_2], .slice A1 l1.length c1] w fun e w' => ∃ v2_ : Value, e = .returned (.tuple #[.agg #[.int .i64 r1, .int .i64 r2, v2_], .int .i64 r4]) ∧ Kd.R (Kd.int .u8) 5 w' w.heap.size (fun _ => True) v2_ r3 ∧ Below w.heap.size w w' := by
 have hu24 := Tryd.underlying24
 have HR := Aside0.mk hr0_2
 have HC := Aside0.mk hc0_2
 have HL1 := Aside0.mk hr1
 clear hr0_2 hc0_2 hr1
 unfold matrix_Pick.f at h
 obtain ⟨t, hm, h⟩ := Option.bind_eq_some_iff.mp h
 have HM := Aside0.mk hm
 cases t with
 | false =>
  simp only [Bool.false_eq_true, if_false, Option.some.injEq, Prod.mk.injEq] at h
  obtain ⟨rfl, rfl, rfl, rfl⟩ := h
  clear hm
  go_enter Tryd.func34, Tryd.ntmps34
  go_upto_region 1 with (fail)
  have hb2 := below_alloc (below_alloc (Below.refl w.heap.size w) (.cells #[.int .i64 a0_0, .int .i64 a0_1, .slice A0_2 l0_2.length c0_2] 24)) (.cells #[.int .i64 0, .int .i64 0, .slice none 0 0] 24)
  have hbm := heap_alloc2_old w (.cells #[.int .i64 a0_0, .int .i64 a0_1, .slice A0_2 l0_2.length c0_2] 24) (.cells #[.int .i64 0, .int .i64 0, .slice none 0 0] 24)
  have hbr := blk_new (w.alloc (.cells #[.int .i64 a0_0, .int .i64 a0_1, .slice A0_2 l0_2.length c0_2] 24)) (.cells #[.int .i64 0, .int .i64 0, .slice none 0 0] 24)
  rw [World.size_alloc] at hbr
  have HB2 := Aside0.mk hb2
  clear hb2
  generalize (w.alloc (.cells #[.int .i64 a0_0, .int .i64 a0_1, .slice A0_2 l0_2.length c0_2] 24)).alloc (.cells #[.int .i64 0, .int .i64 0, .slice none 0 0] 24) = w2 at *
  have x0 : w2.cell? ⟨w.heap.size, 0, none⟩ = some (.int .i64 a0_0) := (blk_cell hbm 0).trans rfl
  have x1 : w2.cell? ⟨w.heap.size, 1, none⟩ = some (.int .i64 a0_1) := (blk_cell hbm 1).trans rfl
  have x2 : w2.cell? ⟨w.heap.size, 2, none⟩ = some (.slice A0_2 l0_2.length c0_2) := (blk_cell hbm 2).trans rfl
  go_wp2_with fail
  refine (matrix_Right.calls a0_0 a0_1 A0_2 c0_2 l0_2 false _ (Kd.C_below HR.out HB2.out) HC.out HM.out).mono ?_
  rintro e w3 ⟨rfl, hb3⟩
  have hr3 := (hb3.block _ (lt_of_get hbr)).trans hbr
  have hm3 := (hb3.block _ (lt_of_get hbm)).trans hbm
  have HB3 := Aside0.mk (below_step HB2.out hb3)
  clear x0 x1 x2 hbr hbm hb3
  have x0 : w3.cell? ⟨w.heap.size, 0, none⟩ = some (.int .i64 a0_0) := (blk_cell hm3 0).trans rfl
  have x1 : w3.cell? ⟨w.heap.size, 1, none⟩ = some (.int .i64 a0_1) := (blk_cell hm3 1).trans rfl
  have x2 : w3.cell? ⟨w.heap.size, 2, none⟩ = some (.slice A0_2 l0_2.length c0_2) := (blk_cell hm3 2).trans rfl
  have y0 : w3.cell? ⟨w.heap.size + 1, 0, none⟩ = some (.int .i64 0) := (blk_cell hr3 0).trans rfl
  have y1 : w3.cell? ⟨w.heap.size + 1, 1, none⟩ = some (.int .i64 0) := (blk_cell hr3 1).trans rfl
  have y2 : w3.cell? ⟨w.heap.size + 1, 2, none⟩ = some (.slice none 0 0) := (blk_cell hr3 2).trans rfl
  have f0 := blk_frozen hr3 0
  have f1 := blk_frozen hr3 1
  have f2 := blk_frozen hr3 2
  clear x0 x1 x2 hm3
  go_wp2_with fail
  refine bodyPost_ret (results_ct rfl _ _ (w.heap.size + 1) 24 #[.int .i64 0, .int .i64 0, .slice none 0 0] (0, 0) _ rfl (blk_put (cs := #[.int .i64 0, .int .i64 0, .slice none 0 0]) (blk_put (cs := #[.int .i64 0, .int .i64 0, .slice none 0 0]) (blk_put (cs := #[.int .i64 0, .int .i64 0, .slice none 0 0]) hr3 0 _ rfl) 1 _ rfl) 2 _ rfl) Tryd.underlying24 rfl (by kernel_rfl)) rfl ?_
  refine ⟨_, rfl, Kd.R_nil _ _ _ _ _, ?_⟩
  exact ((HB3.out.setCell (by show w.heap.size ≤ w.heap.size + 1; omega) _).setCell (by show w.heap.size ≤ w.heap.size + 1; omega) _).setCell (by show w.heap.size ≤ w.heap.size + 1; omega) _
 | true =>
  obtain ⟨e0, e1, e2, e3, hl⟩ := right_true hm
  rw [if_pos rfl] at h
  obtain ⟨rows, rfl⟩ := Int.eq_ofNat_of_zero_le e0
  obtain ⟨cols, rfl⟩ := Int.eq_ofNat_of_zero_le e2
  rw [Int.toNat_natCast, Int.toNat_natCast] at hl
  rw [Int.toNat_natCast] at h
  have hrw : rows ≤ 64 ∧ cols ≤ 64 := by omega
  have HL := Aside0.mk hl
  have HRES := Aside0.mk h
  clear hm hl e0 e1 e2 e3 h
  go_enter Tryd.func34, Tryd.ntmps34
  go_upto_region 1 with (fail)
  have hb2 := below_alloc (below_alloc (Below.refl w.heap.size w) (.cells #[.int .i64 (rows : Int), .int .i64 (cols : Int), .slice A0_2 l0_2.length c0_2] 24)) (.cells #[.int .i64 0, .int .i64 0, .slice none 0 0] 24)
  have hbm := heap_alloc2_old w (.cells #[.int .i64 (rows : Int), .int .i64 (cols : Int), .slice A0_2 l0_2.length c0_2] 24) (.cells #[.int .i64 0, .int .i64 0, .slice none 0 0] 24)
  have hbr := blk_new (w.alloc (.cells #[.int .i64 (rows : Int), .int .i64 (cols : Int), .slice A0_2 l0_2.length c0_2] 24)) (.cells #[.int .i64 0, .int .i64 0, .slice none 0 0] 24)
  rw [World.size_alloc] at hbr
  have HB2 := Aside0.mk hb2
  clear hb2
  generalize (w.alloc (.cells #[.int .i64 (rows : Int), .int .i64 (cols : Int), .slice A0_2 l0_2.length c0_2] 24)).alloc (.cells #[.int .i64 0, .int .i64 0, .slice none 0 0] 24) = w2 at *
  have x0 : w2.cell? ⟨w.heap.size, 0, none⟩ = some (.int .i64 (rows : Int)) := (blk_cell hbm 0).trans rfl
  have x1 : w2.cell? ⟨w.heap.size, 1, none⟩ = some (.int .i64 (cols : Int)) := (blk_cell hbm 1).trans rfl
  have x2 : w2.cell? ⟨w.heap.size, 2, none⟩ = some (.slice A0_2 l0_2.length c0_2) := (blk_cell hbm 2).trans rfl
  go_wp2_with fail
  refine (matrix_Right.calls (rows : Int) (cols : Int) A0_2 c0_2 l0_2 true _ (Kd.C_below HR.out HB2.out) HC.out HM.out).mono ?_
  rintro e w3 ⟨rfl, hb3⟩
  have hr3 := (hb3.block _ (lt_of_get hbr)).trans hbr
  have hm3 := (hb3.block _ (lt_of_get hbm)).trans hbm
  have HB3 := Aside0.mk (below_step HB2.out hb3)
  clear x0 x1 x2 hbr hbm hb3
  have x0 : w3.cell? ⟨w.heap.size, 0, none⟩ = some (.int .i64 (rows : Int)) := (blk_cell hm3 0).trans rfl
  have x1 : w3.cell? ⟨w.heap.size, 1, none⟩ = some (.int .i64 (cols : Int)) := (blk_cell hm3 1).trans rfl
  have x2 : w3.cell? ⟨w.heap.size, 2, none⟩ = some (.slice A0_2 l0_2.length c0_2) := (blk_cell hm3 2).trans rfl
  have y0 : w3.cell? ⟨w.heap.size + 1, 0, none⟩ = some (.int .i64 0) := (blk_cell hr3 0).trans rfl
  have y1 : w3.cell? ⟨w.heap.size + 1, 1, none⟩ = some (.int .i64 0) := (blk_cell hr3 1).trans rfl
  have y2 : w3.cell? ⟨w.heap.size + 1, 2, none⟩ = some (.slice none 0 0) := (blk_cell hr3 2).trans rfl
  have f0 := blk_frozen hr3 0
  have f1 := blk_frozen hr3 1
  have f2 := blk_frozen hr3 2
  go_wp2_with fail
  have HSZ := Aside0.mk (show l1.length ≤ 9223372036854775807 from (Kd.reads_of_C (enc := Value.int .i64) (d := (0 : Int)) (h1 := fun _ => rfl) HL1.out).2.1)
  have hsz := HSZ.out
  go_loopg [17] l1.length (fun kq v17 wr => ∃ (k : Nat), v17 = .int .i64 k ∧ k ≤ l1.length ∧ Aside0 (kq + k = l1.length) ∧ Aside0 (∀ j, j < k → 0 ≤ l1.getD j 0 ∧ l1.getD j 0 < (rows : Int)) ∧ wr = w3)
  case atStart => exact ⟨0, rfl, Nat.zero_le _, ⟨by omega⟩, ⟨fun j h => by omega⟩, rfl⟩
  case round =>
   obtain ⟨k, rfl, hk, HK, HALL, rfl⟩ := hrel
   by_cases hkl : k < l1.length
   ·have tst : decide ((k : Int) < (l1.length : Int)) = true := by simpa using hkl
    obtain ⟨ad1, eA, hx0⟩ := Kd.at_int HL1.out (k : Int) (by omega) (by omega)
    subst eA
    have hx : wr.cell? (ad1.add k) = some (.int .i64 (l1.getD k 0)) := by
     rw [show l1.getD k 0 = rd l1 (k : Int) from by simp [rd]]
     have := pw_cell_below HB3.out hx0
     simpa using this
    obtain ⟨x, ex⟩ : ∃ x, x = l1.getD k 0 := ⟨_, rfl⟩
    rw [← ex] at hx
    have EX := Aside0.mk ex
    clear ex hx0
    have hk0 : (0 : Int) ≤ (k : Int) := by omega
    have hk1 : (k : Int) < (l1.length : Int) := by omega
    by_cases hin : 0 ≤ x ∧ x < (rows : Int)
    ·have t1 : decide (x < 0) = false := by simpa using hin.1
     have t2 : decide ((rows : Int) ≤ x) = false := by simpa using hin.2
     have t3 : decide (x ≥ (rows : Int)) = false := by simpa using hin.2
     have HIN := Aside0.mk hin
     obtain ⟨hin1, hin2⟩ := hin
     go_wp2_with fail
     go_roundg (l1.length - (k + 1))
     case measure => have := HK.out; omega
     case rel =>
      refine ⟨k + 1, by go_num, by omega, ⟨by omega⟩, ⟨fun j hj => ?_⟩, rfl⟩
      rcases Nat.lt_or_eq_of_le (Nat.le_of_lt_succ hj) with h | h
      ·exact HALL.out j h
      ·rw [h, ← EX.out]
       exact HIN.out
    ·have hbad : inB (rows : Int) l1 = false := by
      rw [inB, Bool.eq_false_iff]
      intro hall
      apply hin
      have := List.all_eq_true.1 hall _ (List.getElem_mem hkl)
      rw [EX.out, List.getD_eq_getElem?_getD, List.getElem?_eq_getElem hkl]
      simpa using this
     have hres := HRES.out
     rw [hbad, if_neg (by simp)] at hres
     simp only [Option.some.injEq, Prod.mk.injEq] at hres
     obtain ⟨rfl, rfl, rfl, rfl⟩ := hres
     have f0 := blk_frozen hr3 0
     have f1 := blk_frozen hr3 1
     have f2 := blk_frozen hr3 2
     by_cases hneg : x < 0
     ·have t1 : decide (x < 0) = true := by simpa using hneg
      clear hin
      go_wp2_with fail
      refine bodyPost_ret (results_ct rfl _ _ (w.heap.size + 1) 24 #[.int .i64 0, .int .i64 0, .slice none 0 0] (0, 0) _ rfl (blk_put (cs := #[.int .i64 0, .int .i64 0, .slice none 0 0]) (blk_put (cs := #[.int .i64 0, .int .i64 0, .slice none 0 0]) (blk_put (cs := #[.int .i64 0, .int .i64 0, .slice none 0 0]) hr3 0 _ rfl) 1 _ rfl) 2 _ rfl) Tryd.underlying24 rfl (by kernel_rfl)) rfl ?_
      exact ⟨_, rfl, Kd.R_nil _ _ _ _ _, ((HB3.out.setCell (by show w.heap.size ≤ w.heap.size + 1; omega) _).setCell (by show w.heap.size ≤ w.heap.size + 1; omega) _).setCell (by show w.heap.size ≤ w.heap.size + 1; omega) _⟩
     ·have t1 : decide (x < 0) = false := by simpa using hneg
      have hge : (rows : Int) ≤ x := by omega
      have t2 : decide ((rows : Int) ≤ x) = true := by simpa using hge
      have t3 : decide (x ≥ (rows : Int)) = true := by simpa using hge
      clear hin
      go_wp2_with fail
      refine bodyPost_ret (results_ct rfl _ _ (w.heap.size + 1) 24 #[.int .i64 0, .int .i64 0, .slice none 0 0] (0, 0) _ rfl (blk_put (cs := #[.int .i64 0, .int .i64 0, .slice none 0 0]) (blk_put (cs := #[.int .i64 0, .int .i64 0, .slice none 0 0]) (blk_put (cs := #[.int .i64 0, .int .i64 0, .slice none 0 0]) hr3 0 _ rfl) 1 _ rfl) 2 _ rfl) Tryd.underlying24 rfl (by kernel_rfl)) rfl ?_
      exact ⟨_, rfl, Kd.R_nil _ _ _ _ _, ((HB3.out.setCell (by show w.heap.size ≤ w.heap.size + 1; omega) _).setCell (by show w.heap.size ≤ w.heap.size + 1; omega) _).setCell (by show w.heap.size ≤ w.heap.size + 1; omega) _⟩
   ·obtain rfl : k = l1.length := by omega
    have hgood : inB (rows : Int) l1 = true := by
     rw [inB, List.all_eq_true]
     intro y hy
     obtain ⟨j, hj, rfl⟩ := List.mem_iff_getElem.1 hy
     have := HALL.out j hj
     rw [List.getD_eq_getElem?_getD, List.getElem?_eq_getElem hj] at this
     simpa using this
    have hres := HRES.out
    rw [hgood, if_pos rfl] at hres
    have HMEM := Aside0.mk (show ∀ y, y ∈ l1 → 0 ≤ y ∧ y < (rows : Int) from fun y hy => by
     have := List.all_eq_true.1 hgood y hy
     simpa using this)
    clear hgood
    have hside : matrix_side.f ((l1.length : Nat) : Int) = some (decide ((l1.length : Int) ≤ 64)) := by
     unfold matrix_side.f
     rw [if_pos (by omega)]
    go_wp2_with fail
    refine (matrix_side.calls _ _ _ hside).mono ?_
    rintro e w4 ⟨rfl, nd, rfl⟩
    have hB4 : Below wr.heap.size wr (wr.drewN nd) := pw_below_drewN (Below.refl _ _) nd
    have hm4 := (hB4.block _ (lt_of_get hm3)).trans hm3
    have hr4 := (hB4.block _ (lt_of_get hr3)).trans hr3
    have HB4 := Aside0.mk (below_step HB3.out hB4)
    clear hB4 x0 x1 x2 y0 y1 y2 f0 f1 f2 hm3 hr3 hside
    generalize wr.drewN nd = w5 at *
    by_cases h64 : l1.length ≤ 64
    ·rw [if_pos h64] at hres
     simp only [Option.some.injEq, Prod.mk.injEq] at hres
     obtain ⟨rfl, rfl, hr3e, rfl⟩ := hres
     have HR3 := Aside0.mk hr3e
     clear hr3e HRES
     have d64 : decide ((l1.length : Int) ≤ 64) = true := decide_eq_true (by omega)
     have d64' : decide (l1.length ≤ 64) = true := by simpa using h64
     have x1 : w5.cell? ⟨w.heap.size, 1, none⟩ = some (.int .i64 cols) := (blk_cell hm4 1).trans rfl
     obtain ⟨hr1, hr2⟩ := hrw
     have hcr : l1.length * cols ≤ 4096 := Nat.mul_le_mul h64 hr2
     have HBL := Aside0.mk (blank_some (a := l1.length) (b := cols) (by omega))
     go_wp2_with fail
     refine (matrix_blank.calls l1.length cols _ _ _ _ HBL.out).mono ?_
     rintro e w6 ⟨vt, rfl, ho, hb6⟩
     obtain ⟨At, ct, ev⟩ := Kd.R_slice ho
     rw [List.length_replicate] at ev
     subst ev
     have hm6 := (hb6.block _ (lt_of_get hm4)).trans hm4
     have hr6 := (hb6.block _ (lt_of_get hr4)).trans hr4
     have HO6 := Aside0.mk (Kd.R_lower ho HB4.out.size)
     have HB6 := Aside0.mk (below_step HB4.out hb6)
     clear x1 hm4 hr4 ho hb6
     generalize hn : l1.length * cols = n at *
     have HN := Aside0.mk hn
     clear hn
     go_upto_region 12 with (fail)
     have hb7 := below_alloc (Below.refl w6.heap.size w6) (.cells #[.int .i64 l1.length, .int .i64 cols, .slice At n ct] 24)
     have HT : Aside0 (PS w w.heap.size (w.heap.size + 1) w6.heap.size rows cols c0_2 (l1.length : Int) (cols : Int) A0_2 l0_2 (.slice At n ct) (midP cols l0_2 l1 0) (w6.alloc (.cells #[.int .i64 l1.length, .int .i64 cols, .slice At n ct] 24))) := by
      rw [midP_zero, HN.out]
      exact ⟨(hb7.block _ (lt_of_get hm6)).trans hm6, (hb7.block _ (lt_of_get hr6)).trans hr6, blk_new _ _, Kd.R_below HO6.out hb7, below_step HB6.out hb7, Nat.le_refl _, by omega, HB6.out.size⟩
     have hrb := lt_of_get hr6
     clear hb7 hm6 hr6 HO6
     generalize w6.alloc (.cells #[.int .i64 l1.length, .int .i64 cols, .slice At n ct] 24) = w7 at *
     generalize w6.heap.size = bt at *
     go_wp2_with fail
     go_loopg [43] l1.length (fun kq v43 wr => ∃ (k : Nat), v43 = .int .i64 k ∧ k ≤ l1.length ∧ Aside0 (kq + k = l1.length) ∧ Aside0 (PS w w.heap.size (w.heap.size + 1) bt rows cols c0_2 (l1.length : Int) (cols : Int) A0_2 l0_2 (.slice At n ct) (midP cols l0_2 l1 k) wr))
     case atStart => exact ⟨0, rfl, Nat.zero_le _, ⟨by omega⟩, HT⟩
     case round =>
      obtain ⟨k, rfl, hk, HK2, HO⟩ := hrel
      clear HT
      by_cases hkl : k < l1.length
      ·have tst : decide ((k : Int) < (l1.length : Int)) = true := decide_eq_true (by omega)
       obtain ⟨ad1, eA, hx0⟩ := Kd.at_int HL1.out (k : Int) (by omega) (by omega)
       subst eA
       have hx : wr.cell? (ad1.add k) = some (.int .i64 (l1.getD k 0)) := by
        rw [show l1.getD k 0 = rd l1 (k : Int) from by simp [rd]]
        have := pw_cell_below HO.out.below hx0
        simpa using this
       have hxr := HMEM.out (l1.getD k 0) (by rw [List.getD_eq_getElem?_getD, List.getElem?_eq_getElem hkl]; exact List.getElem_mem hkl)
       have HST := Aside0.mk (midP_step HL.out HMEM.out hkl)
       have hsl := segP_length HL.out hxr
       have HSG := Aside0.mk (show segP cols l0_2 (l1.getD k 0) = (l0_2.drop ((l1.getD k 0).toNat * cols)).take cols from rfl)
       have hml := midP_length HL.out HMEM.out (k := k) (by omega)
       generalize l1.getD k 0 = x at *
       obtain ⟨i, rfl⟩ := Int.eq_ofNat_of_zero_le hxr.1
       rw [Int.toNat_natCast] at HSG
       have hi : i < rows := by omega
       have hk0 : (0 : Int) ≤ (k : Int) := by omega
       have hk1 : (k : Int) < (l1.length : Int) := by omega
       go_wp2_with fail
       obtain ⟨f, hf⟩ : ∃ f : Nat, f = i * cols := ⟨_, rfl⟩
       obtain ⟨f2, hf2⟩ : ∃ f2 : Nat, f2 = (i + 1) * cols := ⟨_, rfl⟩
       obtain ⟨e, he⟩ : ∃ e : Nat, e = k * cols := ⟨_, rfl⟩
       obtain ⟨e2, he2⟩ : ∃ e2 : Nat, e2 = (k + 1) * cols := ⟨_, rfl⟩
       have hf3 : f2 = f + cols := by rw [hf2, hf, Nat.add_mul, Nat.one_mul]
       have he3 : e2 = e + cols := by rw [he2, he, Nat.add_mul, Nat.one_mul]
       have hfl : f2 ≤ l0_2.length := by rw [hf2, HL.out]; exact Nat.mul_le_mul_right _ hi
       have hen : e2 ≤ n := by rw [he2, ← HN.out]; exact Nat.mul_le_mul_right _ hkl
       have hec : e2 ≤ ct := Nat.le_trans hen (Kd.R_reads' HO.out.data).2.1
       have HRW1 := Aside0.mk (fun W => matrix_row.calls (l1.length : Int) cols k n ct e e2 At W he he2 hec (by omega) hr2)
       have HRW2 := Aside0.mk (fun W => matrix_row.calls (rows : Int) cols i l0_2.length c0_2 f f2 A0_2 W hf hf2 (Nat.le_trans hfl HC.out) (by omega) hr2)
       generalize hdp : (if e2 = e then At else At.map (·.add e)) = dp at HRW1
       generalize hsp : (if f2 = f then A0_2 else A0_2.map (·.add f)) = sp at HRW2
       have HDP := Aside0.mk hdp
       have HSP := Aside0.mk hsp
       rw [← he] at HST
       rw [← hf] at HSG
       rw [HN.out] at hml
       have HF3 := Aside0.mk hf3
       have HE3 := Aside0.mk he3
       have HML := Aside0.mk hml
       have HSL := Aside0.mk hsl
       clear hf hf2 he he2 hf3 he3 hec hdp hsp hx0 hx hml hsl
       have s0 : wr.cell? ⟨bt, 0, none⟩ = some (.int .i64 l1.length) := (blk_cell HO.out.ht 0).trans rfl
       have s1 : wr.cell? ⟨bt, 1, none⟩ = some (.int .i64 cols) := (blk_cell HO.out.ht 1).trans rfl
       have s2 : wr.cell? ⟨bt, 2, none⟩ = some (.slice At n ct) := (blk_cell HO.out.ht 2).trans rfl
       have s3 : wr.cell? ⟨w.heap.size, 0, none⟩ = some (.int .i64 rows) := (blk_cell HO.out.hm 0).trans rfl
       have s4 : wr.cell? ⟨w.heap.size, 1, none⟩ = some (.int .i64 cols) := (blk_cell HO.out.hm 1).trans rfl
       have s5 : wr.cell? ⟨w.heap.size, 2, none⟩ = some (.slice A0_2 l0_2.length c0_2) := (blk_cell HO.out.hm 2).trans rfl
       refine start_ (n := 7) (S := fun w' => w'.cell? ⟨bt, 0, none⟩ = some (.int .i64 l1.length) ∧ w'.cell? ⟨bt, 1, none⟩ = some (.int .i64 cols) ∧ w'.cell? ⟨bt, 2, none⟩ = some (.slice At n ct) ∧ w'.cell? ⟨w.heap.size, 0, none⟩ = some (.int .i64 rows) ∧ w'.cell? ⟨w.heap.size, 1, none⟩ = some (.int .i64 cols) ∧ w'.cell? ⟨w.heap.size, 2, none⟩ = some (.slice A0_2 l0_2.length c0_2)) (ds := [6]) #[false, false, false, false, false, false, false] (by kernel_rfl) rfl rfl ⟨s0, s1, s2, s3, s4, s5⟩ (fun hHeld => ?_)
       have HT1 := Aside0.mk (HO.out.next (below_drew (Below.refl _ _)))
       clear HO s0 s1 s2 s3 s4 s5
       generalize wr.drew = w6 at *
       refine pure_ (i := 1) (N := some 49) (v := ?_) (a' := ?_) #[false, true, false, false, false, false, false] rfl rfl (by kernel_rfl) (fun _ _ _ h => h) (Or.inl ⟨by rfl, ?_⟩) ?_ ?_
       rotate_left
       ·intro w'
        go_simp
        with_reducible rfl
       rotate_left
       ·simp only [Act.put, List.setIfInBounds_toArray, List.set_cons_zero, List.set_cons_succ, i64_w, i32_w]
        rfl
       refine pure_ (i := 4) (N := some 52) (v := ?_) (a' := ?_) #[false, true, false, false, true, false, false] rfl rfl (by kernel_rfl) (fun _ _ _ h => h) (Or.inl ⟨by rfl, ?_⟩) ?_ ?_
       rotate_left
       ·intro w'
        go_simp
        with_reducible rfl
       rotate_left
       ·simp only [Act.put, List.setIfInBounds_toArray, List.set_cons_zero, List.set_cons_succ, i64_w, i32_w]
        rfl
       refine take_ (i := 0) (N := some 48) (v := ?_) (a' := ?_) #[true, true, false, false, true, false, false] rfl rfl (by kernel_rfl) (fun _ _ _ h => h) (Or.inl ⟨by rfl, ?_⟩) hHeld ?_ ?_
       rotate_left
       ·rintro w' ⟨s0, s1, s2, s3, s4, s5⟩
        go_simp
        with_reducible rfl
       rotate_left
       ·simp only [Act.put, List.setIfInBounds_toArray, List.set_cons_zero, List.set_cons_succ, i64_w, i32_w]
        rfl
       refine take_ (i := 3) (N := some 51) (v := ?_) (a' := ?_) #[true, true, false, true, true, false, false] rfl rfl (by kernel_rfl) (fun _ _ _ h => h) (Or.inl ⟨by rfl, ?_⟩) hHeld ?_ ?_
       rotate_left
       ·rintro w' ⟨s0, s1, s2, s3, s4, s5⟩
        go_simp
        with_reducible rfl
       rotate_left
       ·simp only [Act.put, List.setIfInBounds_toArray, List.set_cons_zero, List.set_cons_succ, i64_w, i32_w]
        rfl
       refine one_ (i := 2) (N := some 50) #[true, true, true, true, true, false, false] rfl rfl (by kernel_rfl) (by decide) (fun K hK => ?_)
       refine goes_ Tryd.func66 (by kernel_rfl) rfl #[.agg #[.int .i64 l1.length, .int .i64 cols, .slice At n ct], .int .i64 k] (by rfl) rfl rfl (by simp only [List.map_toArray, List.map_cons, List.map_nil]; rfl) ?_
       refine (HRW1.out _).mono ?_
       rintro e' w7 ⟨rfl, hb7⟩
       refine ⟨_, rfl, ?_⟩
       refine hK.out _ _ ⟨pw_cell_below hb7 hHeld.1, pw_cell_below hb7 hHeld.2.1, pw_cell_below hb7 hHeld.2.2.1, pw_cell_below hb7 hHeld.2.2.2.1, pw_cell_below hb7 hHeld.2.2.2.2.1, pw_cell_below hb7 hHeld.2.2.2.2.2⟩ (fun hHeld => ?_)
       clear hK K
       refine norm_ (a' := ?_) ?_ ?_
       rotate_left
       ·show Act.put _ (some 50) _ = _
        simp only [Act.put, List.setIfInBounds_toArray, List.set_cons_zero, List.set_cons_succ, i64_w, i32_w]
        rfl
       refine one_ (i := 5) (N := some 53) #[true, true, true, true, true, true, false] rfl rfl (by kernel_rfl) (by decide) (fun K hK => ?_)
       refine goes_ Tryd.func66 (by kernel_rfl) rfl #[.agg #[.int .i64 rows, .int .i64 cols, .slice A0_2 l0_2.length c0_2], .int .i64 i] (by rfl) rfl rfl (by simp only [List.map_toArray, List.map_cons, List.map_nil]; rfl) ?_
       refine (HRW2.out _).mono ?_
       rintro e' w8 ⟨rfl, hb8⟩
       refine ⟨_, rfl, ?_⟩
       have HT8 := Aside0.mk (HT1.out.next (below_step hb7 hb8))
       refine hK.out _ _ ⟨pw_cell_below hb8 hHeld.1, pw_cell_below hb8 hHeld.2.1, pw_cell_below hb8 hHeld.2.2.1, pw_cell_below hb8 hHeld.2.2.2.1, pw_cell_below hb8 hHeld.2.2.2.2.1, pw_cell_below hb8 hHeld.2.2.2.2.2⟩ (fun hHeld => ?_)
       clear hK K
       refine norm_ (a' := ?_) ?_ ?_
       rotate_left
       ·show Act.put _ (some 53) _ = _
        simp only [Act.put, List.setIfInBounds_toArray, List.set_cons_zero, List.set_cons_succ, i64_w, i32_w]
        rfl
       refine last_ (i := 6) (N := some 54) #[true, true, true, true, true, true, true] rfl rfl (by kernel_rfl) (by decide) (fun K hK => ?_)
       refine copy_step rfl (.tmp 50) (.tmp 53) 22 22 rfl 5 Tryd.underlying22 (by kernel_rfl) dp sp cols cols cols cols rfl rfl cols (by simp) (fun w' => PS w w.heap.size (w.heap.size + 1) bt rows cols c0_2 (l1.length : Int) (cols : Int) A0_2 l0_2 (.slice At n ct) (midP cols l0_2 l1 (k + 1)) w') (fun h0 => ?_) (fun h0 => ?_) ?_
       ·have h8 := HT8.out
        have hs0 : segP cols l0_2 (i : Int) = [] := List.length_eq_zero_iff.1 (by rw [HSL.out, h0])
        have hst := HST.out
        rw [hs0] at hst
        have : splice (midP cols l0_2 l1 k) e [] = midP cols l0_2 l1 k := by simp [splice]
        rw [this] at hst
        rw [← hst]
        exact h8
       ·have h8 := HT8.out
        obtain ⟨xb, hxb⟩ := R_head h8.data (by rw [HML.out]; have := HE3.out; omega)
        subst hxb
        obtain ⟨cur, hc1, hc2, hc3, hc4, hc5, hc6, hc7⟩ := R_cur h8.data
        have hrd := Kd.reads_of_C (enc := Value.int .u8) (d := (0 : Int)) (h1 := fun _ => rfl) (Kd.C_below HR.out h8.below)
        obtain ⟨ad, ha, hcell⟩ := hrd.2.2 (by have := HF3.out; omega)
        subst ha
        refine ⟨xb, e, cur, 5, nums .u8 (segP cols l0_2 (i : Int)), ad.add f, hc1, by simp [nums, HSL.out], ?_, ?_, fun j v hv => ?_, by simp [nums, HSL.out]; have := HE3.out; omega, fun v hv => ?_, fun w' h1 h2 => ?_⟩
        ·rw [← HDP.out, if_neg (by have := HE3.out; omega)]
         show some ((⟨xb, 0, none⟩ : Addr).add e) = _
         unfold Addr.add
         by_cases a : e = 0 <;> simp [a]
        ·rw [← HSP.out, if_neg (by have := HF3.out; omega)]
         rfl
        ·unfold nums at hv
         rw [List.getElem?_map] at hv
         obtain ⟨y, hy, rfl⟩ := Option.map_eq_some_iff.1 hv
         have hj := (List.getElem?_eq_some_iff.1 hy).1
         rw [HSL.out] at hj
         rw [show (ad.add f).add j = ad.add (f + j) from by unfold Addr.add; by_cases a : f = 0 <;> by_cases b : j = 0 <;> simp [a, b]; all_goals omega]
         rw [hcell (f + j) (by have := HF3.out; omega)]
         rw [HSG.out, List.getElem?_take_of_lt hj, List.getElem?_drop] at hy
         rw [List.getD_eq_getElem?_getD, hy]
         rfl
        ·unfold nums at hv
         obtain ⟨y, _, rfl⟩ := List.mem_map.1 hv
         rfl
        ·have := h8.splice hc1 (off := e) (seg := segP cols l0_2 (i : Int)) (by rw [HSL.out, HML.out]; have := HE3.out; omega) h1 h2
         rw [HST.out] at this
         exact this
       intro w9 h9
       have HT9 := Aside0.mk h9
       clear h9
       clear HT8
       refine hK.out _ _ ?_
       clear hK K
       refine norm_ (a' := ?_) ?_ ?_
       rotate_left
       ·show Act.put _ (some 54) _ = _
        simp only [Act.put, List.setIfInBounds_toArray, List.set_cons_zero, List.set_cons_succ, i64_w, i32_w]
        rfl
       refine done_ (by kernel_rfl) ?_
       clear hHeld
       go_wp2_with fail
       go_roundg (l1.length - (k + 1))
       case measure => have := HK2.out; omega
       case rel => exact ⟨k + 1, by go_num, by omega, ⟨by omega⟩, HT9⟩
      ·obtain rfl : k = l1.length := by omega
       have s0 : wr.cell? ⟨bt, 0, none⟩ = some (.int .i64 l1.length) := (blk_cell HO.out.ht 0).trans rfl
       have s1 : wr.cell? ⟨bt, 1, none⟩ = some (.int .i64 cols) := (blk_cell HO.out.ht 1).trans rfl
       have s2 : wr.cell? ⟨bt, 2, none⟩ = some (.slice At n ct) := (blk_cell HO.out.ht 2).trans rfl
       have y0 : wr.cell? ⟨w.heap.size + 1, 0, none⟩ = some (.int .i64 0) := (blk_cell HO.out.hr 0).trans rfl
       have y1 : wr.cell? ⟨w.heap.size + 1, 1, none⟩ = some (.int .i64 0) := (blk_cell HO.out.hr 1).trans rfl
       have y2 : wr.cell? ⟨w.heap.size + 1, 2, none⟩ = some (.slice none 0 0) := (blk_cell HO.out.hr 2).trans rfl
       have f0 := blk_frozen HO.out.hr 0
       have f1 := blk_frozen HO.out.hr 1
       have f2 := blk_frozen HO.out.hr 2
       go_wp2_with fail
       refine bodyPost_ret (results_ct rfl _ _ (w.heap.size + 1) 24 #[.int .i64 l1.length, .int .i64 cols, .slice At n ct] (0, 0) _ rfl (blk_put (cs := #[.int .i64 l1.length, .int .i64 cols, .slice none 0 0]) (blk_put (cs := #[.int .i64 l1.length, .int .i64 0, .slice none 0 0]) (blk_put (cs := #[.int .i64 0, .int .i64 0, .slice none 0 0]) HO.out.hr 0 _ rfl) 1 _ rfl) 2 _ rfl) Tryd.underlying24 rfl (by kernel_rfl)) rfl ?_
       refine ⟨_, rfl, ?_, ?_⟩
       ·rw [← HR3.out, ← midP_all]
        have h1 := Kd.R_types HO.out.data HO.out.hr (fun q hq => by obtain rfl : q = 5 := (List.mem_cons.1 hq).elim id (fun hx => by cases hx); decide)
        exact Kd.R_mono (Kd.R_far (Kd.R_far (Kd.R_far h1 (p := ⟨w.heap.size + 1, 0, none⟩) (fun k hk => hk.2) _) (p := ⟨w.heap.size + 1, 1, none⟩) (fun k hk => hk.2) _) (p := ⟨w.heap.size + 1, 2, none⟩) (fun k hk => hk.2) _) (fun _ _ => trivial)
       ·exact ((HO.out.below.setCell (by show w.heap.size ≤ w.heap.size + 1; omega) _).setCell (by show w.heap.size ≤ w.heap.size + 1; omega) _).setCell (by show w.heap.size ≤ w.heap.size + 1; omega) _
    ·rw [if_neg h64] at hres
     simp only [Option.some.injEq, Prod.mk.injEq] at hres
     obtain ⟨rfl, rfl, rfl, rfl⟩ := hres
     have d64 : decide ((l1.length : Int) ≤ 64) = false := decide_eq_false (by omega)
     have d64' : decide (l1.length ≤ 64) = false := by simpa using h64
     have y0 : w5.cell? ⟨w.heap.size + 1, 0, none⟩ = some (.int .i64 0) := (blk_cell hr4 0).trans rfl
     have y1 : w5.cell? ⟨w.heap.size + 1, 1, none⟩ = some (.int .i64 0) := (blk_cell hr4 1).trans rfl
     have y2 : w5.cell? ⟨w.heap.size + 1, 2, none⟩ = some (.slice none 0 0) := (blk_cell hr4 2).trans rfl
     have f0 := blk_frozen hr4 0
     have f1 := blk_frozen hr4 1
     have f2 := blk_frozen hr4 2
     go_wp2_with fail
     refine bodyPost_ret (results_ct rfl _ _ (w.heap.size + 1) 24 #[.int .i64 0, .int .i64 0, .slice none 0 0] (0, 0) _ rfl (blk_put (cs := #[.int .i64 0, .int .i64 0, .slice none 0 0]) (blk_put (cs := #[.int .i64 0, .int .i64 0, .slice none 0 0]) (blk_put (cs := #[.int .i64 0, .int .i64 0, .slice none 0 0]) hr4 0 _ rfl) 1 _ rfl) 2 _ rfl) Tryd.underlying24 rfl (by kernel_rfl)) rfl ?_
     exact ⟨_, rfl, Kd.R_nil _ _ _ _ _, ((HB4.out.setCell (by show w.heap.size ≤ w.heap.size + 1; omega) _).setCell (by show w.heap.size ≤ w.heap.size + 1; omega) _).setCell (by show w.heap.size ≤ w.heap.size + 1; omega) _⟩


end Go.Proofs.YtjgcocfnilhggaaDoor.Q
