/- Written by drive.py (a program of this repo, over the kit's print): each Go function named here answers what the Lean function beside it answers, wherever that one answers, in every world that meets the stated premises. -/
import Derived.Test.YtnfemjnajfdepaaQx0
import Derived.Test.YtnfemjnajfdepaaQx151
import Derived.Test.YtnfemjnajfdepaaQx152
namespace Go.Proofs.Ytnfemjnajfdepaa.Q
open Go.RowKit Go.Proofs.YtnfemjnajfdepaaW.PrintWords Go.Proofs.YtnfemjnajfdepaaW.PrintLast Go.Proofs.YtnfemjnajfdepaaW.PrintMore
attribute [local go_sem] max2_int min2_int max_two min_two max_three min_three max_four min_four   -- for this text's walks alone
set_option linter.unusedVariables false
set_option linter.unusedSimpArgs false

/-! ### field_Inv: function 38 -/
def field_Inv.f (a0 : Int) : Option (Int × Int) := (field_Pow.f a0 (-1)).bind fun bt110 => (some (bt110.1, bt110.2))
set_option maxHeartbeats 8000000 in
set_option maxRecDepth 100000 in
theorem field_Inv.calls (a0 : Int) (r1 : Int) (r2 : Int) (w : World) (h : field_Inv.f a0 = some (r1, r2)) :
  Calls Try.prog 38 #[.int .u8 a0] w fun e w' => e = .returned (.tuple #[.int .u8 r1, .int .i64 r2]) ∧ Below w.heap.size w w' := by
 have HB := Aside0.mk (Below.refl w.heap.size w)
 have H : ((field_Pow.f a0 (-1)).bind fun bt110 => (some (bt110.1, bt110.2))) = some (r1, r2) := h
 clear h
 obtain ⟨⟨t110, t111⟩, A2, H⟩ := bindO H
 (try dsimp only at H)
 simp only [Option.some.injEq, Prod.mk.injEq] at H
 obtain ⟨rfl, rfl⟩ := H
 go_enter Try.func38, Try.ntmps38
 go_wp2_with (first | ((with_reducible refine gC 51 rfl ?_); refine cG (some 5) Try.func51 #[.int .u8 a0, .int .i64 (-1)] ?_; (with_reducible refine (field_Pow.calls a0 (-1) t110 t111 _ A2.out).mono ?_); rintro e w3 ⟨rfl, hb⟩; refine ⟨_, rfl, ?_⟩; replace HB := hbB HB hb; (try clear hb); (try clear hb2); (try clear hk); (try clear hi)))
 go_ret2
 exact ⟨rfE, hbA HB.out⟩

/-! ### share_inverses: function 24 -/
/-! ### the inverses -/
def invT (a : Int) : Int := ((field_Inv.f a).getD (0, 0)).1
theorem exp_range {i : Nat} (h : i < 510) : 0 ≤ field_build.exp i ∧ field_build.exp i < 256 := by
 have h0 : ((field_build.st 255).1.all fun x => decide (0 ≤ x) && decide (x < 256)) = true := by decide +kernel
 have hl := (field_build.st_length 255).1
 have h1 := List.all_eq_true.1 h0 ((field_build.st 255).1[i]'(by omega)) (List.getElem_mem _)
 unfold field_build.exp
 rw [List.getD_eq_getElem?_getD, List.getElem?_eq_getElem (by omega)]
 simpa using h1
theorem inv_some {a : Int} (h : 0 ≤ a ∧ a < 256) (h0 : a ≠ 0) : field_Inv.f a = some (invT a, 0) ∧ 0 ≤ invT a ∧ invT a < 256 := by
 have e : field_bounded.f (-1) = some 254 := by kernel_rfl
 have hl := field_build.log_range (i := a.toNat) (by omega)
 have e2 : field_Inv.f a = some (field_build.exp ((field_build.log a.toNat * 254) % 255).toNat, 0) := by
  unfold field_Inv.f field_Pow.f
  rw [if_neg (by omega), if_neg h0, if_pos h, e]
  simp
 have e3 : invT a = field_build.exp ((field_build.log a.toNat * 254) % 255).toNat := by unfold invT; rw [e2, Option.getD_some]
 rw [e3]
 refine ⟨e2, exp_range ?_⟩
 generalize field_build.log a.toNat = q
 omega
/-- The table, as far as place n. -/
def invTo (n : Nat) : List Int := (List.range 256).map fun i => if 1 ≤ i ∧ i < n then invT (i : Int) else 0
theorem invTo_length (n : Nat) : (invTo n).length = 256 := by simp [invTo]
theorem invTo_get {n i : Nat} (h : i < 256) : (invTo n)[i]'(by rw [invTo_length]; exact h) = if 1 ≤ i ∧ i < n then invT (i : Int) else 0 := by simp [invTo]
theorem invTo_set {n : Nat} (h1 : 1 ≤ n) (h : n < 256) : (invTo n).set n (invT (n : Int)) = invTo (n + 1) := by
 refine List.ext_getElem (by rw [List.length_set, invTo_length, invTo_length]) fun i h2 h3 => ?_
 have hi : i < 256 := by rwa [invTo_length] at h3
 rw [List.getElem_set, invTo_get hi, invTo_get hi]
 by_cases e : n = i
 ·subst e
  rw [if_pos rfl, if_pos ⟨h1, by omega⟩]
 ·rw [if_neg e]
  have : (1 ≤ i ∧ i < n + 1) ↔ (1 ≤ i ∧ i < n) := ⟨fun q => ⟨q.1, by omega⟩, fun q => ⟨q.1, by omega⟩⟩
  simp only [this]
/-- Its cells. -/
def invC (n : Nat) : Array Value := (nums .u8 (invTo n)).toArray
theorem invC_size (n : Nat) : (invC n).size = 256 := by simp [invC, nums, invTo_length]
theorem invC_set {n : Nat} (h1 : 1 ≤ n) (h : n < 256) : (invC n).setIfInBounds n (.int .u8 (invT (n : Int))) = invC (n + 1) := by
 unfold invC nums
 rw [List.setIfInBounds_toArray, ← invTo_set h1 h, List.map_set]
theorem invC_at {n i : Nat} (h : i < 256) : (invC n)[i]? = some (.int .u8 ((invTo n).getD i 0)) := by
 have hl : i < (invTo n).length := by rw [invTo_length]; exact h
 simp [invC, nums, List.getD_eq_getElem?_getD, hl]
theorem invC_one (n : Nat) : (invC n).all (·.oneCell') = true := by
 rw [Array.all_eq_true_iff_forall_mem]
 intro x hx
 simp only [invC, nums, List.mem_toArray, List.mem_map] at hx
 obtain ⟨y, _, rfl⟩ := hx
 rfl
def invZ : Array Value := (nums .u8 (List.replicate 256 0)).toArray
theorem invC_zero : invZ = invC 1 := by
 unfold invC invZ
 have e : List.replicate 256 (0 : Int) = invTo 1 := ?_
 ·rw [e]
 refine List.ext_getElem (by rw [invTo_length, List.length_replicate]) fun i h1 h2 => ?_
 rw [invTo_get (by rwa [invTo_length] at h2), List.getElem_replicate, if_neg (by omega)]
theorem invZ_zero (w : World) : (zeroValue 54).run Try.prog w = .ok (.agg invZ) w := by kernel_rfl
theorem inv_zero (w : World) : (zeroValue 54).run Try.prog w = .ok (.agg (invC 1)) w := invC_zero ▸ invZ_zero w
theorem inv_info : (Try.prog.info? 54).map (·.size) = some (invC 256).size := by
 rw [invC_size]
 kernel_rfl
set_option maxHeartbeats 2000000 in
set_option maxRecDepth 100000 in
theorem share_inverses.goes (C : Nat → Array Value) (hz : ∀ w, (zeroValue 54).run Try.prog w = .ok (.agg (C 1)) w) (hset : ∀ n, 1 ≤ n → n < 256 → (C n).setIfInBounds n (.int .u8 (invT (n : Int))) = C (n + 1)) (hat : ∀ n, n < 256 → ∃ v, (C n)[n]? = some (.int .u8 v))
  (hsz : ∀ n, (C n).size = 256) (hone : (C 256).all (·.oneCell') = true) (hinfo : (Try.prog.info? 54).map (·.size) = some (C 256).size) (w : World) : Calls Try.prog 24 #[] w fun e w' => e = .returned (.agg (C 256)) ∧ Below w.heap.size w w' := by
 have HSET := Aside0.mk hset
 have HAT := Aside0.mk hat
 clear hset hat
 go_enter Try.func24, Try.ntmps24
 go_wp2_with fail
 go_loopw [2] (fun v wr => ∃ n : Nat, 1 ≤ n ∧ n ≤ 256 ∧ v = .int .i64 n ∧ Aside0 (wr.heap[w.heap.size + 1]? = some (.cells (C n) 54 (0, 0))) ∧ Aside0 (wr.heap[w.heap.size]? = some (.cells (C 1) 54 (0, 0))) ∧ Aside0 (Below w.heap.size w wr)) (fun v _ => 256 - (intOf v).toNat)
 case atStart =>
  refine ⟨1, by omega, by omega, rfl, ⟨?_⟩, ⟨?_⟩, ⟨below_alloc (below_alloc (Below.refl _ _) _) _⟩⟩
  ·exact (heap_alloc2_new w _ _).trans rfl
  ·exact heap_alloc2_old w _ _
 case round =>
  obtain ⟨n, hn1, hn, rfl, HT, HR, HB⟩ := hrel
  by_cases hlt : n < 256
  ·have HI := Aside0.mk (inv_some (a := (n : Int)) (by omega) (by omega)).1
   have HS := Aside0.mk (HSET.out n hn1 hlt)
   obtain ⟨y, hy⟩ : ∃ y, y = invT (n : Int) := ⟨_, rfl⟩
   rw [← hy] at HI HS
   clear hy
   obtain ⟨v, hv⟩ := HAT.out n hlt
   have hc1 := (blk_cell HT.out n).trans hv
   have hf1 := blk_frozen HT.out n
   clear hv
   have hlw : w.heap.size + 1 < wr.heap.size := (Array.getElem?_eq_some_iff.1 HT.out).1
   have HLW := Aside0.mk hlw
   clear hlw
   go_wp2_with (go_at_call 38; refine (field_Inv.calls (n : Int) y 0 _ HI.out).mono ?_; rintro e' w' ⟨rfl, hb⟩; replace HT := Aside0.mk (blk_below HT.out hb); replace HR := Aside0.mk (blk_below HR.out hb); replace HB := Aside0.mk (HB.out.trans (hb.mono HB.out.size)); replace hc1 := pw_cell_below hb hc1; have hf2 := blk_frozen HT.out n)
   go_roundw
   case rel =>
    refine ⟨n + 1, by omega, by omega, by go_num, ⟨?_⟩, ⟨?_⟩, ⟨?_⟩⟩
    ·have s1 := blk_set HT.out n (.int .u8 y)
     rw [HS.out] at s1
     exact s1
    ·exact blk_far HR.out (by simp) _
    ·exact HB.out.setCell (by simp) _
   case measure => simp [intOf]; omega
  ·have hT : wr.heap[w.heap.size + 1]? = some (.cells (C 256) 54 (0, 0)) := by
    have h := HT.out
    rw [show n = 256 from by omega] at h
    exact h
   have HT2 := Aside0.mk hT
   clear hT HT
   go_wp2_with (first | (with_reducible refine wpList_load_row rfl 54 (.tmp 1) rfl (w.heap.size + 1) rfl 54 (C 256) (0, 0) _ HT2.out Try.underlying54 rfl hinfo ?_) | (with_reducible refine wpList_store_row rfl 54 (.tmp 0) (.tmp 15) rfl w.heap.size (C 256) rfl rfl 54 _ HR.out hinfo ((hsz 1).trans (hsz 256).symm) hone ?_))
   exact bodyPost_ret (v := .agg (C 256)) (results_cell_row rfl _ _ w.heap.size 54 (C 256) (0, 0) _ rfl (setRow_heap _ _ _ _ _ _ HR.out) Try.underlying54 rfl hinfo) rfl ⟨rfl, below_setRow HB.out (Nat.le_refl _) _⟩
theorem share_inverses.calls (w : World) : Calls Try.prog 24 #[] w fun e w' => e = .returned (.agg (invC 256)) ∧ Below w.heap.size w w' :=
 share_inverses.goes invC inv_zero (fun _ h1 h => invC_set h1 h) (fun _ h => ⟨_, invC_at h⟩) invC_size (invC_one 256) inv_info w


/-! ### share_ahead: function 40 -/
def share_ahead.f (a0_0 : Int) (a0_1 : Int) (a0_2 : Int) (a0_3 : Int) (a1_0 : Int) (a1_1 : Int) (a1_2 : Int) (a1_3 : Int) : Option (Bool) := if a0_3 = a1_3 then (if a0_0 = a1_0 then (if a0_1 = a1_1 then (some (decide (a0_2 < a1_2))) else (some (decide (a0_1 < a1_1)))) else (some (decide (a0_0 < a1_0)))) else (some (decide (a0_3 > a1_3)))
set_option maxHeartbeats 8000000 in
set_option maxRecDepth 100000 in
theorem share_ahead.calls (a0_0 : Int) (a0_1 : Int) (a0_2 : Int) (a0_3 : Int) (a1_0 : Int) (a1_1 : Int) (a1_2 : Int) (a1_3 : Int) (r : Bool) (w : World) (h : share_ahead.f a0_0 a0_1 a0_2 a0_3 a1_0 a1_1 a1_2 a1_3 = some r) :
  Calls Try.prog 40 #[.agg #[.int .i64 a0_0, .int .i64 a0_1, .int .u8 a0_2, .int .i64 a0_3], .agg #[.int .i64 a1_0, .int .i64 a1_1, .int .u8 a1_2, .int .i64 a1_3]] w fun e w' => e = .returned (.bool r) ∧ Below w.heap.size w w' := by
 have hu27 := Try.underlying27
 have HB := Aside0.mk (Below.refl w.heap.size w)
 have H : (if a0_3 = a1_3 then (if a0_0 = a1_0 then (if a0_1 = a1_1 then (some (decide (a0_2 < a1_2))) else (some (decide (a0_1 < a1_1)))) else (some (decide (a0_0 < a1_0)))) else (some (decide (a0_3 > a1_3)))) = some r := h
 clear h
 by_cases c3 : a0_3 = a1_3
 ·rw [if_pos c3] at H
  have c3b0 : (a0_3 == a1_3) = true := beq_iff_eq.mpr c3
  have c3b1 : (a0_3 != a1_3) = false := bne_eq_false_iff_eq.mpr c3
  clear c3
  by_cases c4 : a0_0 = a1_0
  ·rw [if_pos c4] at H
   have c4b0 : (a0_0 == a1_0) = true := beq_iff_eq.mpr c4
   have c4b1 : (a0_0 != a1_0) = false := bne_eq_false_iff_eq.mpr c4
   clear c4
   by_cases c5 : a0_1 = a1_1
   ·rw [if_pos c5] at H
    have c5b0 : (a0_1 == a1_1) = true := beq_iff_eq.mpr c5
    have c5b1 : (a0_1 != a1_1) = false := bne_eq_false_iff_eq.mpr c5
    clear c5
    obtain rfl := Option.some.inj H
    go_enter Try.func40, Try.ntmps40
    go_wp2_with (first | ((with_reducible refine gD 2 rfl ?_); refine bE 2 #[.int .i64 a0_0, .int .i64 a0_1, .int .u8 a0_2, .int .i64 a0_3] 27 ?_; intro gb112 hg w6 hbox hb; have BK112 := Aside0.mk (hbox); have GW112 := hbS HB hg; have GE112 := hbS HB hg; replace HB := hbB HB hb; clear hb hbox hg) | ((with_reducible refine gD 3 rfl ?_); refine bE 3 #[.int .i64 a1_0, .int .i64 a1_1, .int .u8 a1_2, .int .i64 a1_3] 27 ?_; intro gb113 hg w7 hbox hb; have BK113 := Aside0.mk (hbox); have GW113 := hbS HB hg; have GE113 := hbS HB hg; replace HB := hbB HB hb; have NB112_113 := neL BK112 hg; have NB113_112 := neG BK112 hg; replace BK112 := bkB BK112 hb; clear hb hbox hg; have hnb8 := NB112_113.out; have hnc8 := NB113_112.out; obtain ⟨hcz9_0, hcz9_1, hcz9_2, hcz9_3, hfz9_0, hfz9_1, hfz9_2, hfz9_3⟩ := cell4 BK112; obtain ⟨hcz10_0, hcz10_1, hcz10_2, hcz10_3, hfz10_0, hfz10_1, hfz10_2, hfz10_3⟩ := cell4 BK113))
    go_ret
    exact ⟨rfE, hbA HB.out⟩
   ·rw [if_neg c5] at H
    have c5b0 : (a0_1 == a1_1) = false := beq_eq_false_iff_ne.mpr c5
    have c5b1 : (a0_1 != a1_1) = true := bne_iff_ne.mpr c5
    obtain rfl := Option.some.inj H
    go_enter Try.func40, Try.ntmps40
    go_wp2_with (first | ((with_reducible refine gD 2 rfl ?_); refine bE 2 #[.int .i64 a0_0, .int .i64 a0_1, .int .u8 a0_2, .int .i64 a0_3] 27 ?_; intro gb112 hg w11 hbox hb; have BK112 := Aside0.mk (hbox); have GW112 := hbS HB hg; have GE112 := hbS HB hg; replace HB := hbB HB hb; clear hb hbox hg) | ((with_reducible refine gD 3 rfl ?_); refine bE 3 #[.int .i64 a1_0, .int .i64 a1_1, .int .u8 a1_2, .int .i64 a1_3] 27 ?_; intro gb113 hg w12 hbox hb; have BK113 := Aside0.mk (hbox); have GW113 := hbS HB hg; have GE113 := hbS HB hg; replace HB := hbB HB hb; have NB112_113 := neL BK112 hg; have NB113_112 := neG BK112 hg; replace BK112 := bkB BK112 hb; clear hb hbox hg; have hnb13 := NB112_113.out; have hnc13 := NB113_112.out; obtain ⟨hcz14_0, hcz14_1, hcz14_2, hcz14_3, hfz14_0, hfz14_1, hfz14_2, hfz14_3⟩ := cell4 BK112; obtain ⟨hcz15_0, hcz15_1, hcz15_2, hcz15_3, hfz15_0, hfz15_1, hfz15_2, hfz15_3⟩ := cell4 BK113))
    go_ret
    exact ⟨rfE, hbA HB.out⟩
  ·rw [if_neg c4] at H
   have c4b0 : (a0_0 == a1_0) = false := beq_eq_false_iff_ne.mpr c4
   have c4b1 : (a0_0 != a1_0) = true := bne_iff_ne.mpr c4
   obtain rfl := Option.some.inj H
   go_enter Try.func40, Try.ntmps40
   go_wp2_with (first | ((with_reducible refine gD 2 rfl ?_); refine bE 2 #[.int .i64 a0_0, .int .i64 a0_1, .int .u8 a0_2, .int .i64 a0_3] 27 ?_; intro gb112 hg w16 hbox hb; have BK112 := Aside0.mk (hbox); have GW112 := hbS HB hg; have GE112 := hbS HB hg; replace HB := hbB HB hb; clear hb hbox hg) | ((with_reducible refine gD 3 rfl ?_); refine bE 3 #[.int .i64 a1_0, .int .i64 a1_1, .int .u8 a1_2, .int .i64 a1_3] 27 ?_; intro gb113 hg w17 hbox hb; have BK113 := Aside0.mk (hbox); have GW113 := hbS HB hg; have GE113 := hbS HB hg; replace HB := hbB HB hb; have NB112_113 := neL BK112 hg; have NB113_112 := neG BK112 hg; replace BK112 := bkB BK112 hb; clear hb hbox hg; have hnb18 := NB112_113.out; have hnc18 := NB113_112.out; obtain ⟨hcz19_0, hcz19_1, hcz19_2, hcz19_3, hfz19_0, hfz19_1, hfz19_2, hfz19_3⟩ := cell4 BK112; obtain ⟨hcz20_0, hcz20_1, hcz20_2, hcz20_3, hfz20_0, hfz20_1, hfz20_2, hfz20_3⟩ := cell4 BK113))
   go_ret
   exact ⟨rfE, hbA HB.out⟩
 ·rw [if_neg c3] at H
  have c3b0 : (a0_3 == a1_3) = false := beq_eq_false_iff_ne.mpr c3
  have c3b1 : (a0_3 != a1_3) = true := bne_iff_ne.mpr c3
  obtain rfl := Option.some.inj H
  go_enter Try.func40, Try.ntmps40
  go_wp2_with (first | ((with_reducible refine gD 2 rfl ?_); refine bE 2 #[.int .i64 a0_0, .int .i64 a0_1, .int .u8 a0_2, .int .i64 a0_3] 27 ?_; intro gb112 hg w21 hbox hb; have BK112 := Aside0.mk (hbox); have GW112 := hbS HB hg; have GE112 := hbS HB hg; replace HB := hbB HB hb; clear hb hbox hg) | ((with_reducible refine gD 3 rfl ?_); refine bE 3 #[.int .i64 a1_0, .int .i64 a1_1, .int .u8 a1_2, .int .i64 a1_3] 27 ?_; intro gb113 hg w22 hbox hb; have BK113 := Aside0.mk (hbox); have GW113 := hbS HB hg; have GE113 := hbS HB hg; replace HB := hbB HB hb; have NB112_113 := neL BK112 hg; have NB113_112 := neG BK112 hg; replace BK112 := bkB BK112 hb; clear hb hbox hg; have hnb23 := NB112_113.out; have hnc23 := NB113_112.out; obtain ⟨hcz24_0, hcz24_1, hcz24_2, hcz24_3, hfz24_0, hfz24_1, hfz24_2, hfz24_3⟩ := cell4 BK112; obtain ⟨hcz25_0, hcz25_1, hcz25_2, hcz25_3, hfz25_0, hfz25_1, hfz25_2, hfz25_3⟩ := cell4 BK113))
  go_ret
  exact ⟨rfE, hbA HB.out⟩

end Go.Proofs.Ytnfemjnajfdepaa.Q
