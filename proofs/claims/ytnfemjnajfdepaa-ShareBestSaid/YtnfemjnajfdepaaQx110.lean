/- Written by drive.py (a program of this repo, over the kit's print): each Go function named here answers what the Lean function beside it answers, wherever that one answers, in every world that meets the stated premises. -/
import Derived.Test.YtnfemjnajfdepaaQx0
import Derived.Test.YtnfemjnajfdepaaQx123
import Derived.Test.YtnfemjnajfdepaaQx125
import Derived.Test.YtnfemjnajfdepaaQx138
namespace Go.Proofs.Ytnfemjnajfdepaa.Q
open Go.RowKit Go.Proofs.YtnfemjnajfdepaaW.PrintWords Go.Proofs.YtnfemjnajfdepaaW.PrintLast Go.Proofs.YtnfemjnajfdepaaW.PrintMore
attribute [local go_sem] max2_int min2_int max_two min_two max_three min_three max_four min_four   -- for this text's walks alone
set_option linter.unusedVariables false
set_option linter.unusedSimpArgs false

/-! ### share_Best: function 10 -/
def share_Best.f (k : Nat) (l0 : List Int) (L : List (List S61)) (l2 : List Int) : Option (Int × Int × Int × Int × Bool × Int) :=
 (flow_May.f k l0 L l2).bind fun t => if t = true then (if L.length ≤ 140737488355328 then (share_best.f L).bind fun p => some (p.1, p.2.1, p.2.2.1, p.2.2.2.1, p.2.2.2.2, 0) else none) else some (0, 0, 0, 0, false, 2)
theorem share_Best.mono : ∀ a0 a1 a2 k, LeO (share_Best.f k a0 a1 a2) (share_Best.f (k + 1) a0 a1 a2) := fun a0 a1 a2 k => LeO.bind (flow_May.mono a0 a1 a2 k) fun _ => LeO.refl _
theorem invC_sizes : (invC 1).size = (invC 256).size := (invC_size 1).trans (invC_size 256).symm
set_option maxHeartbeats 8000000 in
set_option maxRecDepth 100000 in
theorem share_Best.calls (k : Nat) (A0_0 : Option Addr) (c0_0 : Nat) (l0_0 : List Int) (A0_1 : Option Addr) (c0_1 : Nat) (l0_1 : List (List S61)) (A0_2 : Option Addr) (c0_2 : Nat) (l0_2 : List Int) (r1 r2 r3 r4 : Int) (r5 : Bool) (r6 : Int) (w : World) (hr0_0 : Kd.C (Kd.int .i64) w A0_0 l0_0.length l0_0) (hc0_0 : l0_0.length ≤ c0_0) (hr0_1 : Kd.C (Kd.slice 61 k61) w A0_1 l0_1.length l0_1) (hc0_1 : l0_1.length ≤ c0_1) (hr0_2 : Kd.C (Kd.int .i64) w A0_2 l0_2.length l0_2) (hc0_2 : l0_2.length ≤ c0_2) (h : share_Best.f k l0_0 l0_1 l0_2 = some (r1, r2, r3, r4, r5, r6)) :
  Calls Try.prog 10 #[.agg #[.slice A0_0 l0_0.length c0_0, .slice A0_1 l0_1.length c0_1, .slice A0_2 l0_2.length c0_2]] w fun e w' => e = .returned (.tuple #[.agg #[.int .i64 r1, .int .i64 r2, .int .u8 r3, .int .i64 r4], .bool r5, .int .i64 r6]) ∧ Below w.heap.size w w' := by
 have hu25 := Try.underlying25
 have HR0 := Aside0.mk hr0_0
 have HC0 := Aside0.mk hc0_0
 have HR1 := Aside0.mk hr0_1
 have HC1 := Aside0.mk hc0_1
 have HR2 := Aside0.mk hr0_2
 have HC2 := Aside0.mk hc0_2
 clear hr0_0 hc0_0 hr0_1 hc0_1 hr0_2 hc0_2
 have HB := Aside0.mk (Below.refl w.heap.size w)
 unfold share_Best.f at h
 obtain ⟨t, ht, h⟩ := Option.bind_eq_some_iff.1 h
 have HMAY := Aside0.mk ht
 clear ht
 cases t
 ·rw [if_neg (by decide)] at h
  obtain ⟨rfl, rfl, rfl, rfl, rfl, rfl⟩ : 0 = r1 ∧ 0 = r2 ∧ 0 = r3 ∧ 0 = r4 ∧ false = r5 ∧ 2 = r6 := by simpa using h
  clear h
  go_enter Try.func10, Try.ntmps10
  go_wp2_with (first | ((with_reducible refine gD 1 rfl ?_); (try (refine gate_guard (by rfl) ?_; dsimp only)); refine bE 1 #[.slice A0_0 l0_0.length c0_0, .slice A0_1 l0_1.length c0_1, .slice A0_2 l0_2.length c0_2] 25 ?_; intro gf hgf w2 hbox hb; have BF := Aside0.mk (hbox); have GF := hbS HB hgf; replace HB := hbB HB hb; clear hb hbox hgf; obtain ⟨hcz3_0, hcz3_1, hcz3_2, hfz3_0, hfz3_1, hfz3_2⟩ := cell3 BF) | ((with_reducible refine gD 2 rfl ?_); refine bE 2 #[.int .i64 0, .int .i64 0, .int .u8 0, .int .i64 0] 27 ?_; intro gp hgp w3 hbox hb; have BP := Aside0.mk (hbox); have GP := hbS HB hgp; replace HB := hbB HB hb; have NFP := neL BF hgp; replace BF := bkB BF hb; clear hb hbox hgp; obtain ⟨hcz4_0, hcz4_1, hcz4_2, hcz4_3, hfz4_0, hfz4_1, hfz4_2, hfz4_3⟩ := cell4 BP; clear hcz3_0 hcz3_1 hcz3_2 hfz3_0 hfz3_1 hfz3_2; obtain ⟨hcz3_0, hcz3_1, hcz3_2, hfz3_0, hfz3_1, hfz3_2⟩ := cell3 BF) | (go_at_call 23; refine (flow_May.calls k _ _ l0_0 _ _ l0_1 _ _ l0_2 false _ (kcB HR0 HB) HC0.out (kcB HR1 HB) HC1.out (kcB HR2 HB) HC2.out HMAY.out).mono ?_; rintro e w4 ⟨rfl, hb⟩; replace HB := hbB HB hb; replace BP := bkB BP hb; clear hcz4_0 hcz4_1 hcz4_2 hcz4_3 hfz4_0 hfz4_1 hfz4_2 hfz4_3; obtain ⟨hcz4_0, hcz4_1, hcz4_2, hcz4_3, hfz4_0, hfz4_1, hfz4_2, hfz4_3⟩ := cell4 BP))
  exact bodyPost_ret (results_ctt rfl _ _ gp 27 #[.int .i64 0, .int .i64 0, .int .u8 0, .int .i64 0] (0, 0) _ rfl (set4 BP.out _ _ _ _) Try.underlying27 rfl (by kernel_rfl)) rfl ⟨rfl, below4 HB.out GP.out _ _ _ _⟩
 ·rw [if_pos rfl] at h
  by_cases hL : l0_1.length ≤ 140737488355328
  ·rw [if_pos hL] at h
   obtain ⟨⟨p1, p2, p3, p4, p5⟩, hb, h⟩ := Option.bind_eq_some_iff.1 h
   obtain ⟨rfl, rfl, rfl, rfl, rfl, rfl⟩ : p1 = r1 ∧ p2 = r2 ∧ p3 = r3 ∧ p4 = r4 ∧ p5 = r5 ∧ 0 = r6 := by simpa using h
   have HBEST := Aside0.mk hb
   have HLL := Aside0.mk hL
   clear h hb hL
   have hz := inv_zero
   go_enter Try.func10, Try.ntmps10
   go_upto_region 3 with (first | ((with_reducible refine gD 1 rfl ?_); (try (refine gate_guard (by rfl) ?_; dsimp only)); refine bE 1 #[.slice A0_0 l0_0.length c0_0, .slice A0_1 l0_1.length c0_1, .slice A0_2 l0_2.length c0_2] 25 ?_; intro gf hgf w2 hbox hb; have BF := Aside0.mk (hbox); have GF := hbS HB hgf; replace HB := hbB HB hb; clear hb hbox hgf; obtain ⟨hcz3_0, hcz3_1, hcz3_2, hfz3_0, hfz3_1, hfz3_2⟩ := cell3 BF) | ((with_reducible refine gD 2 rfl ?_); refine bE 2 #[.int .i64 0, .int .i64 0, .int .u8 0, .int .i64 0] 27 ?_; intro gp hgp w3 hbox hb; have BP := Aside0.mk (hbox); have GP := hbS HB hgp; replace HB := hbB HB hb; have NFP := neL BF hgp; replace BF := bkB BF hb; clear hb hbox hgp; obtain ⟨hcz4_0, hcz4_1, hcz4_2, hcz4_3, hfz4_0, hfz4_1, hfz4_2, hfz4_3⟩ := cell4 BP; clear hcz3_0 hcz3_1 hcz3_2 hfz3_0 hfz3_1 hfz3_2; obtain ⟨hcz3_0, hcz3_1, hcz3_2, hfz3_0, hfz3_1, hfz3_2⟩ := cell3 BF) | (go_at_call 23; refine (flow_May.calls k _ _ l0_0 _ _ l0_1 _ _ l0_2 true _ (kcB HR0 HB) HC0.out (kcB HR1 HB) HC1.out (kcB HR2 HB) HC2.out HMAY.out).mono ?_; rintro e w4 ⟨rfl, hb⟩; replace HB := hbB HB hb; replace BP := bkB BP hb; replace BF := bkB BF hb))
   clear hcz4_0 hcz4_1 hcz4_2 hcz4_3 hfz4_0 hfz4_1 hfz4_2 hfz4_3 hcz3_0 hcz3_1 hcz3_2 hfz3_0 hfz3_1 hfz3_2
   go_upto_region 4 with (first | (go_at_call 24; refine (share_inverses.calls _).mono ?_; rintro e w5 ⟨rfl, hb⟩; replace HB := hbB HB hb; replace BP := bkB BP hb; replace BF := bkB BF hb) | (with_reducible refine wpList_store_row rfl 54 (.tmp 5) (.tmp 10) rfl w5.heap.size (invC 256) rfl rfl 54 _ (blk_new _ _) inv_info invC_sizes (invC_one 256) ?_; rw [World.setRow_alloc_new]; simp only [Act.put, List.setIfInBounds_toArray, List.set_cons_succ, List.set_cons_zero]))
   have BF6 : Aside0 ((w5.alloc (.cells (invC 256) 54)).heap[gf]? = some (.cells #[.slice A0_0 l0_0.length c0_0, .slice A0_1 l0_1.length c0_1, .slice A0_2 l0_2.length c0_2] 25 (0, 0))) := ⟨bkA BF.out⟩
   have BP6 : Aside0 ((w5.alloc (.cells (invC 256) 54)).heap[gp]? = some (.cells #[.int .i64 0, .int .i64 0, .int .u8 0, .int .i64 0] 27 (0, 0))) := ⟨bkA BP.out⟩
   have HB6 : Aside0 (Below w.heap.size w (w5.alloc (.cells (invC 256) 54))) := ⟨hbA HB.out⟩
   have HTAB := Aside0.mk (blk_new w5 (.cells (invC 256) 54))
   clear BF BP HB
   generalize w5.heap.size = gt at *
   generalize w5.alloc (.cells (invC 256) 54) = w6 at *
   obtain ⟨hcz3_0, hcz3_1, hcz3_2, hfz3_0, hfz3_1, hfz3_2⟩ := cell3 BF6
   go_wp2_with (go_at_call 25; refine (share_best.calls A0_0 A0_1 A0_2 l0_0.length c0_0 c0_1 l0_2.length c0_2 l0_1 gt _ (kcB HR1 HB6) HTAB.out HLL.out p1 p2 p3 p4 p5 HBEST.out).mono ?_; rintro e w7 ⟨rfl, hb⟩; replace HB6 := hbB HB6 hb; replace BP6 := bkB BP6 hb; obtain ⟨hcz4_0, hcz4_1, hcz4_2, hcz4_3, hfz4_0, hfz4_1, hfz4_2, hfz4_3⟩ := cell4 BP6)
   exact bodyPost_ret (results_ctt rfl _ _ gp 27 #[.int .i64 p1, .int .i64 p2, .int .u8 p3, .int .i64 p4] (0, 0) _ rfl (set4 (set4 BP6.out _ _ _ _) _ _ _ _) Try.underlying27 rfl (by kernel_rfl)) rfl ⟨rfl, below4 (below4 HB6.out GP.out _ _ _ _) GP.out _ _ _ _⟩
  ·rw [if_neg hL] at h
   cases h


end Go.Proofs.Ytnfemjnajfdepaa.Q
