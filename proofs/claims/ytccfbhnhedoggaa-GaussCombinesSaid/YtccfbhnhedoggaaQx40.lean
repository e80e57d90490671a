/- Written by drive.py (a program of this repo, over the kit's print): each Go function named here answers what the Lean function beside it answers, wherever that one answers, in every world that meets the stated premises. -/
import Derived.Test.YtccfbhnhedoggaaQx0
import Derived.Test.YtccfbhnhedoggaaQx7
import Derived.Test.YtccfbhnhedoggaaQx19
namespace Go.Proofs.Ytccfbhnhedoggaa.Q
open Go.RowKit Go.Proofs.YtccfbhnhedoggaaW.PrintWords Go.Proofs.YtccfbhnhedoggaaW.PrintLast Go.Proofs.YtccfbhnhedoggaaW.PrintMore
attribute [local go_sem] max2_int min2_int max_two min_two max_three min_three max_four min_four   -- for this text's walks alone
set_option linter.unusedVariables false
set_option linter.unusedSimpArgs false

/-! ### recoupref04_First: function 37 -/
def recoupref04_First.l0 : Nat → List Int → Int → Int → Int → Int → List Int → Option (List Int × Int)
 | 0, _, _, _, _, _, _ => none
 | k + 1, x4, x5, x6, x641000, x641001, x641002 => if x6 < x641000 then (if 0 ≤ (wrap64 ((wrap64 (x6 + 1)) * x641001)) then (if (wrap64 ((wrap64 (x6 + 1)) * x641001)) ≤ (x641002.length : Int) then ((recoupref04_Rank.f k (wrap64 (x6 + 1)) x641001 (x641002.take ((wrap64 ((wrap64 (x6 + 1)) * x641001)) : Int).toNat)).bind fun bt643 => (if bt643.1 > x5 then (if x4.length < 17592186044416 then (recoupref04_First.l0 k (x4 ++ [x6]) bt643.1 (wrap64 (x6 + 1)) x641000 x641001 x641002) else (none)) else (recoupref04_First.l0 k x4 x5 (wrap64 (x6 + 1)) x641000 x641001 x641002))) else (none)) else (none)) else (some (x4, 0))
def recoupref04_First.f (k : Nat) (a0_0 : Int) (a0_1 : Int) (l0_2 : List Int) : Option (List Int × Int) := (recoupref03_Right.f a0_0 a0_1 l0_2).bind fun t641 => (if t641 = true then (recoupref04_First.l0 k ([] : List Int) 0 0 a0_0 a0_1 l0_2) else (some (([] : List Int), 3)))
theorem recoupref04_First.mono_l : ∀ k, (∀ y0 y1 y2 y3 y4 y5, LeO (recoupref04_First.l0 k y0 y1 y2 y3 y4 y5) (recoupref04_First.l0 (k + 1) y0 y1 y2 y3 y4 y5))
 | 0 => fun _ _ _ _ _ _ r h => by simp [recoupref04_First.l0] at h
 | k + 1 => by
  have ih0 := recoupref04_First.mono_l k
  ·intro y0 y1 y2 y3 y4 y5
   unfold recoupref04_First.l0
   repeat' first
   | (with_reducible exact ih0 _ _ _ _ _ _)
   | (with_reducible exact recoupref04_Rank.mono _ _ _ _)
   | (with_reducible exact LeO.refl _)
   | (with_reducible exact LeO.none _)
   | (with_reducible refine LeO.ite ?_ ?_)
   | (with_reducible refine LeO.bind ?_ (fun _ => ?_))
   | exact ih0 _ _ _ _ _ _
   | exact recoupref04_Rank.mono _ _ _ _
   | exact LeO.none _
   | refine LeO.ite ?_ ?_
   | refine LeO.bind ?_ (fun _ => ?_)
theorem recoupref04_First.mono : ∀ a0 a1 a2 k, LeO (recoupref04_First.f k a0 a1 a2) (recoupref04_First.f (k + 1) a0 a1 a2) := by
 intro a0 a1 a2 k
 have ih0 := recoupref04_First.mono_l k
 unfold recoupref04_First.f
 repeat' first
   | (with_reducible exact ih0 _ _ _ _ _ _)
   | (with_reducible exact recoupref04_Rank.mono _ _ _ _)
   | (with_reducible exact LeO.refl _)
   | (with_reducible exact LeO.none _)
   | (with_reducible refine LeO.ite ?_ ?_)
   | (with_reducible refine LeO.bind ?_ (fun _ => ?_))
   | exact ih0 _ _ _ _ _ _
   | exact recoupref04_Rank.mono _ _ _ _
   | exact LeO.none _
   | refine LeO.ite ?_ ?_
   | refine LeO.bind ?_ (fun _ => ?_)
def recoupref04_First.T8 : Bool × List (List Nat × List Nat) := (true, [([], []), ([0], [0]), ([], []), ([2], [2]), ([], []), ([4], [4]), ([], []), ([6], [6]), ([], []), ([8], [8]), ([7, 9], [7, 9]), ([5, 10], [5, 10]), ([1, 3, 11], [1, 3, 11]), ([12], [12]), ([13], [13]), ([14], [14]), ([14], [14]), ([15, 13, 0, 1, 2, 3, 4, 5, 6, 7, 8, 9, 10, 11, 12, 13, 14, 15], [15]), ([16, 17, 0, 1, 2, 3, 4, 5, 6, 7, 8, 9, 10, 11, 12, 13, 14, 15, 16, 17], [16])])
def recoupref04_First.B8 : List Nat := [0, 1, 0, 4, 0, 16, 0, 64, 0, 256, 960, 2032, 4095, 8191, 16383, 32767, 32767, 65535, 262143]
theorem recoupref04_First.tab8 : rtab .any (opsOf Try.f37 8) = recoupref04_First.T8 := by kernel_rfl
theorem recoupref04_First.bits8 : waitsOk recoupref04_First.T8.2 recoupref04_First.B8 = true := by kernel_rfl
set_option maxHeartbeats 8000000 in
set_option maxRecDepth 100000 in
theorem recoupref04_First.calls (k : Nat) (a0_0 : Int) (a0_1 : Int) (A0_2 : Option Addr) (c0_2 : Nat) (l0_2 : List Int) (r1 : List Int) (r2 : Int) (w : World) (hr0_2 : Kd.C (Kd.int .u8) w A0_2 l0_2.length l0_2) (hc0_2 : l0_2.length ≤ c0_2) (h : recoupref04_First.f k a0_0 a0_1 l0_2 = some (r1, r2)) :
  Calls Try.prog 37 #[.agg #[.int .i64 a0_0, .int .i64 a0_1, .slice A0_2 l0_2.length c0_2]] w fun e w' => ∃ v0_ : Value, e = .returned (.tuple #[v0_, .int .i64 r2]) ∧ Kd.R (Kd.int .i64) 3 w' w.heap.size (fun _ => True) v0_ r1 ∧ Below w.heap.size w w' := by
 have hu24 := Try.underlying24
 have HR0_2 := Aside0.mk hr0_2
 have HC0_2 := Aside0.mk hc0_2
 clear hr0_2 hc0_2
 have HB := Aside0.mk (Below.refl w.heap.size w)
 have H : ((recoupref03_Right.f a0_0 a0_1 l0_2).bind fun t641 => (if t641 = true then (recoupref04_First.l0 k ([] : List Int) 0 0 a0_0 a0_1 l0_2) else (some (([] : List Int), 3)))) = some (r1, r2) := h
 clear h
 obtain ⟨t641, A2, H⟩ := bindO H
 (try dsimp only at H)
 by_cases c3 : t641 = true
 ·subst c3
  rw [if_pos rfl] at H
  have H' := Aside0.mk H
  clear H
  go_enter Try.func37, Try.ntmps37
  go_wp2_with (first | ((with_reducible refine gD 1 rfl ?_); refine bE 1 #[.int .i64 a0_0, .int .i64 a0_1, .slice A0_2 l0_2.length c0_2] 24 ?_; intro gb640 hg w4 hbox hb; have BK640 := Aside0.mk (hbox); have GW640 := hbS HB hg; have GE640 := hbS HB hg; replace HB := hbB HB hb; clear hb hbox hg; obtain ⟨hcz5_0, hcz5_1, hcz5_2, hfz5_0, hfz5_1, hfz5_2⟩ := cell3 BK640) | ((with_reducible refine gC 21 rfl ?_); refine cG (some 10) Try.func21 #[.agg #[.int .i64 a0_0, .int .i64 a0_1, .slice A0_2 l0_2.length c0_2]] ?_; (with_reducible refine (recoupref03_Right.calls a0_0 a0_1 _ _ l0_2 true _ ?side1 ?side2 A2.out).mono ?_); (case side1 => exact kcB HR0_2 HB); (case side2 => exact HC0_2.out); rintro e w6 ⟨rfl, hb⟩; refine ⟨_, rfl, ?_⟩; replace BK640 := bkB BK640 hb; replace HB := hbB HB hb; (try clear hb); (try clear hb2); (try clear hk); (try clear hi)))
  go_loopg [4, 5, 6] k (fun kq v4 v5 v6 w' => ∃ (x4_1 : List Int) (x5_1 : Int) (x6_1 : Int), v5 = .int .i64 x5_1 ∧ v6 = .int .i64 x6_1 ∧ Aside0 (recoupref04_First.l0 kq x4_1 x5_1 x6_1 a0_0 a0_1 l0_2 = some (r1, r2)) ∧ Aside0 (kq ≤ k) ∧ Aside0 (Kd.R (Kd.int .i64) 3 w' w.heap.size (fun _ => True) v4 x4_1) ∧ Aside0 (w'.heap[gb640]? = some (.cells #[.int .i64 a0_0, .int .i64 a0_1, (.slice A0_2 l0_2.length c0_2)] 24 (0, 0))) ∧ Aside0 (Below w.heap.size w w'))
  case atStart => exact ⟨(([] : List Int)), (0), (0), rsE, rsE, H', ⟨Nat.le_refl _⟩, ⟨nilE⟩, ⟨bkA BK640.out⟩, ⟨hbA HB.out⟩⟩
  case round =>
   clear H'
   (try clear c2); (try clear p2); (try clear c3); (try clear hcz5_0 hcz5_1 hcz5_2 hfz5_0 hfz5_1 hfz5_2)
   obtain ⟨x4_1, x5_1, x6_1, rfl, rfl, HA, HK1, HO_4, BK640, HB⟩ := hrel
   cases gk with
   | zero => exact absurd HA.out (by simp [recoupref04_First.l0])
   | succ k1 =>
    have H := HA.out
    clear HA
    simp only [recoupref04_First.l0] at H
    by_cases c7 : x6_1 < a0_0
    ·rw [if_pos c7] at H
     have c7b0 : decide (x6_1 < a0_0) = true := decide_eq_true c7
     clear c7
     obtain ⟨ji8, hji8⟩ : ∃ j_ : Int, (wrap64 ((wrap64 (x6_1 + 1)) * a0_1)) = j_ := ⟨_, rfl⟩
     replace H : (if 0 ≤ (ji8) then (if (ji8) ≤ (l0_2.length : Int) then ((recoupref04_Rank.f k1 (wrap64 (x6_1 + 1)) a0_1 (l0_2.take ((ji8) : Int).toNat)).bind fun bt643 => (if bt643.1 > x5_1 then (if x4_1.length < 17592186044416 then (recoupref04_First.l0 k1 (x4_1 ++ [x6_1]) bt643.1 (wrap64 (x6_1 + 1)) a0_0 a0_1 l0_2) else (none)) else (recoupref04_First.l0 k1 x4_1 x5_1 (wrap64 (x6_1 + 1)) a0_0 a0_1 l0_2))) else (none)) else (none)) = some (r1, r2) := by first | (rw [hji8] at H; exact H) | (simp only [hji8] at H ⊢; exact H)
     have hji8w : (IntKind.i64.wrap ((wrap64 (x6_1 + 1)) * a0_1)) = ji8 := (i64_w _).trans hji8
     by_cases c9 : 0 ≤ (ji8)
     ·rw [if_pos c9] at H
      have c9b0 := eq_true c9
      have c9b1 : decide (0 ≤ (ji8)) = true := decide_eq_true c9
      clear c9
      by_cases c10 : (ji8) ≤ (l0_2.length : Int)
      ·rw [if_pos c10] at H
       have c10b0 := eq_true c10
       have c10b1 : decide ((ji8) ≤ (l0_2.length : Int)) = true := decide_eq_true c10
       clear c10
       obtain ⟨⟨t643, t644⟩, A11, H⟩ := bindO H
       (try dsimp only at H)
       by_cases c12 : t643 > x5_1
       ·rw [if_pos c12] at H
        have c12b0 : decide (x5_1 < t643) = true := decide_eq_true c12
        clear c12
        by_cases c13 : x4_1.length < 17592186044416
        ·rw [if_pos c13] at H
         have LMc13 := Aside0.mk c13
         clear c13
         obtain ⟨y645, hy645⟩ : ∃ y_ : List Int, y_ = (x4_1 ++ [x6_1]) := ⟨_, rfl⟩
         replace H : (recoupref04_First.l0 k1 y645 t643 (wrap64 (x6_1 + 1)) a0_0 a0_1 l0_2) = some (r1, r2) := by first | (rw [hy645]; with_reducible exact H) | (have H2_ := (Option.bind_some _ _).symm.trans H; rw [hy645]; with_reducible exact H2_) | (have H2_ := (Option.bind_some _ _).symm.trans H; with_reducible exact H2_) | with_reducible exact H | (rw [hy645]; exact H) | exact H
         have Ny645 := Aside0.mk hy645
         clear hy645
         have H' := Aside0.mk H
         clear H
         obtain ⟨hcz14_0, hcz14_1, hcz14_2, hfz14_0, hfz14_1, hfz14_2⟩ := cell3 BK640
         try go_wp2
         replace HO_4 := Aside0.mk (Kd.R_drew HO_4.out)
         replace BK640 := Aside0.mk (blk_drew BK640.out)
         replace HB := Aside0.mk (below_drew1 HB.out)
         obtain ⟨i016, hi016, _, hsz16, _⟩ := info_parts info5
         obtain ⟨hcut16, hA16, hC16⟩ := print_take_of (P := Try.prog) (Value.int .u8) 0 22 5 .i64 Try.underlying22 hi016 hsz16 A0_2 c0_2 l0_2 (ji8) (of_decide_eq_true asE) (of_decide_eq_true asE) HC0_2.out
         have HR642 := Aside0.mk (Kd.C_of_reads (h1 := fun _ => rfl) (hA16 _ (Kd.reads_of_C HR0_2.out)))
         have HC642 := Aside0.mk hC16
         clear hA16 hC16 hi016 hsz16
         refine start_ (n := 19) (S := fun w' => w'.cell? ⟨gb640, 0, none⟩ = some (.int .i64 a0_0) ∧ w'.cell? ⟨gb640, 1, none⟩ = some (.int .i64 a0_1) ∧ w'.cell? ⟨gb640, 2, none⟩ = some (.slice A0_2 l0_2.length c0_2)) (ds := []) (.replicate 19 false) (by kernel_rfl) rfl rfl ⟨(blk_cell BK640.out 0).trans rfl, (blk_cell BK640.out 1).trans rfl, (blk_cell BK640.out 2).trans rfl⟩ (fun hHeld => ?_); refine with_tabW recoupref04_First.tab8 recoupref04_First.bits8 (fun HT_ HW_ => ?_)
         generalize wr.drew = w15 at HO_4 BK640 HB HR642 hHeld ⊢
         refine pu 0 (some 19) (mB 19 1) HT_ ?_
         refine pu 1 (some 20) (mB 19 3) HT_ ?_
         refine pu 2 (some 21) (mB 19 7) HT_ ?_
         refine pu 4 (some 23) (mB 19 23) HT_ ?_
         refine pu 6 (some 25) (mB 19 87) HT_ ?_
         refine pu 7 (some 26) (mB 19 215) HT_ ?_
         refine pu 8 (some 27) (mB 19 471) HT_ ?_
         refine tk3 3 (some 22) (mB 19 479) HT_ HW_ hHeld ?_
         refine tk3 5 (some 24) (mB 19 511) HT_ HW_ hHeld ?_
         refine tk3 9 (some 28) (mB 19 1023) HT_ HW_ hHeld ?_
         refine pu 10 (some 29) (mB 19 2047) HT_ ?_
         refine pu 11 (some 30) (mB 19 4095) HT_ ?_
         refine pu 12 (some 31) (mB 19 8191) HT_ ?_
         refine one_ (i := 13) (N := some 32) (mB 19 16383) rfl rfl (one_of HT_.out (by kernel_rfl)) (by decide) (fun K hK => ?_)
         refine goes_ Try.func49 (by kernel_rfl) rfl #[.agg #[.int .i64 (wrap64 (x6_1 + 1)), .int .i64 a0_1, .slice A0_2 (l0_2.take ((ji8) : Int).toNat).length c0_2]] (by rfl) rfl rfl (by (try simp only [List.map_toArray, List.map_cons, List.map_nil]); first | done | (rw [show (l0_2.take ((ji8) : Int).toNat).length = (ji8).toNat from (by rw [List.length_take]; have h_ : ((ji8) : Int) ≤ (l0_2.length : Int) := of_decide_eq_true asE; omega)] <;> rfl) | (simp only [hji8]; rfl) | rfl | (simp only [List.length_drop, List.length_take]; rfl)) ?_
         with_reducible refine (recoupref04_Rank.calls k1 (wrap64 (x6_1 + 1)) a0_1 _ _ (l0_2.take ((ji8) : Int).toNat) t643 t644 _ ?side1 ?side2 A11.out).mono ?_
         (case side1 => exact kcB HR642 HB)
         (case side2 => exact HC642.out)
         rintro e w17 ⟨rfl, hb⟩
         refine ⟨_, rfl, ?_⟩
         replace HO_4 := kdB HO_4 hb
         replace BK640 := bkB BK640 hb
         replace HB := hbB HB hb
         (try clear hb)
         (try clear hb2)
         (try clear hk)
         (try clear hi)
         refine hK.out _ _ ⟨(blk_cell BK640.out 0).trans rfl, (blk_cell BK640.out 1).trans rfl, (blk_cell BK640.out 2).trans rfl⟩ (fun hHeld => ?_)
         clear hK K
         refine norm_ (a' := ?_) ?_ ?_
         rotate_left
         ·show Act.put _ (some 32) _ = _
          simp only [Act.put, List.setIfInBounds_toArray, List.set_cons_zero, List.set_cons_succ, i64_w, i32_w]
          rfl
         refine pu 14 (some 18) (mB 19 32767) HT_ ?_
         refine pu 15 (some 33) (mB 19 65535) HT_ ?_
         refine pu 16 (some 34) (mB 19 131071) HT_ ?_
         refine pu 17 (some 7) (mB 19 262143) HT_ ?_
         refine pu 18 (some 8) (mB 19 524287) HT_ ?_
         refine done_ (done_of HT_.out (by kernel_rfl)) ?_
         try go_wp2_with (first | ((with_reducible refine gate_builtin (b := .append) (xs := #[.tmp 38, .tmp 40]) rfl ?_); at_builtin; refine Kd.R_append (Kd.int .i64) (w0 := w) w.heap.size rfl (.tmp 38) (.tmp 40) 25 3 (.int .i64 0) 8 rfl Try.underlying25 info3 rfl (by decide) (by omega) u4 x4_1 x6_1 [.int .i64 x6_1] (fun _ => True) (fun _ => False) rfl rfl ?aP (fun _ hk => hk.elim) ?aF ?aO ?aB ?aS ?aL ?_; (case aP => exact rfl); (case aB => exact (hbA HB.out)); (case aF => exact (fun _ _ => trivial)); (case aO => exact (kdA HO_4.out)); (case aS => exact (below_size (hbA HB.out))); (case aL => have := LMc13.out; omega); intro v646 w18 ho hb hg hat; rw [← Ny645.out] at ho; have n0_ := Aside0.mk (blk_grown (g := gb640) (o := .cells #[.int .i64 a0_0, .int .i64 a0_1, .slice A0_2 l0_2.length c0_2] 24 (0, 0)) (bkA BK640.out) hg (Kd.R_ne HO_4.out BK640.out (by decide))); have n1_ := Aside0.mk (hb); have n2_ := Aside0.mk (ho); clear BK640; clear HB; clear HO_4; have BK640 := n0_; have HB := n1_; have HO647 := n2_; clear n0_ n1_ n2_; clear ho hb hg hat))
         go_roundg k1
         case measure => have := HK1.out; omega
         case rel => exact ⟨(y645), (t643), (wrap64 (x6_1 + 1)), rsE, rsE, H', ⟨by have := HK1.out; omega⟩, ⟨kdA HO647.out⟩, ⟨bkA BK640.out⟩, ⟨hbA HB.out⟩⟩
        ·rw [if_neg c13] at H
         exact absurd H (by simp)
       ·rw [if_neg c12] at H
        have c12b0 : decide (x5_1 < t643) = false := decide_eq_false c12
        clear c12
        have H' := Aside0.mk H
        clear H
        obtain ⟨hcz19_0, hcz19_1, hcz19_2, hfz19_0, hfz19_1, hfz19_2⟩ := cell3 BK640
        try go_wp2
        replace HO_4 := Aside0.mk (Kd.R_drew HO_4.out)
        replace BK640 := Aside0.mk (blk_drew BK640.out)
        replace HB := Aside0.mk (below_drew1 HB.out)
        obtain ⟨i021, hi021, _, hsz21, _⟩ := info_parts info5
        obtain ⟨hcut21, hA21, hC21⟩ := print_take_of (P := Try.prog) (Value.int .u8) 0 22 5 .i64 Try.underlying22 hi021 hsz21 A0_2 c0_2 l0_2 (ji8) (of_decide_eq_true asE) (of_decide_eq_true asE) HC0_2.out
        have HR642 := Aside0.mk (Kd.C_of_reads (h1 := fun _ => rfl) (hA21 _ (Kd.reads_of_C HR0_2.out)))
        have HC642 := Aside0.mk hC21
        clear hA21 hC21 hi021 hsz21
        refine start_ (n := 19) (S := fun w' => w'.cell? ⟨gb640, 0, none⟩ = some (.int .i64 a0_0) ∧ w'.cell? ⟨gb640, 1, none⟩ = some (.int .i64 a0_1) ∧ w'.cell? ⟨gb640, 2, none⟩ = some (.slice A0_2 l0_2.length c0_2)) (ds := []) (.replicate 19 false) (by kernel_rfl) rfl rfl ⟨(blk_cell BK640.out 0).trans rfl, (blk_cell BK640.out 1).trans rfl, (blk_cell BK640.out 2).trans rfl⟩ (fun hHeld => ?_); refine with_tabW recoupref04_First.tab8 recoupref04_First.bits8 (fun HT_ HW_ => ?_)
        generalize wr.drew = w20 at HO_4 BK640 HB HR642 hHeld ⊢
        refine pu 0 (some 19) (mB 19 1) HT_ ?_
        refine pu 1 (some 20) (mB 19 3) HT_ ?_
        refine pu 2 (some 21) (mB 19 7) HT_ ?_
        refine pu 4 (some 23) (mB 19 23) HT_ ?_
        refine pu 6 (some 25) (mB 19 87) HT_ ?_
        refine pu 7 (some 26) (mB 19 215) HT_ ?_
        refine pu 8 (some 27) (mB 19 471) HT_ ?_
        refine tk3 3 (some 22) (mB 19 479) HT_ HW_ hHeld ?_
        refine tk3 5 (some 24) (mB 19 511) HT_ HW_ hHeld ?_
        refine tk3 9 (some 28) (mB 19 1023) HT_ HW_ hHeld ?_
        refine pu 10 (some 29) (mB 19 2047) HT_ ?_
        refine pu 11 (some 30) (mB 19 4095) HT_ ?_
        refine pu 12 (some 31) (mB 19 8191) HT_ ?_
        refine one_ (i := 13) (N := some 32) (mB 19 16383) rfl rfl (one_of HT_.out (by kernel_rfl)) (by decide) (fun K hK => ?_)
        refine goes_ Try.func49 (by kernel_rfl) rfl #[.agg #[.int .i64 (wrap64 (x6_1 + 1)), .int .i64 a0_1, .slice A0_2 (l0_2.take ((ji8) : Int).toNat).length c0_2]] (by rfl) rfl rfl (by (try simp only [List.map_toArray, List.map_cons, List.map_nil]); first | done | (rw [show (l0_2.take ((ji8) : Int).toNat).length = (ji8).toNat from (by rw [List.length_take]; have h_ : ((ji8) : Int) ≤ (l0_2.length : Int) := of_decide_eq_true asE; omega)] <;> rfl) | (simp only [hji8]; rfl) | rfl | (simp only [List.length_drop, List.length_take]; rfl)) ?_
        with_reducible refine (recoupref04_Rank.calls k1 (wrap64 (x6_1 + 1)) a0_1 _ _ (l0_2.take ((ji8) : Int).toNat) t643 t644 _ ?side1 ?side2 A11.out).mono ?_
        (case side1 => exact kcB HR642 HB)
        (case side2 => exact HC642.out)
        rintro e w22 ⟨rfl, hb⟩
        refine ⟨_, rfl, ?_⟩
        replace HO_4 := kdB HO_4 hb
        replace BK640 := bkB BK640 hb
        replace HB := hbB HB hb
        (try clear hb)
        (try clear hb2)
        (try clear hk)
        (try clear hi)
        refine hK.out _ _ ⟨(blk_cell BK640.out 0).trans rfl, (blk_cell BK640.out 1).trans rfl, (blk_cell BK640.out 2).trans rfl⟩ (fun hHeld => ?_)
        clear hK K
        refine norm_ (a' := ?_) ?_ ?_
        rotate_left
        ·show Act.put _ (some 32) _ = _
         simp only [Act.put, List.setIfInBounds_toArray, List.set_cons_zero, List.set_cons_succ, i64_w, i32_w]
         rfl
        refine pu 14 (some 18) (mB 19 32767) HT_ ?_
        refine pu 15 (some 33) (mB 19 65535) HT_ ?_
        refine pu 16 (some 34) (mB 19 131071) HT_ ?_
        refine pu 17 (some 7) (mB 19 262143) HT_ ?_
        refine pu 18 (some 8) (mB 19 524287) HT_ ?_
        refine done_ (done_of HT_.out (by kernel_rfl)) ?_
        try go_wp2
        go_roundg k1
        case measure => have := HK1.out; omega
        case rel => exact ⟨(x4_1), (x5_1), (wrap64 (x6_1 + 1)), rsE, rsE, H', ⟨by have := HK1.out; omega⟩, ⟨kdA HO_4.out⟩, ⟨bkA BK640.out⟩, ⟨hbA HB.out⟩⟩
      ·rw [if_neg c10] at H
       exact absurd H (by simp)
     ·rw [if_neg c9] at H
      exact absurd H (by simp)
    ·rw [if_neg c7] at H
     have c7b0 : decide (x6_1 < a0_0) = false := decide_eq_false c7
     clear c7
     simp only [Option.some.injEq, Prod.mk.injEq] at H
     obtain ⟨rfl, rfl⟩ := H
     obtain ⟨hcz23_0, hcz23_1, hcz23_2, hfz23_0, hfz23_1, hfz23_2⟩ := cell3 BK640
     go_wp2
     go_ret2
     exact ⟨_, rfE, by (with_reducible repeat (first | apply Kd.R_alloc | apply Kd.R_drewN | apply Kd.R_drew)); exact HO_4.out, hbA HB.out⟩
 ·replace c3 := Bool.eq_false_iff.mpr c3
  subst c3
  rw [if_neg nofT] at H
  simp only [Option.some.injEq, Prod.mk.injEq] at H
  obtain ⟨rfl, rfl⟩ := H
  go_enter Try.func37, Try.ntmps37
  go_wp2_with (first | ((with_reducible refine gD 1 rfl ?_); refine bE 1 #[.int .i64 a0_0, .int .i64 a0_1, .slice A0_2 l0_2.length c0_2] 24 ?_; intro gb640 hg w24 hbox hb; have BK640 := Aside0.mk (hbox); have GW640 := hbS HB hg; have GE640 := hbS HB hg; replace HB := hbB HB hb; clear hb hbox hg; obtain ⟨hcz25_0, hcz25_1, hcz25_2, hfz25_0, hfz25_1, hfz25_2⟩ := cell3 BK640) | ((with_reducible refine gC 21 rfl ?_); refine cG (some 10) Try.func21 #[.agg #[.int .i64 a0_0, .int .i64 a0_1, .slice A0_2 l0_2.length c0_2]] ?_; (with_reducible refine (recoupref03_Right.calls a0_0 a0_1 _ _ l0_2 false _ ?side1 ?side2 A2.out).mono ?_); (case side1 => exact kcB HR0_2 HB); (case side2 => exact HC0_2.out); rintro e w26 ⟨rfl, hb⟩; refine ⟨_, rfl, ?_⟩; replace BK640 := bkB BK640 hb; replace HB := hbB HB hb; (try clear hb); (try clear hb2); (try clear hk); (try clear hi)))
  go_ret2
  exact ⟨_, rfE, nilE, hbA HB.out⟩

end Go.Proofs.Ytccfbhnhedoggaa.Q
