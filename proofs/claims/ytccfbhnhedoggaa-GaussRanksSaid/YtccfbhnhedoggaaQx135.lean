/- Written by drive.py (a program of this repo, over the kit's print): each Go function named here answers what the Lean function beside it answers, wherever that one answers, in every world that meets the stated premises. -/
import Derived.Test.YtccfbhnhedoggaaQx0
import Derived.Test.YtccfbhnhedoggaaQx121
namespace Go.Proofs.Ytccfbhnhedoggaa.Q
open Go.RowKit Go.Proofs.YtccfbhnhedoggaaW.PrintWords Go.Proofs.YtccfbhnhedoggaaW.PrintLast Go.Proofs.YtccfbhnhedoggaaW.PrintMore
attribute [local go_sem] max2_int min2_int max_two min_two max_three min_three max_four min_four   -- for this text's walks alone
set_option linter.unusedVariables false
set_option linter.unusedSimpArgs false

/-! ### recoupref03_Transpose: function 35 -/
mutual
def recoupref03_Transpose.l0 : Nat → Int → Int → Int → List Int → Int → Int → List Int → Option (Int × Int × List Int × Int)
  | 0, _, _, _, _, _, _, _ => none
  | k + 1, x5, x623000, x623001, x623002, x626000, x626001, x626002 => if x5 < x623001 then (recoupref03_Transpose.l1 k x5 0 x623000 x623001 x623002 x626000 x626001 x626002) else (some (x626000, x626001, x626002, 0))
def recoupref03_Transpose.l1 : Nat → Int → Int → Int → Int → List Int → Int → Int → List Int → Option (Int × Int × List Int × Int)
  | 0, _, _, _, _, _, _, _, _ => none
  | k + 1, x5, x6, x623000, x623001, x623002, x626000, x626001, x626002 => if x6 < x623000 then ((recoupref03_At.f x623000 x623001 x623002 x6 x5).bind fun t626 => (if x626002.length < 140737488355328 then (recoupref03_Transpose.l1 k x5 (wrap64 (x6 + 1)) x623000 x623001 x623002 x626000 x626001 (x626002 ++ [t626])) else (none))) else (recoupref03_Transpose.l0 k (wrap64 (x5 + 1)) x623000 x623001 x623002 x626000 x626001 x626002)
end
def recoupref03_Transpose.f (k : Nat) (a0_0 : Int) (a0_1 : Int) (l0_2 : List Int) : Option (Int × Int × List Int × Int) := (recoupref03_Right.f a0_0 a0_1 l0_2).bind fun t624 => (if t624 = true then (recoupref03_Transpose.l0 k 0 a0_0 a0_1 l0_2 a0_1 a0_0 ([] : List Int)) else (some (0, 0, ([] : List Int), 3)))
theorem recoupref03_Transpose.mono_l : ∀ k, (∀ y0 y1 y2 y3 y4 y5 y6, LeO (recoupref03_Transpose.l0 k y0 y1 y2 y3 y4 y5 y6) (recoupref03_Transpose.l0 (k + 1) y0 y1 y2 y3 y4 y5 y6)) ∧ (∀ y0 y1 y2 y3 y4 y5 y6 y7, LeO (recoupref03_Transpose.l1 k y0 y1 y2 y3 y4 y5 y6 y7) (recoupref03_Transpose.l1 (k + 1) y0 y1 y2 y3 y4 y5 y6 y7))
  | 0 => ⟨fun _ _ _ _ _ _ _ r h => by simp [recoupref03_Transpose.l0] at h, fun _ _ _ _ _ _ _ _ r h => by simp [recoupref03_Transpose.l1] at h⟩
  | k + 1 => by
    obtain ⟨ih0, ih1⟩ := recoupref03_Transpose.mono_l k
    refine ⟨?_, ?_⟩
    all_goals (intros; first | unfold recoupref03_Transpose.l0 | unfold recoupref03_Transpose.l1)
    all_goals repeat' first | (with_reducible exact ih0 _ _ _ _ _ _ _) | (with_reducible exact ih1 _ _ _ _ _ _ _ _) | (with_reducible exact LeO.refl _) | (with_reducible exact LeO.none _) | (with_reducible refine LeO.ite ?_ ?_) | (with_reducible refine LeO.bind ?_ (fun _ => ?_)) | exact ih0 _ _ _ _ _ _ _ | exact ih1 _ _ _ _ _ _ _ _ | exact LeO.none _ | refine LeO.ite ?_ ?_ | refine LeO.bind ?_ (fun _ => ?_)
theorem recoupref03_Transpose.mono : ∀ a0 a1 a2 k, LeO (recoupref03_Transpose.f k a0 a1 a2) (recoupref03_Transpose.f (k + 1) a0 a1 a2) := by
  intro a0 a1 a2 k
  obtain ⟨ih0, ih1⟩ := recoupref03_Transpose.mono_l k
  unfold recoupref03_Transpose.f
  repeat' first
      | (with_reducible exact ih0 _ _ _ _ _ _ _)
      | (with_reducible exact ih1 _ _ _ _ _ _ _ _)
      | (with_reducible exact LeO.refl _)
      | (with_reducible exact LeO.none _)
      | (with_reducible refine LeO.ite ?_ ?_)
      | (with_reducible refine LeO.bind ?_ (fun _ => ?_))
      | exact ih0 _ _ _ _ _ _ _
      | exact ih1 _ _ _ _ _ _ _ _
      | exact LeO.none _
      | refine LeO.ite ?_ ?_
      | refine LeO.bind ?_ (fun _ => ?_)
def recoupref03_Transpose.T10 : Bool × List (List Nat × List Nat) := (true, [([], []), ([0], [0]), ([], []), ([], []), ([], []), ([2, 3, 4], [2, 3, 4]), ([5], [5]), ([1, 6, 5], [1, 6]), ([0, 1, 2, 3, 4, 5, 6, 7], []), ([8, 7, 7, 0, 1, 2, 3, 4, 5, 6, 7], [7, 8])])
def recoupref03_Transpose.B10 : List Nat := [0, 1, 0, 0, 0, 28, 60, 127, 255, 511]
theorem recoupref03_Transpose.tab10 : rtab .any (opsOf Try.f35 10) = recoupref03_Transpose.T10 := by kernel_rfl
theorem recoupref03_Transpose.bits10 : waitsOk recoupref03_Transpose.T10.2 recoupref03_Transpose.B10 = true := by kernel_rfl
set_option maxHeartbeats 8000000 in
set_option maxRecDepth 100000 in
theorem recoupref03_Transpose.calls (k : Nat) (a0_0 : Int) (a0_1 : Int) (A0_2 : Option Addr) (c0_2 : Nat) (l0_2 : List Int) (r1 : Int) (r2 : Int) (r3 : List Int) (r4 : Int) (w : World) (hr0_2 : Kd.C (Kd.int .u8) w A0_2 l0_2.length l0_2) (hc0_2 : l0_2.length ≤ c0_2) (h : recoupref03_Transpose.f k a0_0 a0_1 l0_2 = some (r1, r2, r3, r4)) :
    Calls Try.prog 35 #[.agg #[.int .i64 a0_0, .int .i64 a0_1, .slice A0_2 l0_2.length c0_2]] w fun e w' => ∃ v2_ : Value, e = .returned (.tuple #[.agg #[.int .i64 r1, .int .i64 r2, v2_], .int .i64 r4]) ∧ Kd.R (Kd.int .u8) 5 w' w.heap.size (fun _ => True) v2_ r3 ∧ Below w.heap.size w w' := by
  have hu24 := Try.underlying24
  have HR0_2 := Aside0.mk hr0_2
  have HC0_2 := Aside0.mk hc0_2
  clear hr0_2 hc0_2
  have HB := Aside0.mk (Below.refl w.heap.size w)
  have H : ((recoupref03_Right.f a0_0 a0_1 l0_2).bind fun t624 => (if t624 = true then (recoupref03_Transpose.l0 k 0 a0_0 a0_1 l0_2 a0_1 a0_0 ([] : List Int)) else (some (0, 0, ([] : List Int), 3)))) = some (r1, r2, r3, r4) := h
  clear h
  obtain ⟨t624, A2, H⟩ := bindO H
  (try dsimp only at H)
  by_cases c3 : t624 = true
  · subst c3
    rw [if_pos rfl] at H
    have H' := Aside0.mk H
    clear H
    go_enter Try.func35, Try.ntmps35
    go_wp2_with (first | ((with_reducible refine gD 1 rfl ?_); refine bE 1 #[.int .i64 a0_0, .int .i64 a0_1, .slice A0_2 l0_2.length c0_2] 24 ?_; intro gb622 hg w4 hbox hb; have BK622 := Aside0.mk (hbox); have GW622 := hbS HB hg; have GE622 := hbS HB hg; replace HB := hbB HB hb; clear hb hbox hg) | ((with_reducible refine gD 2 rfl ?_); refine bE 2 #[.int .i64 0, .int .i64 0, .slice none 0 0] 24 ?_; intro gb623 hg w5 hbox hb; have BK623 := Aside0.mk (hbox); have GW623 := hbS HB hg; have GE623 := hbS HB hg; replace HB := hbB HB hb; have NB622_623 := neL BK622 hg; have NB623_622 := neG BK622 hg; replace BK622 := bkB BK622 hb; clear hb hbox hg; have hnb6 := NB622_623.out; have hnc6 := NB623_622.out; obtain ⟨hcz7_0, hcz7_1, hcz7_2, hfz7_0, hfz7_1, hfz7_2⟩ := cell3 BK622) | ((with_reducible refine gC 21 rfl ?_); refine cG (some 8) Try.func21 #[.agg #[.int .i64 a0_0, .int .i64 a0_1, .slice A0_2 l0_2.length c0_2]] ?_; (with_reducible refine (recoupref03_Right.calls a0_0 a0_1 _ _ l0_2 true _ ?side1 ?side2 A2.out).mono ?_); (case side1 => exact kcB HR0_2 HB); (case side2 => exact HC0_2.out); rintro e w8 ⟨rfl, hb⟩; refine ⟨_, rfl, ?_⟩; replace BK622 := bkB BK622 hb; replace BK623 := bkB BK623 hb; replace HB := hbB HB hb; (try clear hb); (try clear hb2); (try clear hk); (try clear hi); obtain ⟨hcz9_0, hcz9_1, hcz9_2, hfz9_0, hfz9_1, hfz9_2⟩ := cell3 BK622) | ((with_reducible refine gD 4 rfl ?_); refine bE 4 #[.int .i64 0, .int .i64 0, .slice none 0 0] 24 ?_; intro gb625 hg w10 hbox hb; have BK625 := Aside0.mk (hbox); have GW625 := hbS HB hg; have GE625 := hbS HB hg; replace HB := hbB HB hb; have NB622_625 := neL BK622 hg; have NB625_622 := neG BK622 hg; replace BK622 := bkB BK622 hb; have NB623_625 := neL BK623 hg; have NB625_623 := neG BK623 hg; replace BK623 := bkB BK623 hb; clear hb hbox hg; have hnb11 := NB625_622.out; have hnc11 := NB622_625.out; have hnb12 := NB625_623.out; have hnc12 := NB623_625.out; obtain ⟨hcz13_0, hcz13_1, hcz13_2, hfz13_0, hfz13_1, hfz13_2⟩ := cell3 BK625))
    go_loopg [5] k (fun kq v5 w' => ∃ (x5_1 : Int) (x626002_1 : List Int) (u626002 : Value), v5 = .int .i64 x5_1 ∧ Aside0 (recoupref03_Transpose.l0 kq x5_1 a0_0 a0_1 l0_2 a0_1 a0_0 x626002_1 = some (r1, r2, r3, r4)) ∧ Aside0 (kq ≤ k) ∧ Aside0 (Kd.R (Kd.int .u8) 5 w' w.heap.size (fun _ => True) u626002 x626002_1) ∧ Aside0 (w'.heap[gb622]? = some (.cells #[.int .i64 a0_0, .int .i64 a0_1, (.slice A0_2 l0_2.length c0_2)] 24 (0, 0))) ∧ Aside0 (w'.heap[gb623]? = some (.cells #[.int .i64 0, .int .i64 0, (.slice none 0 0)] 24 (0, 0))) ∧ Aside0 (w'.heap[gb625]? = some (.cells #[.int .i64 a0_1, .int .i64 a0_0, u626002] 24 (0, 0))) ∧ Aside0 (Below w.heap.size w w'))
    case atStart => exact ⟨(0), (([] : List Int)), (.slice none 0 0), rsE, H', ⟨Nat.le_refl _⟩, ⟨nilE⟩, ⟨by refine bkR ?_; refine blk_far ?_ NB622_625.out _; refine bkR ?_; refine blk_far ?_ NB622_625.out _; refine bkR ?_; refine blk_far ?_ NB622_625.out _; refine bkR ?_; exact BK622.out⟩, ⟨by refine bkR ?_; refine blk_far ?_ NB623_625.out _; refine bkR ?_; refine blk_far ?_ NB623_625.out _; refine bkR ?_; refine blk_far ?_ NB623_625.out _; refine bkR ?_; exact BK623.out⟩, ⟨by refine bkR ?_; refine blk_put (cs := #[.int .i64 a0_1, .int .i64 a0_0, .slice none 0 0]) ?_ 2 _ rfl; refine bkR ?_; refine blk_put (cs := #[.int .i64 a0_1, .int .i64 0, .slice none 0 0]) ?_ 1 _ rfl; refine bkR ?_; refine blk_put (cs := #[.int .i64 0, .int .i64 0, .slice none 0 0]) ?_ 0 _ rfl; refine bkR ?_; exact BK625.out⟩, ⟨hbA HB.out⟩⟩
    case round =>
      clear H'
      (try clear c1); (try clear c2); (try clear p2); (try clear c3); (try clear c6); (try clear c11); (try clear c12); (try clear hcz13_0 hcz13_1 hcz13_2 hfz13_0 hfz13_1 hfz13_2); (try clear hcz7_0 hcz7_1 hcz7_2 hfz7_0 hfz7_1 hfz7_2); (try clear hcz9_0 hcz9_1 hcz9_2 hfz9_0 hfz9_1 hfz9_2)
      obtain ⟨x5_1, x626002_1, u626002, rfl, HA, HK1, HO_626002, BK622, BK623, BK625, HB⟩ := hrel
      cases gk with
      | zero => exact absurd HA.out (by simp [recoupref03_Transpose.l0])
      | succ k1 =>
        have H := HA.out
        clear HA
        simp only [recoupref03_Transpose.l0] at H
        by_cases c14 : x5_1 < a0_1
        · rw [if_pos c14] at H
          have c14b0 : decide (x5_1 < a0_1) = true := decide_eq_true c14
          clear c14
          have H' := Aside0.mk H
          clear H
          have hnb15 := NB622_623.out
          have hnc15 := NB623_622.out
          have hnb16 := NB622_625.out
          have hnc16 := NB625_622.out
          obtain ⟨hcz17_0, hcz17_1, hcz17_2, hfz17_0, hfz17_1, hfz17_2⟩ := cell3 BK622
          go_wp2
          go_loopg [6] k1 (fun kq v6 w' => ∃ (x6_2 : Int) (x626002_2 : List Int) (u626002 : Value), v6 = .int .i64 x6_2 ∧ Aside0 (recoupref03_Transpose.l1 kq x5_1 x6_2 a0_0 a0_1 l0_2 a0_1 a0_0 x626002_2 = some (r1, r2, r3, r4)) ∧ Aside0 (kq ≤ k1) ∧ Aside0 (Kd.R (Kd.int .u8) 5 w' w.heap.size (fun _ => True) u626002 x626002_2) ∧ Aside0 (w'.heap[gb622]? = some (.cells #[.int .i64 a0_0, .int .i64 a0_1, (.slice A0_2 l0_2.length c0_2)] 24 (0, 0))) ∧ Aside0 (w'.heap[gb623]? = some (.cells #[.int .i64 0, .int .i64 0, (.slice none 0 0)] 24 (0, 0))) ∧ Aside0 (w'.heap[gb625]? = some (.cells #[.int .i64 a0_1, .int .i64 a0_0, u626002] 24 (0, 0))) ∧ Aside0 (Below w.heap.size w w'))
          case atStart => exact ⟨(0), (x626002_1), (u626002), rsE, H', ⟨Nat.le_refl _⟩, ⟨kdA HO_626002.out⟩, ⟨bkA BK622.out⟩, ⟨bkA BK623.out⟩, ⟨bkA BK625.out⟩, ⟨hbA HB.out⟩⟩
          case round =>
            clear H'
            (try clear c1); (try clear c2); (try clear p2 p2); (try clear c3); (try clear c6); (try clear c11); (try clear c12); (try clear c14); (try clear c14b0); (try clear c15); (try clear c16); (try clear hcz13_0 hcz13_1 hcz13_2 hfz13_0 hfz13_1 hfz13_2); (try clear hcz17_0 hcz17_1 hcz17_2 hfz17_0 hfz17_1 hfz17_2); (try clear hcz7_0 hcz7_1 hcz7_2 hfz7_0 hfz7_1 hfz7_2); (try clear hcz9_0 hcz9_1 hcz9_2 hfz9_0 hfz9_1 hfz9_2)
            obtain ⟨x6_2, x626002_2, u626002, rfl, HA, HK2, HO_626002, BK622, BK623, BK625, HB⟩ := hrel
            cases gk with
            | zero => exact absurd HA.out (by simp [recoupref03_Transpose.l1])
            | succ k2 =>
              have H := HA.out
              clear HA
              simp only [recoupref03_Transpose.l1] at H
              by_cases c18 : x6_2 < a0_0
              · rw [if_pos c18] at H
                have c18b0 : decide (x6_2 < a0_0) = true := decide_eq_true c18
                clear c18
                obtain ⟨t626, A19, H⟩ := bindO H
                (try dsimp only at H)
                by_cases c20 : x626002_2.length < 140737488355328
                · rw [if_pos c20] at H
                  have LMc20 := Aside0.mk c20
                  clear c20
                  obtain ⟨y627, hy627⟩ : ∃ y_ : List Int, y_ = (x626002_2 ++ [t626]) := ⟨_, rfl⟩
                  replace H : (recoupref03_Transpose.l1 k2 x5_1 (wrap64 (x6_2 + 1)) a0_0 a0_1 l0_2 a0_1 a0_0 y627) = some (r1, r2, r3, r4) := by first | (rw [hy627]; with_reducible exact H) | (have H2_ := (Option.bind_some _ _).symm.trans H; rw [hy627]; with_reducible exact H2_) | (have H2_ := (Option.bind_some _ _).symm.trans H; with_reducible exact H2_) | with_reducible exact H | (rw [hy627]; exact H) | exact H
                  have Ny627 := Aside0.mk hy627
                  clear hy627
                  have H' := Aside0.mk H
                  clear H
                  have hnb21 := NB622_623.out
                  have hnc21 := NB623_622.out
                  have hnb22 := NB622_625.out
                  have hnc22 := NB625_622.out
                  obtain ⟨hcz23_0, hcz23_1, hcz23_2, hfz23_0, hfz23_1, hfz23_2⟩ := cell3 BK622
                  try go_wp2
                  replace HO_626002 := Aside0.mk (Kd.R_drew HO_626002.out)
                  replace BK622 := Aside0.mk (blk_drew BK622.out)
                  replace BK623 := Aside0.mk (blk_drew BK623.out)
                  replace BK625 := Aside0.mk (blk_drew BK625.out)
                  replace HB := Aside0.mk (below_drew1 HB.out)
                  refine start_ (n := 10) (S := fun w' => w'.cell? ⟨gb625, 0, none⟩ = some (.int .i64 a0_1) ∧ w'.cell? ⟨gb625, 1, none⟩ = some (.int .i64 a0_0) ∧ w'.cell? ⟨gb625, 2, none⟩ = some (u626002) ∧ w'.cell? ⟨gb622, 0, none⟩ = some (.int .i64 a0_0) ∧ w'.cell? ⟨gb622, 1, none⟩ = some (.int .i64 a0_1) ∧ w'.cell? ⟨gb622, 2, none⟩ = some (.slice A0_2 l0_2.length c0_2)) (ds := [9]) (.replicate 10 false) (by kernel_rfl) rfl rfl ⟨(blk_cell BK625.out 0).trans rfl, (blk_cell BK625.out 1).trans rfl, (blk_cell BK625.out 2).trans rfl, (blk_cell BK622.out 0).trans rfl, (blk_cell BK622.out 1).trans rfl, (blk_cell BK622.out 2).trans rfl⟩ (fun hHeld => ?_); refine with_tabW recoupref03_Transpose.tab10 recoupref03_Transpose.bits10 (fun HT_ HW_ => ?_)
                  generalize wr.drew = w24 at HO_626002 BK622 BK623 BK625 HB hHeld ⊢
                  refine pu 0 (some 28) (mB 10 1) HT_ ?_
                  refine pu 3 (some 31) (mB 10 9) HT_ ?_
                  refine pu 4 (some 32) (mB 10 25) HT_ ?_
                  refine tk6 1 (some 29) (mB 10 27) HT_ HW_ hHeld ?_
                  refine tk6 2 (some 30) (mB 10 31) HT_ HW_ hHeld ?_
                  refine one_ (i := 5) (N := some 33) (mB 10 63) rfl rfl (one_of HT_.out (by kernel_rfl)) (by decide) (fun K hK => ?_)
                  refine goes_ Try.func24 (by kernel_rfl) rfl #[.agg #[.int .i64 a0_0, .int .i64 a0_1, .slice A0_2 l0_2.length c0_2], .int .i64 x6_2, .int .i64 x5_1] (by rfl) rfl rfl (by (try simp only [List.map_toArray, List.map_cons, List.map_nil]); first | done | rfl | (simp only [List.length_drop, List.length_take]; rfl)) ?_
                  with_reducible refine (recoupref03_At.calls a0_0 a0_1 _ _ l0_2 x6_2 x5_1 t626 _ ?side1 ?side2 A19.out).mono ?_
                  (case side1 => exact kcB HR0_2 HB)
                  (case side2 => exact HC0_2.out)
                  rintro e w25 ⟨rfl, hb⟩
                  refine ⟨_, rfl, ?_⟩
                  replace HO_626002 := kdB HO_626002 hb
                  replace BK622 := bkB BK622 hb
                  replace BK623 := bkB BK623 hb
                  replace BK625 := bkB BK625 hb
                  replace HB := hbB HB hb
                  (try clear hb)
                  (try clear hb2)
                  (try clear hk)
                  (try clear hi)
                  refine hK.out _ _ ⟨(blk_cell BK625.out 0).trans rfl, (blk_cell BK625.out 1).trans rfl, (blk_cell BK625.out 2).trans rfl, (blk_cell BK622.out 0).trans rfl, (blk_cell BK622.out 1).trans rfl, (blk_cell BK622.out 2).trans rfl⟩ (fun hHeld => ?_)
                  clear hK K
                  refine norm_ (a' := ?_) ?_ ?_
                  rotate_left
                  · show Act.put _ (some 33) _ = _
                    simp only [Act.put, List.setIfInBounds_toArray, List.set_cons_zero, List.set_cons_succ, i64_w, i32_w]
                    rfl
                  refine one_ (i := 6) (N := some 34) (mB 10 127) rfl rfl (one_of HT_.out (by kernel_rfl)) (by decide) (fun K hK => ?_)
                  refine value_ (w1 := ?_) (v := ?_) (by rfl) rfl ?_ ?_
                  rotate_left 2
                  · go_simp
                    constructor
                    · rfl
                    · rfl
                  refine hK.out _ _ ⟨(blk_cell (blk_alloc BK625.out _) 0).trans rfl, (blk_cell (blk_alloc BK625.out _) 1).trans rfl, (blk_cell (blk_alloc BK625.out _) 2).trans rfl, (blk_cell (blk_alloc BK622.out _) 0).trans rfl, (blk_cell (blk_alloc BK622.out _) 1).trans rfl, (blk_cell (blk_alloc BK622.out _) 2).trans rfl⟩ (fun hHeld => ?_)
                  clear hK K
                  refine norm_ (a' := ?_) ?_ ?_
                  rotate_left
                  · show Act.put _ (some 34) _ = _
                    simp only [Act.put, List.setIfInBounds_toArray, List.set_cons_zero, List.set_cons_succ, i64_w, i32_w]
                    rfl
                  refine one_ (i := 7) (N := some 35) (mB 10 255) rfl rfl (one_of HT_.out (by kernel_rfl)) (by decide) (fun K hK => ?_)
                  refine Kd.R_append_step (Kd.int .u8) (w0 := w) w.heap.size (by rfl) (.tmp 29) (.tmp 34) 22 5 (.int .u8 0) 1 rfl Try.underlying22 info5 rfl (by decide) (by omega) u626002 x626002_2 t626 [.int .u8 t626] (fun _ => True) (fun _ => False) rfl rfl ?aP (fun _ hk => hk.elim) ?aF ?aO ?aB ?aS ?aL ?_
                  (case aP => exact rfl)
                  (case aB => exact (hbA HB.out))
                  (case aF => exact (fun _ _ => trivial))
                  (case aO => exact (kdA HO_626002.out))
                  (case aS => exact (below_size (hbA HB.out)))
                  (case aL => have := LMc20.out; omega)
                  intro v628 w26 ho hb hg hat
                  rw [← Ny627.out] at ho
                  have n0_ := Aside0.mk (blk_grown (g := gb622) (o := .cells #[.int .i64 a0_0, .int .i64 a0_1, .slice A0_2 l0_2.length c0_2] 24 (0, 0)) (bkA BK622.out) hg (Kd.R_ne HO_626002.out BK622.out (by decide)))
                  have n1_ := Aside0.mk (blk_grown (g := gb623) (o := .cells #[.int .i64 0, .int .i64 0, .slice none 0 0] 24 (0, 0)) (bkA BK623.out) hg (Kd.R_ne HO_626002.out BK623.out (by decide)))
                  have n2_ := Aside0.mk (blk_grown (g := gb625) (o := .cells #[.int .i64 a0_1, .int .i64 a0_0, u626002] 24 (0, 0)) (bkA BK625.out) hg (Kd.R_ne HO_626002.out BK625.out (by decide)))
                  have n3_ := Aside0.mk (hb)
                  have n4_ := Aside0.mk (ho)
                  clear BK622
                  clear BK623
                  clear BK625
                  clear HB
                  clear HO_626002
                  have BK622 := n0_
                  have BK623 := n1_
                  have BK625 := n2_
                  have HB := n3_
                  have HO629 := n4_
                  clear n0_ n1_ n2_ n3_ n4_
                  clear ho hb hg hat
                  obtain ⟨Ao27, co27, eo27⟩ := Kd.R_slice HO629.out
                  (first | subst eo27 | (injection eo27 with f1_ f2_ f3_; have f4_ := f1_.symm; have f5_ := f3_.symm; clear f1_ f2_ f3_; subst f4_; subst f5_))
                  refine hK.out _ _ ⟨(blk_cell BK625.out 0).trans rfl, (blk_cell BK625.out 1).trans rfl, (blk_cell BK625.out 2).trans rfl, (blk_cell BK622.out 0).trans rfl, (blk_cell BK622.out 1).trans rfl, (blk_cell BK622.out 2).trans rfl⟩ (fun hHeld => ?_)
                  clear hK K
                  refine norm_ (a' := ?_) ?_ ?_
                  rotate_left
                  · show Act.put _ (some 35) _ = _
                    simp only [Act.put, List.setIfInBounds_toArray, List.set_cons_zero, List.set_cons_succ, i64_w, i32_w]
                    rfl
                  refine pu 8 (some 36) (mB 10 511) HT_ ?_
                  refine last_ (i := 9) (N := none) (mB 10 1023) rfl rfl (one_of HT_.out (by kernel_rfl)) (by decide) (fun K hK => ?_)
                  have hs28 : w26.cell? ⟨gb625, 2, none⟩ = some (u626002) := (blk_cell BK625.out 2).trans rfl
                  have hfs28 := blk_frozen BK625.out 2
                  have hns28_0 := NB622_625.out
                  have hns28_1 := NB623_625.out
                  have hms28_0 := NB625_622.out
                  have hms28_1 := NB625_623.out
                  refine skip_ (w1 := ?_) (by rfl) rfl ?_ ?_
                  rotate_left
                  · go_simp
                    rfl
                  refine hK.out _ _ ?_
                  clear hK K
                  refine done_ (done_of HT_.out (by kernel_rfl)) ?_
                  try go_wp2
                  go_roundg k2
                  case measure => have := HK1.out; have := HK2.out; omega
                  case rel => exact ⟨(wrap64 (x6_2 + 1)), (y627), (.slice Ao27 y627.length co27), rsE, H', ⟨by have := HK1.out; have := HK2.out; omega⟩, ⟨by (with_reducible repeat (first | apply Kd.R_alloc | apply Kd.R_drewN | apply Kd.R_drew)); exact Kd.R_mono (Kd.R_far (p := ⟨gb625, 2, none⟩) (Kd.R_types HO629.out BK625.out (by decide)) (fun _ hk => hk.2) (.slice Ao27 y627.length co27)) (fun _ hk => trivial)⟩, ⟨by refine bkR ?_; refine blk_far ?_ NB622_625.out _; refine bkR ?_; exact BK622.out⟩, ⟨by refine bkR ?_; refine blk_far ?_ NB623_625.out _; refine bkR ?_; exact BK623.out⟩, ⟨by refine bkR ?_; refine blk_put (cs := #[.int .i64 a0_1, .int .i64 a0_0, u626002]) ?_ 2 _ rfl; refine bkR ?_; exact BK625.out⟩, ⟨hbA HB.out⟩⟩
                · rw [if_neg c20] at H
                  exact absurd H (by simp)
              · rw [if_neg c18] at H
                have c18b0 : decide (x6_2 < a0_0) = false := decide_eq_false c18
                clear c18
                have H' := Aside0.mk H
                clear H
                have hnb29 := NB622_623.out
                have hnc29 := NB623_622.out
                have hnb30 := NB622_625.out
                have hnc30 := NB625_622.out
                obtain ⟨hcz31_0, hcz31_1, hcz31_2, hfz31_0, hfz31_1, hfz31_2⟩ := cell3 BK622
                go_wp2
                go_roundg k2
                case measure => have := HK1.out; have := HK2.out; omega
                case rel => exact ⟨(wrap64 (x5_1 + 1)), (x626002_2), (u626002), rsE, H', ⟨by have := HK1.out; have := HK2.out; omega⟩, ⟨kdA HO_626002.out⟩, ⟨bkA BK622.out⟩, ⟨bkA BK623.out⟩, ⟨bkA BK625.out⟩, ⟨hbA HB.out⟩⟩
        · rw [if_neg c14] at H
          have c14b0 : decide (x5_1 < a0_1) = false := decide_eq_false c14
          clear c14
          simp only [Option.some.injEq, Prod.mk.injEq] at H
          obtain ⟨rfl, rfl, rfl, rfl⟩ := H
          have hnb32 := NB622_623.out
          have hnc32 := NB623_622.out
          have hnb33 := NB622_625.out
          have hnc33 := NB625_622.out
          obtain ⟨hcz34_0, hcz34_1, hcz34_2, hfz34_0, hfz34_1, hfz34_2⟩ := cell3 BK622
          have hnb35 := NB625_623.out
          have hnc35 := NB623_625.out
          obtain ⟨hcz36_0, hcz36_1, hcz36_2, hfz36_0, hfz36_1, hfz36_2⟩ := cell3 BK625
          obtain ⟨hcz37_0, hcz37_1, hcz37_2, hfz37_0, hfz37_1, hfz37_2⟩ := cell3 BK623
          obtain ⟨Ao38, co38, eo38⟩ := Kd.R_slice HO_626002.out
          subst eo38
          go_wp2
          refine bodyPost_ret (results_ct rfl _ _ gb623 24 #[.int .i64 a0_1, .int .i64 a0_0, .slice Ao38 x626002_1.length co38] (0, 0) _ rfl (by refine bkR ?_; refine blk_put (cs := #[.int .i64 a0_1, .int .i64 a0_0, .slice none 0 0]) ?_ 2 _ rfl; refine bkR ?_; refine blk_put (cs := #[.int .i64 a0_1, .int .i64 0, .slice none 0 0]) ?_ 1 _ rfl; refine bkR ?_; refine blk_put (cs := #[.int .i64 0, .int .i64 0, .slice none 0 0]) ?_ 0 _ rfl; refine bkR ?_; exact BK623.out) Try.underlying24 rfl (by kernel_rfl)) rfl ?_
          exact ⟨_, rfE, by (with_reducible repeat (first | apply Kd.R_alloc | apply Kd.R_drewN | apply Kd.R_drew)); exact Kd.R_mono (Kd.R_far (p := ⟨gb623, 2, none⟩) (Kd.R_far (p := ⟨gb623, 1, none⟩) (Kd.R_far (p := ⟨gb623, 0, none⟩) (Kd.R_types HO_626002.out BK623.out (by decide)) (fun _ hk => hk.2) (.int .i64 a0_1)) (fun _ hk => hk.2) (.int .i64 a0_0)) (fun _ hk => hk.2) (.slice Ao38 x626002_1.length co38)) (fun _ hk => trivial), hbA HB.out⟩
  · replace c3 := Bool.eq_false_iff.mpr c3
    subst c3
    rw [if_neg nofT] at H
    simp only [Option.some.injEq, Prod.mk.injEq] at H
    obtain ⟨rfl, rfl, rfl, rfl⟩ := H
    go_enter Try.func35, Try.ntmps35
    go_wp2_with (first | ((with_reducible refine gD 1 rfl ?_); refine bE 1 #[.int .i64 a0_0, .int .i64 a0_1, .slice A0_2 l0_2.length c0_2] 24 ?_; intro gb622 hg w39 hbox hb; have BK622 := Aside0.mk (hbox); have GW622 := hbS HB hg; have GE622 := hbS HB hg; replace HB := hbB HB hb; clear hb hbox hg) | ((with_reducible refine gD 2 rfl ?_); refine bE 2 #[.int .i64 0, .int .i64 0, .slice none 0 0] 24 ?_; intro gb623 hg w40 hbox hb; have BK623 := Aside0.mk (hbox); have GW623 := hbS HB hg; have GE623 := hbS HB hg; replace HB := hbB HB hb; have NB622_623 := neL BK622 hg; have NB623_622 := neG BK622 hg; replace BK622 := bkB BK622 hb; clear hb hbox hg; have hnb41 := NB622_623.out; have hnc41 := NB623_622.out; obtain ⟨hcz42_0, hcz42_1, hcz42_2, hfz42_0, hfz42_1, hfz42_2⟩ := cell3 BK622) | ((with_reducible refine gC 21 rfl ?_); refine cG (some 8) Try.func21 #[.agg #[.int .i64 a0_0, .int .i64 a0_1, .slice A0_2 l0_2.length c0_2]] ?_; (with_reducible refine (recoupref03_Right.calls a0_0 a0_1 _ _ l0_2 false _ ?side1 ?side2 A2.out).mono ?_); (case side1 => exact kcB HR0_2 HB); (case side2 => exact HC0_2.out); rintro e w43 ⟨rfl, hb⟩; refine ⟨_, rfl, ?_⟩; replace BK622 := bkB BK622 hb; replace BK623 := bkB BK623 hb; replace HB := hbB HB hb; (try clear hb); (try clear hb2); (try clear hk); (try clear hi); obtain ⟨hcz44_0, hcz44_1, hcz44_2, hfz44_0, hfz44_1, hfz44_2⟩ := cell3 BK623))
    refine bodyPost_ret (results_ct rfl _ _ gb623 24 #[.int .i64 0, .int .i64 0, .slice none 0 0] (0, 0) _ rfl (by refine bkR ?_; refine blk_put (cs := #[.int .i64 0, .int .i64 0, .slice none 0 0]) ?_ 2 _ rfl; refine bkR ?_; refine blk_put (cs := #[.int .i64 0, .int .i64 0, .slice none 0 0]) ?_ 1 _ rfl; refine bkR ?_; refine blk_put (cs := #[.int .i64 0, .int .i64 0, .slice none 0 0]) ?_ 0 _ rfl; refine bkR ?_; exact BK623.out) Try.underlying24 rfl (by kernel_rfl)) rfl ?_
    exact ⟨_, rfE, nilE, hbA HB.out⟩

end Go.Proofs.Ytccfbhnhedoggaa.Q
