/- Written by drive.py (a program of this repo, over the kit's print): each Go function named here answers what the Lean function beside it answers, wherever that one answers, in every world that meets the stated premises. -/
import Derived.Test.YtjgcocfnilhggaaDoorQx0
import Derived.Test.YtjgcocfnilhggaaDoorQx118
namespace Go.Proofs.YtjgcocfnilhggaaDoor.Q
open Go.RowKit Go.Proofs.YtjgcocfnilhggaaDoorW.PrintWords Go.Proofs.YtjgcocfnilhggaaDoorW.PrintLast Go.Proofs.YtjgcocfnilhggaaDoorW.PrintMore
attribute [local go_sem] max2_int min2_int max_two min_two max_three min_three max_four min_four   -- for this text's walks alone
set_option linter.unusedVariables false
set_option linter.unusedSimpArgs false

/-! ### recoupref03_Row: function 21 -/
mutual
def recoupref03_Row.j0 : Nat → Int → Bool → Int → Int → List Int → Option (List Int × Int)
  | 0, _, _, _, _, _ => none
  | k + 1, x1, x18, x213000, x213001, x213002 => if x18 = true then (some (([] : List Int), 2)) else (recoupref03_Row.l0 k x1 ([] : List Int) 0 x213000 x213001 x213002)
def recoupref03_Row.l0 : Nat → Int → List Int → Int → Int → Int → List Int → Option (List Int × Int)
  | 0, _, _, _, _, _, _ => none
  | k + 1, x1, x6, x7, x213000, x213001, x213002 => if x7 < x213001 then ((recoupref03_At.f x213000 x213001 x213002 x1 x7).bind fun t214 => (if x6.length < 140737488355328 then (recoupref03_Row.l0 k x1 (x6 ++ [t214]) (wrap64 (x7 + 1)) x213000 x213001 x213002) else (none))) else (some (x6, 0))
end
def recoupref03_Row.f (k : Nat) (a0_0 : Int) (a0_1 : Int) (l0_2 : List Int) (a1 : Int) : Option (List Int × Int) := (recoupref03_Right.f a0_0 a0_1 l0_2).bind fun t213 => (if t213 = true then (if a1 < 0 then (recoupref03_Row.j0 k a1 true a0_0 a0_1 l0_2) else (recoupref03_Row.j0 k a1 (decide (a1 ≥ a0_0)) a0_0 a0_1 l0_2)) else (some (([] : List Int), 3)))
theorem recoupref03_Row.mono_l : ∀ k, (∀ y0 y1 y2 y3 y4, LeO (recoupref03_Row.j0 k y0 y1 y2 y3 y4) (recoupref03_Row.j0 (k + 1) y0 y1 y2 y3 y4)) ∧ (∀ y0 y1 y2 y3 y4 y5, LeO (recoupref03_Row.l0 k y0 y1 y2 y3 y4 y5) (recoupref03_Row.l0 (k + 1) y0 y1 y2 y3 y4 y5))
  | 0 => ⟨fun _ _ _ _ _ r h => by simp [recoupref03_Row.j0] at h, fun _ _ _ _ _ _ r h => by simp [recoupref03_Row.l0] at h⟩
  | k + 1 => by
    obtain ⟨ih0, ih1⟩ := recoupref03_Row.mono_l k
    refine ⟨?_, ?_⟩
    all_goals (intros; first | unfold recoupref03_Row.j0 | unfold recoupref03_Row.l0)
    all_goals repeat' first | (with_reducible exact ih0 _ _ _ _ _) | (with_reducible exact ih1 _ _ _ _ _ _) | (with_reducible exact LeO.refl _) | (with_reducible exact LeO.none _) | (with_reducible refine LeO.ite ?_ ?_) | (with_reducible refine LeO.bind ?_ (fun _ => ?_)) | exact ih0 _ _ _ _ _ | exact ih1 _ _ _ _ _ _ | exact LeO.none _ | refine LeO.ite ?_ ?_ | refine LeO.bind ?_ (fun _ => ?_)
theorem recoupref03_Row.mono : ∀ a0 a1 a2 a3 k, LeO (recoupref03_Row.f k a0 a1 a2 a3) (recoupref03_Row.f (k + 1) a0 a1 a2 a3) := by
  intro a0 a1 a2 a3 k
  obtain ⟨ih0, ih1⟩ := recoupref03_Row.mono_l k
  unfold recoupref03_Row.f
  repeat' first
      | (with_reducible exact ih0 _ _ _ _ _)
      | (with_reducible exact ih1 _ _ _ _ _ _)
      | (with_reducible exact LeO.refl _)
      | (with_reducible exact LeO.none _)
      | (with_reducible refine LeO.ite ?_ ?_)
      | (with_reducible refine LeO.bind ?_ (fun _ => ?_))
      | exact ih0 _ _ _ _ _
      | exact ih1 _ _ _ _ _ _
      | exact LeO.none _
      | refine LeO.ite ?_ ?_
      | refine LeO.bind ?_ (fun _ => ?_)
set_option maxHeartbeats 8000000 in
set_option maxRecDepth 100000 in
theorem recoupref03_Row.calls (k : Nat) (a0_0 : Int) (a0_1 : Int) (A0_2 : Option Addr) (c0_2 : Nat) (l0_2 : List Int) (a1 : Int) (r1 : List Int) (r2 : Int) (w : World) (hr0_2 : Kd.C (Kd.int .u8) w A0_2 l0_2.length l0_2) (hc0_2 : l0_2.length ≤ c0_2) (h : recoupref03_Row.f k a0_0 a0_1 l0_2 a1 = some (r1, r2)) :
    Calls Tryd.prog 21 #[.agg #[.int .i64 a0_0, .int .i64 a0_1, .slice A0_2 l0_2.length c0_2], .int .i64 a1] w fun e w' => ∃ v0_ : Value, e = .returned (.tuple #[v0_, .int .i64 r2]) ∧ Kd.R (Kd.int .u8) 5 w' w.heap.size (fun _ => True) v0_ r1 ∧ Below w.heap.size w w' := by
  have hu24 := Tryd.underlying24
  have HR0_2 := Aside0.mk hr0_2
  have HC0_2 := Aside0.mk hc0_2
  clear hr0_2 hc0_2
  have HB := Aside0.mk (Below.refl w.heap.size w)
  have H : ((recoupref03_Right.f a0_0 a0_1 l0_2).bind fun t213 => (if t213 = true then (if a1 < 0 then (recoupref03_Row.j0 k a1 true a0_0 a0_1 l0_2) else (recoupref03_Row.j0 k a1 (decide (a1 ≥ a0_0)) a0_0 a0_1 l0_2)) else (some (([] : List Int), 3)))) = some (r1, r2) := h
  clear h
  obtain ⟨t213, A3, H⟩ := bindO H
  (try dsimp only at H)
  by_cases c4 : t213 = true
  · subst c4
    rw [if_pos rfl] at H
    have HC5 := Aside0.mk H
    clear H
    go_enter Tryd.func21, Tryd.ntmps21
    go_upto_region 3 with (first | ((with_reducible refine gD 2 rfl ?_); refine bE 2 #[.int .i64 a0_0, .int .i64 a0_1, .slice A0_2 l0_2.length c0_2] 24 ?_; intro gb212 hg w6 hbox hb; have BK212 := Aside0.mk (hbox); have GW212 := hbS HB hg; have GE212 := hbS HB hg; replace HB := hbB HB hb; clear hb hbox hg; obtain ⟨hcz7_0, hcz7_1, hcz7_2, hfz7_0, hfz7_1, hfz7_2⟩ := cell3 BK212) | ((with_reducible refine gC 45 rfl ?_); refine cG (some 9) Tryd.func45 #[.agg #[.int .i64 a0_0, .int .i64 a0_1, .slice A0_2 l0_2.length c0_2]] ?_; (with_reducible refine (recoupref03_Right.calls a0_0 a0_1 _ _ l0_2 true _ ?side1 ?side2 A3.out).mono ?_); (case side1 => exact kcB HR0_2 HB); (case side2 => exact HC0_2.out); rintro e w8 ⟨rfl, hb⟩; refine ⟨_, rfl, ?_⟩; replace BK212 := bkB BK212 hb; replace HB := hbB HB hb; (try clear hb); (try clear hb2); (try clear hk); (try clear hi)))
    (try simp only [Act.put, List.setIfInBounds_toArray, List.set_cons_zero, List.set_cons_succ])
    go_cut [18] (fun v18 wc => ∃ (kq : Nat) (x18_4 : Bool), v18 = .bool x18_4 ∧ Aside0 (recoupref03_Row.j0 kq a1 x18_4 a0_0 a0_1 l0_2 = some (r1, r2)) ∧ Aside0 (kq ≤ k) ∧ Aside0 (wc.heap[gb212]? = some (.cells #[.int .i64 a0_0, .int .i64 a0_1, (.slice A0_2 l0_2.length c0_2)] 24 (0, 0))) ∧ Aside0 (Below w.heap.size w wc))
    case first =>
      have H := HC5.out
      clear HC5
      by_cases c9 : a1 < 0
      · rw [if_pos c9] at H
        have c9b0 : decide (a1 < 0) = true := decide_eq_true c9
        clear c9
        (first | rw [c9b0] | (simp only [i64_w, i32_w]; rw [c9b0]) | skip)
        have H' := Aside0.mk H
        clear H
        go_wp2
        go_meet
        case rel => exact ⟨_, (true), rsE, H', ⟨leE⟩, ⟨bkA BK212.out⟩, ⟨hbA HB.out⟩⟩
      · rw [if_neg c9] at H
        have c9b0 : decide (a1 < 0) = false := decide_eq_false c9
        clear c9
        (first | rw [c9b0] | (simp only [i64_w, i32_w]; rw [c9b0]) | skip)
        have H' := Aside0.mk H
        clear H
        obtain ⟨hcz10_0, hcz10_1, hcz10_2, hfz10_0, hfz10_1, hfz10_2⟩ := cell3 BK212
        go_wp2
        go_meet
        case rel => exact ⟨_, (decide (a1 ≥ a0_0)), rsE, H', ⟨leE⟩, ⟨bkA BK212.out⟩, ⟨hbA HB.out⟩⟩
    case rest =>
      clear HC5
      (try clear c2); (try clear p2); (try clear c4); (try clear c9); (try clear c9b0); (try clear hcz10_0 hcz10_1 hcz10_2 hfz10_0 hfz10_1 hfz10_2); (try clear hcz7_0 hcz7_1 hcz7_2 hfz7_0 hfz7_1 hfz7_2)
      obtain ⟨kq, x18_4, rfl, HA, HJ4, BK212, HB⟩ := hcut
      cases kq with
      | zero => exact absurd HA.out (by simp [recoupref03_Row.j0])
      | succ kj4 =>
        have H := HA.out
        clear HA
        simp only [recoupref03_Row.j0] at H
        by_cases c11 : x18_4 = true
        · subst c11
          rw [if_pos rfl] at H
          simp only [Option.some.injEq, Prod.mk.injEq] at H
          obtain ⟨rfl, rfl⟩ := H
          go_wp2
          go_ret2
          exact ⟨_, rfE, nilE, hbA HB.out⟩
        · replace c11 := Bool.eq_false_iff.mpr c11
          subst c11
          rw [if_neg nofT] at H
          have H' := Aside0.mk H
          clear H
          go_wp2
          go_loopg [6, 7] kj4 (fun kq v6 v7 w' => ∃ (x6_2 : List Int) (x7_2 : Int), v7 = .int .i64 x7_2 ∧ Aside0 (recoupref03_Row.l0 kq a1 x6_2 x7_2 a0_0 a0_1 l0_2 = some (r1, r2)) ∧ Aside0 (kq ≤ kj4) ∧ Aside0 (Kd.R (Kd.int .u8) 5 w' w.heap.size (fun _ => True) v6 x6_2) ∧ Aside0 (w'.heap[gb212]? = some (.cells #[.int .i64 a0_0, .int .i64 a0_1, (.slice A0_2 l0_2.length c0_2)] 24 (0, 0))) ∧ Aside0 (Below w.heap.size w w'))
          case atStart => exact ⟨(([] : List Int)), (0), rsE, H', ⟨Nat.le_refl _⟩, ⟨nilE⟩, ⟨bkA BK212.out⟩, ⟨hbA HB.out⟩⟩
          case round =>
            clear H'
            (try clear c1); (try clear c2); (try clear p2 p2); (try clear c4); (try clear c9); (try clear c9b0); (try clear c11); (try clear hcz10_0 hcz10_1 hcz10_2 hfz10_0 hfz10_1 hfz10_2); (try clear hcz7_0 hcz7_1 hcz7_2 hfz7_0 hfz7_1 hfz7_2)
            obtain ⟨x6_2, x7_2, rfl, HA, HK2, HO_6, BK212, HB⟩ := hrel
            cases gk with
            | zero => exact absurd HA.out (by simp [recoupref03_Row.l0])
            | succ k2 =>
              have H := HA.out
              clear HA
              simp only [recoupref03_Row.l0] at H
              by_cases c12 : x7_2 < a0_1
              · rw [if_pos c12] at H
                have c12b0 : decide (x7_2 < a0_1) = true := decide_eq_true c12
                clear c12
                obtain ⟨t214, A13, H⟩ := bindO H
                (try dsimp only at H)
                by_cases c14 : x6_2.length < 140737488355328
                · rw [if_pos c14] at H
                  have LMc14 := Aside0.mk c14
                  clear c14
                  obtain ⟨y215, hy215⟩ : ∃ y_ : List Int, y_ = (x6_2 ++ [t214]) := ⟨_, rfl⟩
                  replace H : (recoupref03_Row.l0 k2 a1 y215 (wrap64 (x7_2 + 1)) a0_0 a0_1 l0_2) = some (r1, r2) := by first | (rw [hy215]; with_reducible exact H) | (have H2_ := (Option.bind_some _ _).symm.trans H; rw [hy215]; with_reducible exact H2_) | (have H2_ := (Option.bind_some _ _).symm.trans H; with_reducible exact H2_) | with_reducible exact H | (rw [hy215]; exact H) | exact H
                  have Ny215 := Aside0.mk hy215
                  clear hy215
                  have H' := Aside0.mk H
                  clear H
                  obtain ⟨hcz15_0, hcz15_1, hcz15_2, hfz15_0, hfz15_1, hfz15_2⟩ := cell3 BK212
                  go_wp2_with (first | ((with_reducible refine gC 49 rfl ?_); refine cG (some 29) Tryd.func49 #[.agg #[.int .i64 a0_0, .int .i64 a0_1, .slice A0_2 l0_2.length c0_2], .int .i64 a1, .int .i64 x7_2] ?_; (with_reducible refine (recoupref03_At.calls a0_0 a0_1 _ _ l0_2 a1 x7_2 t214 _ ?side1 ?side2 A13.out).mono ?_); (case side1 => exact kcB HR0_2 HB); (case side2 => exact HC0_2.out); rintro e w16 ⟨rfl, hb⟩; refine ⟨_, rfl, ?_⟩; replace HO_6 := kdB HO_6 hb; replace BK212 := bkB BK212 hb; replace HB := hbB HB hb; (try clear hb); (try clear hb2); (try clear hk); (try clear hi)) | ((with_reducible refine gate_builtin (b := .append) (xs := #[.tmp 25, .tmp 30]) rfl ?_); at_builtin; refine Kd.R_append (Kd.int .u8) (w0 := w) w.heap.size rfl (.tmp 25) (.tmp 30) 22 5 (.int .u8 0) 1 rfl Tryd.underlying22 info5 rfl (by decide) (by omega) u6 x6_2 t214 [.int .u8 t214] (fun _ => True) (fun _ => False) rfl rfl ?aP (fun _ hk => hk.elim) ?aF ?aO ?aB ?aS ?aL ?_; (case aP => exact rfl); (case aB => exact (hbA HB.out)); (case aF => exact (fun _ _ => trivial)); (case aO => exact (kdA HO_6.out)); (case aS => exact (below_size (hbA HB.out))); (case aL => have := LMc14.out; omega); intro v216 w17 ho hb hg hat; rw [← Ny215.out] at ho; have n0_ := Aside0.mk (blk_grown (g := gb212) (o := .cells #[.int .i64 a0_0, .int .i64 a0_1, .slice A0_2 l0_2.length c0_2] 24 (0, 0)) (bkA BK212.out) hg (Kd.R_ne HO_6.out BK212.out (by decide))); have n1_ := Aside0.mk (hb); have n2_ := Aside0.mk (ho); clear BK212; clear HB; clear HO_6; have BK212 := n0_; have HB := n1_; have HO217 := n2_; clear n0_ n1_ n2_; clear ho hb hg hat))
                  go_roundg k2
                  case measure => have := HJ4.out; have := HK2.out; omega
                  case rel => exact ⟨(y215), (wrap64 (x7_2 + 1)), rsE, H', ⟨by have := HJ4.out; have := HK2.out; omega⟩, ⟨kdA HO217.out⟩, ⟨bkA BK212.out⟩, ⟨hbA HB.out⟩⟩
                · rw [if_neg c14] at H
                  exact absurd H (by simp)
              · rw [if_neg c12] at H
                have c12b0 : decide (x7_2 < a0_1) = false := decide_eq_false c12
                clear c12
                simp only [Option.some.injEq, Prod.mk.injEq] at H
                obtain ⟨rfl, rfl⟩ := H
                obtain ⟨hcz18_0, hcz18_1, hcz18_2, hfz18_0, hfz18_1, hfz18_2⟩ := cell3 BK212
                go_wp2
                go_ret2
                exact ⟨_, rfE, by (with_reducible repeat (first | apply Kd.R_alloc | apply Kd.R_drewN | apply Kd.R_drew)); exact HO_6.out, hbA HB.out⟩
  · replace c4 := Bool.eq_false_iff.mpr c4
    subst c4
    rw [if_neg nofT] at H
    simp only [Option.some.injEq, Prod.mk.injEq] at H
    obtain ⟨rfl, rfl⟩ := H
    go_enter Tryd.func21, Tryd.ntmps21
    go_wp2_with (first | ((with_reducible refine gD 2 rfl ?_); refine bE 2 #[.int .i64 a0_0, .int .i64 a0_1, .slice A0_2 l0_2.length c0_2] 24 ?_; intro gb212 hg w19 hbox hb; have BK212 := Aside0.mk (hbox); have GW212 := hbS HB hg; have GE212 := hbS HB hg; replace HB := hbB HB hb; clear hb hbox hg; obtain ⟨hcz20_0, hcz20_1, hcz20_2, hfz20_0, hfz20_1, hfz20_2⟩ := cell3 BK212) | ((with_reducible refine gC 45 rfl ?_); refine cG (some 9) Tryd.func45 #[.agg #[.int .i64 a0_0, .int .i64 a0_1, .slice A0_2 l0_2.length c0_2]] ?_; (with_reducible refine (recoupref03_Right.calls a0_0 a0_1 _ _ l0_2 false _ ?side1 ?side2 A3.out).mono ?_); (case side1 => exact kcB HR0_2 HB); (case side2 => exact HC0_2.out); rintro e w21 ⟨rfl, hb⟩; refine ⟨_, rfl, ?_⟩; replace BK212 := bkB BK212 hb; replace HB := hbB HB hb; (try clear hb); (try clear hb2); (try clear hk); (try clear hi)))
    go_ret2
    exact ⟨_, rfE, nilE, hbA HB.out⟩

end Go.Proofs.YtjgcocfnilhggaaDoor.Q
