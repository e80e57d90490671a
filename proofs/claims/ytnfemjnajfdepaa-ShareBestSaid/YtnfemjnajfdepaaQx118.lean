/- Written by drive.py (a program of this repo, over the kit's print): each Go function named here answers what the Lean function beside it answers, wherever that one answers, in every world that meets the stated premises. -/
import Derived.Test.YtnfemjnajfdepaaQx0
namespace Go.Proofs.Ytnfemjnajfdepaa.Q
open Go.RowKit Go.Proofs.YtnfemjnajfdepaaW.PrintWords Go.Proofs.YtnfemjnajfdepaaW.PrintLast Go.Proofs.YtnfemjnajfdepaaW.PrintMore
attribute [local go_sem] max2_int min2_int max_two min_two max_three min_three max_four min_four   -- for this text's walks alone
set_option linter.unusedVariables false
set_option linter.unusedSimpArgs false

/-! ### recoupref21_May: function 18 -/
mutual
def recoupref21_May.j0 : Nat → Bool → List Int → List (List (S61)) → List Int → Option (Bool)
  | 0, _, _, _, _ => none
  | k + 1, x17, x115000, x115001, x115002 => if x17 = true then (some false) else (recoupref21_May.l0 k 0 x115000 x115001 x115002)
def recoupref21_May.l0 : Nat → Int → List Int → List (List (S61)) → List Int → Option (Bool)
  | 0, _, _, _, _ => none
  | k + 1, x3, x115000, x115001, x115002 => if x3 < (x115000.length : Int) then (if 0 ≤ x3 then (if (rd x115000 x3) < 0 then (some false) else (if (rd x115000 x3) ≥ 64 then (some false) else (if x3 > 0 then (if 0 ≤ (wrap64 (x3 - 1)) then (if (wrap64 (x3 - 1)) < (x115000.length : Int) then (if (rd x115000 x3) ≤ (rd x115000 (wrap64 (x3 - 1))) then (some false) else (recoupref21_May.l0 k (wrap64 (x3 + 1)) x115000 x115001 x115002)) else (none)) else (none)) else (recoupref21_May.l0 k (wrap64 (x3 + 1)) x115000 x115001 x115002)))) else (none)) else (recoupref21_May.l1 k 0 x115000 x115001 x115002)
def recoupref21_May.l1 : Nat → Int → List Int → List (List (S61)) → List Int → Option (Bool)
  | 0, _, _, _, _ => none
  | k + 1, x4, x115000, x115001, x115002 => if x4 < (x115001.length : Int) then (recoupref21_May.l2 k x4 0 x115000 x115001 x115002) else (recoupref21_May.l3 k 0 x115000 x115001 x115002)
def recoupref21_May.l2 : Nat → Int → Int → List Int → List (List (S61)) → List Int → Option (Bool)
  | 0, _, _, _, _, _ => none
  | k + 1, x4, x5, x115000, x115001, x115002 => if 0 ≤ x4 then (if x4 < (x115001.length : Int) then (if x5 < ((rd_L5 x115001 x4).length : Int) then (if 0 ≤ x5 then (if ((rd_T61 (rd_L5 x115001 x4) x5).f1) = 0 then (some false) else (if ((rd_T61 (rd_L5 x115001 x4) x5).f0) < 0 then (some false) else (if ((rd_T61 (rd_L5 x115001 x4) x5).f0) ≥ (wrap64 ((x115000.length : Int) + x4)) then (some false) else (if x5 > 0 then (if 0 ≤ (wrap64 (x5 - 1)) then (if (wrap64 (x5 - 1)) < ((rd_L5 x115001 x4).length : Int) then (if ((rd_T61 (rd_L5 x115001 x4) x5).f0) ≤ ((rd_T61 (rd_L5 x115001 x4) (wrap64 (x5 - 1))).f0) then (some false) else (recoupref21_May.l2 k x4 (wrap64 (x5 + 1)) x115000 x115001 x115002)) else (none)) else (none)) else (recoupref21_May.l2 k x4 (wrap64 (x5 + 1)) x115000 x115001 x115002))))) else (none)) else (recoupref21_May.l1 k (wrap64 (x4 + 1)) x115000 x115001 x115002)) else (none)) else (none)
def recoupref21_May.l3 : Nat → Int → List Int → List (List (S61)) → List Int → Option (Bool)
  | 0, _, _, _, _ => none
  | k + 1, x7, x115000, x115001, x115002 => if x7 < (x115002.length : Int) then (if 0 ≤ x7 then (if (rd x115002 x7) < 0 then (some false) else (if (rd x115002 x7) ≥ (wrap64 ((x115000.length : Int) + (x115001.length : Int))) then (some false) else (recoupref21_May.l3 k (wrap64 (x7 + 1)) x115000 x115001 x115002))) else (none)) else (some true)
end
def recoupref21_May.f (k : Nat) (l0_0 : List Int) (l0_1 : List (List (S61))) (l0_2 : List Int) : Option (Bool) := if (l0_1.length : Int) > 4096 then (recoupref21_May.j0 k true l0_0 l0_1 l0_2) else (recoupref21_May.j0 k (decide ((l0_2.length : Int) > 64)) l0_0 l0_1 l0_2)
theorem recoupref21_May.mono_l : ∀ k, (∀ y0 y1 y2 y3, LeO (recoupref21_May.j0 k y0 y1 y2 y3) (recoupref21_May.j0 (k + 1) y0 y1 y2 y3)) ∧ (∀ y0 y1 y2 y3, LeO (recoupref21_May.l0 k y0 y1 y2 y3) (recoupref21_May.l0 (k + 1) y0 y1 y2 y3)) ∧ (∀ y0 y1 y2 y3, LeO (recoupref21_May.l1 k y0 y1 y2 y3) (recoupref21_May.l1 (k + 1) y0 y1 y2 y3)) ∧ (∀ y0 y1 y2 y3 y4, LeO (recoupref21_May.l2 k y0 y1 y2 y3 y4) (recoupref21_May.l2 (k + 1) y0 y1 y2 y3 y4)) ∧ (∀ y0 y1 y2 y3, LeO (recoupref21_May.l3 k y0 y1 y2 y3) (recoupref21_May.l3 (k + 1) y0 y1 y2 y3))
  | 0 => ⟨fun _ _ _ _ r h => by simp [recoupref21_May.j0] at h, fun _ _ _ _ r h => by simp [recoupref21_May.l0] at h, fun _ _ _ _ r h => by simp [recoupref21_May.l1] at h, fun _ _ _ _ _ r h => by simp [recoupref21_May.l2] at h, fun _ _ _ _ r h => by simp [recoupref21_May.l3] at h⟩
  | k + 1 => by
    obtain ⟨ih0, ih1, ih2, ih3, ih4⟩ := recoupref21_May.mono_l k
    refine ⟨?_, ?_, ?_, ?_, ?_⟩
    all_goals (intros; first | unfold recoupref21_May.j0 | unfold recoupref21_May.l0 | unfold recoupref21_May.l1 | unfold recoupref21_May.l2 | unfold recoupref21_May.l3)
    all_goals repeat' first | (with_reducible exact ih0 _ _ _ _) | (with_reducible exact ih1 _ _ _ _) | (with_reducible exact ih2 _ _ _ _) | (with_reducible exact ih3 _ _ _ _ _) | (with_reducible exact ih4 _ _ _ _) | (with_reducible exact LeO.refl _) | (with_reducible exact LeO.none _) | (with_reducible refine LeO.ite ?_ ?_) | (with_reducible refine LeO.bind ?_ (fun _ => ?_)) | exact ih0 _ _ _ _ | exact ih1 _ _ _ _ | exact ih2 _ _ _ _ | exact ih3 _ _ _ _ _ | exact ih4 _ _ _ _ | exact LeO.none _ | refine LeO.ite ?_ ?_ | refine LeO.bind ?_ (fun _ => ?_)
theorem recoupref21_May.mono : ∀ a0 a1 a2 k, LeO (recoupref21_May.f k a0 a1 a2) (recoupref21_May.f (k + 1) a0 a1 a2) := by
  intro a0 a1 a2 k
  obtain ⟨ih0, ih1, ih2, ih3, ih4⟩ := recoupref21_May.mono_l k
  unfold recoupref21_May.f
  repeat' first
      | (with_reducible exact ih0 _ _ _ _)
      | (with_reducible exact ih1 _ _ _ _)
      | (with_reducible exact ih2 _ _ _ _)
      | (with_reducible exact ih3 _ _ _ _ _)
      | (with_reducible exact ih4 _ _ _ _)
      | (with_reducible exact LeO.refl _)
      | (with_reducible exact LeO.none _)
      | (with_reducible refine LeO.ite ?_ ?_)
      | (with_reducible refine LeO.bind ?_ (fun _ => ?_))
      | exact ih0 _ _ _ _
      | exact ih1 _ _ _ _
      | exact ih2 _ _ _ _
      | exact ih3 _ _ _ _ _
      | exact ih4 _ _ _ _
      | exact LeO.none _
      | refine LeO.ite ?_ ?_
      | refine LeO.bind ?_ (fun _ => ?_)
set_option maxHeartbeats 8000000 in
set_option maxRecDepth 100000 in
theorem recoupref21_May.calls (k : Nat) (A0_0 : Option Addr) (c0_0 : Nat) (l0_0 : List Int) (A0_1 : Option Addr) (c0_1 : Nat) (l0_1 : List (List (S61))) (A0_2 : Option Addr) (c0_2 : Nat) (l0_2 : List Int) (r : Bool) (w : World) (hr0_0 : Kd.C (Kd.int .i64) w A0_0 l0_0.length l0_0) (hc0_0 : l0_0.length ≤ c0_0) (hr0_1 : Kd.C (Kd.slice 61 k61) w A0_1 l0_1.length l0_1) (hc0_1 : l0_1.length ≤ c0_1) (hr0_2 : Kd.C (Kd.int .i64) w A0_2 l0_2.length l0_2) (hc0_2 : l0_2.length ≤ c0_2) (h : recoupref21_May.f k l0_0 l0_1 l0_2 = some r) :
    Calls Try.prog 18 #[.agg #[.slice A0_0 l0_0.length c0_0, .slice A0_1 l0_1.length c0_1, .slice A0_2 l0_2.length c0_2]] w fun e w' => e = .returned (.bool r) ∧ Below w.heap.size w w' := by
  have hu25 := Try.underlying25
  have hu61 := Try.underlying61
  have HR0_0 := Aside0.mk hr0_0
  have HC0_0 := Aside0.mk hc0_0
  clear hr0_0 hc0_0
  have HR0_1 := Aside0.mk hr0_1
  have HC0_1 := Aside0.mk hc0_1
  clear hr0_1 hc0_1
  have HR0_2 := Aside0.mk hr0_2
  have HC0_2 := Aside0.mk hc0_2
  clear hr0_2 hc0_2
  have HB := Aside0.mk (Below.refl w.heap.size w)
  have H : (if (l0_1.length : Int) > 4096 then (recoupref21_May.j0 k true l0_0 l0_1 l0_2) else (recoupref21_May.j0 k (decide ((l0_2.length : Int) > 64)) l0_0 l0_1 l0_2)) = some r := h
  clear h
  have HC2 := Aside0.mk H
  clear H
  go_enter Try.func18, Try.ntmps18
  go_upto_region 1 with (first | ((with_reducible refine gD 1 rfl ?_); (try (refine gate_guard (by rfl) ?_; dsimp only)); refine bE 1 #[.slice A0_0 l0_0.length c0_0, .slice A0_1 l0_1.length c0_1, .slice A0_2 l0_2.length c0_2] 25 ?_; intro gb114 hg w3 hbox hb; have BK114 := Aside0.mk (hbox); have GW114 := hbS HB hg; have GE114 := hbS HB hg; replace HB := hbB HB hb; clear hb hbox hg))
  repeat (go_quiet (first | ((with_reducible refine gate_dst (N := 1) rfl ?_); (try (refine gate_guard (by rfl) ?_; dsimp only)); refine box_event ?hg (N := 1) ?hd (cs := #[.slice A0_0 l0_0.length c0_0, .slice A0_1 l0_1.length c0_1, .slice A0_2 l0_2.length c0_2]) (t := 25) ?hr ?_; (case hd => rfl); (case hg => rfl); (case hr => first | (go_simp; done) | (go_simp; rfl)); intro gb114 hg w3 hbox hb; have n0_ := Aside0.mk (below_step (hbA HB.out) hb); have n1_ := Aside0.mk (hbox); have n2_ := Aside0.mk ((by rw [hg]; exact (below_size (hbA HB.out)) : w.heap.size ≤ gb114)); have n3_ := Aside0.mk ((by rw [hg]; exact (below_size (hbA HB.out)) : w.heap.size ≤ gb114)); clear HB; have HB := n0_; have BK114 := n1_; have GW114 := n2_; have GE114 := n3_; clear n0_ n1_ n2_ n3_; clear hb hbox hg)); go_upto_region 1 with (first | ((with_reducible refine gate_dst (N := 1) rfl ?_); (try (refine gate_guard (by rfl) ?_; dsimp only)); refine box_event ?hg (N := 1) ?hd (cs := #[.slice A0_0 l0_0.length c0_0, .slice A0_1 l0_1.length c0_1, .slice A0_2 l0_2.length c0_2]) (t := 25) ?hr ?_; (case hd => rfl); (case hg => rfl); (case hr => first | (go_simp; done) | (go_simp; rfl)); intro gb114 hg w3 hbox hb; have n0_ := Aside0.mk (below_step (hbA HB.out) hb); have n1_ := Aside0.mk (hbox); have n2_ := Aside0.mk ((by rw [hg]; exact (below_size (hbA HB.out)) : w.heap.size ≤ gb114)); have n3_ := Aside0.mk ((by rw [hg]; exact (below_size (hbA HB.out)) : w.heap.size ≤ gb114)); clear HB; have HB := n0_; have BK114 := n1_; have GW114 := n2_; have GE114 := n3_; clear n0_ n1_ n2_ n3_; clear hb hbox hg)))
  (try simp only [Act.put, List.setIfInBounds_toArray, List.set_cons_zero, List.set_cons_succ])
  go_cut [17] (fun v17 wc => ∃ (kq : Nat) (x17_1 : Bool), v17 = .bool x17_1 ∧ Aside0 (recoupref21_May.j0 kq x17_1 l0_0 l0_1 l0_2 = some r) ∧ Aside0 (kq ≤ k) ∧ Aside0 (wc.heap[gb114]? = some (.cells #[(.slice A0_0 l0_0.length c0_0), (.slice A0_1 l0_1.length c0_1), (.slice A0_2 l0_2.length c0_2)] 25 (0, 0))) ∧ Aside0 (Below w.heap.size w wc))
  case first =>
    have H := HC2.out
    clear HC2
    by_cases c4 : (l0_1.length : Int) > 4096
    · rw [if_pos c4] at H
      have c4b0 : decide (4096 < (l0_1.length : Int)) = true := decide_eq_true c4
      have c4b1 : decide (4096 < l0_1.length) = true := decide_eq_true (by omega)
      clear c4
      (first | rw [c4b0] | (simp only [i64_w, i32_w]; rw [c4b0]) | skip)
      have H' := Aside0.mk H
      clear H
      obtain ⟨hcz5_0, hcz5_1, hcz5_2, hfz5_0, hfz5_1, hfz5_2⟩ := cell3 BK114
      go_wp2
      repeat (go_quiet (fail); try go_wp2)
      go_meet
      case rel => exact ⟨_, (true), rsE, H', ⟨leE⟩, ⟨bkA BK114.out⟩, ⟨hbA HB.out⟩⟩
    · rw [if_neg c4] at H
      have c4b0 : decide (4096 < (l0_1.length : Int)) = false := decide_eq_false c4
      have c4b1 : decide (4096 < l0_1.length) = false := decide_eq_false (by omega)
      clear c4
      (first | rw [c4b0] | (simp only [i64_w, i32_w]; rw [c4b0]) | skip)
      have H' := Aside0.mk H
      clear H
      obtain ⟨hcz6_0, hcz6_1, hcz6_2, hfz6_0, hfz6_1, hfz6_2⟩ := cell3 BK114
      go_wp2
      repeat (go_quiet (fail); try go_wp2)
      go_meet
      case rel => exact ⟨_, (decide ((l0_2.length : Int) > 64)), rsE, H', ⟨leE⟩, ⟨bkA BK114.out⟩, ⟨hbA HB.out⟩⟩
  case rest =>
    clear HC2
    (try clear c1); (try clear p2); (try clear c4); (try clear c4b0); (try clear c4b1); (try clear hcz5_0 hcz5_1 hcz5_2 hfz5_0 hfz5_1 hfz5_2); (try clear hcz6_0 hcz6_1 hcz6_2 hfz6_0 hfz6_1 hfz6_2)
    obtain ⟨kq, x17_1, rfl, HA, HJ1, BK114, HB⟩ := hcut
    cases kq with
    | zero => exact absurd HA.out (by simp [recoupref21_May.j0])
    | succ kj1 =>
      have H := HA.out
      clear HA
      simp only [recoupref21_May.j0] at H
      by_cases c7 : x17_1 = true
      · subst c7
        rw [if_pos rfl] at H
        obtain rfl := Option.some.inj H
        go_wp2
        repeat (go_quiet (fail); try go_wp2)
        go_ret
        exact ⟨rfE, hbA HB.out⟩
      · replace c7 := Bool.eq_false_iff.mpr c7
        subst c7
        rw [if_neg nofT] at H
        have H' := Aside0.mk H
        clear H
        go_wp2
        repeat (go_quiet (fail); try go_wp2)
        go_loopg [3] kj1 (fun kq v3 w' => ∃ (x3_2 : Int), v3 = .int .i64 x3_2 ∧ Aside0 (recoupref21_May.l0 kq x3_2 l0_0 l0_1 l0_2 = some r) ∧ Aside0 (kq ≤ kj1) ∧ Aside0 (w'.heap[gb114]? = some (.cells #[(.slice A0_0 l0_0.length c0_0), (.slice A0_1 l0_1.length c0_1), (.slice A0_2 l0_2.length c0_2)] 25 (0, 0))) ∧ Aside0 (Below w.heap.size w w'))
        case atStart => exact ⟨(0), rsE, H', ⟨Nat.le_refl _⟩, ⟨bkA BK114.out⟩, ⟨hbA HB.out⟩⟩
        case round =>
          clear H'
          (try clear c1); (try clear p2 p2); (try clear c4); (try clear c4b0); (try clear c4b1); (try clear c7); (try clear hcz5_0 hcz5_1 hcz5_2 hfz5_0 hfz5_1 hfz5_2); (try clear hcz6_0 hcz6_1 hcz6_2 hfz6_0 hfz6_1 hfz6_2)
          obtain ⟨x3_2, rfl, HA, HK2, BK114, HB⟩ := hrel
          cases gk with
          | zero => exact absurd HA.out (by simp [recoupref21_May.l0])
          | succ k2 =>
            have H := HA.out
            clear HA
            simp only [recoupref21_May.l0] at H
            by_cases c8 : x3_2 < (l0_0.length : Int)
            · rw [if_pos c8] at H
              have c8b0 : decide (x3_2 < (l0_0.length : Int)) = true := decide_eq_true c8
              clear c8
              by_cases c9 : 0 ≤ x3_2
              · rw [if_pos c9] at H
                have c9b0 : decide (0 ≤ x3_2) = true := decide_eq_true c9
                clear c9
                by_cases c10 : (rd l0_0 x3_2) < 0
                · rw [if_pos c10] at H
                  have c10b0 : decide ((rd l0_0 x3_2) < 0) = true := decide_eq_true c10
                  clear c10
                  obtain rfl := Option.some.inj H
                  obtain ⟨hcz11_0, hcz11_1, hcz11_2, hfz11_0, hfz11_1, hfz11_2⟩ := cell3 BK114
                  have p115 : 0 ≤ (x3_2 : Int) := of_decide_eq_true asE
                  have q115 : x3_2 < (l0_0.length : Int) := of_decide_eq_true asE
                  obtain ⟨ad115, e115, hx115_0⟩ := Kd.at_int HR0_0.out x3_2 p115 q115
                  cases e115
                  replace hx115_0 := (HB.out.cell (World.block_lt_of_cell? w _ hx115_0)).trans hx115_0
                  replace p115 := eq_true p115
                  replace q115 := eq_true q115
                  go_wp2
                  repeat (go_quiet (fail); try go_wp2)
                  go_ret
                  exact ⟨rfE, hbA HB.out⟩
                · rw [if_neg c10] at H
                  have c10b0 : decide ((rd l0_0 x3_2) < 0) = false := decide_eq_false c10
                  clear c10
                  by_cases c12 : (rd l0_0 x3_2) ≥ 64
                  · rw [if_pos c12] at H
                    have c12b0 : decide (64 ≤ (rd l0_0 x3_2)) = true := decide_eq_true c12
                    clear c12
                    obtain rfl := Option.some.inj H
                    obtain ⟨hcz13_0, hcz13_1, hcz13_2, hfz13_0, hfz13_1, hfz13_2⟩ := cell3 BK114
                    have p115 : 0 ≤ (x3_2 : Int) := of_decide_eq_true asE
                    have q115 : x3_2 < (l0_0.length : Int) := of_decide_eq_true asE
                    obtain ⟨ad115, e115, hx115_0⟩ := Kd.at_int HR0_0.out x3_2 p115 q115
                    cases e115
                    replace hx115_0 := (HB.out.cell (World.block_lt_of_cell? w _ hx115_0)).trans hx115_0
                    replace p115 := eq_true p115
                    replace q115 := eq_true q115
                    have p116 : 0 ≤ (x3_2 : Int) := of_decide_eq_true asE
                    have q116 : x3_2 < (l0_0.length : Int) := of_decide_eq_true asE
                    obtain ⟨ad116, e116, hx116_0⟩ := Kd.at_int HR0_0.out x3_2 p116 q116
                    obtain rfl : ad115 = ad116 := (by injection e116)
                    replace hx116_0 := (HB.out.cell (World.block_lt_of_cell? w _ hx116_0)).trans hx116_0
                    replace p116 := eq_true p116
                    replace q116 := eq_true q116
                    go_wp2
                    repeat (go_quiet (fail); try go_wp2)
                    go_ret
                    exact ⟨rfE, hbA HB.out⟩
                  · rw [if_neg c12] at H
                    have c12b0 : decide (64 ≤ (rd l0_0 x3_2)) = false := decide_eq_false c12
                    clear c12
                    by_cases c14 : x3_2 > 0
                    · rw [if_pos c14] at H
                      have c14b0 : decide (0 < x3_2) = true := decide_eq_true c14
                      clear c14
                      obtain ⟨ji15, hji15⟩ : ∃ j_ : Int, (wrap64 (x3_2 - 1)) = j_ := ⟨_, rfl⟩
                      replace H : (if 0 ≤ (ji15) then (if (ji15) < (l0_0.length : Int) then (if (rd l0_0 x3_2) ≤ (rd l0_0 (ji15)) then (some false) else (recoupref21_May.l0 k2 (wrap64 (x3_2 + 1)) l0_0 l0_1 l0_2)) else (none)) else (none)) = some r := by first | (rw [hji15] at H; exact H) | (simp only [hji15] at H ⊢; exact H)
                      have hji15w : (IntKind.i64.wrap (x3_2 - 1)) = ji15 := (i64_w _).trans hji15
                      by_cases c16 : 0 ≤ (ji15)
                      · rw [if_pos c16] at H
                        have c16b0 : decide (0 ≤ (ji15)) = true := decide_eq_true c16
                        clear c16
                        by_cases c17 : (ji15) < (l0_0.length : Int)
                        · rw [if_pos c17] at H
                          have c17b0 : decide ((ji15) < (l0_0.length : Int)) = true := decide_eq_true c17
                          clear c17
                          by_cases c18 : (rd l0_0 x3_2) ≤ (rd l0_0 (ji15))
                          · rw [if_pos c18] at H
                            have c18b0 : decide ((rd l0_0 x3_2) ≤ (rd l0_0 (ji15))) = true := decide_eq_true c18
                            clear c18
                            obtain rfl := Option.some.inj H
                            obtain ⟨hcz19_0, hcz19_1, hcz19_2, hfz19_0, hfz19_1, hfz19_2⟩ := cell3 BK114
                            have p115 : 0 ≤ (x3_2 : Int) := of_decide_eq_true asE
                            have q115 : x3_2 < (l0_0.length : Int) := of_decide_eq_true asE
                            obtain ⟨ad115, e115, hx115_0⟩ := Kd.at_int HR0_0.out x3_2 p115 q115
                            cases e115
                            replace hx115_0 := (HB.out.cell (World.block_lt_of_cell? w _ hx115_0)).trans hx115_0
                            replace p115 := eq_true p115
                            replace q115 := eq_true q115
                            have p116 : 0 ≤ (x3_2 : Int) := of_decide_eq_true asE
                            have q116 : x3_2 < (l0_0.length : Int) := of_decide_eq_true asE
                            obtain ⟨ad116, e116, hx116_0⟩ := Kd.at_int HR0_0.out x3_2 p116 q116
                            obtain rfl : ad115 = ad116 := (by injection e116)
                            replace hx116_0 := (HB.out.cell (World.block_lt_of_cell? w _ hx116_0)).trans hx116_0
                            replace p116 := eq_true p116
                            replace q116 := eq_true q116
                            have p117 : 0 ≤ (x3_2 : Int) := of_decide_eq_true asE
                            have q117 : x3_2 < (l0_0.length : Int) := of_decide_eq_true asE
                            obtain ⟨ad117, e117, hx117_0⟩ := Kd.at_int HR0_0.out x3_2 p117 q117
                            obtain rfl : ad115 = ad117 := (by injection e117)
                            replace hx117_0 := (HB.out.cell (World.block_lt_of_cell? w _ hx117_0)).trans hx117_0
                            replace p117 := eq_true p117
                            replace q117 := eq_true q117
                            have p118 : 0 ≤ ((ji15) : Int) := of_decide_eq_true asE
                            have q118 : (ji15) < (l0_0.length : Int) := of_decide_eq_true asE
                            obtain ⟨ad118, e118, hx118_0⟩ := Kd.at_int HR0_0.out (ji15) p118 q118
                            obtain rfl : ad115 = ad118 := (by injection e118)
                            replace hx118_0 := (HB.out.cell (World.block_lt_of_cell? w _ hx118_0)).trans hx118_0
                            replace p118 := eq_true p118
                            replace q118 := eq_true q118
                            go_wp2
                            repeat (go_quiet (fail); try go_wp2)
                            go_ret
                            exact ⟨by first | rfl | (simp [errW_none, errW_some] <;> rfl) | (simp only [← hji15]; first | rfl | (simp [errW_none, errW_some] <;> rfl)) | (simp [*, errW_none, errW_some] <;> rfl), hbA HB.out⟩
                          · rw [if_neg c18] at H
                            have c18b0 : decide ((rd l0_0 x3_2) ≤ (rd l0_0 (ji15))) = false := decide_eq_false c18
                            clear c18
                            have H' := Aside0.mk H
                            clear H
                            obtain ⟨hcz20_0, hcz20_1, hcz20_2, hfz20_0, hfz20_1, hfz20_2⟩ := cell3 BK114
                            have p115 : 0 ≤ (x3_2 : Int) := of_decide_eq_true asE
                            have q115 : x3_2 < (l0_0.length : Int) := of_decide_eq_true asE
                            obtain ⟨ad115, e115, hx115_0⟩ := Kd.at_int HR0_0.out x3_2 p115 q115
                            cases e115
                            replace hx115_0 := (HB.out.cell (World.block_lt_of_cell? w _ hx115_0)).trans hx115_0
                            replace p115 := eq_true p115
                            replace q115 := eq_true q115
                            have p116 : 0 ≤ (x3_2 : Int) := of_decide_eq_true asE
                            have q116 : x3_2 < (l0_0.length : Int) := of_decide_eq_true asE
                            obtain ⟨ad116, e116, hx116_0⟩ := Kd.at_int HR0_0.out x3_2 p116 q116
                            obtain rfl : ad115 = ad116 := (by injection e116)
                            replace hx116_0 := (HB.out.cell (World.block_lt_of_cell? w _ hx116_0)).trans hx116_0
                            replace p116 := eq_true p116
                            replace q116 := eq_true q116
                            have p117 : 0 ≤ (x3_2 : Int) := of_decide_eq_true asE
                            have q117 : x3_2 < (l0_0.length : Int) := of_decide_eq_true asE
                            obtain ⟨ad117, e117, hx117_0⟩ := Kd.at_int HR0_0.out x3_2 p117 q117
                            obtain rfl : ad115 = ad117 := (by injection e117)
                            replace hx117_0 := (HB.out.cell (World.block_lt_of_cell? w _ hx117_0)).trans hx117_0
                            replace p117 := eq_true p117
                            replace q117 := eq_true q117
                            have p118 : 0 ≤ ((ji15) : Int) := of_decide_eq_true asE
                            have q118 : (ji15) < (l0_0.length : Int) := of_decide_eq_true asE
                            obtain ⟨ad118, e118, hx118_0⟩ := Kd.at_int HR0_0.out (ji15) p118 q118
                            obtain rfl : ad115 = ad118 := (by injection e118)
                            replace hx118_0 := (HB.out.cell (World.block_lt_of_cell? w _ hx118_0)).trans hx118_0
                            replace p118 := eq_true p118
                            replace q118 := eq_true q118
                            go_wp2
                            repeat (go_quiet (fail); try go_wp2)
                            go_roundg k2
                            case measure => have := HJ1.out; have := HK2.out; omega
                            case rel => exact ⟨(wrap64 (x3_2 + 1)), rsE, H', ⟨by have := HJ1.out; have := HK2.out; omega⟩, ⟨bkA BK114.out⟩, ⟨hbA HB.out⟩⟩
                        · rw [if_neg c17] at H
                          exact absurd H (by simp)
                      · rw [if_neg c16] at H
                        exact absurd H (by simp)
                    · rw [if_neg c14] at H
                      have c14b0 : decide (0 < x3_2) = false := decide_eq_false c14
                      clear c14
                      have H' := Aside0.mk H
                      clear H
                      obtain ⟨hcz21_0, hcz21_1, hcz21_2, hfz21_0, hfz21_1, hfz21_2⟩ := cell3 BK114
                      have p115 : 0 ≤ (x3_2 : Int) := of_decide_eq_true asE
                      have q115 : x3_2 < (l0_0.length : Int) := of_decide_eq_true asE
                      obtain ⟨ad115, e115, hx115_0⟩ := Kd.at_int HR0_0.out x3_2 p115 q115
                      cases e115
                      replace hx115_0 := (HB.out.cell (World.block_lt_of_cell? w _ hx115_0)).trans hx115_0
                      replace p115 := eq_true p115
                      replace q115 := eq_true q115
                      have p116 : 0 ≤ (x3_2 : Int) := of_decide_eq_true asE
                      have q116 : x3_2 < (l0_0.length : Int) := of_decide_eq_true asE
                      obtain ⟨ad116, e116, hx116_0⟩ := Kd.at_int HR0_0.out x3_2 p116 q116
                      obtain rfl : ad115 = ad116 := (by injection e116)
                      replace hx116_0 := (HB.out.cell (World.block_lt_of_cell? w _ hx116_0)).trans hx116_0
                      replace p116 := eq_true p116
                      replace q116 := eq_true q116
                      go_wp2
                      repeat (go_quiet (fail); try go_wp2)
                      go_roundg k2
                      case measure => have := HJ1.out; have := HK2.out; omega
                      case rel => exact ⟨(wrap64 (x3_2 + 1)), rsE, H', ⟨by have := HJ1.out; have := HK2.out; omega⟩, ⟨bkA BK114.out⟩, ⟨hbA HB.out⟩⟩
              · rw [if_neg c9] at H
                exact absurd H (by simp)
            · rw [if_neg c8] at H
              have c8b0 : decide (x3_2 < (l0_0.length : Int)) = false := decide_eq_false c8
              clear c8
              have H' := Aside0.mk H
              clear H
              obtain ⟨hcz22_0, hcz22_1, hcz22_2, hfz22_0, hfz22_1, hfz22_2⟩ := cell3 BK114
              go_wp2
              repeat (go_quiet (fail); try go_wp2)
              go_loopg [4] k2 (fun kq v4 w' => ∃ (x4_3 : Int), v4 = .int .i64 x4_3 ∧ Aside0 (recoupref21_May.l1 kq x4_3 l0_0 l0_1 l0_2 = some r) ∧ Aside0 (kq ≤ k2) ∧ Aside0 (w'.heap[gb114]? = some (.cells #[(.slice A0_0 l0_0.length c0_0), (.slice A0_1 l0_1.length c0_1), (.slice A0_2 l0_2.length c0_2)] 25 (0, 0))) ∧ Aside0 (Below w.heap.size w w'))
              case atStart => exact ⟨(0), rsE, H', ⟨Nat.le_refl _⟩, ⟨bkA BK114.out⟩, ⟨hbA HB.out⟩⟩
              case round =>
                clear H'
                (try clear c1); (try clear p1); (try clear q1); (try clear hx1); (try clear p2 p2); (try clear c4); (try clear c4b0); (try clear c4b1); (try clear p6); (try clear c7); (try clear c8); (try clear c8b0); (try clear c9); (try clear c9b0); (try clear c10); (try clear c10b0); (try clear p11); (try clear q11); (try clear hx11); (try clear c12); (try clear c12b0); (try clear c14); (try clear c14b0); (try clear c16); (try clear c16b0); (try clear c17); (try clear c17b0); (try clear c18); (try clear c18b0); (try clear hcz11_0 hcz11_1 hcz11_2 hfz11_0 hfz11_1 hfz11_2); (try clear hcz13_0 hcz13_1 hcz13_2 hfz13_0 hfz13_1 hfz13_2); (try clear hcz19_0 hcz19_1 hcz19_2 hfz19_0 hfz19_1 hfz19_2); (try clear hcz20_0 hcz20_1 hcz20_2 hfz20_0 hfz20_1 hfz20_2); (try clear hcz21_0 hcz21_1 hcz21_2 hfz21_0 hfz21_1 hfz21_2); (try clear hcz22_0 hcz22_1 hcz22_2 hfz22_0 hfz22_1 hfz22_2); (try clear hcz5_0 hcz5_1 hcz5_2 hfz5_0 hfz5_1 hfz5_2); (try clear hcz6_0 hcz6_1 hcz6_2 hfz6_0 hfz6_1 hfz6_2); (try clear hx115_0); (try clear hx116_0); (try clear hx117_0); (try clear hx118_0); (try clear p115); (try clear p116); (try clear p117); (try clear p118); (try clear q115); (try clear q116); (try clear q117); (try clear q118)
                obtain ⟨x4_3, rfl, HA, HK3, BK114, HB⟩ := hrel
                cases gk with
                | zero => exact absurd HA.out (by simp [recoupref21_May.l1])
                | succ k3 =>
                  have H := HA.out
                  clear HA
                  simp only [recoupref21_May.l1] at H
                  by_cases c23 : x4_3 < (l0_1.length : Int)
                  · rw [if_pos c23] at H
                    have c23b0 : decide (x4_3 < (l0_1.length : Int)) = true := decide_eq_true c23
                    clear c23
                    have H' := Aside0.mk H
                    clear H
                    obtain ⟨hcz24_0, hcz24_1, hcz24_2, hfz24_0, hfz24_1, hfz24_2⟩ := cell3 BK114
                    go_wp2
                    repeat (go_quiet (fail); try go_wp2)
                    go_loopg [5] k3 (fun kq v5 w' => ∃ (x5_4 : Int), v5 = .int .i64 x5_4 ∧ Aside0 (recoupref21_May.l2 kq x4_3 x5_4 l0_0 l0_1 l0_2 = some r) ∧ Aside0 (kq ≤ k3) ∧ Aside0 (w'.heap[gb114]? = some (.cells #[(.slice A0_0 l0_0.length c0_0), (.slice A0_1 l0_1.length c0_1), (.slice A0_2 l0_2.length c0_2)] 25 (0, 0))) ∧ Aside0 (Below w.heap.size w w'))
                    case atStart => exact ⟨(0), rsE, H', ⟨Nat.le_refl _⟩, ⟨bkA BK114.out⟩, ⟨hbA HB.out⟩⟩
                    case round =>
                      clear H'
                      (try clear c1); (try clear p1 p1); (try clear q1 q1); (try clear hx1); (try clear c2); (try clear p2 p2); (try clear c4); (try clear c4b0); (try clear c4b1); (try clear p6 p6); (try clear c7); (try clear c8); (try clear c8b0); (try clear c9); (try clear c9b0); (try clear c10); (try clear c10b0); (try clear p11 p11); (try clear q11 q11); (try clear hx11); (try clear c12); (try clear c12b0); (try clear c14); (try clear c14b0); (try clear c16); (try clear c16b0); (try clear c17); (try clear c17b0); (try clear c18); (try clear c18b0); (try clear c23); (try clear c23b0); (try clear hcz11_0 hcz11_1 hcz11_2 hfz11_0 hfz11_1 hfz11_2); (try clear hcz13_0 hcz13_1 hcz13_2 hfz13_0 hfz13_1 hfz13_2); (try clear hcz19_0 hcz19_1 hcz19_2 hfz19_0 hfz19_1 hfz19_2); (try clear hcz20_0 hcz20_1 hcz20_2 hfz20_0 hfz20_1 hfz20_2); (try clear hcz21_0 hcz21_1 hcz21_2 hfz21_0 hfz21_1 hfz21_2); (try clear hcz22_0 hcz22_1 hcz22_2 hfz22_0 hfz22_1 hfz22_2); (try clear hcz24_0 hcz24_1 hcz24_2 hfz24_0 hfz24_1 hfz24_2); (try clear hcz5_0 hcz5_1 hcz5_2 hfz5_0 hfz5_1 hfz5_2); (try clear hcz6_0 hcz6_1 hcz6_2 hfz6_0 hfz6_1 hfz6_2); (try clear hx115_0); (try clear hx116_0); (try clear hx117_0); (try clear hx118_0); (try clear p115); (try clear p116); (try clear p117); (try clear p118); (try clear q115); (try clear q116); (try clear q117); (try clear q118)
                      obtain ⟨x5_4, rfl, HA, HK4, BK114, HB⟩ := hrel
                      cases gk with
                      | zero => exact absurd HA.out (by simp [recoupref21_May.l2])
                      | succ k4 =>
                        have H := HA.out
                        clear HA
                        simp only [recoupref21_May.l2] at H
                        by_cases c25 : 0 ≤ x4_3
                        · rw [if_pos c25] at H
                          have c25b0 : decide (0 ≤ x4_3) = true := decide_eq_true c25
                          clear c25
                          by_cases c26 : x4_3 < (l0_1.length : Int)
                          · rw [if_pos c26] at H
                            have c26b0 : decide (x4_3 < (l0_1.length : Int)) = true := decide_eq_true c26
                            clear c26
                            by_cases c27 : x5_4 < ((rd_L5 l0_1 x4_3).length : Int)
                            · rw [if_pos c27] at H
                              have c27b0 : decide (x5_4 < ((rd_L5 l0_1 x4_3).length : Int)) = true := decide_eq_true c27
                              clear c27
                              by_cases c28 : 0 ≤ x5_4
                              · rw [if_pos c28] at H
                                have c28b0 : decide (0 ≤ x5_4) = true := decide_eq_true c28
                                clear c28
                                by_cases c29 : ((rd_T61 (rd_L5 l0_1 x4_3) x5_4).f1) = 0
                                · rw [if_pos c29] at H
                                  have c29b0 : (((rd_T61 (rd_L5 l0_1 x4_3) x5_4).f1) == 0) = true := beq_iff_eq.mpr c29
                                  have c29b1 : (((rd_T61 (rd_L5 l0_1 x4_3) x5_4).f1) != 0) = false := bne_eq_false_iff_eq.mpr c29
                                  clear c29
                                  obtain rfl := Option.some.inj H
                                  obtain ⟨hcz30_0, hcz30_1, hcz30_2, hfz30_0, hfz30_1, hfz30_2⟩ := cell3 BK114
                                  have p119 : 0 ≤ (x4_3 : Int) := of_decide_eq_true asE
                                  have q119 : x4_3 < (l0_1.length : Int) := of_decide_eq_true asE
                                  obtain ⟨ad119, A119_0, c119_0, e119, hx119_0, hl119_0, hi119_0⟩ := at_L5 HR0_1.out x4_3 p119 q119
                                  cases e119
                                  replace hx119_0 := (HB.out.cell (World.block_lt_of_cell? w _ hx119_0)).trans hx119_0
                                  have HR119_0 := Aside0.mk hi119_0
                                  have HC119_0 := Aside0.mk hl119_0
                                  clear hi119_0 hl119_0
                                  replace p119 := eq_true p119
                                  replace q119 := eq_true q119
                                  have p120 : 0 ≤ (x4_3 : Int) := of_decide_eq_true asE
                                  have q120 : x4_3 < (l0_1.length : Int) := of_decide_eq_true asE
                                  obtain ⟨ad120, A120_0, c120_0, e120, hx120_0, hl120_0, hi120_0⟩ := at_L5 HR0_1.out x4_3 p120 q120
                                  obtain rfl : ad119 = ad120 := (by injection e120)
                                  replace hx120_0 := (HB.out.cell (World.block_lt_of_cell? w _ hx120_0)).trans hx120_0
                                  have HR120_0 := Aside0.mk hi120_0
                                  have HC120_0 := Aside0.mk hl120_0
                                  clear hi120_0 hl120_0
                                  replace p120 := eq_true p120
                                  replace q120 := eq_true q120
                                  have ea_ := Option.some.inj (hx119_0.symm.trans hx120_0)
                                  injection ea_ with ea_ en_ ec_
                                  subst ea_
                                  subst ec_
                                  clear en_
                                  have p121 : 0 ≤ (x5_4 : Int) := of_decide_eq_true asE
                                  have q121 : x5_4 < ((rd_L5 l0_1 x4_3).length : Int) := of_decide_eq_true asE
                                  obtain ⟨ad121, e121, hx121_0, hx121_1⟩ := at_T61 HR120_0.out x5_4 p121 q121
                                  cases e121
                                  replace hx121_0 := (HB.out.cell (World.block_lt_of_cell? w _ hx121_0)).trans hx121_0
                                  replace hx121_1 := (HB.out.cell (World.block_lt_of_cell? w _ hx121_1)).trans hx121_1
                                  replace p121 := eq_true p121
                                  replace q121 := eq_true q121
                                  go_wp2_with (first | ((with_reducible refine gD 6 rfl ?_); (try (refine gate_guard (by rfl) ?_; dsimp only)); refine bE 6 #[.int .i64 0, .int .u8 0] 61 ?_; intro gb122 hg w31 hbox hb; have BK122 := Aside0.mk (hbox); have GW122 := hbS HB hg; have GE122 := hbS HB hg; replace HB := hbB HB hb; have NB114_122 := neL BK114 hg; have NB122_114 := neG BK114 hg; replace BK114 := bkB BK114 hb; clear hb hbox hg; have hnb32 := NB122_114.out; have hnc32 := NB114_122.out; obtain ⟨hcz33_0, hcz33_1, hfz33_0, hfz33_1⟩ := cell2 BK122))
                                  repeat (go_quiet (first | ((with_reducible refine gate_dst (N := 6) rfl ?_); (try (refine gate_guard (by rfl) ?_; dsimp only)); refine box_event ?hg (N := 6) ?hd (cs := #[.int .i64 0, .int .u8 0]) (t := 61) ?hr ?_; (case hd => rfl); (case hg => rfl); (case hr => first | (go_simp; done) | (go_simp; rfl)); intro gb122 hg w31 hbox hb; have n0_ := Aside0.mk (blk_below (g := gb114) (o := .cells #[.slice A0_0 l0_0.length c0_0, .slice (some ad119) l0_1.length c0_1, .slice A0_2 l0_2.length c0_2] 25 (0, 0)) (bkA BK114.out) hb); have n1_ := Aside0.mk (below_step (hbA HB.out) hb); have n2_ := Aside0.mk (hbox); have n3_ := Aside0.mk ((by rw [hg]; exact (below_size (hbA HB.out)) : w.heap.size ≤ gb122)); have n4_ := Aside0.mk ((by rw [hg]; exact (below_size (hbA HB.out)) : w.heap.size ≤ gb122)); have n5_ := Aside0.mk ((by rw [hg]; exact Nat.ne_of_lt (blk_lt (g := gb114) (o := .cells #[.slice A0_0 l0_0.length c0_0, .slice (some ad119) l0_1.length c0_1, .slice A0_2 l0_2.length c0_2] 25 (0, 0)) (bkA BK114.out)) : gb114 ≠ gb122)); have n6_ := Aside0.mk ((by rw [hg]; exact Nat.ne_of_gt (blk_lt (g := gb114) (o := .cells #[.slice A0_0 l0_0.length c0_0, .slice (some ad119) l0_1.length c0_1, .slice A0_2 l0_2.length c0_2] 25 (0, 0)) (bkA BK114.out)) : gb122 ≠ gb114)); clear BK114; clear HB; have BK114 := n0_; have HB := n1_; have BK122 := n2_; have GW122 := n3_; have GE122 := n4_; have NB114_122 := n5_; have NB122_114 := n6_; clear n0_ n1_ n2_ n3_ n4_ n5_ n6_; clear hb hbox hg; have hnb32 := NB122_114.out; have hnc32 := NB114_122.out; have hcz33_0 : w31.cell? ⟨gb122, 0, none⟩ = some (.int .i64 0) := (blk_cell BK122.out 0).trans rfl; have hcz33_1 : w31.cell? ⟨gb122, 1, none⟩ = some (.int .u8 0) := (blk_cell BK122.out 1).trans rfl; have hfz33_0 := blk_frozen BK122.out 0; have hfz33_1 := blk_frozen BK122.out 1)); try go_wp2_with (first | ((with_reducible refine gate_dst (N := 6) rfl ?_); (try (refine gate_guard (by rfl) ?_; dsimp only)); refine box_event ?hg (N := 6) ?hd (cs := #[.int .i64 0, .int .u8 0]) (t := 61) ?hr ?_; (case hd => rfl); (case hg => rfl); (case hr => first | (go_simp; done) | (go_simp; rfl)); intro gb122 hg w31 hbox hb; have n0_ := Aside0.mk (blk_below (g := gb114) (o := .cells #[.slice A0_0 l0_0.length c0_0, .slice (some ad119) l0_1.length c0_1, .slice A0_2 l0_2.length c0_2] 25 (0, 0)) (bkA BK114.out) hb); have n1_ := Aside0.mk (below_step (hbA HB.out) hb); have n2_ := Aside0.mk (hbox); have n3_ := Aside0.mk ((by rw [hg]; exact (below_size (hbA HB.out)) : w.heap.size ≤ gb122)); have n4_ := Aside0.mk ((by rw [hg]; exact (below_size (hbA HB.out)) : w.heap.size ≤ gb122)); have n5_ := Aside0.mk ((by rw [hg]; exact Nat.ne_of_lt (blk_lt (g := gb114) (o := .cells #[.slice A0_0 l0_0.length c0_0, .slice (some ad119) l0_1.length c0_1, .slice A0_2 l0_2.length c0_2] 25 (0, 0)) (bkA BK114.out)) : gb114 ≠ gb122)); have n6_ := Aside0.mk ((by rw [hg]; exact Nat.ne_of_gt (blk_lt (g := gb114) (o := .cells #[.slice A0_0 l0_0.length c0_0, .slice (some ad119) l0_1.length c0_1, .slice A0_2 l0_2.length c0_2] 25 (0, 0)) (bkA BK114.out)) : gb122 ≠ gb114)); clear BK114; clear HB; have BK114 := n0_; have HB := n1_; have BK122 := n2_; have GW122 := n3_; have GE122 := n4_; have NB114_122 := n5_; have NB122_114 := n6_; clear n0_ n1_ n2_ n3_ n4_ n5_ n6_; clear hb hbox hg; have hnb32 := NB122_114.out; have hnc32 := NB114_122.out; have hcz33_0 : w31.cell? ⟨gb122, 0, none⟩ = some (.int .i64 0) := (blk_cell BK122.out 0).trans rfl; have hcz33_1 : w31.cell? ⟨gb122, 1, none⟩ = some (.int .u8 0) := (blk_cell BK122.out 1).trans rfl; have hfz33_0 := blk_frozen BK122.out 0; have hfz33_1 := blk_frozen BK122.out 1)))
                                  go_ret
                                  exact ⟨rfE, hbA HB.out⟩
                                · rw [if_neg c29] at H
                                  have c29b0 : (((rd_T61 (rd_L5 l0_1 x4_3) x5_4).f1) == 0) = false := beq_eq_false_iff_ne.mpr c29
                                  have c29b1 : (((rd_T61 (rd_L5 l0_1 x4_3) x5_4).f1) != 0) = true := bne_iff_ne.mpr c29
                                  by_cases c34 : ((rd_T61 (rd_L5 l0_1 x4_3) x5_4).f0) < 0
                                  · rw [if_pos c34] at H
                                    have c34b0 : decide (((rd_T61 (rd_L5 l0_1 x4_3) x5_4).f0) < 0) = true := decide_eq_true c34
                                    clear c34
                                    obtain rfl := Option.some.inj H
                                    obtain ⟨hcz35_0, hcz35_1, hcz35_2, hfz35_0, hfz35_1, hfz35_2⟩ := cell3 BK114
                                    have p119 : 0 ≤ (x4_3 : Int) := of_decide_eq_true asE
                                    have q119 : x4_3 < (l0_1.length : Int) := of_decide_eq_true asE
                                    obtain ⟨ad119, A119_0, c119_0, e119, hx119_0, hl119_0, hi119_0⟩ := at_L5 HR0_1.out x4_3 p119 q119
                                    cases e119
                                    replace hx119_0 := (HB.out.cell (World.block_lt_of_cell? w _ hx119_0)).trans hx119_0
                                    have HR119_0 := Aside0.mk hi119_0
                                    have HC119_0 := Aside0.mk hl119_0
                                    clear hi119_0 hl119_0
                                    replace p119 := eq_true p119
                                    replace q119 := eq_true q119
                                    have p120 : 0 ≤ (x4_3 : Int) := of_decide_eq_true asE
                                    have q120 : x4_3 < (l0_1.length : Int) := of_decide_eq_true asE
                                    obtain ⟨ad120, A120_0, c120_0, e120, hx120_0, hl120_0, hi120_0⟩ := at_L5 HR0_1.out x4_3 p120 q120
                                    obtain rfl : ad119 = ad120 := (by injection e120)
                                    replace hx120_0 := (HB.out.cell (World.block_lt_of_cell? w _ hx120_0)).trans hx120_0
                                    have HR120_0 := Aside0.mk hi120_0
                                    have HC120_0 := Aside0.mk hl120_0
                                    clear hi120_0 hl120_0
                                    replace p120 := eq_true p120
                                    replace q120 := eq_true q120
                                    have ea_ := Option.some.inj (hx119_0.symm.trans hx120_0)
                                    injection ea_ with ea_ en_ ec_
                                    subst ea_
                                    subst ec_
                                    clear en_
                                    have p121 : 0 ≤ (x5_4 : Int) := of_decide_eq_true asE
                                    have q121 : x5_4 < ((rd_L5 l0_1 x4_3).length : Int) := of_decide_eq_true asE
                                    obtain ⟨ad121, e121, hx121_0, hx121_1⟩ := at_T61 HR120_0.out x5_4 p121 q121
                                    cases e121
                                    replace hx121_0 := (HB.out.cell (World.block_lt_of_cell? w _ hx121_0)).trans hx121_0
                                    replace hx121_1 := (HB.out.cell (World.block_lt_of_cell? w _ hx121_1)).trans hx121_1
                                    replace p121 := eq_true p121
                                    replace q121 := eq_true q121
                                    go_wp2_with (first | ((with_reducible refine gD 6 rfl ?_); (try (refine gate_guard (by rfl) ?_; dsimp only)); refine bE 6 #[.int .i64 0, .int .u8 0] 61 ?_; intro gb122 hg w36 hbox hb; have BK122 := Aside0.mk (hbox); have GW122 := hbS HB hg; have GE122 := hbS HB hg; replace HB := hbB HB hb; have NB114_122 := neL BK114 hg; have NB122_114 := neG BK114 hg; replace BK114 := bkB BK114 hb; clear hb hbox hg; have hnb37 := NB122_114.out; have hnc37 := NB114_122.out; obtain ⟨hcz38_0, hcz38_1, hfz38_0, hfz38_1⟩ := cell2 BK122))
                                    repeat (go_quiet (first | ((with_reducible refine gate_dst (N := 6) rfl ?_); (try (refine gate_guard (by rfl) ?_; dsimp only)); refine box_event ?hg (N := 6) ?hd (cs := #[.int .i64 0, .int .u8 0]) (t := 61) ?hr ?_; (case hd => rfl); (case hg => rfl); (case hr => first | (go_simp; done) | (go_simp; rfl)); intro gb122 hg w36 hbox hb; have n0_ := Aside0.mk (blk_below (g := gb114) (o := .cells #[.slice A0_0 l0_0.length c0_0, .slice (some ad119) l0_1.length c0_1, .slice A0_2 l0_2.length c0_2] 25 (0, 0)) (bkA BK114.out) hb); have n1_ := Aside0.mk (below_step (hbA HB.out) hb); have n2_ := Aside0.mk (hbox); have n3_ := Aside0.mk ((by rw [hg]; exact (below_size (hbA HB.out)) : w.heap.size ≤ gb122)); have n4_ := Aside0.mk ((by rw [hg]; exact (below_size (hbA HB.out)) : w.heap.size ≤ gb122)); have n5_ := Aside0.mk ((by rw [hg]; exact Nat.ne_of_lt (blk_lt (g := gb114) (o := .cells #[.slice A0_0 l0_0.length c0_0, .slice (some ad119) l0_1.length c0_1, .slice A0_2 l0_2.length c0_2] 25 (0, 0)) (bkA BK114.out)) : gb114 ≠ gb122)); have n6_ := Aside0.mk ((by rw [hg]; exact Nat.ne_of_gt (blk_lt (g := gb114) (o := .cells #[.slice A0_0 l0_0.length c0_0, .slice (some ad119) l0_1.length c0_1, .slice A0_2 l0_2.length c0_2] 25 (0, 0)) (bkA BK114.out)) : gb122 ≠ gb114)); clear BK114; clear HB; have BK114 := n0_; have HB := n1_; have BK122 := n2_; have GW122 := n3_; have GE122 := n4_; have NB114_122 := n5_; have NB122_114 := n6_; clear n0_ n1_ n2_ n3_ n4_ n5_ n6_; clear hb hbox hg; have hnb37 := NB122_114.out; have hnc37 := NB114_122.out; have hcz38_0 : w36.cell? ⟨gb122, 0, none⟩ = some (.int .i64 0) := (blk_cell BK122.out 0).trans rfl; have hcz38_1 : w36.cell? ⟨gb122, 1, none⟩ = some (.int .u8 0) := (blk_cell BK122.out 1).trans rfl; have hfz38_0 := blk_frozen BK122.out 0; have hfz38_1 := blk_frozen BK122.out 1)); try go_wp2_with (first | ((with_reducible refine gate_dst (N := 6) rfl ?_); (try (refine gate_guard (by rfl) ?_; dsimp only)); refine box_event ?hg (N := 6) ?hd (cs := #[.int .i64 0, .int .u8 0]) (t := 61) ?hr ?_; (case hd => rfl); (case hg => rfl); (case hr => first | (go_simp; done) | (go_simp; rfl)); intro gb122 hg w36 hbox hb; have n0_ := Aside0.mk (blk_below (g := gb114) (o := .cells #[.slice A0_0 l0_0.length c0_0, .slice (some ad119) l0_1.length c0_1, .slice A0_2 l0_2.length c0_2] 25 (0, 0)) (bkA BK114.out) hb); have n1_ := Aside0.mk (below_step (hbA HB.out) hb); have n2_ := Aside0.mk (hbox); have n3_ := Aside0.mk ((by rw [hg]; exact (below_size (hbA HB.out)) : w.heap.size ≤ gb122)); have n4_ := Aside0.mk ((by rw [hg]; exact (below_size (hbA HB.out)) : w.heap.size ≤ gb122)); have n5_ := Aside0.mk ((by rw [hg]; exact Nat.ne_of_lt (blk_lt (g := gb114) (o := .cells #[.slice A0_0 l0_0.length c0_0, .slice (some ad119) l0_1.length c0_1, .slice A0_2 l0_2.length c0_2] 25 (0, 0)) (bkA BK114.out)) : gb114 ≠ gb122)); have n6_ := Aside0.mk ((by rw [hg]; exact Nat.ne_of_gt (blk_lt (g := gb114) (o := .cells #[.slice A0_0 l0_0.length c0_0, .slice (some ad119) l0_1.length c0_1, .slice A0_2 l0_2.length c0_2] 25 (0, 0)) (bkA BK114.out)) : gb122 ≠ gb114)); clear BK114; clear HB; have BK114 := n0_; have HB := n1_; have BK122 := n2_; have GW122 := n3_; have GE122 := n4_; have NB114_122 := n5_; have NB122_114 := n6_; clear n0_ n1_ n2_ n3_ n4_ n5_ n6_; clear hb hbox hg; have hnb37 := NB122_114.out; have hnc37 := NB114_122.out; have hcz38_0 : w36.cell? ⟨gb122, 0, none⟩ = some (.int .i64 0) := (blk_cell BK122.out 0).trans rfl; have hcz38_1 : w36.cell? ⟨gb122, 1, none⟩ = some (.int .u8 0) := (blk_cell BK122.out 1).trans rfl; have hfz38_0 := blk_frozen BK122.out 0; have hfz38_1 := blk_frozen BK122.out 1)))
                                    go_ret
                                    exact ⟨rfE, hbA HB.out⟩
                                  · rw [if_neg c34] at H
                                    have c34b0 : decide (((rd_T61 (rd_L5 l0_1 x4_3) x5_4).f0) < 0) = false := decide_eq_false c34
                                    clear c34
                                    by_cases c39 : ((rd_T61 (rd_L5 l0_1 x4_3) x5_4).f0) ≥ (wrap64 ((l0_0.length : Int) + x4_3))
                                    · rw [if_pos c39] at H
                                      have c39b0 : decide ((wrap64 ((l0_0.length : Int) + x4_3)) ≤ ((rd_T61 (rd_L5 l0_1 x4_3) x5_4).f0)) = true := decide_eq_true c39
                                      clear c39
                                      obtain rfl := Option.some.inj H
                                      obtain ⟨hcz40_0, hcz40_1, hcz40_2, hfz40_0, hfz40_1, hfz40_2⟩ := cell3 BK114
                                      have p119 : 0 ≤ (x4_3 : Int) := of_decide_eq_true asE
                                      have q119 : x4_3 < (l0_1.length : Int) := of_decide_eq_true asE
                                      obtain ⟨ad119, A119_0, c119_0, e119, hx119_0, hl119_0, hi119_0⟩ := at_L5 HR0_1.out x4_3 p119 q119
                                      cases e119
                                      replace hx119_0 := (HB.out.cell (World.block_lt_of_cell? w _ hx119_0)).trans hx119_0
                                      have HR119_0 := Aside0.mk hi119_0
                                      have HC119_0 := Aside0.mk hl119_0
                                      clear hi119_0 hl119_0
                                      replace p119 := eq_true p119
                                      replace q119 := eq_true q119
                                      have p120 : 0 ≤ (x4_3 : Int) := of_decide_eq_true asE
                                      have q120 : x4_3 < (l0_1.length : Int) := of_decide_eq_true asE
                                      obtain ⟨ad120, A120_0, c120_0, e120, hx120_0, hl120_0, hi120_0⟩ := at_L5 HR0_1.out x4_3 p120 q120
                                      obtain rfl : ad119 = ad120 := (by injection e120)
                                      replace hx120_0 := (HB.out.cell (World.block_lt_of_cell? w _ hx120_0)).trans hx120_0
                                      have HR120_0 := Aside0.mk hi120_0
                                      have HC120_0 := Aside0.mk hl120_0
                                      clear hi120_0 hl120_0
                                      replace p120 := eq_true p120
                                      replace q120 := eq_true q120
                                      have ea_ := Option.some.inj (hx119_0.symm.trans hx120_0)
                                      injection ea_ with ea_ en_ ec_
                                      subst ea_
                                      subst ec_
                                      clear en_
                                      have p121 : 0 ≤ (x5_4 : Int) := of_decide_eq_true asE
                                      have q121 : x5_4 < ((rd_L5 l0_1 x4_3).length : Int) := of_decide_eq_true asE
                                      obtain ⟨ad121, e121, hx121_0, hx121_1⟩ := at_T61 HR120_0.out x5_4 p121 q121
                                      cases e121
                                      replace hx121_0 := (HB.out.cell (World.block_lt_of_cell? w _ hx121_0)).trans hx121_0
                                      replace hx121_1 := (HB.out.cell (World.block_lt_of_cell? w _ hx121_1)).trans hx121_1
                                      replace p121 := eq_true p121
                                      replace q121 := eq_true q121
                                      go_wp2_with (first | ((with_reducible refine gD 6 rfl ?_); (try (refine gate_guard (by rfl) ?_; dsimp only)); refine bE 6 #[.int .i64 0, .int .u8 0] 61 ?_; intro gb122 hg w41 hbox hb; have BK122 := Aside0.mk (hbox); have GW122 := hbS HB hg; have GE122 := hbS HB hg; replace HB := hbB HB hb; have NB114_122 := neL BK114 hg; have NB122_114 := neG BK114 hg; replace BK114 := bkB BK114 hb; clear hb hbox hg; have hnb42 := NB122_114.out; have hnc42 := NB114_122.out; obtain ⟨hcz43_0, hcz43_1, hfz43_0, hfz43_1⟩ := cell2 BK122; obtain ⟨hcz44_0, hcz44_1, hcz44_2, hfz44_0, hfz44_1, hfz44_2⟩ := cell3 BK114))
                                      repeat (go_quiet (first | ((with_reducible refine gate_dst (N := 6) rfl ?_); (try (refine gate_guard (by rfl) ?_; dsimp only)); refine box_event ?hg (N := 6) ?hd (cs := #[.int .i64 0, .int .u8 0]) (t := 61) ?hr ?_; (case hd => rfl); (case hg => rfl); (case hr => first | (go_simp; done) | (go_simp; rfl)); intro gb122 hg w41 hbox hb; have n0_ := Aside0.mk (blk_below (g := gb114) (o := .cells #[.slice A0_0 l0_0.length c0_0, .slice (some ad119) l0_1.length c0_1, .slice A0_2 l0_2.length c0_2] 25 (0, 0)) (bkA BK114.out) hb); have n1_ := Aside0.mk (below_step (hbA HB.out) hb); have n2_ := Aside0.mk (hbox); have n3_ := Aside0.mk ((by rw [hg]; exact (below_size (hbA HB.out)) : w.heap.size ≤ gb122)); have n4_ := Aside0.mk ((by rw [hg]; exact (below_size (hbA HB.out)) : w.heap.size ≤ gb122)); have n5_ := Aside0.mk ((by rw [hg]; exact Nat.ne_of_lt (blk_lt (g := gb114) (o := .cells #[.slice A0_0 l0_0.length c0_0, .slice (some ad119) l0_1.length c0_1, .slice A0_2 l0_2.length c0_2] 25 (0, 0)) (bkA BK114.out)) : gb114 ≠ gb122)); have n6_ := Aside0.mk ((by rw [hg]; exact Nat.ne_of_gt (blk_lt (g := gb114) (o := .cells #[.slice A0_0 l0_0.length c0_0, .slice (some ad119) l0_1.length c0_1, .slice A0_2 l0_2.length c0_2] 25 (0, 0)) (bkA BK114.out)) : gb122 ≠ gb114)); clear BK114; clear HB; have BK114 := n0_; have HB := n1_; have BK122 := n2_; have GW122 := n3_; have GE122 := n4_; have NB114_122 := n5_; have NB122_114 := n6_; clear n0_ n1_ n2_ n3_ n4_ n5_ n6_; clear hb hbox hg; have hnb42 := NB122_114.out; have hnc42 := NB114_122.out; have hcz43_0 : w41.cell? ⟨gb122, 0, none⟩ = some (.int .i64 0) := (blk_cell BK122.out 0).trans rfl; have hcz43_1 : w41.cell? ⟨gb122, 1, none⟩ = some (.int .u8 0) := (blk_cell BK122.out 1).trans rfl; have hfz43_0 := blk_frozen BK122.out 0; have hfz43_1 := blk_frozen BK122.out 1; have hcz44_0 : w41.cell? ⟨gb114, 0, none⟩ = some (.slice A0_0 l0_0.length c0_0) := (blk_cell BK114.out 0).trans rfl; have hcz44_1 : w41.cell? ⟨gb114, 1, none⟩ = some (.slice (some ad119) l0_1.length c0_1) := (blk_cell BK114.out 1).trans rfl; have hcz44_2 : w41.cell? ⟨gb114, 2, none⟩ = some (.slice A0_2 l0_2.length c0_2) := (blk_cell BK114.out 2).trans rfl; have hfz44_0 := blk_frozen BK114.out 0; have hfz44_1 := blk_frozen BK114.out 1; have hfz44_2 := blk_frozen BK114.out 2)); try go_wp2_with (first | ((with_reducible refine gate_dst (N := 6) rfl ?_); (try (refine gate_guard (by rfl) ?_; dsimp only)); refine box_event ?hg (N := 6) ?hd (cs := #[.int .i64 0, .int .u8 0]) (t := 61) ?hr ?_; (case hd => rfl); (case hg => rfl); (case hr => first | (go_simp; done) | (go_simp; rfl)); intro gb122 hg w41 hbox hb; have n0_ := Aside0.mk (blk_below (g := gb114) (o := .cells #[.slice A0_0 l0_0.length c0_0, .slice (some ad119) l0_1.length c0_1, .slice A0_2 l0_2.length c0_2] 25 (0, 0)) (bkA BK114.out) hb); have n1_ := Aside0.mk (below_step (hbA HB.out) hb); have n2_ := Aside0.mk (hbox); have n3_ := Aside0.mk ((by rw [hg]; exact (below_size (hbA HB.out)) : w.heap.size ≤ gb122)); have n4_ := Aside0.mk ((by rw [hg]; exact (below_size (hbA HB.out)) : w.heap.size ≤ gb122)); have n5_ := Aside0.mk ((by rw [hg]; exact Nat.ne_of_lt (blk_lt (g := gb114) (o := .cells #[.slice A0_0 l0_0.length c0_0, .slice (some ad119) l0_1.length c0_1, .slice A0_2 l0_2.length c0_2] 25 (0, 0)) (bkA BK114.out)) : gb114 ≠ gb122)); have n6_ := Aside0.mk ((by rw [hg]; exact Nat.ne_of_gt (blk_lt (g := gb114) (o := .cells #[.slice A0_0 l0_0.length c0_0, .slice (some ad119) l0_1.length c0_1, .slice A0_2 l0_2.length c0_2] 25 (0, 0)) (bkA BK114.out)) : gb122 ≠ gb114)); clear BK114; clear HB; have BK114 := n0_; have HB := n1_; have BK122 := n2_; have GW122 := n3_; have GE122 := n4_; have NB114_122 := n5_; have NB122_114 := n6_; clear n0_ n1_ n2_ n3_ n4_ n5_ n6_; clear hb hbox hg; have hnb42 := NB122_114.out; have hnc42 := NB114_122.out; have hcz43_0 : w41.cell? ⟨gb122, 0, none⟩ = some (.int .i64 0) := (blk_cell BK122.out 0).trans rfl; have hcz43_1 : w41.cell? ⟨gb122, 1, none⟩ = some (.int .u8 0) := (blk_cell BK122.out 1).trans rfl; have hfz43_0 := blk_frozen BK122.out 0; have hfz43_1 := blk_frozen BK122.out 1; have hcz44_0 : w41.cell? ⟨gb114, 0, none⟩ = some (.slice A0_0 l0_0.length c0_0) := (blk_cell BK114.out 0).trans rfl; have hcz44_1 : w41.cell? ⟨gb114, 1, none⟩ = some (.slice (some ad119) l0_1.length c0_1) := (blk_cell BK114.out 1).trans rfl; have hcz44_2 : w41.cell? ⟨gb114, 2, none⟩ = some (.slice A0_2 l0_2.length c0_2) := (blk_cell BK114.out 2).trans rfl; have hfz44_0 := blk_frozen BK114.out 0; have hfz44_1 := blk_frozen BK114.out 1; have hfz44_2 := blk_frozen BK114.out 2)))
                                      go_ret
                                      exact ⟨rfE, hbA HB.out⟩
                                    · rw [if_neg c39] at H
                                      have c39b0 : decide ((wrap64 ((l0_0.length : Int) + x4_3)) ≤ ((rd_T61 (rd_L5 l0_1 x4_3) x5_4).f0)) = false := decide_eq_false c39
                                      clear c39
                                      by_cases c45 : x5_4 > 0
                                      · rw [if_pos c45] at H
                                        have c45b0 : decide (0 < x5_4) = true := decide_eq_true c45
                                        clear c45
                                        obtain ⟨ji46, hji46⟩ : ∃ j_ : Int, (wrap64 (x5_4 - 1)) = j_ := ⟨_, rfl⟩
                                        replace H : (if 0 ≤ (ji46) then (if (ji46) < ((rd_L5 l0_1 x4_3).length : Int) then (if ((rd_T61 (rd_L5 l0_1 x4_3) x5_4).f0) ≤ ((rd_T61 (rd_L5 l0_1 x4_3) (ji46)).f0) then (some false) else (recoupref21_May.l2 k4 x4_3 (wrap64 (x5_4 + 1)) l0_0 l0_1 l0_2)) else (none)) else (none)) = some r := by first | (rw [hji46] at H; exact H) | (simp only [hji46] at H ⊢; exact H)
                                        have hji46w : (IntKind.i64.wrap (x5_4 - 1)) = ji46 := (i64_w _).trans hji46
                                        by_cases c47 : 0 ≤ (ji46)
                                        · rw [if_pos c47] at H
                                          have c47b0 : decide (0 ≤ (ji46)) = true := decide_eq_true c47
                                          clear c47
                                          by_cases c48 : (ji46) < ((rd_L5 l0_1 x4_3).length : Int)
                                          · rw [if_pos c48] at H
                                            have c48b0 : decide ((ji46) < ((rd_L5 l0_1 x4_3).length : Int)) = true := decide_eq_true c48
                                            clear c48
                                            by_cases c49 : ((rd_T61 (rd_L5 l0_1 x4_3) x5_4).f0) ≤ ((rd_T61 (rd_L5 l0_1 x4_3) (ji46)).f0)
                                            · rw [if_pos c49] at H
                                              have c49b0 : decide (((rd_T61 (rd_L5 l0_1 x4_3) x5_4).f0) ≤ ((rd_T61 (rd_L5 l0_1 x4_3) (ji46)).f0)) = true := decide_eq_true c49
                                              clear c49
                                              obtain rfl := Option.some.inj H
                                              obtain ⟨hcz50_0, hcz50_1, hcz50_2, hfz50_0, hfz50_1, hfz50_2⟩ := cell3 BK114
                                              have p119 : 0 ≤ (x4_3 : Int) := of_decide_eq_true asE
                                              have q119 : x4_3 < (l0_1.length : Int) := of_decide_eq_true asE
                                              obtain ⟨ad119, A119_0, c119_0, e119, hx119_0, hl119_0, hi119_0⟩ := at_L5 HR0_1.out x4_3 p119 q119
                                              cases e119
                                              replace hx119_0 := (HB.out.cell (World.block_lt_of_cell? w _ hx119_0)).trans hx119_0
                                              have HR119_0 := Aside0.mk hi119_0
                                              have HC119_0 := Aside0.mk hl119_0
                                              clear hi119_0 hl119_0
                                              replace p119 := eq_true p119
                                              replace q119 := eq_true q119
                                              have p120 : 0 ≤ (x4_3 : Int) := of_decide_eq_true asE
                                              have q120 : x4_3 < (l0_1.length : Int) := of_decide_eq_true asE
                                              obtain ⟨ad120, A120_0, c120_0, e120, hx120_0, hl120_0, hi120_0⟩ := at_L5 HR0_1.out x4_3 p120 q120
                                              obtain rfl : ad119 = ad120 := (by injection e120)
                                              replace hx120_0 := (HB.out.cell (World.block_lt_of_cell? w _ hx120_0)).trans hx120_0
                                              have HR120_0 := Aside0.mk hi120_0
                                              have HC120_0 := Aside0.mk hl120_0
                                              clear hi120_0 hl120_0
                                              replace p120 := eq_true p120
                                              replace q120 := eq_true q120
                                              have ea_ := Option.some.inj (hx119_0.symm.trans hx120_0)
                                              injection ea_ with ea_ en_ ec_
                                              subst ea_
                                              subst ec_
                                              clear en_
                                              have p121 : 0 ≤ (x5_4 : Int) := of_decide_eq_true asE
                                              have q121 : x5_4 < ((rd_L5 l0_1 x4_3).length : Int) := of_decide_eq_true asE
                                              obtain ⟨ad121, e121, hx121_0, hx121_1⟩ := at_T61 HR120_0.out x5_4 p121 q121
                                              cases e121
                                              replace hx121_0 := (HB.out.cell (World.block_lt_of_cell? w _ hx121_0)).trans hx121_0
                                              replace hx121_1 := (HB.out.cell (World.block_lt_of_cell? w _ hx121_1)).trans hx121_1
                                              replace p121 := eq_true p121
                                              replace q121 := eq_true q121
                                              go_wp2_with (first | ((with_reducible refine gD 6 rfl ?_); (try (refine gate_guard (by rfl) ?_; dsimp only)); refine bE 6 #[.int .i64 0, .int .u8 0] 61 ?_; intro gb122 hg w51 hbox hb; have BK122 := Aside0.mk (hbox); have GW122 := hbS HB hg; have GE122 := hbS HB hg; replace HB := hbB HB hb; have NB114_122 := neL BK114 hg; have NB122_114 := neG BK114 hg; replace BK114 := bkB BK114 hb; clear hb hbox hg; have hnb52 := NB122_114.out; have hnc52 := NB114_122.out; obtain ⟨hcz53_0, hcz53_1, hfz53_0, hfz53_1⟩ := cell2 BK122; obtain ⟨hcz54_0, hcz54_1, hcz54_2, hfz54_0, hfz54_1, hfz54_2⟩ := cell3 BK114; have p123 : 0 ≤ (x4_3 : Int) := of_decide_eq_true asE; have q123 : x4_3 < (l0_1.length : Int) := of_decide_eq_true asE; obtain ⟨ad123, A123_0, c123_0, e123, hx123_0, hl123_0, hi123_0⟩ := at_L5 HR0_1.out x4_3 p123 q123; obtain rfl : ad119 = ad123 := (by injection e123); have hn123_0 : ad119.block ≠ gb122 := Nat.ne_of_lt (Nat.lt_of_lt_of_le (by have := World.block_lt_of_cell? _ _ hx123_0; first | rwa [add_block] at this | exact this) GW122.out); have hn123_1 : ad119.block ≠ gb122 := Nat.ne_of_lt (Nat.lt_of_lt_of_le (by have := World.block_lt_of_cell? _ _ hx123_0; first | rwa [add_block] at this | exact this) GW122.out); replace hx123_0 := (HB.out.cell (World.block_lt_of_cell? w _ hx123_0)).trans hx123_0; have HR123_0 := Aside0.mk hi123_0; have HC123_0 := Aside0.mk hl123_0; clear hi123_0 hl123_0; replace hx123_0 := (cell_far (p := ⟨gb122, 0, none⟩) (by first | (rw [add_block]; exact hn123_0) | (show (Addr.add _ _).block ≠ _; rw [add_block]; exact hn123_0) | exact hn123_0) (.int .i64 ((rd_T61 (rd_L5 l0_1 x4_3) x5_4).f0))).trans hx123_0; replace hx123_0 := (cell_far (p := ⟨gb122, 1, none⟩) (by first | (rw [add_block]; exact hn123_1) | (show (Addr.add _ _).block ≠ _; rw [add_block]; exact hn123_1) | exact hn123_1) (.int .u8 ((rd_T61 (rd_L5 l0_1 x4_3) x5_4).f1))).trans hx123_0; (try have hy123_0 := fun (n_ : Nat) => (show ((((w51.drewN n_).setCell ⟨gb122, 0, none⟩ (.int .i64 ((rd_T61 (rd_L5 l0_1 x4_3) x5_4).f0))).setCell ⟨gb122, 1, none⟩ (.int .u8 ((rd_T61 (rd_L5 l0_1 x4_3) x5_4).f1)))).cell? _ = some _ from hx123_0)); clear hn123_0; clear hn123_1; replace p123 := eq_true p123; replace q123 := eq_true q123; have p124 : 0 ≤ ((ji46) : Int) := of_decide_eq_true asE; have q124 : (ji46) < ((rd_L5 l0_1 x4_3).length : Int) := of_decide_eq_true asE; obtain ⟨ad124, e124, hx124_0, hx124_1⟩ := at_T61 HR123_0.out (ji46) p124 q124; cases e124; have hn124_0 : ad124.block ≠ gb122 := Nat.ne_of_lt (Nat.lt_of_lt_of_le (by have := World.block_lt_of_cell? _ _ hx124_0; first | rwa [add_block] at this | exact this) GW122.out); have hn124_1 : ad124.block ≠ gb122 := Nat.ne_of_lt (Nat.lt_of_lt_of_le (by have := World.block_lt_of_cell? _ _ hx124_0; first | rwa [add_block] at this | exact this) GW122.out); replace hx124_0 := (HB.out.cell (World.block_lt_of_cell? w _ hx124_0)).trans hx124_0; replace hx124_1 := (HB.out.cell (World.block_lt_of_cell? w _ hx124_1)).trans hx124_1; replace hx124_0 := (cell_far (p := ⟨gb122, 0, none⟩) (by first | (rw [add_block]; exact hn124_0) | (show (Addr.add _ _).block ≠ _; rw [add_block]; exact hn124_0) | exact hn124_0) (.int .i64 ((rd_T61 (rd_L5 l0_1 x4_3) x5_4).f0))).trans hx124_0; replace hx124_1 := (cell_far (p := ⟨gb122, 0, none⟩) (by first | (rw [add_block]; exact hn124_0) | (show (Addr.add _ _).block ≠ _; rw [add_block]; exact hn124_0) | exact hn124_0) (.int .i64 ((rd_T61 (rd_L5 l0_1 x4_3) x5_4).f0))).trans hx124_1; replace hx124_0 := (cell_far (p := ⟨gb122, 1, none⟩) (by first | (rw [add_block]; exact hn124_1) | (show (Addr.add _ _).block ≠ _; rw [add_block]; exact hn124_1) | exact hn124_1) (.int .u8 ((rd_T61 (rd_L5 l0_1 x4_3) x5_4).f1))).trans hx124_0; replace hx124_1 := (cell_far (p := ⟨gb122, 1, none⟩) (by first | (rw [add_block]; exact hn124_1) | (show (Addr.add _ _).block ≠ _; rw [add_block]; exact hn124_1) | exact hn124_1) (.int .u8 ((rd_T61 (rd_L5 l0_1 x4_3) x5_4).f1))).trans hx124_1; (try have hy124_0 := fun (n_ : Nat) => (show ((((w51.drewN n_).setCell ⟨gb122, 0, none⟩ (.int .i64 ((rd_T61 (rd_L5 l0_1 x4_3) x5_4).f0))).setCell ⟨gb122, 1, none⟩ (.int .u8 ((rd_T61 (rd_L5 l0_1 x4_3) x5_4).f1)))).cell? _ = some _ from hx124_0)); (try have hy124_1 := fun (n_ : Nat) => (show ((((w51.drewN n_).setCell ⟨gb122, 0, none⟩ (.int .i64 ((rd_T61 (rd_L5 l0_1 x4_3) x5_4).f0))).setCell ⟨gb122, 1, none⟩ (.int .u8 ((rd_T61 (rd_L5 l0_1 x4_3) x5_4).f1)))).cell? _ = some _ from hx124_1)); clear hn124_0; clear hn124_1; replace p124 := eq_true p124; replace q124 := eq_true q124))
                                              repeat (go_quiet (first | ((with_reducible refine gate_dst (N := 6) rfl ?_); (try (refine gate_guard (by rfl) ?_; dsimp only)); refine box_event ?hg (N := 6) ?hd (cs := #[.int .i64 0, .int .u8 0]) (t := 61) ?hr ?_; (case hd => rfl); (case hg => rfl); (case hr => first | (go_simp; done) | (go_simp; rfl)); intro gb122 hg w51 hbox hb; have n0_ := Aside0.mk (blk_below (g := gb114) (o := .cells #[.slice A0_0 l0_0.length c0_0, .slice (some ad119) l0_1.length c0_1, .slice A0_2 l0_2.length c0_2] 25 (0, 0)) (bkA BK114.out) hb); have n1_ := Aside0.mk (below_step (hbA HB.out) hb); have n2_ := Aside0.mk (hbox); have n3_ := Aside0.mk ((by rw [hg]; exact (below_size (hbA HB.out)) : w.heap.size ≤ gb122)); have n4_ := Aside0.mk ((by rw [hg]; exact (below_size (hbA HB.out)) : w.heap.size ≤ gb122)); have n5_ := Aside0.mk ((by rw [hg]; exact Nat.ne_of_lt (blk_lt (g := gb114) (o := .cells #[.slice A0_0 l0_0.length c0_0, .slice (some ad119) l0_1.length c0_1, .slice A0_2 l0_2.length c0_2] 25 (0, 0)) (bkA BK114.out)) : gb114 ≠ gb122)); have n6_ := Aside0.mk ((by rw [hg]; exact Nat.ne_of_gt (blk_lt (g := gb114) (o := .cells #[.slice A0_0 l0_0.length c0_0, .slice (some ad119) l0_1.length c0_1, .slice A0_2 l0_2.length c0_2] 25 (0, 0)) (bkA BK114.out)) : gb122 ≠ gb114)); clear BK114; clear HB; have BK114 := n0_; have HB := n1_; have BK122 := n2_; have GW122 := n3_; have GE122 := n4_; have NB114_122 := n5_; have NB122_114 := n6_; clear n0_ n1_ n2_ n3_ n4_ n5_ n6_; clear hb hbox hg; have hnb52 := NB122_114.out; have hnc52 := NB114_122.out; have hcz53_0 : w51.cell? ⟨gb122, 0, none⟩ = some (.int .i64 0) := (blk_cell BK122.out 0).trans rfl; have hcz53_1 : w51.cell? ⟨gb122, 1, none⟩ = some (.int .u8 0) := (blk_cell BK122.out 1).trans rfl; have hfz53_0 := blk_frozen BK122.out 0; have hfz53_1 := blk_frozen BK122.out 1; have hcz54_0 : w51.cell? ⟨gb114, 0, none⟩ = some (.slice A0_0 l0_0.length c0_0) := (blk_cell BK114.out 0).trans rfl; have hcz54_1 : w51.cell? ⟨gb114, 1, none⟩ = some (.slice (some ad119) l0_1.length c0_1) := (blk_cell BK114.out 1).trans rfl; have hcz54_2 : w51.cell? ⟨gb114, 2, none⟩ = some (.slice A0_2 l0_2.length c0_2) := (blk_cell BK114.out 2).trans rfl; have hfz54_0 := blk_frozen BK114.out 0; have hfz54_1 := blk_frozen BK114.out 1; have hfz54_2 := blk_frozen BK114.out 2; have p123 : 0 ≤ (x4_3 : Int) := of_decide_eq_true asE; have q123 : x4_3 < (l0_1.length : Int) := of_decide_eq_true asE; obtain ⟨ad123, A123_0, c123_0, e123, hx123_0, hl123_0, hi123_0⟩ := at_L5 HR0_1.out x4_3 p123 q123; obtain rfl : ad119 = ad123 := (by injection e123); have hn123_0 : ad119.block ≠ gb122 := Nat.ne_of_lt (Nat.lt_of_lt_of_le (by have := World.block_lt_of_cell? _ _ hx123_0; first | rwa [add_block] at this | exact this) GW122.out); have hn123_1 : ad119.block ≠ gb122 := Nat.ne_of_lt (Nat.lt_of_lt_of_le (by have := World.block_lt_of_cell? _ _ hx123_0; first | rwa [add_block] at this | exact this) GW122.out); replace hx123_0 := (HB.out.cell (World.block_lt_of_cell? w _ hx123_0)).trans hx123_0; have HR123_0 := Aside0.mk hi123_0; have HC123_0 := Aside0.mk hl123_0; clear hi123_0 hl123_0; replace hx123_0 := (cell_far (p := ⟨gb122, 0, none⟩) (by first | (rw [add_block]; exact hn123_0) | (show (Addr.add _ _).block ≠ _; rw [add_block]; exact hn123_0) | exact hn123_0) (.int .i64 ((rd_T61 (rd_L5 l0_1 x4_3) x5_4).f0))).trans hx123_0; replace hx123_0 := (cell_far (p := ⟨gb122, 1, none⟩) (by first | (rw [add_block]; exact hn123_1) | (show (Addr.add _ _).block ≠ _; rw [add_block]; exact hn123_1) | exact hn123_1) (.int .u8 ((rd_T61 (rd_L5 l0_1 x4_3) x5_4).f1))).trans hx123_0; (try have hy123_0 := fun (n_ : Nat) => (show ((((w51.drewN n_).setCell ⟨gb122, 0, none⟩ (.int .i64 ((rd_T61 (rd_L5 l0_1 x4_3) x5_4).f0))).setCell ⟨gb122, 1, none⟩ (.int .u8 ((rd_T61 (rd_L5 l0_1 x4_3) x5_4).f1)))).cell? _ = some _ from hx123_0)); clear hn123_0; clear hn123_1; replace p123 := eq_true p123; replace q123 := eq_true q123; have p124 : 0 ≤ ((ji46) : Int) := of_decide_eq_true asE; have q124 : (ji46) < ((rd_L5 l0_1 x4_3).length : Int) := of_decide_eq_true asE; obtain ⟨ad124, e124, hx124_0, hx124_1⟩ := at_T61 HR123_0.out (ji46) p124 q124; cases e124; have hn124_0 : ad124.block ≠ gb122 := Nat.ne_of_lt (Nat.lt_of_lt_of_le (by have := World.block_lt_of_cell? _ _ hx124_0; first | rwa [add_block] at this | exact this) GW122.out); have hn124_1 : ad124.block ≠ gb122 := Nat.ne_of_lt (Nat.lt_of_lt_of_le (by have := World.block_lt_of_cell? _ _ hx124_0; first | rwa [add_block] at this | exact this) GW122.out); replace hx124_0 := (HB.out.cell (World.block_lt_of_cell? w _ hx124_0)).trans hx124_0; replace hx124_1 := (HB.out.cell (World.block_lt_of_cell? w _ hx124_1)).trans hx124_1; replace hx124_0 := (cell_far (p := ⟨gb122, 0, none⟩) (by first | (rw [add_block]; exact hn124_0) | (show (Addr.add _ _).block ≠ _; rw [add_block]; exact hn124_0) | exact hn124_0) (.int .i64 ((rd_T61 (rd_L5 l0_1 x4_3) x5_4).f0))).trans hx124_0; replace hx124_1 := (cell_far (p := ⟨gb122, 0, none⟩) (by first | (rw [add_block]; exact hn124_0) | (show (Addr.add _ _).block ≠ _; rw [add_block]; exact hn124_0) | exact hn124_0) (.int .i64 ((rd_T61 (rd_L5 l0_1 x4_3) x5_4).f0))).trans hx124_1; replace hx124_0 := (cell_far (p := ⟨gb122, 1, none⟩) (by first | (rw [add_block]; exact hn124_1) | (show (Addr.add _ _).block ≠ _; rw [add_block]; exact hn124_1) | exact hn124_1) (.int .u8 ((rd_T61 (rd_L5 l0_1 x4_3) x5_4).f1))).trans hx124_0; replace hx124_1 := (cell_far (p := ⟨gb122, 1, none⟩) (by first | (rw [add_block]; exact hn124_1) | (show (Addr.add _ _).block ≠ _; rw [add_block]; exact hn124_1) | exact hn124_1) (.int .u8 ((rd_T61 (rd_L5 l0_1 x4_3) x5_4).f1))).trans hx124_1; (try have hy124_0 := fun (n_ : Nat) => (show ((((w51.drewN n_).setCell ⟨gb122, 0, none⟩ (.int .i64 ((rd_T61 (rd_L5 l0_1 x4_3) x5_4).f0))).setCell ⟨gb122, 1, none⟩ (.int .u8 ((rd_T61 (rd_L5 l0_1 x4_3) x5_4).f1)))).cell? _ = some _ from hx124_0)); (try have hy124_1 := fun (n_ : Nat) => (show ((((w51.drewN n_).setCell ⟨gb122, 0, none⟩ (.int .i64 ((rd_T61 (rd_L5 l0_1 x4_3) x5_4).f0))).setCell ⟨gb122, 1, none⟩ (.int .u8 ((rd_T61 (rd_L5 l0_1 x4_3) x5_4).f1)))).cell? _ = some _ from hx124_1)); clear hn124_0; clear hn124_1; replace p124 := eq_true p124; replace q124 := eq_true q124)); try go_wp2_with (first | ((with_reducible refine gate_dst (N := 6) rfl ?_); (try (refine gate_guard (by rfl) ?_; dsimp only)); refine box_event ?hg (N := 6) ?hd (cs := #[.int .i64 0, .int .u8 0]) (t := 61) ?hr ?_; (case hd => rfl); (case hg => rfl); (case hr => first | (go_simp; done) | (go_simp; rfl)); intro gb122 hg w51 hbox hb; have n0_ := Aside0.mk (blk_below (g := gb114) (o := .cells #[.slice A0_0 l0_0.length c0_0, .slice (some ad119) l0_1.length c0_1, .slice A0_2 l0_2.length c0_2] 25 (0, 0)) (bkA BK114.out) hb); have n1_ := Aside0.mk (below_step (hbA HB.out) hb); have n2_ := Aside0.mk (hbox); have n3_ := Aside0.mk ((by rw [hg]; exact (below_size (hbA HB.out)) : w.heap.size ≤ gb122)); have n4_ := Aside0.mk ((by rw [hg]; exact (below_size (hbA HB.out)) : w.heap.size ≤ gb122)); have n5_ := Aside0.mk ((by rw [hg]; exact Nat.ne_of_lt (blk_lt (g := gb114) (o := .cells #[.slice A0_0 l0_0.length c0_0, .slice (some ad119) l0_1.length c0_1, .slice A0_2 l0_2.length c0_2] 25 (0, 0)) (bkA BK114.out)) : gb114 ≠ gb122)); have n6_ := Aside0.mk ((by rw [hg]; exact Nat.ne_of_gt (blk_lt (g := gb114) (o := .cells #[.slice A0_0 l0_0.length c0_0, .slice (some ad119) l0_1.length c0_1, .slice A0_2 l0_2.length c0_2] 25 (0, 0)) (bkA BK114.out)) : gb122 ≠ gb114)); clear BK114; clear HB; have BK114 := n0_; have HB := n1_; have BK122 := n2_; have GW122 := n3_; have GE122 := n4_; have NB114_122 := n5_; have NB122_114 := n6_; clear n0_ n1_ n2_ n3_ n4_ n5_ n6_; clear hb hbox hg; have hnb52 := NB122_114.out; have hnc52 := NB114_122.out; have hcz53_0 : w51.cell? ⟨gb122, 0, none⟩ = some (.int .i64 0) := (blk_cell BK122.out 0).trans rfl; have hcz53_1 : w51.cell? ⟨gb122, 1, none⟩ = some (.int .u8 0) := (blk_cell BK122.out 1).trans rfl; have hfz53_0 := blk_frozen BK122.out 0; have hfz53_1 := blk_frozen BK122.out 1; have hcz54_0 : w51.cell? ⟨gb114, 0, none⟩ = some (.slice A0_0 l0_0.length c0_0) := (blk_cell BK114.out 0).trans rfl; have hcz54_1 : w51.cell? ⟨gb114, 1, none⟩ = some (.slice (some ad119) l0_1.length c0_1) := (blk_cell BK114.out 1).trans rfl; have hcz54_2 : w51.cell? ⟨gb114, 2, none⟩ = some (.slice A0_2 l0_2.length c0_2) := (blk_cell BK114.out 2).trans rfl; have hfz54_0 := blk_frozen BK114.out 0; have hfz54_1 := blk_frozen BK114.out 1; have hfz54_2 := blk_frozen BK114.out 2; have p123 : 0 ≤ (x4_3 : Int) := of_decide_eq_true asE; have q123 : x4_3 < (l0_1.length : Int) := of_decide_eq_true asE; obtain ⟨ad123, A123_0, c123_0, e123, hx123_0, hl123_0, hi123_0⟩ := at_L5 HR0_1.out x4_3 p123 q123; obtain rfl : ad119 = ad123 := (by injection e123); have hn123_0 : ad119.block ≠ gb122 := Nat.ne_of_lt (Nat.lt_of_lt_of_le (by have := World.block_lt_of_cell? _ _ hx123_0; first | rwa [add_block] at this | exact this) GW122.out); have hn123_1 : ad119.block ≠ gb122 := Nat.ne_of_lt (Nat.lt_of_lt_of_le (by have := World.block_lt_of_cell? _ _ hx123_0; first | rwa [add_block] at this | exact this) GW122.out); replace hx123_0 := (HB.out.cell (World.block_lt_of_cell? w _ hx123_0)).trans hx123_0; have HR123_0 := Aside0.mk hi123_0; have HC123_0 := Aside0.mk hl123_0; clear hi123_0 hl123_0; replace hx123_0 := (cell_far (p := ⟨gb122, 0, none⟩) (by first | (rw [add_block]; exact hn123_0) | (show (Addr.add _ _).block ≠ _; rw [add_block]; exact hn123_0) | exact hn123_0) (.int .i64 ((rd_T61 (rd_L5 l0_1 x4_3) x5_4).f0))).trans hx123_0; replace hx123_0 := (cell_far (p := ⟨gb122, 1, none⟩) (by first | (rw [add_block]; exact hn123_1) | (show (Addr.add _ _).block ≠ _; rw [add_block]; exact hn123_1) | exact hn123_1) (.int .u8 ((rd_T61 (rd_L5 l0_1 x4_3) x5_4).f1))).trans hx123_0; (try have hy123_0 := fun (n_ : Nat) => (show ((((w51.drewN n_).setCell ⟨gb122, 0, none⟩ (.int .i64 ((rd_T61 (rd_L5 l0_1 x4_3) x5_4).f0))).setCell ⟨gb122, 1, none⟩ (.int .u8 ((rd_T61 (rd_L5 l0_1 x4_3) x5_4).f1)))).cell? _ = some _ from hx123_0)); clear hn123_0; clear hn123_1; replace p123 := eq_true p123; replace q123 := eq_true q123; have p124 : 0 ≤ ((ji46) : Int) := of_decide_eq_true asE; have q124 : (ji46) < ((rd_L5 l0_1 x4_3).length : Int) := of_decide_eq_true asE; obtain ⟨ad124, e124, hx124_0, hx124_1⟩ := at_T61 HR123_0.out (ji46) p124 q124; cases e124; have hn124_0 : ad124.block ≠ gb122 := Nat.ne_of_lt (Nat.lt_of_lt_of_le (by have := World.block_lt_of_cell? _ _ hx124_0; first | rwa [add_block] at this | exact this) GW122.out); have hn124_1 : ad124.block ≠ gb122 := Nat.ne_of_lt (Nat.lt_of_lt_of_le (by have := World.block_lt_of_cell? _ _ hx124_0; first | rwa [add_block] at this | exact this) GW122.out); replace hx124_0 := (HB.out.cell (World.block_lt_of_cell? w _ hx124_0)).trans hx124_0; replace hx124_1 := (HB.out.cell (World.block_lt_of_cell? w _ hx124_1)).trans hx124_1; replace hx124_0 := (cell_far (p := ⟨gb122, 0, none⟩) (by first | (rw [add_block]; exact hn124_0) | (show (Addr.add _ _).block ≠ _; rw [add_block]; exact hn124_0) | exact hn124_0) (.int .i64 ((rd_T61 (rd_L5 l0_1 x4_3) x5_4).f0))).trans hx124_0; replace hx124_1 := (cell_far (p := ⟨gb122, 0, none⟩) (by first | (rw [add_block]; exact hn124_0) | (show (Addr.add _ _).block ≠ _; rw [add_block]; exact hn124_0) | exact hn124_0) (.int .i64 ((rd_T61 (rd_L5 l0_1 x4_3) x5_4).f0))).trans hx124_1; replace hx124_0 := (cell_far (p := ⟨gb122, 1, none⟩) (by first | (rw [add_block]; exact hn124_1) | (show (Addr.add _ _).block ≠ _; rw [add_block]; exact hn124_1) | exact hn124_1) (.int .u8 ((rd_T61 (rd_L5 l0_1 x4_3) x5_4).f1))).trans hx124_0; replace hx124_1 := (cell_far (p := ⟨gb122, 1, none⟩) (by first | (rw [add_block]; exact hn124_1) | (show (Addr.add _ _).block ≠ _; rw [add_block]; exact hn124_1) | exact hn124_1) (.int .u8 ((rd_T61 (rd_L5 l0_1 x4_3) x5_4).f1))).trans hx124_1; (try have hy124_0 := fun (n_ : Nat) => (show ((((w51.drewN n_).setCell ⟨gb122, 0, none⟩ (.int .i64 ((rd_T61 (rd_L5 l0_1 x4_3) x5_4).f0))).setCell ⟨gb122, 1, none⟩ (.int .u8 ((rd_T61 (rd_L5 l0_1 x4_3) x5_4).f1)))).cell? _ = some _ from hx124_0)); (try have hy124_1 := fun (n_ : Nat) => (show ((((w51.drewN n_).setCell ⟨gb122, 0, none⟩ (.int .i64 ((rd_T61 (rd_L5 l0_1 x4_3) x5_4).f0))).setCell ⟨gb122, 1, none⟩ (.int .u8 ((rd_T61 (rd_L5 l0_1 x4_3) x5_4).f1)))).cell? _ = some _ from hx124_1)); clear hn124_0; clear hn124_1; replace p124 := eq_true p124; replace q124 := eq_true q124)))
                                              go_ret
                                              exact ⟨by first | rfl | (simp [errW_none, errW_some] <;> rfl) | (simp only [← hji46]; first | rfl | (simp [errW_none, errW_some] <;> rfl)) | (simp [*, errW_none, errW_some] <;> rfl), hbA HB.out⟩
                                            · rw [if_neg c49] at H
                                              have c49b0 : decide (((rd_T61 (rd_L5 l0_1 x4_3) x5_4).f0) ≤ ((rd_T61 (rd_L5 l0_1 x4_3) (ji46)).f0)) = false := decide_eq_false c49
                                              clear c49
                                              have H' := Aside0.mk H
                                              clear H
                                              obtain ⟨hcz55_0, hcz55_1, hcz55_2, hfz55_0, hfz55_1, hfz55_2⟩ := cell3 BK114
                                              have p119 : 0 ≤ (x4_3 : Int) := of_decide_eq_true asE
                                              have q119 : x4_3 < (l0_1.length : Int) := of_decide_eq_true asE
                                              obtain ⟨ad119, A119_0, c119_0, e119, hx119_0, hl119_0, hi119_0⟩ := at_L5 HR0_1.out x4_3 p119 q119
                                              cases e119
                                              replace hx119_0 := (HB.out.cell (World.block_lt_of_cell? w _ hx119_0)).trans hx119_0
                                              have HR119_0 := Aside0.mk hi119_0
                                              have HC119_0 := Aside0.mk hl119_0
                                              clear hi119_0 hl119_0
                                              replace p119 := eq_true p119
                                              replace q119 := eq_true q119
                                              have p120 : 0 ≤ (x4_3 : Int) := of_decide_eq_true asE
                                              have q120 : x4_3 < (l0_1.length : Int) := of_decide_eq_true asE
                                              obtain ⟨ad120, A120_0, c120_0, e120, hx120_0, hl120_0, hi120_0⟩ := at_L5 HR0_1.out x4_3 p120 q120
                                              obtain rfl : ad119 = ad120 := (by injection e120)
                                              replace hx120_0 := (HB.out.cell (World.block_lt_of_cell? w _ hx120_0)).trans hx120_0
                                              have HR120_0 := Aside0.mk hi120_0
                                              have HC120_0 := Aside0.mk hl120_0
                                              clear hi120_0 hl120_0
                                              replace p120 := eq_true p120
                                              replace q120 := eq_true q120
                                              have ea_ := Option.some.inj (hx119_0.symm.trans hx120_0)
                                              injection ea_ with ea_ en_ ec_
                                              subst ea_
                                              subst ec_
                                              clear en_
                                              have p121 : 0 ≤ (x5_4 : Int) := of_decide_eq_true asE
                                              have q121 : x5_4 < ((rd_L5 l0_1 x4_3).length : Int) := of_decide_eq_true asE
                                              obtain ⟨ad121, e121, hx121_0, hx121_1⟩ := at_T61 HR120_0.out x5_4 p121 q121
                                              cases e121
                                              replace hx121_0 := (HB.out.cell (World.block_lt_of_cell? w _ hx121_0)).trans hx121_0
                                              replace hx121_1 := (HB.out.cell (World.block_lt_of_cell? w _ hx121_1)).trans hx121_1
                                              replace p121 := eq_true p121
                                              replace q121 := eq_true q121
                                              go_wp2_with (first | ((with_reducible refine gD 6 rfl ?_); (try (refine gate_guard (by rfl) ?_; dsimp only)); refine bE 6 #[.int .i64 0, .int .u8 0] 61 ?_; intro gb122 hg w56 hbox hb; have BK122 := Aside0.mk (hbox); have GW122 := hbS HB hg; have GE122 := hbS HB hg; replace HB := hbB HB hb; have NB114_122 := neL BK114 hg; have NB122_114 := neG BK114 hg; replace BK114 := bkB BK114 hb; clear hb hbox hg; have hnb57 := NB122_114.out; have hnc57 := NB114_122.out; obtain ⟨hcz58_0, hcz58_1, hfz58_0, hfz58_1⟩ := cell2 BK122; obtain ⟨hcz59_0, hcz59_1, hcz59_2, hfz59_0, hfz59_1, hfz59_2⟩ := cell3 BK114; have p123 : 0 ≤ (x4_3 : Int) := of_decide_eq_true asE; have q123 : x4_3 < (l0_1.length : Int) := of_decide_eq_true asE; obtain ⟨ad123, A123_0, c123_0, e123, hx123_0, hl123_0, hi123_0⟩ := at_L5 HR0_1.out x4_3 p123 q123; obtain rfl : ad119 = ad123 := (by injection e123); have hn123_0 : ad119.block ≠ gb122 := Nat.ne_of_lt (Nat.lt_of_lt_of_le (by have := World.block_lt_of_cell? _ _ hx123_0; first | rwa [add_block] at this | exact this) GW122.out); have hn123_1 : ad119.block ≠ gb122 := Nat.ne_of_lt (Nat.lt_of_lt_of_le (by have := World.block_lt_of_cell? _ _ hx123_0; first | rwa [add_block] at this | exact this) GW122.out); replace hx123_0 := (HB.out.cell (World.block_lt_of_cell? w _ hx123_0)).trans hx123_0; have HR123_0 := Aside0.mk hi123_0; have HC123_0 := Aside0.mk hl123_0; clear hi123_0 hl123_0; replace hx123_0 := (cell_far (p := ⟨gb122, 0, none⟩) (by first | (rw [add_block]; exact hn123_0) | (show (Addr.add _ _).block ≠ _; rw [add_block]; exact hn123_0) | exact hn123_0) (.int .i64 ((rd_T61 (rd_L5 l0_1 x4_3) x5_4).f0))).trans hx123_0; replace hx123_0 := (cell_far (p := ⟨gb122, 1, none⟩) (by first | (rw [add_block]; exact hn123_1) | (show (Addr.add _ _).block ≠ _; rw [add_block]; exact hn123_1) | exact hn123_1) (.int .u8 ((rd_T61 (rd_L5 l0_1 x4_3) x5_4).f1))).trans hx123_0; (try have hy123_0 := fun (n_ : Nat) => (show ((((w56.drewN n_).setCell ⟨gb122, 0, none⟩ (.int .i64 ((rd_T61 (rd_L5 l0_1 x4_3) x5_4).f0))).setCell ⟨gb122, 1, none⟩ (.int .u8 ((rd_T61 (rd_L5 l0_1 x4_3) x5_4).f1)))).cell? _ = some _ from hx123_0)); clear hn123_0; clear hn123_1; replace p123 := eq_true p123; replace q123 := eq_true q123; have p124 : 0 ≤ ((ji46) : Int) := of_decide_eq_true asE; have q124 : (ji46) < ((rd_L5 l0_1 x4_3).length : Int) := of_decide_eq_true asE; obtain ⟨ad124, e124, hx124_0, hx124_1⟩ := at_T61 HR123_0.out (ji46) p124 q124; cases e124; have hn124_0 : ad124.block ≠ gb122 := Nat.ne_of_lt (Nat.lt_of_lt_of_le (by have := World.block_lt_of_cell? _ _ hx124_0; first | rwa [add_block] at this | exact this) GW122.out); have hn124_1 : ad124.block ≠ gb122 := Nat.ne_of_lt (Nat.lt_of_lt_of_le (by have := World.block_lt_of_cell? _ _ hx124_0; first | rwa [add_block] at this | exact this) GW122.out); replace hx124_0 := (HB.out.cell (World.block_lt_of_cell? w _ hx124_0)).trans hx124_0; replace hx124_1 := (HB.out.cell (World.block_lt_of_cell? w _ hx124_1)).trans hx124_1; replace hx124_0 := (cell_far (p := ⟨gb122, 0, none⟩) (by first | (rw [add_block]; exact hn124_0) | (show (Addr.add _ _).block ≠ _; rw [add_block]; exact hn124_0) | exact hn124_0) (.int .i64 ((rd_T61 (rd_L5 l0_1 x4_3) x5_4).f0))).trans hx124_0; replace hx124_1 := (cell_far (p := ⟨gb122, 0, none⟩) (by first | (rw [add_block]; exact hn124_0) | (show (Addr.add _ _).block ≠ _; rw [add_block]; exact hn124_0) | exact hn124_0) (.int .i64 ((rd_T61 (rd_L5 l0_1 x4_3) x5_4).f0))).trans hx124_1; replace hx124_0 := (cell_far (p := ⟨gb122, 1, none⟩) (by first | (rw [add_block]; exact hn124_1) | (show (Addr.add _ _).block ≠ _; rw [add_block]; exact hn124_1) | exact hn124_1) (.int .u8 ((rd_T61 (rd_L5 l0_1 x4_3) x5_4).f1))).trans hx124_0; replace hx124_1 := (cell_far (p := ⟨gb122, 1, none⟩) (by first | (rw [add_block]; exact hn124_1) | (show (Addr.add _ _).block ≠ _; rw [add_block]; exact hn124_1) | exact hn124_1) (.int .u8 ((rd_T61 (rd_L5 l0_1 x4_3) x5_4).f1))).trans hx124_1; (try have hy124_0 := fun (n_ : Nat) => (show ((((w56.drewN n_).setCell ⟨gb122, 0, none⟩ (.int .i64 ((rd_T61 (rd_L5 l0_1 x4_3) x5_4).f0))).setCell ⟨gb122, 1, none⟩ (.int .u8 ((rd_T61 (rd_L5 l0_1 x4_3) x5_4).f1)))).cell? _ = some _ from hx124_0)); (try have hy124_1 := fun (n_ : Nat) => (show ((((w56.drewN n_).setCell ⟨gb122, 0, none⟩ (.int .i64 ((rd_T61 (rd_L5 l0_1 x4_3) x5_4).f0))).setCell ⟨gb122, 1, none⟩ (.int .u8 ((rd_T61 (rd_L5 l0_1 x4_3) x5_4).f1)))).cell? _ = some _ from hx124_1)); clear hn124_0; clear hn124_1; replace p124 := eq_true p124; replace q124 := eq_true q124))
                                              repeat (go_quiet (first | ((with_reducible refine gate_dst (N := 6) rfl ?_); (try (refine gate_guard (by rfl) ?_; dsimp only)); refine box_event ?hg (N := 6) ?hd (cs := #[.int .i64 0, .int .u8 0]) (t := 61) ?hr ?_; (case hd => rfl); (case hg => rfl); (case hr => first | (go_simp; done) | (go_simp; rfl)); intro gb122 hg w56 hbox hb; have n0_ := Aside0.mk (blk_below (g := gb114) (o := .cells #[.slice A0_0 l0_0.length c0_0, .slice (some ad119) l0_1.length c0_1, .slice A0_2 l0_2.length c0_2] 25 (0, 0)) (bkA BK114.out) hb); have n1_ := Aside0.mk (below_step (hbA HB.out) hb); have n2_ := Aside0.mk (hbox); have n3_ := Aside0.mk ((by rw [hg]; exact (below_size (hbA HB.out)) : w.heap.size ≤ gb122)); have n4_ := Aside0.mk ((by rw [hg]; exact (below_size (hbA HB.out)) : w.heap.size ≤ gb122)); have n5_ := Aside0.mk ((by rw [hg]; exact Nat.ne_of_lt (blk_lt (g := gb114) (o := .cells #[.slice A0_0 l0_0.length c0_0, .slice (some ad119) l0_1.length c0_1, .slice A0_2 l0_2.length c0_2] 25 (0, 0)) (bkA BK114.out)) : gb114 ≠ gb122)); have n6_ := Aside0.mk ((by rw [hg]; exact Nat.ne_of_gt (blk_lt (g := gb114) (o := .cells #[.slice A0_0 l0_0.length c0_0, .slice (some ad119) l0_1.length c0_1, .slice A0_2 l0_2.length c0_2] 25 (0, 0)) (bkA BK114.out)) : gb122 ≠ gb114)); clear BK114; clear HB; have BK114 := n0_; have HB := n1_; have BK122 := n2_; have GW122 := n3_; have GE122 := n4_; have NB114_122 := n5_; have NB122_114 := n6_; clear n0_ n1_ n2_ n3_ n4_ n5_ n6_; clear hb hbox hg; have hnb57 := NB122_114.out; have hnc57 := NB114_122.out; have hcz58_0 : w56.cell? ⟨gb122, 0, none⟩ = some (.int .i64 0) := (blk_cell BK122.out 0).trans rfl; have hcz58_1 : w56.cell? ⟨gb122, 1, none⟩ = some (.int .u8 0) := (blk_cell BK122.out 1).trans rfl; have hfz58_0 := blk_frozen BK122.out 0; have hfz58_1 := blk_frozen BK122.out 1; have hcz59_0 : w56.cell? ⟨gb114, 0, none⟩ = some (.slice A0_0 l0_0.length c0_0) := (blk_cell BK114.out 0).trans rfl; have hcz59_1 : w56.cell? ⟨gb114, 1, none⟩ = some (.slice (some ad119) l0_1.length c0_1) := (blk_cell BK114.out 1).trans rfl; have hcz59_2 : w56.cell? ⟨gb114, 2, none⟩ = some (.slice A0_2 l0_2.length c0_2) := (blk_cell BK114.out 2).trans rfl; have hfz59_0 := blk_frozen BK114.out 0; have hfz59_1 := blk_frozen BK114.out 1; have hfz59_2 := blk_frozen BK114.out 2; have p123 : 0 ≤ (x4_3 : Int) := of_decide_eq_true asE; have q123 : x4_3 < (l0_1.length : Int) := of_decide_eq_true asE; obtain ⟨ad123, A123_0, c123_0, e123, hx123_0, hl123_0, hi123_0⟩ := at_L5 HR0_1.out x4_3 p123 q123; obtain rfl : ad119 = ad123 := (by injection e123); have hn123_0 : ad119.block ≠ gb122 := Nat.ne_of_lt (Nat.lt_of_lt_of_le (by have := World.block_lt_of_cell? _ _ hx123_0; first | rwa [add_block] at this | exact this) GW122.out); have hn123_1 : ad119.block ≠ gb122 := Nat.ne_of_lt (Nat.lt_of_lt_of_le (by have := World.block_lt_of_cell? _ _ hx123_0; first | rwa [add_block] at this | exact this) GW122.out); replace hx123_0 := (HB.out.cell (World.block_lt_of_cell? w _ hx123_0)).trans hx123_0; have HR123_0 := Aside0.mk hi123_0; have HC123_0 := Aside0.mk hl123_0; clear hi123_0 hl123_0; replace hx123_0 := (cell_far (p := ⟨gb122, 0, none⟩) (by first | (rw [add_block]; exact hn123_0) | (show (Addr.add _ _).block ≠ _; rw [add_block]; exact hn123_0) | exact hn123_0) (.int .i64 ((rd_T61 (rd_L5 l0_1 x4_3) x5_4).f0))).trans hx123_0; replace hx123_0 := (cell_far (p := ⟨gb122, 1, none⟩) (by first | (rw [add_block]; exact hn123_1) | (show (Addr.add _ _).block ≠ _; rw [add_block]; exact hn123_1) | exact hn123_1) (.int .u8 ((rd_T61 (rd_L5 l0_1 x4_3) x5_4).f1))).trans hx123_0; (try have hy123_0 := fun (n_ : Nat) => (show ((((w56.drewN n_).setCell ⟨gb122, 0, none⟩ (.int .i64 ((rd_T61 (rd_L5 l0_1 x4_3) x5_4).f0))).setCell ⟨gb122, 1, none⟩ (.int .u8 ((rd_T61 (rd_L5 l0_1 x4_3) x5_4).f1)))).cell? _ = some _ from hx123_0)); clear hn123_0; clear hn123_1; replace p123 := eq_true p123; replace q123 := eq_true q123; have p124 : 0 ≤ ((ji46) : Int) := of_decide_eq_true asE; have q124 : (ji46) < ((rd_L5 l0_1 x4_3).length : Int) := of_decide_eq_true asE; obtain ⟨ad124, e124, hx124_0, hx124_1⟩ := at_T61 HR123_0.out (ji46) p124 q124; cases e124; have hn124_0 : ad124.block ≠ gb122 := Nat.ne_of_lt (Nat.lt_of_lt_of_le (by have := World.block_lt_of_cell? _ _ hx124_0; first | rwa [add_block] at this | exact this) GW122.out); have hn124_1 : ad124.block ≠ gb122 := Nat.ne_of_lt (Nat.lt_of_lt_of_le (by have := World.block_lt_of_cell? _ _ hx124_0; first | rwa [add_block] at this | exact this) GW122.out); replace hx124_0 := (HB.out.cell (World.block_lt_of_cell? w _ hx124_0)).trans hx124_0; replace hx124_1 := (HB.out.cell (World.block_lt_of_cell? w _ hx124_1)).trans hx124_1; replace hx124_0 := (cell_far (p := ⟨gb122, 0, none⟩) (by first | (rw [add_block]; exact hn124_0) | (show (Addr.add _ _).block ≠ _; rw [add_block]; exact hn124_0) | exact hn124_0) (.int .i64 ((rd_T61 (rd_L5 l0_1 x4_3) x5_4).f0))).trans hx124_0; replace hx124_1 := (cell_far (p := ⟨gb122, 0, none⟩) (by first | (rw [add_block]; exact hn124_0) | (show (Addr.add _ _).block ≠ _; rw [add_block]; exact hn124_0) | exact hn124_0) (.int .i64 ((rd_T61 (rd_L5 l0_1 x4_3) x5_4).f0))).trans hx124_1; replace hx124_0 := (cell_far (p := ⟨gb122, 1, none⟩) (by first | (rw [add_block]; exact hn124_1) | (show (Addr.add _ _).block ≠ _; rw [add_block]; exact hn124_1) | exact hn124_1) (.int .u8 ((rd_T61 (rd_L5 l0_1 x4_3) x5_4).f1))).trans hx124_0; replace hx124_1 := (cell_far (p := ⟨gb122, 1, none⟩) (by first | (rw [add_block]; exact hn124_1) | (show (Addr.add _ _).block ≠ _; rw [add_block]; exact hn124_1) | exact hn124_1) (.int .u8 ((rd_T61 (rd_L5 l0_1 x4_3) x5_4).f1))).trans hx124_1; (try have hy124_0 := fun (n_ : Nat) => (show ((((w56.drewN n_).setCell ⟨gb122, 0, none⟩ (.int .i64 ((rd_T61 (rd_L5 l0_1 x4_3) x5_4).f0))).setCell ⟨gb122, 1, none⟩ (.int .u8 ((rd_T61 (rd_L5 l0_1 x4_3) x5_4).f1)))).cell? _ = some _ from hx124_0)); (try have hy124_1 := fun (n_ : Nat) => (show ((((w56.drewN n_).setCell ⟨gb122, 0, none⟩ (.int .i64 ((rd_T61 (rd_L5 l0_1 x4_3) x5_4).f0))).setCell ⟨gb122, 1, none⟩ (.int .u8 ((rd_T61 (rd_L5 l0_1 x4_3) x5_4).f1)))).cell? _ = some _ from hx124_1)); clear hn124_0; clear hn124_1; replace p124 := eq_true p124; replace q124 := eq_true q124)); try go_wp2_with (first | ((with_reducible refine gate_dst (N := 6) rfl ?_); (try (refine gate_guard (by rfl) ?_; dsimp only)); refine box_event ?hg (N := 6) ?hd (cs := #[.int .i64 0, .int .u8 0]) (t := 61) ?hr ?_; (case hd => rfl); (case hg => rfl); (case hr => first | (go_simp; done) | (go_simp; rfl)); intro gb122 hg w56 hbox hb; have n0_ := Aside0.mk (blk_below (g := gb114) (o := .cells #[.slice A0_0 l0_0.length c0_0, .slice (some ad119) l0_1.length c0_1, .slice A0_2 l0_2.length c0_2] 25 (0, 0)) (bkA BK114.out) hb); have n1_ := Aside0.mk (below_step (hbA HB.out) hb); have n2_ := Aside0.mk (hbox); have n3_ := Aside0.mk ((by rw [hg]; exact (below_size (hbA HB.out)) : w.heap.size ≤ gb122)); have n4_ := Aside0.mk ((by rw [hg]; exact (below_size (hbA HB.out)) : w.heap.size ≤ gb122)); have n5_ := Aside0.mk ((by rw [hg]; exact Nat.ne_of_lt (blk_lt (g := gb114) (o := .cells #[.slice A0_0 l0_0.length c0_0, .slice (some ad119) l0_1.length c0_1, .slice A0_2 l0_2.length c0_2] 25 (0, 0)) (bkA BK114.out)) : gb114 ≠ gb122)); have n6_ := Aside0.mk ((by rw [hg]; exact Nat.ne_of_gt (blk_lt (g := gb114) (o := .cells #[.slice A0_0 l0_0.length c0_0, .slice (some ad119) l0_1.length c0_1, .slice A0_2 l0_2.length c0_2] 25 (0, 0)) (bkA BK114.out)) : gb122 ≠ gb114)); clear BK114; clear HB; have BK114 := n0_; have HB := n1_; have BK122 := n2_; have GW122 := n3_; have GE122 := n4_; have NB114_122 := n5_; have NB122_114 := n6_; clear n0_ n1_ n2_ n3_ n4_ n5_ n6_; clear hb hbox hg; have hnb57 := NB122_114.out; have hnc57 := NB114_122.out; have hcz58_0 : w56.cell? ⟨gb122, 0, none⟩ = some (.int .i64 0) := (blk_cell BK122.out 0).trans rfl; have hcz58_1 : w56.cell? ⟨gb122, 1, none⟩ = some (.int .u8 0) := (blk_cell BK122.out 1).trans rfl; have hfz58_0 := blk_frozen BK122.out 0; have hfz58_1 := blk_frozen BK122.out 1; have hcz59_0 : w56.cell? ⟨gb114, 0, none⟩ = some (.slice A0_0 l0_0.length c0_0) := (blk_cell BK114.out 0).trans rfl; have hcz59_1 : w56.cell? ⟨gb114, 1, none⟩ = some (.slice (some ad119) l0_1.length c0_1) := (blk_cell BK114.out 1).trans rfl; have hcz59_2 : w56.cell? ⟨gb114, 2, none⟩ = some (.slice A0_2 l0_2.length c0_2) := (blk_cell BK114.out 2).trans rfl; have hfz59_0 := blk_frozen BK114.out 0; have hfz59_1 := blk_frozen BK114.out 1; have hfz59_2 := blk_frozen BK114.out 2; have p123 : 0 ≤ (x4_3 : Int) := of_decide_eq_true asE; have q123 : x4_3 < (l0_1.length : Int) := of_decide_eq_true asE; obtain ⟨ad123, A123_0, c123_0, e123, hx123_0, hl123_0, hi123_0⟩ := at_L5 HR0_1.out x4_3 p123 q123; obtain rfl : ad119 = ad123 := (by injection e123); have hn123_0 : ad119.block ≠ gb122 := Nat.ne_of_lt (Nat.lt_of_lt_of_le (by have := World.block_lt_of_cell? _ _ hx123_0; first | rwa [add_block] at this | exact this) GW122.out); have hn123_1 : ad119.block ≠ gb122 := Nat.ne_of_lt (Nat.lt_of_lt_of_le (by have := World.block_lt_of_cell? _ _ hx123_0; first | rwa [add_block] at this | exact this) GW122.out); replace hx123_0 := (HB.out.cell (World.block_lt_of_cell? w _ hx123_0)).trans hx123_0; have HR123_0 := Aside0.mk hi123_0; have HC123_0 := Aside0.mk hl123_0; clear hi123_0 hl123_0; replace hx123_0 := (cell_far (p := ⟨gb122, 0, none⟩) (by first | (rw [add_block]; exact hn123_0) | (show (Addr.add _ _).block ≠ _; rw [add_block]; exact hn123_0) | exact hn123_0) (.int .i64 ((rd_T61 (rd_L5 l0_1 x4_3) x5_4).f0))).trans hx123_0; replace hx123_0 := (cell_far (p := ⟨gb122, 1, none⟩) (by first | (rw [add_block]; exact hn123_1) | (show (Addr.add _ _).block ≠ _; rw [add_block]; exact hn123_1) | exact hn123_1) (.int .u8 ((rd_T61 (rd_L5 l0_1 x4_3) x5_4).f1))).trans hx123_0; (try have hy123_0 := fun (n_ : Nat) => (show ((((w56.drewN n_).setCell ⟨gb122, 0, none⟩ (.int .i64 ((rd_T61 (rd_L5 l0_1 x4_3) x5_4).f0))).setCell ⟨gb122, 1, none⟩ (.int .u8 ((rd_T61 (rd_L5 l0_1 x4_3) x5_4).f1)))).cell? _ = some _ from hx123_0)); clear hn123_0; clear hn123_1; replace p123 := eq_true p123; replace q123 := eq_true q123; have p124 : 0 ≤ ((ji46) : Int) := of_decide_eq_true asE; have q124 : (ji46) < ((rd_L5 l0_1 x4_3).length : Int) := of_decide_eq_true asE; obtain ⟨ad124, e124, hx124_0, hx124_1⟩ := at_T61 HR123_0.out (ji46) p124 q124; cases e124; have hn124_0 : ad124.block ≠ gb122 := Nat.ne_of_lt (Nat.lt_of_lt_of_le (by have := World.block_lt_of_cell? _ _ hx124_0; first | rwa [add_block] at this | exact this) GW122.out); have hn124_1 : ad124.block ≠ gb122 := Nat.ne_of_lt (Nat.lt_of_lt_of_le (by have := World.block_lt_of_cell? _ _ hx124_0; first | rwa [add_block] at this | exact this) GW122.out); replace hx124_0 := (HB.out.cell (World.block_lt_of_cell? w _ hx124_0)).trans hx124_0; replace hx124_1 := (HB.out.cell (World.block_lt_of_cell? w _ hx124_1)).trans hx124_1; replace hx124_0 := (cell_far (p := ⟨gb122, 0, none⟩) (by first | (rw [add_block]; exact hn124_0) | (show (Addr.add _ _).block ≠ _; rw [add_block]; exact hn124_0) | exact hn124_0) (.int .i64 ((rd_T61 (rd_L5 l0_1 x4_3) x5_4).f0))).trans hx124_0; replace hx124_1 := (cell_far (p := ⟨gb122, 0, none⟩) (by first | (rw [add_block]; exact hn124_0) | (show (Addr.add _ _).block ≠ _; rw [add_block]; exact hn124_0) | exact hn124_0) (.int .i64 ((rd_T61 (rd_L5 l0_1 x4_3) x5_4).f0))).trans hx124_1; replace hx124_0 := (cell_far (p := ⟨gb122, 1, none⟩) (by first | (rw [add_block]; exact hn124_1) | (show (Addr.add _ _).block ≠ _; rw [add_block]; exact hn124_1) | exact hn124_1) (.int .u8 ((rd_T61 (rd_L5 l0_1 x4_3) x5_4).f1))).trans hx124_0; replace hx124_1 := (cell_far (p := ⟨gb122, 1, none⟩) (by first | (rw [add_block]; exact hn124_1) | (show (Addr.add _ _).block ≠ _; rw [add_block]; exact hn124_1) | exact hn124_1) (.int .u8 ((rd_T61 (rd_L5 l0_1 x4_3) x5_4).f1))).trans hx124_1; (try have hy124_0 := fun (n_ : Nat) => (show ((((w56.drewN n_).setCell ⟨gb122, 0, none⟩ (.int .i64 ((rd_T61 (rd_L5 l0_1 x4_3) x5_4).f0))).setCell ⟨gb122, 1, none⟩ (.int .u8 ((rd_T61 (rd_L5 l0_1 x4_3) x5_4).f1)))).cell? _ = some _ from hx124_0)); (try have hy124_1 := fun (n_ : Nat) => (show ((((w56.drewN n_).setCell ⟨gb122, 0, none⟩ (.int .i64 ((rd_T61 (rd_L5 l0_1 x4_3) x5_4).f0))).setCell ⟨gb122, 1, none⟩ (.int .u8 ((rd_T61 (rd_L5 l0_1 x4_3) x5_4).f1)))).cell? _ = some _ from hx124_1)); clear hn124_0; clear hn124_1; replace p124 := eq_true p124; replace q124 := eq_true q124)))
                                              go_roundg k4
                                              case measure => have := HJ1.out; have := HK2.out; have := HK3.out; have := HK4.out; omega
                                              case rel => exact ⟨(wrap64 (x5_4 + 1)), rsE, H', ⟨by have := HJ1.out; have := HK2.out; have := HK3.out; have := HK4.out; omega⟩, ⟨by refine bkR ?_; refine blk_far ?_ NB114_122.out _; refine bkR ?_; refine blk_far ?_ NB114_122.out _; refine bkR ?_; exact BK114.out⟩, ⟨hbA HB.out⟩⟩
                                          · rw [if_neg c48] at H
                                            exact absurd H (by simp)
                                        · rw [if_neg c47] at H
                                          exact absurd H (by simp)
                                      · rw [if_neg c45] at H
                                        have c45b0 : decide (0 < x5_4) = false := decide_eq_false c45
                                        clear c45
                                        have H' := Aside0.mk H
                                        clear H
                                        obtain ⟨hcz60_0, hcz60_1, hcz60_2, hfz60_0, hfz60_1, hfz60_2⟩ := cell3 BK114
                                        have p119 : 0 ≤ (x4_3 : Int) := of_decide_eq_true asE
                                        have q119 : x4_3 < (l0_1.length : Int) := of_decide_eq_true asE
                                        obtain ⟨ad119, A119_0, c119_0, e119, hx119_0, hl119_0, hi119_0⟩ := at_L5 HR0_1.out x4_3 p119 q119
                                        cases e119
                                        replace hx119_0 := (HB.out.cell (World.block_lt_of_cell? w _ hx119_0)).trans hx119_0
                                        have HR119_0 := Aside0.mk hi119_0
                                        have HC119_0 := Aside0.mk hl119_0
                                        clear hi119_0 hl119_0
                                        replace p119 := eq_true p119
                                        replace q119 := eq_true q119
                                        have p120 : 0 ≤ (x4_3 : Int) := of_decide_eq_true asE
                                        have q120 : x4_3 < (l0_1.length : Int) := of_decide_eq_true asE
                                        obtain ⟨ad120, A120_0, c120_0, e120, hx120_0, hl120_0, hi120_0⟩ := at_L5 HR0_1.out x4_3 p120 q120
                                        obtain rfl : ad119 = ad120 := (by injection e120)
                                        replace hx120_0 := (HB.out.cell (World.block_lt_of_cell? w _ hx120_0)).trans hx120_0
                                        have HR120_0 := Aside0.mk hi120_0
                                        have HC120_0 := Aside0.mk hl120_0
                                        clear hi120_0 hl120_0
                                        replace p120 := eq_true p120
                                        replace q120 := eq_true q120
                                        have ea_ := Option.some.inj (hx119_0.symm.trans hx120_0)
                                        injection ea_ with ea_ en_ ec_
                                        subst ea_
                                        subst ec_
                                        clear en_
                                        have p121 : 0 ≤ (x5_4 : Int) := of_decide_eq_true asE
                                        have q121 : x5_4 < ((rd_L5 l0_1 x4_3).length : Int) := of_decide_eq_true asE
                                        obtain ⟨ad121, e121, hx121_0, hx121_1⟩ := at_T61 HR120_0.out x5_4 p121 q121
                                        cases e121
                                        replace hx121_0 := (HB.out.cell (World.block_lt_of_cell? w _ hx121_0)).trans hx121_0
                                        replace hx121_1 := (HB.out.cell (World.block_lt_of_cell? w _ hx121_1)).trans hx121_1
                                        replace p121 := eq_true p121
                                        replace q121 := eq_true q121
                                        go_wp2_with (first | ((with_reducible refine gD 6 rfl ?_); (try (refine gate_guard (by rfl) ?_; dsimp only)); refine bE 6 #[.int .i64 0, .int .u8 0] 61 ?_; intro gb122 hg w61 hbox hb; have BK122 := Aside0.mk (hbox); have GW122 := hbS HB hg; have GE122 := hbS HB hg; replace HB := hbB HB hb; have NB114_122 := neL BK114 hg; have NB122_114 := neG BK114 hg; replace BK114 := bkB BK114 hb; clear hb hbox hg; have hnb62 := NB122_114.out; have hnc62 := NB114_122.out; obtain ⟨hcz63_0, hcz63_1, hfz63_0, hfz63_1⟩ := cell2 BK122; obtain ⟨hcz64_0, hcz64_1, hcz64_2, hfz64_0, hfz64_1, hfz64_2⟩ := cell3 BK114))
                                        repeat (go_quiet (first | ((with_reducible refine gate_dst (N := 6) rfl ?_); (try (refine gate_guard (by rfl) ?_; dsimp only)); refine box_event ?hg (N := 6) ?hd (cs := #[.int .i64 0, .int .u8 0]) (t := 61) ?hr ?_; (case hd => rfl); (case hg => rfl); (case hr => first | (go_simp; done) | (go_simp; rfl)); intro gb122 hg w61 hbox hb; have n0_ := Aside0.mk (blk_below (g := gb114) (o := .cells #[.slice A0_0 l0_0.length c0_0, .slice (some ad119) l0_1.length c0_1, .slice A0_2 l0_2.length c0_2] 25 (0, 0)) (bkA BK114.out) hb); have n1_ := Aside0.mk (below_step (hbA HB.out) hb); have n2_ := Aside0.mk (hbox); have n3_ := Aside0.mk ((by rw [hg]; exact (below_size (hbA HB.out)) : w.heap.size ≤ gb122)); have n4_ := Aside0.mk ((by rw [hg]; exact (below_size (hbA HB.out)) : w.heap.size ≤ gb122)); have n5_ := Aside0.mk ((by rw [hg]; exact Nat.ne_of_lt (blk_lt (g := gb114) (o := .cells #[.slice A0_0 l0_0.length c0_0, .slice (some ad119) l0_1.length c0_1, .slice A0_2 l0_2.length c0_2] 25 (0, 0)) (bkA BK114.out)) : gb114 ≠ gb122)); have n6_ := Aside0.mk ((by rw [hg]; exact Nat.ne_of_gt (blk_lt (g := gb114) (o := .cells #[.slice A0_0 l0_0.length c0_0, .slice (some ad119) l0_1.length c0_1, .slice A0_2 l0_2.length c0_2] 25 (0, 0)) (bkA BK114.out)) : gb122 ≠ gb114)); clear BK114; clear HB; have BK114 := n0_; have HB := n1_; have BK122 := n2_; have GW122 := n3_; have GE122 := n4_; have NB114_122 := n5_; have NB122_114 := n6_; clear n0_ n1_ n2_ n3_ n4_ n5_ n6_; clear hb hbox hg; have hnb62 := NB122_114.out; have hnc62 := NB114_122.out; have hcz63_0 : w61.cell? ⟨gb122, 0, none⟩ = some (.int .i64 0) := (blk_cell BK122.out 0).trans rfl; have hcz63_1 : w61.cell? ⟨gb122, 1, none⟩ = some (.int .u8 0) := (blk_cell BK122.out 1).trans rfl; have hfz63_0 := blk_frozen BK122.out 0; have hfz63_1 := blk_frozen BK122.out 1; have hcz64_0 : w61.cell? ⟨gb114, 0, none⟩ = some (.slice A0_0 l0_0.length c0_0) := (blk_cell BK114.out 0).trans rfl; have hcz64_1 : w61.cell? ⟨gb114, 1, none⟩ = some (.slice (some ad119) l0_1.length c0_1) := (blk_cell BK114.out 1).trans rfl; have hcz64_2 : w61.cell? ⟨gb114, 2, none⟩ = some (.slice A0_2 l0_2.length c0_2) := (blk_cell BK114.out 2).trans rfl; have hfz64_0 := blk_frozen BK114.out 0; have hfz64_1 := blk_frozen BK114.out 1; have hfz64_2 := blk_frozen BK114.out 2)); try go_wp2_with (first | ((with_reducible refine gate_dst (N := 6) rfl ?_); (try (refine gate_guard (by rfl) ?_; dsimp only)); refine box_event ?hg (N := 6) ?hd (cs := #[.int .i64 0, .int .u8 0]) (t := 61) ?hr ?_; (case hd => rfl); (case hg => rfl); (case hr => first | (go_simp; done) | (go_simp; rfl)); intro gb122 hg w61 hbox hb; have n0_ := Aside0.mk (blk_below (g := gb114) (o := .cells #[.slice A0_0 l0_0.length c0_0, .slice (some ad119) l0_1.length c0_1, .slice A0_2 l0_2.length c0_2] 25 (0, 0)) (bkA BK114.out) hb); have n1_ := Aside0.mk (below_step (hbA HB.out) hb); have n2_ := Aside0.mk (hbox); have n3_ := Aside0.mk ((by rw [hg]; exact (below_size (hbA HB.out)) : w.heap.size ≤ gb122)); have n4_ := Aside0.mk ((by rw [hg]; exact (below_size (hbA HB.out)) : w.heap.size ≤ gb122)); have n5_ := Aside0.mk ((by rw [hg]; exact Nat.ne_of_lt (blk_lt (g := gb114) (o := .cells #[.slice A0_0 l0_0.length c0_0, .slice (some ad119) l0_1.length c0_1, .slice A0_2 l0_2.length c0_2] 25 (0, 0)) (bkA BK114.out)) : gb114 ≠ gb122)); have n6_ := Aside0.mk ((by rw [hg]; exact Nat.ne_of_gt (blk_lt (g := gb114) (o := .cells #[.slice A0_0 l0_0.length c0_0, .slice (some ad119) l0_1.length c0_1, .slice A0_2 l0_2.length c0_2] 25 (0, 0)) (bkA BK114.out)) : gb122 ≠ gb114)); clear BK114; clear HB; have BK114 := n0_; have HB := n1_; have BK122 := n2_; have GW122 := n3_; have GE122 := n4_; have NB114_122 := n5_; have NB122_114 := n6_; clear n0_ n1_ n2_ n3_ n4_ n5_ n6_; clear hb hbox hg; have hnb62 := NB122_114.out; have hnc62 := NB114_122.out; have hcz63_0 : w61.cell? ⟨gb122, 0, none⟩ = some (.int .i64 0) := (blk_cell BK122.out 0).trans rfl; have hcz63_1 : w61.cell? ⟨gb122, 1, none⟩ = some (.int .u8 0) := (blk_cell BK122.out 1).trans rfl; have hfz63_0 := blk_frozen BK122.out 0; have hfz63_1 := blk_frozen BK122.out 1; have hcz64_0 : w61.cell? ⟨gb114, 0, none⟩ = some (.slice A0_0 l0_0.length c0_0) := (blk_cell BK114.out 0).trans rfl; have hcz64_1 : w61.cell? ⟨gb114, 1, none⟩ = some (.slice (some ad119) l0_1.length c0_1) := (blk_cell BK114.out 1).trans rfl; have hcz64_2 : w61.cell? ⟨gb114, 2, none⟩ = some (.slice A0_2 l0_2.length c0_2) := (blk_cell BK114.out 2).trans rfl; have hfz64_0 := blk_frozen BK114.out 0; have hfz64_1 := blk_frozen BK114.out 1; have hfz64_2 := blk_frozen BK114.out 2)))
                                        go_roundg k4
                                        case measure => have := HJ1.out; have := HK2.out; have := HK3.out; have := HK4.out; omega
                                        case rel => exact ⟨(wrap64 (x5_4 + 1)), rsE, H', ⟨by have := HJ1.out; have := HK2.out; have := HK3.out; have := HK4.out; omega⟩, ⟨by refine bkR ?_; refine blk_far ?_ NB114_122.out _; refine bkR ?_; refine blk_far ?_ NB114_122.out _; refine bkR ?_; exact BK114.out⟩, ⟨hbA HB.out⟩⟩
                              · rw [if_neg c28] at H
                                exact absurd H (by simp)
                            · rw [if_neg c27] at H
                              have c27b0 : decide (x5_4 < ((rd_L5 l0_1 x4_3).length : Int)) = false := decide_eq_false c27
                              clear c27
                              have H' := Aside0.mk H
                              clear H
                              obtain ⟨hcz65_0, hcz65_1, hcz65_2, hfz65_0, hfz65_1, hfz65_2⟩ := cell3 BK114
                              have p119 : 0 ≤ (x4_3 : Int) := of_decide_eq_true asE
                              have q119 : x4_3 < (l0_1.length : Int) := of_decide_eq_true asE
                              obtain ⟨ad119, A119_0, c119_0, e119, hx119_0, hl119_0, hi119_0⟩ := at_L5 HR0_1.out x4_3 p119 q119
                              cases e119
                              replace hx119_0 := (HB.out.cell (World.block_lt_of_cell? w _ hx119_0)).trans hx119_0
                              have HR119_0 := Aside0.mk hi119_0
                              have HC119_0 := Aside0.mk hl119_0
                              clear hi119_0 hl119_0
                              replace p119 := eq_true p119
                              replace q119 := eq_true q119
                              go_wp2
                              repeat (go_quiet (fail); try go_wp2)
                              go_roundg k4
                              case measure => have := HJ1.out; have := HK2.out; have := HK3.out; have := HK4.out; omega
                              case rel => exact ⟨(wrap64 (x4_3 + 1)), rsE, H', ⟨by have := HJ1.out; have := HK2.out; have := HK3.out; have := HK4.out; omega⟩, ⟨bkA BK114.out⟩, ⟨hbA HB.out⟩⟩
                          · rw [if_neg c26] at H
                            exact absurd H (by simp)
                        · rw [if_neg c25] at H
                          exact absurd H (by simp)
                  · rw [if_neg c23] at H
                    have c23b0 : decide (x4_3 < (l0_1.length : Int)) = false := decide_eq_false c23
                    clear c23
                    have H' := Aside0.mk H
                    clear H
                    obtain ⟨hcz66_0, hcz66_1, hcz66_2, hfz66_0, hfz66_1, hfz66_2⟩ := cell3 BK114
                    go_wp2
                    repeat (go_quiet (fail); try go_wp2)
                    go_loopg [7] k3 (fun kq v7 w' => ∃ (x7_4 : Int), v7 = .int .i64 x7_4 ∧ Aside0 (recoupref21_May.l3 kq x7_4 l0_0 l0_1 l0_2 = some r) ∧ Aside0 (kq ≤ k3) ∧ Aside0 (w'.heap[gb114]? = some (.cells #[(.slice A0_0 l0_0.length c0_0), (.slice A0_1 l0_1.length c0_1), (.slice A0_2 l0_2.length c0_2)] 25 (0, 0))) ∧ Aside0 (Below w.heap.size w w'))
                    case atStart => exact ⟨(0), rsE, H', ⟨Nat.le_refl _⟩, ⟨bkA BK114.out⟩, ⟨hbA HB.out⟩⟩
                    case round =>
                      clear H'
                      (try clear c1); (try clear p1 p1); (try clear q1 q1); (try clear hx1); (try clear c2); (try clear p2 p2); (try clear c3); (try clear c4); (try clear c4b0); (try clear c4b1); (try clear c5); (try clear c6); (try clear p6 p6); (try clear c7); (try clear c8); (try clear c8b0); (try clear c9); (try clear c9b0); (try clear c10); (try clear c10b0); (try clear c11); (try clear p11 p11); (try clear q11 q11); (try clear hx11); (try clear c12); (try clear c12b0); (try clear p12); (try clear q12); (try clear hx12); (try clear c14); (try clear c14b0); (try clear c16); (try clear c16b0); (try clear c17); (try clear c17b0); (try clear c18); (try clear c18b0); (try clear c23); (try clear c23b0); (try clear c25); (try clear c25b0); (try clear c26); (try clear c26b0); (try clear c27); (try clear c27b0); (try clear c28); (try clear c28b0); (try clear c29); (try clear c29b0); (try clear c29b1); (try clear c32); (try clear c34); (try clear c34b0); (try clear c37); (try clear c39); (try clear c39b0); (try clear c42); (try clear c45); (try clear c45b0); (try clear c47); (try clear c47b0); (try clear c48); (try clear c48b0); (try clear c49); (try clear c49b0); (try clear c52); (try clear c57); (try clear c62); (try clear p64); (try clear hcz11_0 hcz11_1 hcz11_2 hfz11_0 hfz11_1 hfz11_2); (try clear hcz13_0 hcz13_1 hcz13_2 hfz13_0 hfz13_1 hfz13_2); (try clear hcz19_0 hcz19_1 hcz19_2 hfz19_0 hfz19_1 hfz19_2); (try clear hcz20_0 hcz20_1 hcz20_2 hfz20_0 hfz20_1 hfz20_2); (try clear hcz21_0 hcz21_1 hcz21_2 hfz21_0 hfz21_1 hfz21_2); (try clear hcz22_0 hcz22_1 hcz22_2 hfz22_0 hfz22_1 hfz22_2); (try clear hcz24_0 hcz24_1 hcz24_2 hfz24_0 hfz24_1 hfz24_2); (try clear hcz30_0 hcz30_1 hcz30_2 hfz30_0 hfz30_1 hfz30_2); (try clear hcz33_0 hcz33_1 hfz33_0 hfz33_1); (try clear hcz35_0 hcz35_1 hcz35_2 hfz35_0 hfz35_1 hfz35_2); (try clear hcz38_0 hcz38_1 hfz38_0 hfz38_1); (try clear hcz40_0 hcz40_1 hcz40_2 hfz40_0 hfz40_1 hfz40_2); (try clear hcz43_0 hcz43_1 hfz43_0 hfz43_1); (try clear hcz44_0 hcz44_1 hcz44_2 hfz44_0 hfz44_1 hfz44_2); (try clear hcz50_0 hcz50_1 hcz50_2 hfz50_0 hfz50_1 hfz50_2); (try clear hcz53_0 hcz53_1 hfz53_0 hfz53_1); (try clear hcz54_0 hcz54_1 hcz54_2 hfz54_0 hfz54_1 hfz54_2); (try clear hcz55_0 hcz55_1 hcz55_2 hfz55_0 hfz55_1 hfz55_2); (try clear hcz58_0 hcz58_1 hfz58_0 hfz58_1); (try clear hcz59_0 hcz59_1 hcz59_2 hfz59_0 hfz59_1 hfz59_2); (try clear hcz5_0 hcz5_1 hcz5_2 hfz5_0 hfz5_1 hfz5_2); (try clear hcz60_0 hcz60_1 hcz60_2 hfz60_0 hfz60_1 hfz60_2); (try clear hcz63_0 hcz63_1 hfz63_0 hfz63_1); (try clear hcz64_0 hcz64_1 hcz64_2 hfz64_0 hfz64_1 hfz64_2); (try clear hcz65_0 hcz65_1 hcz65_2 hfz65_0 hfz65_1 hfz65_2); (try clear hcz66_0 hcz66_1 hcz66_2 hfz66_0 hfz66_1 hfz66_2); (try clear hcz6_0 hcz6_1 hcz6_2 hfz6_0 hfz6_1 hfz6_2); (try clear hx115_0); (try clear hx116_0); (try clear hx117_0); (try clear hx118_0); (try clear hx119_0); (try clear hx120_0); (try clear hx121_0); (try clear hx121_1); (try clear hx123_0); (try clear hx124_0); (try clear hx124_1); (try clear p115); (try clear p116); (try clear p117); (try clear p118); (try clear p119); (try clear p120); (try clear p121); (try clear p123); (try clear p124); (try clear q115); (try clear q116); (try clear q117); (try clear q118); (try clear q119); (try clear q120); (try clear q121); (try clear q123); (try clear q124)
                      obtain ⟨x7_4, rfl, HA, HK4, BK114, HB⟩ := hrel
                      cases gk with
                      | zero => exact absurd HA.out (by simp [recoupref21_May.l3])
                      | succ k4 =>
                        have H := HA.out
                        clear HA
                        simp only [recoupref21_May.l3] at H
                        by_cases c67 : x7_4 < (l0_2.length : Int)
                        · rw [if_pos c67] at H
                          have c67b0 : decide (x7_4 < (l0_2.length : Int)) = true := decide_eq_true c67
                          clear c67
                          by_cases c68 : 0 ≤ x7_4
                          · rw [if_pos c68] at H
                            have c68b0 : decide (0 ≤ x7_4) = true := decide_eq_true c68
                            clear c68
                            by_cases c69 : (rd l0_2 x7_4) < 0
                            · rw [if_pos c69] at H
                              have c69b0 : decide ((rd l0_2 x7_4) < 0) = true := decide_eq_true c69
                              clear c69
                              obtain rfl := Option.some.inj H
                              obtain ⟨hcz70_0, hcz70_1, hcz70_2, hfz70_0, hfz70_1, hfz70_2⟩ := cell3 BK114
                              have p125 : 0 ≤ (x7_4 : Int) := of_decide_eq_true asE
                              have q125 : x7_4 < (l0_2.length : Int) := of_decide_eq_true asE
                              obtain ⟨ad125, e125, hx125_0⟩ := Kd.at_int HR0_2.out x7_4 p125 q125
                              cases e125
                              replace hx125_0 := (HB.out.cell (World.block_lt_of_cell? w _ hx125_0)).trans hx125_0
                              replace p125 := eq_true p125
                              replace q125 := eq_true q125
                              go_wp2
                              repeat (go_quiet (fail); try go_wp2)
                              go_ret
                              exact ⟨rfE, hbA HB.out⟩
                            · rw [if_neg c69] at H
                              have c69b0 : decide ((rd l0_2 x7_4) < 0) = false := decide_eq_false c69
                              clear c69
                              by_cases c71 : (rd l0_2 x7_4) ≥ (wrap64 ((l0_0.length : Int) + (l0_1.length : Int)))
                              · rw [if_pos c71] at H
                                have c71b0 : decide ((wrap64 ((l0_0.length : Int) + (l0_1.length : Int))) ≤ (rd l0_2 x7_4)) = true := decide_eq_true c71
                                clear c71
                                obtain rfl := Option.some.inj H
                                obtain ⟨hcz72_0, hcz72_1, hcz72_2, hfz72_0, hfz72_1, hfz72_2⟩ := cell3 BK114
                                have p125 : 0 ≤ (x7_4 : Int) := of_decide_eq_true asE
                                have q125 : x7_4 < (l0_2.length : Int) := of_decide_eq_true asE
                                obtain ⟨ad125, e125, hx125_0⟩ := Kd.at_int HR0_2.out x7_4 p125 q125
                                cases e125
                                replace hx125_0 := (HB.out.cell (World.block_lt_of_cell? w _ hx125_0)).trans hx125_0
                                replace p125 := eq_true p125
                                replace q125 := eq_true q125
                                have p126 : 0 ≤ (x7_4 : Int) := of_decide_eq_true asE
                                have q126 : x7_4 < (l0_2.length : Int) := of_decide_eq_true asE
                                obtain ⟨ad126, e126, hx126_0⟩ := Kd.at_int HR0_2.out x7_4 p126 q126
                                obtain rfl : ad125 = ad126 := (by injection e126)
                                replace hx126_0 := (HB.out.cell (World.block_lt_of_cell? w _ hx126_0)).trans hx126_0
                                replace p126 := eq_true p126
                                replace q126 := eq_true q126
                                go_wp2
                                repeat (go_quiet (fail); try go_wp2)
                                go_ret
                                exact ⟨rfE, hbA HB.out⟩
                              · rw [if_neg c71] at H
                                have c71b0 : decide ((wrap64 ((l0_0.length : Int) + (l0_1.length : Int))) ≤ (rd l0_2 x7_4)) = false := decide_eq_false c71
                                clear c71
                                have H' := Aside0.mk H
                                clear H
                                obtain ⟨hcz73_0, hcz73_1, hcz73_2, hfz73_0, hfz73_1, hfz73_2⟩ := cell3 BK114
                                have p125 : 0 ≤ (x7_4 : Int) := of_decide_eq_true asE
                                have q125 : x7_4 < (l0_2.length : Int) := of_decide_eq_true asE
                                obtain ⟨ad125, e125, hx125_0⟩ := Kd.at_int HR0_2.out x7_4 p125 q125
                                cases e125
                                replace hx125_0 := (HB.out.cell (World.block_lt_of_cell? w _ hx125_0)).trans hx125_0
                                replace p125 := eq_true p125
                                replace q125 := eq_true q125
                                have p126 : 0 ≤ (x7_4 : Int) := of_decide_eq_true asE
                                have q126 : x7_4 < (l0_2.length : Int) := of_decide_eq_true asE
                                obtain ⟨ad126, e126, hx126_0⟩ := Kd.at_int HR0_2.out x7_4 p126 q126
                                obtain rfl : ad125 = ad126 := (by injection e126)
                                replace hx126_0 := (HB.out.cell (World.block_lt_of_cell? w _ hx126_0)).trans hx126_0
                                replace p126 := eq_true p126
                                replace q126 := eq_true q126
                                go_wp2
                                repeat (go_quiet (fail); try go_wp2)
                                go_roundg k4
                                case measure => have := HJ1.out; have := HK2.out; have := HK3.out; have := HK4.out; omega
                                case rel => exact ⟨(wrap64 (x7_4 + 1)), rsE, H', ⟨by have := HJ1.out; have := HK2.out; have := HK3.out; have := HK4.out; omega⟩, ⟨bkA BK114.out⟩, ⟨hbA HB.out⟩⟩
                          · rw [if_neg c68] at H
                            exact absurd H (by simp)
                        · rw [if_neg c67] at H
                          have c67b0 : decide (x7_4 < (l0_2.length : Int)) = false := decide_eq_false c67
                          clear c67
                          obtain rfl := Option.some.inj H
                          obtain ⟨hcz74_0, hcz74_1, hcz74_2, hfz74_0, hfz74_1, hfz74_2⟩ := cell3 BK114
                          go_wp2
                          repeat (go_quiet (fail); try go_wp2)
                          go_ret
                          exact ⟨rfE, hbA HB.out⟩

end Go.Proofs.Ytnfemjnajfdepaa.Q
