/- Written by drive.py (a program of this repo, over the kit's print): each Go function named here answers what the Lean function beside it answers, wherever that one answers, in every world that meets the stated premises. -/
import Derived.Test.YtnfemjnajfdepaaQx0
import Derived.Test.YtnfemjnajfdepaaQx135
import Derived.Test.YtnfemjnajfdepaaQx136
namespace Go.Proofs.Ytnfemjnajfdepaa.Q
open Go.RowKit Go.Proofs.YtnfemjnajfdepaaW.PrintWords Go.Proofs.YtnfemjnajfdepaaW.PrintLast Go.Proofs.YtnfemjnajfdepaaW.PrintMore
attribute [local go_sem] max2_int min2_int max_two min_two max_three min_three max_four min_four   -- for this text's walks alone
set_option linter.unusedVariables false
set_option linter.unusedSimpArgs false

/-! ### flow_May: function 23 -/
mutual
def flow_May.l0 : Nat → Int → List Int → Int → Int → List Int → List (List (S61)) → List Int → Option (Bool)
  | 0, _, _, _, _, _, _, _ => none
  | k + 1, x3, x9, x10, x11, x104000, x104001, x104002 => if x11 < x10 then (if 0 ≤ x11 then (if x11 < (x9.length : Int) then (if (rd x9 x11) ≤ x3 then (some false) else (if (rd x9 x11) ≥ 64 then (some false) else (flow_May.l0 k (rd x9 x11) x9 x10 (wrap64 (x11 + 1)) x104000 x104001 x104002))) else (none)) else (none)) else (if (x104001.length : Int) > 4096 then (flow_May.j1 k x10 true x104000 x104001 x104002) else (flow_May.j1 k x10 (decide ((x104002.length : Int) > 64)) x104000 x104001 x104002))
def flow_May.j1 : Nat → Int → Bool → List Int → List (List (S61)) → List Int → Option (Bool)
  | 0, _, _, _, _, _ => none
  | k + 1, x10, x33, x104000, x104001, x104002 => if x33 = true then (some false) else (flow_May.l1 k x10 x104001 (x104001.length : Int) 0 x104000 x104001 x104002)
def flow_May.l1 : Nat → Int → List (List (S61)) → Int → Int → List Int → List (List (S61)) → List Int → Option (Bool)
  | 0, _, _, _, _, _, _, _ => none
  | k + 1, x10, x35, x36, x37, x104000, x104001, x104002 => if x37 < x36 then (if 0 ≤ x37 then (if x37 < (x35.length : Int) then ((flow_terms.f k (rd_L5 x35 x37) (wrap64 ((x104000.length : Int) + x37))).bind fun t106 => (if t106 = true then (flow_May.l1 k x10 x35 x36 (wrap64 (x37 + 1)) x104000 x104001 x104002) else (some false))) else (none)) else (none)) else ((slices_ContainsFunc_int_int.f x104002 (wrap64 (x10 + x36))).bind fun t107 => (some (!t107)))
end
def flow_May.f (k : Nat) (l0_0 : List Int) (l0_1 : List (List (S61))) (l0_2 : List Int) : Option (Bool) := flow_May.l0 k (-1) l0_0 (l0_0.length : Int) 0 l0_0 l0_1 l0_2
theorem flow_May.mono_l : ∀ k, (∀ y0 y1 y2 y3 y4 y5 y6, LeO (flow_May.l0 k y0 y1 y2 y3 y4 y5 y6) (flow_May.l0 (k + 1) y0 y1 y2 y3 y4 y5 y6)) ∧ (∀ y0 y1 y2 y3 y4, LeO (flow_May.j1 k y0 y1 y2 y3 y4) (flow_May.j1 (k + 1) y0 y1 y2 y3 y4)) ∧ (∀ y0 y1 y2 y3 y4 y5 y6, LeO (flow_May.l1 k y0 y1 y2 y3 y4 y5 y6) (flow_May.l1 (k + 1) y0 y1 y2 y3 y4 y5 y6))
  | 0 => ⟨fun _ _ _ _ _ _ _ r h => by simp [flow_May.l0] at h, fun _ _ _ _ _ r h => by simp [flow_May.j1] at h, fun _ _ _ _ _ _ _ r h => by simp [flow_May.l1] at h⟩
  | k + 1 => by
    obtain ⟨ih0, ih1, ih2⟩ := flow_May.mono_l k
    refine ⟨?_, ?_, ?_⟩
    all_goals (intros; first | unfold flow_May.l0 | unfold flow_May.j1 | unfold flow_May.l1)
    all_goals repeat' first | (with_reducible exact ih0 _ _ _ _ _ _ _) | (with_reducible exact ih1 _ _ _ _ _) | (with_reducible exact ih2 _ _ _ _ _ _ _) | (with_reducible exact flow_terms.mono _ _ _) | (with_reducible exact LeO.refl _) | (with_reducible exact LeO.none _) | (with_reducible refine LeO.ite ?_ ?_) | (with_reducible refine LeO.bind ?_ (fun _ => ?_)) | exact ih0 _ _ _ _ _ _ _ | exact ih1 _ _ _ _ _ | exact ih2 _ _ _ _ _ _ _ | exact flow_terms.mono _ _ _ | exact LeO.none _ | refine LeO.ite ?_ ?_ | refine LeO.bind ?_ (fun _ => ?_)
theorem flow_May.mono : ∀ a0 a1 a2 k, LeO (flow_May.f k a0 a1 a2) (flow_May.f (k + 1) a0 a1 a2) := by
  intro a0 a1 a2 k
  obtain ⟨ih0, ih1, ih2⟩ := flow_May.mono_l k
  unfold flow_May.f
  repeat' first
      | (with_reducible exact ih0 _ _ _ _ _ _ _)
      | (with_reducible exact ih1 _ _ _ _ _)
      | (with_reducible exact ih2 _ _ _ _ _ _ _)
      | (with_reducible exact flow_terms.mono _ _ _)
      | (with_reducible exact LeO.refl _)
      | (with_reducible exact LeO.none _)
      | (with_reducible refine LeO.ite ?_ ?_)
      | (with_reducible refine LeO.bind ?_ (fun _ => ?_))
      | exact ih0 _ _ _ _ _ _ _
      | exact ih1 _ _ _ _ _
      | exact ih2 _ _ _ _ _ _ _
      | exact flow_terms.mono _ _ _
      | exact LeO.none _
      | refine LeO.ite ?_ ?_
      | refine LeO.bind ?_ (fun _ => ?_)
set_option maxHeartbeats 8000000 in
set_option maxRecDepth 100000 in
theorem flow_May.calls (k : Nat) (A0_0 : Option Addr) (c0_0 : Nat) (l0_0 : List Int) (A0_1 : Option Addr) (c0_1 : Nat) (l0_1 : List (List (S61))) (A0_2 : Option Addr) (c0_2 : Nat) (l0_2 : List Int) (r : Bool) (w : World) (hr0_0 : Kd.C (Kd.int .i64) w A0_0 l0_0.length l0_0) (hc0_0 : l0_0.length ≤ c0_0) (hr0_1 : Kd.C (Kd.slice 61 k61) w A0_1 l0_1.length l0_1) (hc0_1 : l0_1.length ≤ c0_1) (hr0_2 : Kd.C (Kd.int .i64) w A0_2 l0_2.length l0_2) (hc0_2 : l0_2.length ≤ c0_2) (h : flow_May.f k l0_0 l0_1 l0_2 = some r) :
    Calls Try.prog 23 #[.agg #[.slice A0_0 l0_0.length c0_0, .slice A0_1 l0_1.length c0_1, .slice A0_2 l0_2.length c0_2]] w fun e w' => e = .returned (.bool r) ∧ Below w.heap.size w w' := by
  have hu25 := Try.underlying25
  have HR0_0 := Aside0.mk hr0_0
  have HC0_0 := Aside0.mk hc0_0
  clear hr0_0 hc0_0
  have HR0_1 := Aside0.mk hr0_1
  have HC0_1 := Aside0.mk hc0_1
  clear hr0_1 hc0_1
  have HR0_2 := Aside0.mk hr0_2
  have HC0_2 := Aside0.mk hc0_2
  clear hr0_2 hc0_2
  have HB := Aside0.mk (Below.refl w.heap.size w)
  have H : (flow_May.l0 k (-1) l0_0 (l0_0.length : Int) 0 l0_0 l0_1 l0_2) = some r := h
  clear h
  have H' := Aside0.mk H
  clear H
  go_enter Try.func23, Try.ntmps23
  go_wp2_with (first | ((with_reducible refine gD 1 rfl ?_); (try (refine gate_guard (by rfl) ?_; dsimp only)); refine bE 1 #[.slice A0_0 l0_0.length c0_0, .slice A0_1 l0_1.length c0_1, .slice A0_2 l0_2.length c0_2] 25 ?_; intro gb103 hg w2 hbox hb; have BK103 := Aside0.mk (hbox); have GW103 := hbS HB hg; have GE103 := hbS HB hg; replace HB := hbB HB hb; clear hb hbox hg; obtain ⟨hcz3_0, hcz3_1, hcz3_2, hfz3_0, hfz3_1, hfz3_2⟩ := cell3 BK103))
  go_loopg [3, 11] k (fun kq v3 v11 w' => ∃ (x3_1 : Int) (x11_1 : Int), v3 = .int .i64 x3_1 ∧ v11 = .int .i64 x11_1 ∧ Aside0 (flow_May.l0 kq x3_1 l0_0 (l0_0.length : Int) x11_1 l0_0 l0_1 l0_2 = some r) ∧ Aside0 (kq ≤ k) ∧ Aside0 (w'.heap[gb103]? = some (.cells #[(.slice A0_0 l0_0.length c0_0), (.slice A0_1 l0_1.length c0_1), (.slice A0_2 l0_2.length c0_2)] 25 (0, 0))) ∧ Aside0 (Below w.heap.size w w'))
  case atStart => exact ⟨((-1)), (0), rsE, rsE, H', ⟨Nat.le_refl _⟩, ⟨bkA BK103.out⟩, ⟨hbA HB.out⟩⟩
  case round =>
    clear H'
    (try clear c2); (try clear p2); (try clear hcz3_0 hcz3_1 hcz3_2 hfz3_0 hfz3_1 hfz3_2)
    obtain ⟨x3_1, x11_1, rfl, rfl, HA, HK1, BK103, HB⟩ := hrel
    cases gk with
    | zero => exact absurd HA.out (by simp [flow_May.l0])
    | succ k1 =>
      have H := HA.out
      clear HA
      simp only [flow_May.l0] at H
      by_cases c4 : x11_1 < (l0_0.length : Int)
      · rw [if_pos c4] at H
        have c4b0 : decide (x11_1 < (l0_0.length : Int)) = true := decide_eq_true c4
        clear c4
        by_cases c5 : 0 ≤ x11_1
        · rw [if_pos c5] at H
          have c5b0 : decide (0 ≤ x11_1) = true := decide_eq_true c5
          clear c5
          by_cases c6 : x11_1 < (l0_0.length : Int)
          · rw [if_pos c6] at H
            have c6b0 : decide (x11_1 < (l0_0.length : Int)) = true := decide_eq_true c6
            clear c6
            by_cases c7 : (rd l0_0 x11_1) ≤ x3_1
            · rw [if_pos c7] at H
              have c7b0 : decide ((rd l0_0 x11_1) ≤ x3_1) = true := decide_eq_true c7
              clear c7
              obtain rfl := Option.some.inj H
              have p104 : 0 ≤ (x11_1 : Int) := of_decide_eq_true asE
              have q104 : x11_1 < (l0_0.length : Int) := of_decide_eq_true asE
              obtain ⟨ad104, e104, hx104_0⟩ := Kd.at_int HR0_0.out x11_1 p104 q104
              cases e104
              replace hx104_0 := (HB.out.cell (World.block_lt_of_cell? w _ hx104_0)).trans hx104_0
              replace p104 := eq_true p104
              replace q104 := eq_true q104
              go_wp2
              go_ret
              exact ⟨rfE, hbA HB.out⟩
            · rw [if_neg c7] at H
              have c7b0 : decide ((rd l0_0 x11_1) ≤ x3_1) = false := decide_eq_false c7
              clear c7
              by_cases c8 : (rd l0_0 x11_1) ≥ 64
              · rw [if_pos c8] at H
                have c8b0 : decide (64 ≤ (rd l0_0 x11_1)) = true := decide_eq_true c8
                clear c8
                obtain rfl := Option.some.inj H
                have p104 : 0 ≤ (x11_1 : Int) := of_decide_eq_true asE
                have q104 : x11_1 < (l0_0.length : Int) := of_decide_eq_true asE
                obtain ⟨ad104, e104, hx104_0⟩ := Kd.at_int HR0_0.out x11_1 p104 q104
                cases e104
                replace hx104_0 := (HB.out.cell (World.block_lt_of_cell? w _ hx104_0)).trans hx104_0
                replace p104 := eq_true p104
                replace q104 := eq_true q104
                go_wp2
                go_ret
                exact ⟨rfE, hbA HB.out⟩
              · rw [if_neg c8] at H
                have c8b0 : decide (64 ≤ (rd l0_0 x11_1)) = false := decide_eq_false c8
                clear c8
                have H' := Aside0.mk H
                clear H
                have p104 : 0 ≤ (x11_1 : Int) := of_decide_eq_true asE
                have q104 : x11_1 < (l0_0.length : Int) := of_decide_eq_true asE
                obtain ⟨ad104, e104, hx104_0⟩ := Kd.at_int HR0_0.out x11_1 p104 q104
                cases e104
                replace hx104_0 := (HB.out.cell (World.block_lt_of_cell? w _ hx104_0)).trans hx104_0
                replace p104 := eq_true p104
                replace q104 := eq_true q104
                go_wp2
                go_roundg k1
                case measure => have := HK1.out; omega
                case rel => exact ⟨(rd l0_0 x11_1), (wrap64 (x11_1 + 1)), rsE, rsE, H', ⟨by have := HK1.out; omega⟩, ⟨bkA BK103.out⟩, ⟨hbA HB.out⟩⟩
          · rw [if_neg c6] at H
            exact absurd H (by simp)
        · rw [if_neg c5] at H
          exact absurd H (by simp)
      · rw [if_neg c4] at H
        have c4b0 : decide (x11_1 < (l0_0.length : Int)) = false := decide_eq_false c4
        clear c4
        have HC9 := Aside0.mk H
        clear H
        go_upto_region 9 with (fail)
        go_cut [33] (fun v33 wc => ∃ (kq : Nat) (x33_8 : Bool), v33 = .bool x33_8 ∧ Aside0 (flow_May.j1 kq (l0_0.length : Int) x33_8 l0_0 l0_1 l0_2 = some r) ∧ Aside0 (kq ≤ k1) ∧ Aside0 (wc.heap[gb103]? = some (.cells #[(.slice A0_0 l0_0.length c0_0), (.slice A0_1 l0_1.length c0_1), (.slice A0_2 l0_2.length c0_2)] 25 (0, 0))) ∧ Aside0 (Below w.heap.size w wc))
        case first =>
          have H := HC9.out
          clear HC9
          by_cases c10 : (l0_1.length : Int) > 4096
          · rw [if_pos c10] at H
            have c10b0 : decide (4096 < (l0_1.length : Int)) = true := decide_eq_true c10
            have c10b1 : decide (4096 < l0_1.length) = true := decide_eq_true (by omega)
            clear c10
            (first | rw [c10b0] | (simp only [i64_w, i32_w]; rw [c10b0]) | skip)
            have H' := Aside0.mk H
            clear H
            obtain ⟨hcz11_0, hcz11_1, hcz11_2, hfz11_0, hfz11_1, hfz11_2⟩ := cell3 BK103
            go_wp2
            go_meet
            case rel => exact ⟨_, (true), rsE, H', ⟨by have := HK1.out; first | omega | exact Nat.le_refl _⟩, ⟨bkA BK103.out⟩, ⟨hbA HB.out⟩⟩
          · rw [if_neg c10] at H
            have c10b0 : decide (4096 < (l0_1.length : Int)) = false := decide_eq_false c10
            have c10b1 : decide (4096 < l0_1.length) = false := decide_eq_false (by omega)
            clear c10
            (first | rw [c10b0] | (simp only [i64_w, i32_w]; rw [c10b0]) | skip)
            have H' := Aside0.mk H
            clear H
            obtain ⟨hcz12_0, hcz12_1, hcz12_2, hfz12_0, hfz12_1, hfz12_2⟩ := cell3 BK103
            go_wp2
            go_meet
            case rel => exact ⟨_, (decide ((l0_2.length : Int) > 64)), rsE, H', ⟨by have := HK1.out; first | omega | exact Nat.le_refl _⟩, ⟨bkA BK103.out⟩, ⟨hbA HB.out⟩⟩
        case rest =>
          clear HC9
          (try clear c1); (try clear p1); (try clear q1); (try clear hx1); (try clear c2); (try clear p2 p2); (try clear c4); (try clear c4b0); (try clear c5); (try clear c5b0); (try clear c6); (try clear c6b0); (try clear p6); (try clear c7); (try clear c7b0); (try clear c8); (try clear c8b0); (try clear c10); (try clear c10b0); (try clear c10b1); (try clear p10); (try clear q10); (try clear hx10); (try clear hcz11_0 hcz11_1 hcz11_2 hfz11_0 hfz11_1 hfz11_2); (try clear hcz12_0 hcz12_1 hcz12_2 hfz12_0 hfz12_1 hfz12_2); (try clear hcz3_0 hcz3_1 hcz3_2 hfz3_0 hfz3_1 hfz3_2); (try clear hx104_0); (try clear p104); (try clear q104)
          obtain ⟨kq, x33_8, rfl, HA, HJ8, BK103, HB⟩ := hcut
          cases kq with
          | zero => exact absurd HA.out (by simp [flow_May.j1])
          | succ kj8 =>
            have H := HA.out
            clear HA
            simp only [flow_May.j1] at H
            by_cases c13 : x33_8 = true
            · subst c13
              rw [if_pos rfl] at H
              obtain rfl := Option.some.inj H
              go_wp2
              go_ret
              exact ⟨rfE, hbA HB.out⟩
            · replace c13 := Bool.eq_false_iff.mpr c13
              subst c13
              rw [if_neg nofT] at H
              have H' := Aside0.mk H
              clear H
              obtain ⟨hcz14_0, hcz14_1, hcz14_2, hfz14_0, hfz14_1, hfz14_2⟩ := cell3 BK103
              go_wp2
              go_loopg [37] kj8 (fun kq v37 w' => ∃ (x37_3 : Int), v37 = .int .i64 x37_3 ∧ Aside0 (flow_May.l1 kq (l0_0.length : Int) l0_1 (l0_1.length : Int) x37_3 l0_0 l0_1 l0_2 = some r) ∧ Aside0 (kq ≤ kj8) ∧ Aside0 (w'.heap[gb103]? = some (.cells #[(.slice A0_0 l0_0.length c0_0), (.slice A0_1 l0_1.length c0_1), (.slice A0_2 l0_2.length c0_2)] 25 (0, 0))) ∧ Aside0 (Below w.heap.size w w'))
              case atStart => exact ⟨(0), rsE, H', ⟨Nat.le_refl _⟩, ⟨bkA BK103.out⟩, ⟨hbA HB.out⟩⟩
              case round =>
                clear H'
                (try clear c1); (try clear p1 p1); (try clear q1 q1); (try clear hx1); (try clear c2); (try clear p2 p2); (try clear c4); (try clear c4b0); (try clear c5); (try clear c5b0); (try clear c6); (try clear c6b0); (try clear p6 p6); (try clear c7); (try clear c7b0); (try clear c8); (try clear c8b0); (try clear c10); (try clear c10b0); (try clear c10b1); (try clear p10 p10); (try clear q10 q10); (try clear hx10); (try clear c13); (try clear hcz11_0 hcz11_1 hcz11_2 hfz11_0 hfz11_1 hfz11_2); (try clear hcz12_0 hcz12_1 hcz12_2 hfz12_0 hfz12_1 hfz12_2); (try clear hcz14_0 hcz14_1 hcz14_2 hfz14_0 hfz14_1 hfz14_2); (try clear hcz3_0 hcz3_1 hcz3_2 hfz3_0 hfz3_1 hfz3_2); (try clear hx104_0); (try clear p104); (try clear q104)
                obtain ⟨x37_3, rfl, HA, HK3, BK103, HB⟩ := hrel
                cases gk with
                | zero => exact absurd HA.out (by simp [flow_May.l1])
                | succ k3 =>
                  have H := HA.out
                  clear HA
                  simp only [flow_May.l1] at H
                  by_cases c15 : x37_3 < (l0_1.length : Int)
                  · rw [if_pos c15] at H
                    have c15b0 : decide (x37_3 < (l0_1.length : Int)) = true := decide_eq_true c15
                    clear c15
                    by_cases c16 : 0 ≤ x37_3
                    · rw [if_pos c16] at H
                      have c16b0 : decide (0 ≤ x37_3) = true := decide_eq_true c16
                      clear c16
                      by_cases c17 : x37_3 < (l0_1.length : Int)
                      · rw [if_pos c17] at H
                        have c17b0 : decide (x37_3 < (l0_1.length : Int)) = true := decide_eq_true c17
                        clear c17
                        obtain ⟨t106, A18, H⟩ := bindO H
                        (try dsimp only at H)
                        by_cases c19 : t106 = true
                        · subst c19
                          rw [if_pos rfl] at H
                          have H' := Aside0.mk H
                          clear H
                          have p105 : 0 ≤ (x37_3 : Int) := of_decide_eq_true asE
                          have q105 : x37_3 < (l0_1.length : Int) := of_decide_eq_true asE
                          obtain ⟨ad105, A105_0, c105_0, e105, hx105_0, hl105_0, hi105_0⟩ := at_L5 HR0_1.out x37_3 p105 q105
                          cases e105
                          replace hx105_0 := (HB.out.cell (World.block_lt_of_cell? w _ hx105_0)).trans hx105_0
                          have HR105_0 := Aside0.mk hi105_0
                          have HC105_0 := Aside0.mk hl105_0
                          clear hi105_0 hl105_0
                          replace p105 := eq_true p105
                          replace q105 := eq_true q105
                          obtain ⟨hcz20_0, hcz20_1, hcz20_2, hfz20_0, hfz20_1, hfz20_2⟩ := cell3 BK103
                          go_wp2_with (first | ((with_reducible refine gC 35 rfl ?_); refine cG (some 48) Try.func35 #[.slice A105_0 (rd_L5 l0_1 x37_3).length c105_0, .int .i64 (wrap64 ((l0_0.length : Int) + x37_3))] ?_; (with_reducible refine (flow_terms.calls k3 _ _ (rd_L5 l0_1 x37_3) (wrap64 ((l0_0.length : Int) + x37_3)) true _ ?side1 ?side2 A18.out).mono ?_); (case side1 => exact kcB HR105_0 HB); (case side2 => exact HC105_0.out); rintro e w21 ⟨rfl, hb⟩; refine ⟨_, rfl, ?_⟩; replace BK103 := bkB BK103 hb; replace HB := hbB HB hb; (try clear hb); (try clear hb2); (try clear hk); (try clear hi)))
                          go_roundg k3
                          case measure => have := HK1.out; have := HJ8.out; have := HK3.out; omega
                          case rel => exact ⟨(wrap64 (x37_3 + 1)), rsE, H', ⟨by have := HK1.out; have := HJ8.out; have := HK3.out; omega⟩, ⟨bkA BK103.out⟩, ⟨hbA HB.out⟩⟩
                        · replace c19 := Bool.eq_false_iff.mpr c19
                          subst c19
                          rw [if_neg nofT] at H
                          obtain rfl := Option.some.inj H
                          have p105 : 0 ≤ (x37_3 : Int) := of_decide_eq_true asE
                          have q105 : x37_3 < (l0_1.length : Int) := of_decide_eq_true asE
                          obtain ⟨ad105, A105_0, c105_0, e105, hx105_0, hl105_0, hi105_0⟩ := at_L5 HR0_1.out x37_3 p105 q105
                          cases e105
                          replace hx105_0 := (HB.out.cell (World.block_lt_of_cell? w _ hx105_0)).trans hx105_0
                          have HR105_0 := Aside0.mk hi105_0
                          have HC105_0 := Aside0.mk hl105_0
                          clear hi105_0 hl105_0
                          replace p105 := eq_true p105
                          replace q105 := eq_true q105
                          obtain ⟨hcz22_0, hcz22_1, hcz22_2, hfz22_0, hfz22_1, hfz22_2⟩ := cell3 BK103
                          go_wp2_with (first | ((with_reducible refine gC 35 rfl ?_); refine cG (some 48) Try.func35 #[.slice A105_0 (rd_L5 l0_1 x37_3).length c105_0, .int .i64 (wrap64 ((l0_0.length : Int) + x37_3))] ?_; (with_reducible refine (flow_terms.calls k3 _ _ (rd_L5 l0_1 x37_3) (wrap64 ((l0_0.length : Int) + x37_3)) false _ ?side1 ?side2 A18.out).mono ?_); (case side1 => exact kcB HR105_0 HB); (case side2 => exact HC105_0.out); rintro e w23 ⟨rfl, hb⟩; refine ⟨_, rfl, ?_⟩; replace BK103 := bkB BK103 hb; replace HB := hbB HB hb; (try clear hb); (try clear hb2); (try clear hk); (try clear hi)))
                          go_ret
                          exact ⟨rfE, hbA HB.out⟩
                      · rw [if_neg c17] at H
                        exact absurd H (by simp)
                    · rw [if_neg c16] at H
                      exact absurd H (by simp)
                  · rw [if_neg c15] at H
                    have c15b0 : decide (x37_3 < (l0_1.length : Int)) = false := decide_eq_false c15
                    clear c15
                    obtain ⟨t107, A24, H⟩ := bindO H
                    (try dsimp only at H)
                    obtain rfl := Option.some.inj H
                    obtain ⟨hcz25_0, hcz25_1, hcz25_2, hfz25_0, hfz25_1, hfz25_2⟩ := cell3 BK103
                    go_wp2_with (go_at_call 36; refine (slices_ContainsFunc_int_int.calls gb103 _ _ _ _ _ _ _ _ _ l0_2 t107 _ (bkA BK103.out) (kcB HR0_2 HB) HC0_2.out A24.out).mono ?_; rintro e w26 ⟨rfl, hb⟩; replace HB := hbB HB hb)
                    go_ret
                    exact ⟨rfE, hbA HB.out⟩

end Go.Proofs.Ytnfemjnajfdepaa.Q
