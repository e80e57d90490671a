/- Written by drive.py (a program of this repo, over the kit's print): each Go function named here answers what the Lean function beside it answers, wherever that one answers, in every world that meets the stated premises. -/
import Derived.Test.YtjgcocfnilhggaaDoorQx0
import Derived.Test.YtjgcocfnilhggaaDoorQx134
import Derived.Test.YtjgcocfnilhggaaDoorQx164
import Derived.Test.YtjgcocfnilhggaaDoorQx168
import Derived.Test.YtjgcocfnilhggaaDoorQx169
import Derived.Test.YtjgcocfnilhggaaDoorQx170
namespace Go.Proofs.YtjgcocfnilhggaaDoor.Q
open Go.RowKit Go.Proofs.YtjgcocfnilhggaaDoorW.PrintWords Go.Proofs.YtjgcocfnilhggaaDoorW.PrintLast Go.Proofs.YtjgcocfnilhggaaDoorW.PrintMore
attribute [local go_sem] max2_int min2_int max_two min_two max_three min_three max_four min_four   -- for this text's walks alone
set_option linter.unusedVariables false
set_option linter.unusedSimpArgs false

/-! ### gauss_Combine: function 36 -/
mutual
def gauss_Combine.j0 : Nat → List Int → Bool → Int → Int → List Int → Option (List Int × Bool × Int)
  | 0, _, _, _, _, _ => none
  | k + 1, x1, x22, x141000, x141001, x141002 => if x22 = true then (some (([] : List Int), false, 3)) else ((gauss_First.f x141000 x141001 x141002).bind fun bt142 => (if bt142.2 = 0 then ((matrix_Pick.f x141000 x141001 x141002 bt142.1).bind fun bt146 => (if bt146.2.2.2 = 0 then ((matrix_Transpose.f bt146.1 bt146.2.1 bt146.2.2.1).bind fun bt153 => (if bt153.2.2.2 = 0 then ((gauss_Solve.f bt153.1 bt153.2.1 bt153.2.2.1 x1).bind fun bt160 => (if bt160.2.2 = 0 then (gauss_Combine.j1 k bt160.2.2 bt142.1 bt160.1 (!bt160.2.1) x141000 x141001 x141002) else (gauss_Combine.j1 k bt160.2.2 bt142.1 bt160.1 true x141000 x141001 x141002))) else (some (([] : List Int), false, bt153.2.2.2)))) else (some (([] : List Int), false, bt146.2.2.2)))) else (some (([] : List Int), false, bt142.2))))
def gauss_Combine.j1 : Nat → Int → List Int → List Int → Bool → Int → Int → List Int → Option (List Int × Bool × Int)
  | 0, _, _, _, _, _, _, _ => none
  | k + 1, x6, x7, x10, x60, x141000, x141001, x141002 => if x60 = true then (some (([] : List Int), false, x6)) else (if 0 ≤ x141000 then (if (x141000 : Int).toNat ≤ 281474976710656 then (gauss_Combine.l0 k (List.replicate (x141000 : Int).toNat 0) x10 x7 (x7.length : Int) 0) else (none)) else (none))
def gauss_Combine.l0 : Nat → List Int → List Int → List Int → Int → Int → Option (List Int × Bool × Int)
  | 0, _, _, _, _, _ => none
  | k + 1, x4, x10, x65, x66, x67 => if x67 < x66 then (if 0 ≤ x67 then (if x67 < (x65.length : Int) then (if x67 < (x10.length : Int) then (if 0 ≤ (rd x65 x67) then (if (rd x65 x67) < (x4.length : Int) then (gauss_Combine.l0 k (x4.set ((rd x65 x67) : Int).toNat (rd x10 x67)) x10 x65 x66 (wrap64 (x67 + 1))) else (none)) else (none)) else (none)) else (none)) else (none)) else (some (x4, true, 0))
end
def gauss_Combine.f (k : Nat) (a0_0 : Int) (a0_1 : Int) (l0_2 : List Int) (l1 : List Int) : Option (List Int × Bool × Int) := (matrix_Right.f a0_0 a0_1 l0_2).bind fun t141 => (if t141 = true then (gauss_Combine.j0 k l1 ((l1.length : Int) != a0_1) a0_0 a0_1 l0_2) else (gauss_Combine.j0 k l1 true a0_0 a0_1 l0_2))
theorem gauss_Combine.mono_l : ∀ k, (∀ y0 y1 y2 y3 y4, LeO (gauss_Combine.j0 k y0 y1 y2 y3 y4) (gauss_Combine.j0 (k + 1) y0 y1 y2 y3 y4)) ∧ (∀ y0 y1 y2 y3 y4 y5 y6, LeO (gauss_Combine.j1 k y0 y1 y2 y3 y4 y5 y6) (gauss_Combine.j1 (k + 1) y0 y1 y2 y3 y4 y5 y6)) ∧ (∀ y0 y1 y2 y3 y4, LeO (gauss_Combine.l0 k y0 y1 y2 y3 y4) (gauss_Combine.l0 (k + 1) y0 y1 y2 y3 y4))
  | 0 => ⟨fun _ _ _ _ _ r h => by simp [gauss_Combine.j0] at h, fun _ _ _ _ _ _ _ r h => by simp [gauss_Combine.j1] at h, fun _ _ _ _ _ r h => by simp [gauss_Combine.l0] at h⟩
  | k + 1 => by
    obtain ⟨ih0, ih1, ih2⟩ := gauss_Combine.mono_l k
    refine ⟨?_, ?_, ?_⟩
    all_goals (intros; first | unfold gauss_Combine.j0 | unfold gauss_Combine.j1 | unfold gauss_Combine.l0)
    all_goals repeat' first | (with_reducible exact ih0 _ _ _ _ _) | (with_reducible exact ih1 _ _ _ _ _ _ _) | (with_reducible exact ih2 _ _ _ _ _) | (with_reducible exact LeO.refl _) | (with_reducible exact LeO.none _) | (with_reducible refine LeO.ite ?_ ?_) | (with_reducible refine LeO.bind ?_ (fun _ => ?_)) | exact ih0 _ _ _ _ _ | exact ih1 _ _ _ _ _ _ _ | exact ih2 _ _ _ _ _ | exact LeO.none _ | refine LeO.ite ?_ ?_ | refine LeO.bind ?_ (fun _ => ?_)
theorem gauss_Combine.mono : ∀ a0 a1 a2 a3 k, LeO (gauss_Combine.f k a0 a1 a2 a3) (gauss_Combine.f (k + 1) a0 a1 a2 a3) := by
  intro a0 a1 a2 a3 k
  obtain ⟨ih0, ih1, ih2⟩ := gauss_Combine.mono_l k
  unfold gauss_Combine.f
  repeat' first
      | (with_reducible exact ih0 _ _ _ _ _)
      | (with_reducible exact ih1 _ _ _ _ _ _ _)
      | (with_reducible exact ih2 _ _ _ _ _)
      | (with_reducible exact LeO.refl _)
      | (with_reducible exact LeO.none _)
      | (with_reducible refine LeO.ite ?_ ?_)
      | (with_reducible refine LeO.bind ?_ (fun _ => ?_))
      | exact ih0 _ _ _ _ _
      | exact ih1 _ _ _ _ _ _ _
      | exact ih2 _ _ _ _ _
      | exact LeO.none _
      | refine LeO.ite ?_ ?_
      | refine LeO.bind ?_ (fun _ => ?_)
set_option maxHeartbeats 8000000 in
set_option maxRecDepth 100000 in
theorem gauss_Combine.calls (k : Nat) (a0_0 : Int) (a0_1 : Int) (A0_2 : Option Addr) (c0_2 : Nat) (l0_2 : List Int) (A1 : Option Addr) (c1 : Nat) (l1 : List Int) (r1 : List Int) (r2 : Bool) (r3 : Int) (w : World) (hr0_2 : Kd.C (Kd.int .u8) w A0_2 l0_2.length l0_2) (hc0_2 : l0_2.length ≤ c0_2) (hr1 : Kd.C (Kd.int .u8) w A1 l1.length l1) (hc1 : l1.length ≤ c1) (h : gauss_Combine.f k a0_0 a0_1 l0_2 l1 = some (r1, r2, r3)) :
    Calls Tryd.prog 36 #[.agg #[.int .i64 a0_0, .int .i64 a0_1, .slice A0_2 l0_2.length c0_2], .slice A1 l1.length c1] w fun e w' => ∃ v0_ : Value, e = .returned (.tuple #[v0_, .bool r2, .int .i64 r3]) ∧ Kd.R (Kd.int .u8) 5 w' w.heap.size (fun _ => True) v0_ r1 ∧ Below w.heap.size w w' := by
  have hu24 := Tryd.underlying24
  have HR0_2 := Aside0.mk hr0_2
  have HC0_2 := Aside0.mk hc0_2
  clear hr0_2 hc0_2
  have HR1 := Aside0.mk hr1
  have HC1 := Aside0.mk hc1
  clear hr1 hc1
  have HB := Aside0.mk (Below.refl w.heap.size w)
  have H : ((matrix_Right.f a0_0 a0_1 l0_2).bind fun t141 => (if t141 = true then (gauss_Combine.j0 k l1 ((l1.length : Int) != a0_1) a0_0 a0_1 l0_2) else (gauss_Combine.j0 k l1 true a0_0 a0_1 l0_2))) = some (r1, r2, r3) := h
  clear h
  have HC3 := Aside0.mk H
  clear H
  go_enter Tryd.func36, Tryd.ntmps36
  go_upto_region 1 with (first | ((with_reducible refine gD 2 rfl ?_); (try (refine gate_guard (by rfl) ?_; dsimp only)); refine bE 2 #[.int .i64 a0_0, .int .i64 a0_1, .slice A0_2 l0_2.length c0_2] 24 ?_; intro gb140 hg w4 hbox hb; have BK140 := Aside0.mk (hbox); have GW140 := hbS HB hg; have GE140 := hbS HB hg; replace HB := hbB HB hb; clear hb hbox hg))
  (try simp only [Act.put, List.setIfInBounds_toArray, List.set_cons_zero, List.set_cons_succ])
  go_cut [22] (fun v22 wc => ∃ (kq : Nat) (x22_2 : Bool), v22 = .bool x22_2 ∧ Aside0 (gauss_Combine.j0 kq l1 x22_2 a0_0 a0_1 l0_2 = some (r1, r2, r3)) ∧ Aside0 (kq ≤ k) ∧ Aside0 (wc.heap[gb140]? = some (.cells #[.int .i64 a0_0, .int .i64 a0_1, (.slice A0_2 l0_2.length c0_2)] 24 (0, 0))) ∧ Aside0 (Below w.heap.size w wc))
  case first =>
    have H := HC3.out
    clear HC3
    obtain ⟨t141, A5, H⟩ := bindO H
    (try dsimp only at H)
    by_cases c6 : t141 = true
    · subst c6
      rw [if_pos rfl] at H
      have H' := Aside0.mk H
      clear H
      obtain ⟨hcz7_0, hcz7_1, hcz7_2, hfz7_0, hfz7_1, hfz7_2⟩ := cell3 BK140
      go_wp2_with (first | ((with_reducible refine gC 56 rfl ?_); refine cG (some 14) Tryd.func56 #[.agg #[.int .i64 a0_0, .int .i64 a0_1, .slice A0_2 l0_2.length c0_2]] ?_; (with_reducible refine (matrix_Right.calls a0_0 a0_1 _ _ l0_2 true _ ?side1 ?side2 A5.out).mono ?_); (case side1 => exact kcB HR0_2 HB); (case side2 => exact HC0_2.out); rintro e w8 ⟨rfl, hb⟩; refine ⟨_, rfl, ?_⟩; replace BK140 := bkB BK140 hb; replace HB := hbB HB hb; (try clear hb); (try clear hb2); (try clear hk); (try clear hi); obtain ⟨hcz9_0, hcz9_1, hcz9_2, hfz9_0, hfz9_1, hfz9_2⟩ := cell3 BK140))
      go_meet
      case rel => exact ⟨_, (((l1.length : Int) != a0_1)), rsE, H', ⟨leE⟩, ⟨bkA BK140.out⟩, ⟨hbA HB.out⟩⟩
    · replace c6 := Bool.eq_false_iff.mpr c6
      subst c6
      rw [if_neg nofT] at H
      have H' := Aside0.mk H
      clear H
      obtain ⟨hcz10_0, hcz10_1, hcz10_2, hfz10_0, hfz10_1, hfz10_2⟩ := cell3 BK140
      go_wp2_with (first | ((with_reducible refine gC 56 rfl ?_); refine cG (some 14) Tryd.func56 #[.agg #[.int .i64 a0_0, .int .i64 a0_1, .slice A0_2 l0_2.length c0_2]] ?_; (with_reducible refine (matrix_Right.calls a0_0 a0_1 _ _ l0_2 false _ ?side1 ?side2 A5.out).mono ?_); (case side1 => exact kcB HR0_2 HB); (case side2 => exact HC0_2.out); rintro e w11 ⟨rfl, hb⟩; refine ⟨_, rfl, ?_⟩; replace BK140 := bkB BK140 hb; replace HB := hbB HB hb; (try clear hb); (try clear hb2); (try clear hk); (try clear hi)))
      go_meet
      case rel => exact ⟨_, (true), rsE, H', ⟨leE⟩, ⟨bkA BK140.out⟩, ⟨hbA HB.out⟩⟩
  case rest =>
    clear HC3
    (try clear c1); (try clear p2); (try clear c3); (try clear c5); (try clear c6); (try clear hcz10_0 hcz10_1 hcz10_2 hfz10_0 hfz10_1 hfz10_2); (try clear hcz7_0 hcz7_1 hcz7_2 hfz7_0 hfz7_1 hfz7_2); (try clear hcz9_0 hcz9_1 hcz9_2 hfz9_0 hfz9_1 hfz9_2)
    obtain ⟨kq, x22_2, rfl, HA, HJ2, BK140, HB⟩ := hcut
    cases kq with
    | zero => exact absurd HA.out (by simp [gauss_Combine.j0])
    | succ kj2 =>
      have H := HA.out
      clear HA
      simp only [gauss_Combine.j0] at H
      by_cases c12 : x22_2 = true
      · subst c12
        rw [if_pos rfl] at H
        simp only [Option.some.injEq, Prod.mk.injEq] at H
        obtain ⟨rfl, rfl, rfl⟩ := H
        go_wp2
        go_ret3
        exact ⟨_, rfE, nilE, hbA HB.out⟩
      · replace c12 := Bool.eq_false_iff.mpr c12
        subst c12
        rw [if_neg nofT] at H
        obtain ⟨⟨t142, t145⟩, A13, H⟩ := bindO H
        (try dsimp only at H)
        by_cases c14 : t145 = 0
        · rw [if_pos c14] at H
          have c14b0 : (t145 == 0) = true := beq_iff_eq.mpr c14
          have c14b1 : (t145 != 0) = false := bne_eq_false_iff_eq.mpr c14
          clear c14
          obtain ⟨⟨t146, t147, t148, t151⟩, A15, H⟩ := bindO H
          (try dsimp only at H)
          by_cases c16 : t151 = 0
          · rw [if_pos c16] at H
            have c16b0 : (t151 == 0) = true := beq_iff_eq.mpr c16
            have c16b1 : (t151 != 0) = false := bne_eq_false_iff_eq.mpr c16
            clear c16
            obtain ⟨⟨t153, t154, t155, t158⟩, A17, H⟩ := bindO H
            (try dsimp only at H)
            by_cases c18 : t158 = 0
            · rw [if_pos c18] at H
              have c18b0 : (t158 == 0) = true := beq_iff_eq.mpr c18
              have c18b1 : (t158 != 0) = false := bne_eq_false_iff_eq.mpr c18
              clear c18
              obtain ⟨⟨t160, t163, t164⟩, A19, H⟩ := bindO H
              (try dsimp only at H)
              have HC20 := Aside0.mk H
              clear H
              obtain ⟨hcz21_0, hcz21_1, hcz21_2, hfz21_0, hfz21_1, hfz21_2⟩ := cell3 BK140
              go_upto_region 13 with (first | ((with_reducible refine gC 68 rfl ?_); refine cG (some 25) Tryd.func68 #[.agg #[.int .i64 a0_0, .int .i64 a0_1, .slice A0_2 l0_2.length c0_2]] ?_; (with_reducible refine (gauss_First.calls a0_0 a0_1 _ _ l0_2 t142 t145 _ ?side1 ?side2 A13.out).mono ?_); (case side1 => exact kcB HR0_2 HB); (case side2 => exact HC0_2.out); rintro e w22 ⟨v143, rfl, ho0, hb⟩; refine ⟨_, rfl, ?_⟩; have HO144 := Aside0.mk (Kd.R_lower ho0 (below_size (hbA HB.out))); replace BK140 := bkB BK140 hb; replace HB := hbB HB hb; (try clear hb); (try clear hb2); (try clear hk); (try clear hi); (try clear ho0); obtain ⟨hcz23_0, hcz23_1, hcz23_2, hfz23_0, hfz23_1, hfz23_2⟩ := cell3 BK140; obtain ⟨Ao24, co24, eo24⟩ := Kd.R_slice HO144.out; subst eo24) | ((with_reducible refine gC 34 rfl ?_); refine cG (some 34) Tryd.func34 #[.agg #[.int .i64 a0_0, .int .i64 a0_1, .slice A0_2 l0_2.length c0_2], .slice Ao24 t142.length co24] ?_; (with_reducible refine (matrix_Pick.calls a0_0 a0_1 _ _ l0_2 _ _ t142 t146 t147 t148 t151 _ ?side1 ?side2 ?side3 ?side4 A15.out).mono ?_); (case side1 => exact kcB HR0_2 HB); (case side2 => exact HC0_2.out); (case side3 => exact kcA (Kd.R_reads' HO144.out).2.2); (case side4 => exact (Kd.R_reads' HO144.out).2.1); rintro e w25 ⟨v149, rfl, ho0, hb⟩; refine ⟨_, rfl, ?_⟩; replace HO144 := kdB HO144 hb; have HO150 := Aside0.mk (Kd.R_lower ho0 (below_size (hbA HB.out))); replace BK140 := bkB BK140 hb; replace HB := hbB HB hb; (try clear hb); (try clear hb2); (try clear hk); (try clear hi); (try clear ho0)) | ((with_reducible refine gD 8 rfl ?_); (try (refine gate_guard (by rfl) ?_; dsimp only)); refine bE 8 #[.int .i64 0, .int .i64 0, .slice none 0 0] 24 ?_; intro gb152 hg w26 hbox hb; replace HO144 := kdB HO144 hb; replace HO150 := kdB HO150 hb; have BK152 := Aside0.mk (hbox); have GW152 := hbS HB hg; have GE152 := hbS HB hg; replace HB := hbB HB hb; have NB140_152 := neL BK140 hg; have NB152_140 := neG BK140 hg; replace BK140 := bkB BK140 hb; clear hb hbox hg; have hnb27 := NB152_140.out; have hnc27 := NB140_152.out; obtain ⟨hcz28_0, hcz28_1, hcz28_2, hfz28_0, hfz28_1, hfz28_2⟩ := cell3 BK152; obtain ⟨Ao29, co29, eo29⟩ := Kd.R_slice HO150.out; subst eo29) | ((with_reducible refine gC 69 rfl ?_); refine cG (some 42) Tryd.func69 #[.agg #[.int .i64 t146, .int .i64 t147, .slice Ao29 t148.length co29]] ?_; (with_reducible refine (matrix_Transpose.calls t146 t147 _ _ t148 t153 t154 t155 t158 _ ?side1 ?side2 A17.out).mono ?_); (case side1 => refine (Kd.R_reads' (e := 5) (base := w.heap.size) (ok := fun k_ => True) (n := t148.length) (c := co29) ?_).2.2; exact (by (with_reducible repeat (first | apply Kd.R_alloc | apply Kd.R_drewN | apply Kd.R_drew)); exact (Kd.R_mono (Kd.R_far (p := ⟨gb152, 2, none⟩) (Kd.R_far (p := ⟨gb152, 1, none⟩) (Kd.R_far (p := ⟨gb152, 0, none⟩) (Kd.R_types HO150.out BK152.out (by decide)) (fun _ hk => hk.2) (.int .i64 t146)) (fun _ hk => hk.2) (.int .i64 t147)) (fun _ hk => hk.2) (.slice Ao29 t148.length co29)) (fun _ h_ => h_.1)))); (case side2 => exact (Kd.R_reads' HO150.out).2.1); rintro e w30 ⟨v156, rfl, ho0, hb⟩; refine ⟨_, rfl, ?_⟩; replace HO144 := Aside0.mk (Kd.R_below (by (with_reducible repeat (first | apply Kd.R_alloc | apply Kd.R_drewN | apply Kd.R_drew)); exact (Kd.R_mono (Kd.R_far (p := ⟨gb152, 2, none⟩) (Kd.R_far (p := ⟨gb152, 1, none⟩) (Kd.R_far (p := ⟨gb152, 0, none⟩) (Kd.R_types HO144.out BK152.out (by decide)) (fun _ hk => hk.2) (.int .i64 t146)) (fun _ hk => hk.2) (.int .i64 t147)) (fun _ hk => hk.2) (.slice Ao29 t148.length co29)) (fun _ h_ => h_.1))) hb); have HO157 := Aside0.mk (Kd.R_lower (Kd.R_new' ho0 (Kd.R_lt (by (with_reducible repeat (first | apply Kd.R_alloc | apply Kd.R_drewN | apply Kd.R_drew)); exact (Kd.R_mono (Kd.R_far (p := ⟨gb152, 2, none⟩) (Kd.R_far (p := ⟨gb152, 1, none⟩) (Kd.R_far (p := ⟨gb152, 0, none⟩) (Kd.R_types HO150.out BK152.out (by decide)) (fun _ hk => hk.2) (.int .i64 t146)) (fun _ hk => hk.2) (.int .i64 t147)) (fun _ hk => hk.2) (.slice Ao29 t148.length co29)) (fun _ h_ => h_.1))))) (below_size (hbA HB.out))); replace HO150 := Aside0.mk (Kd.R_elder' (by (with_reducible repeat (first | apply Kd.R_alloc | apply Kd.R_drewN | apply Kd.R_drew)); exact (Kd.R_mono (Kd.R_far (p := ⟨gb152, 2, none⟩) (Kd.R_far (p := ⟨gb152, 1, none⟩) (Kd.R_far (p := ⟨gb152, 0, none⟩) (Kd.R_types HO150.out BK152.out (by decide)) (fun _ hk => hk.2) (.int .i64 t146)) (fun _ hk => hk.2) (.int .i64 t147)) (fun _ hk => hk.2) (.slice Ao29 t148.length co29)) (fun _ h_ => h_.1))) (Kd.R_base ho0) hb); replace BK140 := Aside0.mk (blk_below (g := gb140) (o := .cells #[.int .i64 a0_0, .int .i64 a0_1, .slice A0_2 l0_2.length c0_2] 24 (0, 0)) (by refine bkR ?_; refine blk_far ?_ NB140_152.out _; refine bkR ?_; refine blk_far ?_ NB140_152.out _; refine bkR ?_; refine blk_far ?_ NB140_152.out _; refine bkR ?_; exact BK140.out) hb); replace BK152 := Aside0.mk (blk_below (g := gb152) (o := .cells #[.int .i64 t146, .int .i64 t147, .slice Ao29 t148.length co29] 24 (0, 0)) (by refine bkR ?_; refine blk_put (cs := #[.int .i64 t146, .int .i64 t147, .slice none 0 0]) ?_ 2 _ rfl; refine bkR ?_; refine blk_put (cs := #[.int .i64 t146, .int .i64 0, .slice none 0 0]) ?_ 1 _ rfl; refine bkR ?_; refine blk_put (cs := #[.int .i64 0, .int .i64 0, .slice none 0 0]) ?_ 0 _ rfl; refine bkR ?_; exact BK152.out) hb); replace HB := hbB HB hb; (try clear hb); (try clear hb2); (try clear hk); (try clear hi); (try clear ho0)) | ((with_reducible refine gD 9 rfl ?_); (try (refine gate_guard (by rfl) ?_; dsimp only)); refine bE 9 #[.int .i64 0, .int .i64 0, .slice none 0 0] 24 ?_; intro gb159 hg w31 hbox hb; replace HO144 := kdB HO144 hb; replace HO150 := kdB HO150 hb; replace HO157 := kdB HO157 hb; have BK159 := Aside0.mk (hbox); have GW159 := hbS HB hg; have GE159 := hbS HB hg; replace HB := hbB HB hb; have NB140_159 := neL BK140 hg; have NB159_140 := neG BK140 hg; replace BK140 := bkB BK140 hb; have NB152_159 := neL BK152 hg; have NB159_152 := neG BK152 hg; replace BK152 := bkB BK152 hb; clear hb hbox hg; have hnb32 := NB159_140.out; have hnc32 := NB140_159.out; have hnb33 := NB159_152.out; have hnc33 := NB152_159.out; obtain ⟨hcz34_0, hcz34_1, hcz34_2, hfz34_0, hfz34_1, hfz34_2⟩ := cell3 BK159; obtain ⟨Ao35, co35, eo35⟩ := Kd.R_slice HO157.out; subst eo35) | ((with_reducible refine gC 70 rfl ?_); refine cG (some 51) Tryd.func70 #[.agg #[.int .i64 t153, .int .i64 t154, .slice Ao35 t155.length co35], .slice A1 l1.length c1] ?_; (with_reducible refine (gauss_Solve.calls t153 t154 _ _ t155 _ _ l1 t160 t163 t164 _ ?side1 ?side2 ?side3 ?side4 A19.out).mono ?_); (case side1 => refine (Kd.R_reads' (e := 5) (base := w.heap.size) (ok := fun k_ => (True ∧ some k_ ≠ (.slice Ao29 t148.length co29 : Value).ownBlock)) (n := t155.length) (c := co35) ?_).2.2; exact (by (with_reducible repeat (first | apply Kd.R_alloc | apply Kd.R_drewN | apply Kd.R_drew)); exact (Kd.R_mono (Kd.R_far (p := ⟨gb159, 2, none⟩) (Kd.R_far (p := ⟨gb159, 1, none⟩) (Kd.R_far (p := ⟨gb159, 0, none⟩) (Kd.R_types HO157.out BK159.out (by decide)) (fun _ hk => hk.2) (.int .i64 t153)) (fun _ hk => hk.2) (.int .i64 t154)) (fun _ hk => hk.2) (.slice Ao35 t155.length co35)) (fun _ h_ => h_.1)))); (case side2 => exact (Kd.R_reads' HO157.out).2.1); (case side3 => exact Kd.C_below HR1.out (hbA HB.out)); (case side4 => exact HC1.out); rintro e w36 ⟨v161, rfl, ho0, hb⟩; refine ⟨_, rfl, ?_⟩; replace HO144 := Aside0.mk (Kd.R_below (by (with_reducible repeat (first | apply Kd.R_alloc | apply Kd.R_drewN | apply Kd.R_drew)); exact (Kd.R_mono (Kd.R_far (p := ⟨gb159, 2, none⟩) (Kd.R_far (p := ⟨gb159, 1, none⟩) (Kd.R_far (p := ⟨gb159, 0, none⟩) (Kd.R_types HO144.out BK159.out (by decide)) (fun _ hk => hk.2) (.int .i64 t153)) (fun _ hk => hk.2) (.int .i64 t154)) (fun _ hk => hk.2) (.slice Ao35 t155.length co35)) (fun _ h_ => h_.1))) hb); have HO162 := Aside0.mk (Kd.R_lower (Kd.R_new' (Kd.R_new' ho0 (Kd.R_lt (by (with_reducible repeat (first | apply Kd.R_alloc | apply Kd.R_drewN | apply Kd.R_drew)); exact (Kd.R_mono (Kd.R_far (p := ⟨gb159, 2, none⟩) (Kd.R_far (p := ⟨gb159, 1, none⟩) (Kd.R_far (p := ⟨gb159, 0, none⟩) (Kd.R_types HO150.out BK159.out (by decide)) (fun _ hk => hk.2) (.int .i64 t153)) (fun _ hk => hk.2) (.int .i64 t154)) (fun _ hk => hk.2) (.slice Ao35 t155.length co35)) (fun _ h_ => h_.1))))) (Kd.R_lt (by (with_reducible repeat (first | apply Kd.R_alloc | apply Kd.R_drewN | apply Kd.R_drew)); exact (Kd.R_mono (Kd.R_far (p := ⟨gb159, 2, none⟩) (Kd.R_far (p := ⟨gb159, 1, none⟩) (Kd.R_far (p := ⟨gb159, 0, none⟩) (Kd.R_types HO157.out BK159.out (by decide)) (fun _ hk => hk.2) (.int .i64 t153)) (fun _ hk => hk.2) (.int .i64 t154)) (fun _ hk => hk.2) (.slice Ao35 t155.length co35)) (fun _ h_ => h_.1))))) (below_size (hbA HB.out))); replace HO150 := Aside0.mk (Kd.R_elder' (by (with_reducible repeat (first | apply Kd.R_alloc | apply Kd.R_drewN | apply Kd.R_drew)); exact (Kd.R_mono (Kd.R_far (p := ⟨gb159, 2, none⟩) (Kd.R_far (p := ⟨gb159, 1, none⟩) (Kd.R_far (p := ⟨gb159, 0, none⟩) (Kd.R_types HO150.out BK159.out (by decide)) (fun _ hk => hk.2) (.int .i64 t153)) (fun _ hk => hk.2) (.int .i64 t154)) (fun _ hk => hk.2) (.slice Ao35 t155.length co35)) (fun _ h_ => h_.1))) (Kd.R_base ho0) hb); replace HO157 := Aside0.mk (Kd.R_elder' (by (with_reducible repeat (first | apply Kd.R_alloc | apply Kd.R_drewN | apply Kd.R_drew)); exact (Kd.R_mono (Kd.R_far (p := ⟨gb159, 2, none⟩) (Kd.R_far (p := ⟨gb159, 1, none⟩) (Kd.R_far (p := ⟨gb159, 0, none⟩) (Kd.R_types HO157.out BK159.out (by decide)) (fun _ hk => hk.2) (.int .i64 t153)) (fun _ hk => hk.2) (.int .i64 t154)) (fun _ hk => hk.2) (.slice Ao35 t155.length co35)) (fun _ h_ => h_.1))) (Kd.R_base ho0) hb); replace BK140 := Aside0.mk (blk_below (g := gb140) (o := .cells #[.int .i64 a0_0, .int .i64 a0_1, .slice A0_2 l0_2.length c0_2] 24 (0, 0)) (by refine bkR ?_; refine blk_far ?_ NB140_159.out _; refine bkR ?_; refine blk_far ?_ NB140_159.out _; refine bkR ?_; refine blk_far ?_ NB140_159.out _; refine bkR ?_; exact BK140.out) hb); replace BK152 := Aside0.mk (blk_below (g := gb152) (o := .cells #[.int .i64 t146, .int .i64 t147, .slice Ao29 t148.length co29] 24 (0, 0)) (by refine bkR ?_; refine blk_far ?_ NB152_159.out _; refine bkR ?_; refine blk_far ?_ NB152_159.out _; refine bkR ?_; refine blk_far ?_ NB152_159.out _; refine bkR ?_; exact BK152.out) hb); replace BK159 := Aside0.mk (blk_below (g := gb159) (o := .cells #[.int .i64 t153, .int .i64 t154, .slice Ao35 t155.length co35] 24 (0, 0)) (by refine bkR ?_; refine blk_put (cs := #[.int .i64 t153, .int .i64 t154, .slice none 0 0]) ?_ 2 _ rfl; refine bkR ?_; refine blk_put (cs := #[.int .i64 t153, .int .i64 0, .slice none 0 0]) ?_ 1 _ rfl; refine bkR ?_; refine blk_put (cs := #[.int .i64 0, .int .i64 0, .slice none 0 0]) ?_ 0 _ rfl; refine bkR ?_; exact BK159.out) hb); replace HB := hbB HB hb; (try clear hb); (try clear hb2); (try clear hk); (try clear hi); (try clear ho0)))
              (try simp only [Act.put, List.setIfInBounds_toArray, List.set_cons_zero, List.set_cons_succ])
              go_cut [60] (fun v60 wc => ∃ (kq : Nat) (x60_19 : Bool), v60 = .bool x60_19 ∧ Aside0 (gauss_Combine.j1 kq t164 t142 t160 x60_19 a0_0 a0_1 l0_2 = some (r1, r2, r3)) ∧ Aside0 (kq ≤ kj2) ∧ Aside0 (Kd.R (Kd.int .i64) 3 wc w.heap.size (fun _ => True) (.slice Ao24 t142.length co24) t142) ∧ Aside0 (Kd.R (Kd.int .u8) 5 wc w.heap.size (fun k_ => some k_ ≠ ((.slice Ao29 t148.length co29) : Value).ownBlock ∧ some k_ ≠ ((.slice Ao35 t155.length co35) : Value).ownBlock) v161 t160) ∧ Aside0 (Kd.R (Kd.int .u8) 5 wc w.heap.size (fun k_ => some k_ ≠ (v161 : Value).ownBlock ∧ some k_ ≠ ((.slice Ao35 t155.length co35) : Value).ownBlock) (.slice Ao29 t148.length co29) t148) ∧ Aside0 (Kd.R (Kd.int .u8) 5 wc w.heap.size (fun k_ => some k_ ≠ (v161 : Value).ownBlock ∧ some k_ ≠ ((.slice Ao29 t148.length co29) : Value).ownBlock) (.slice Ao35 t155.length co35) t155) ∧ Aside0 (wc.heap[gb140]? = some (.cells #[.int .i64 a0_0, .int .i64 a0_1, (.slice A0_2 l0_2.length c0_2)] 24 (0, 0))) ∧ Aside0 (wc.heap[gb152]? = some (.cells #[.int .i64 t146, .int .i64 t147, (.slice Ao29 t148.length co29)] 24 (0, 0))) ∧ Aside0 (wc.heap[gb159]? = some (.cells #[.int .i64 t153, .int .i64 t154, (.slice Ao35 t155.length co35)] 24 (0, 0))) ∧ Aside0 (Below w.heap.size w wc))
              case first =>
                have H := HC20.out
                clear HC20
                by_cases c37 : t164 = 0
                · rw [if_pos c37] at H
                  have c37b0 : (t164 == 0) = true := beq_iff_eq.mpr c37
                  have c37b1 : (t164 != 0) = false := bne_eq_false_iff_eq.mpr c37
                  clear c37
                  (first | rw [c37b0] | (simp only [i64_w, i32_w]; rw [c37b0]) | skip)
                  have H' := Aside0.mk H
                  clear H
                  go_wp2
                  go_meet
                  case rel => exact ⟨_, (!t163), rsE, H', ⟨by have := HJ2.out; first | omega | exact Nat.le_refl _⟩, ⟨kdA HO144.out⟩, ⟨by (with_reducible repeat (first | apply Kd.R_alloc | apply Kd.R_drewN | apply Kd.R_drew)); exact Kd.R_mono HO162.out (fun _ hk => ⟨hk.1.2, hk.2⟩)⟩, ⟨by (with_reducible repeat (first | apply Kd.R_alloc | apply Kd.R_drewN | apply Kd.R_drew)); exact Kd.R_mono HO150.out (fun _ hk => ⟨hk.2, hk.1.2⟩)⟩, ⟨by (with_reducible repeat (first | apply Kd.R_alloc | apply Kd.R_drewN | apply Kd.R_drew)); exact Kd.R_mono HO157.out (fun _ hk => ⟨hk.2, hk.1.2⟩)⟩, ⟨bkA BK140.out⟩, ⟨bkA BK152.out⟩, ⟨bkA BK159.out⟩, ⟨hbA HB.out⟩⟩
                · rw [if_neg c37] at H
                  have c37b0 : (t164 == 0) = false := beq_eq_false_iff_ne.mpr c37
                  have c37b1 : (t164 != 0) = true := bne_iff_ne.mpr c37
                  (first | rw [c37b0] | (simp only [i64_w, i32_w]; rw [c37b0]) | skip)
                  have H' := Aside0.mk H
                  clear H
                  go_wp2
                  go_meet
                  case rel => exact ⟨_, (true), rsE, H', ⟨by have := HJ2.out; first | omega | exact Nat.le_refl _⟩, ⟨kdA HO144.out⟩, ⟨by (with_reducible repeat (first | apply Kd.R_alloc | apply Kd.R_drewN | apply Kd.R_drew)); exact Kd.R_mono HO162.out (fun _ hk => ⟨hk.1.2, hk.2⟩)⟩, ⟨by (with_reducible repeat (first | apply Kd.R_alloc | apply Kd.R_drewN | apply Kd.R_drew)); exact Kd.R_mono HO150.out (fun _ hk => ⟨hk.2, hk.1.2⟩)⟩, ⟨by (with_reducible repeat (first | apply Kd.R_alloc | apply Kd.R_drewN | apply Kd.R_drew)); exact Kd.R_mono HO157.out (fun _ hk => ⟨hk.2, hk.1.2⟩)⟩, ⟨bkA BK140.out⟩, ⟨bkA BK152.out⟩, ⟨bkA BK159.out⟩, ⟨hbA HB.out⟩⟩
              case rest =>
                clear HC20
                (try clear c1); (try clear c2); (try clear p2 p2); (try clear c3); (try clear c5); (try clear c6); (try clear c7); (try clear c12); (try clear c14); (try clear c14b0); (try clear c14b1); (try clear c16); (try clear c16b0); (try clear c16b1); (try clear c18); (try clear c18b0); (try clear c18b1); (try clear c27); (try clear c32); (try clear c33); (try clear c34); (try clear c36); (try clear c37); (try clear c37b0); (try clear c37b1); (try clear hcz10_0 hcz10_1 hcz10_2 hfz10_0 hfz10_1 hfz10_2); (try clear hcz21_0 hcz21_1 hcz21_2 hfz21_0 hfz21_1 hfz21_2); (try clear hcz23_0 hcz23_1 hcz23_2 hfz23_0 hfz23_1 hfz23_2); (try clear hcz28_0 hcz28_1 hcz28_2 hfz28_0 hfz28_1 hfz28_2); (try clear hcz34_0 hcz34_1 hcz34_2 hfz34_0 hfz34_1 hfz34_2); (try clear hcz7_0 hcz7_1 hcz7_2 hfz7_0 hfz7_1 hfz7_2); (try clear hcz9_0 hcz9_1 hcz9_2 hfz9_0 hfz9_1 hfz9_2)
                obtain ⟨kq, x60_19, rfl, HA, HJ19, HO_7, HO_10, HO_153002, HO_160002, BK140, BK152, BK159, HB⟩ := hcut
                cases kq with
                | zero => exact absurd HA.out (by simp [gauss_Combine.j1])
                | succ kj19 =>
                  have H := HA.out
                  clear HA
                  simp only [gauss_Combine.j1] at H
                  by_cases c38 : x60_19 = true
                  · subst c38
                    rw [if_pos rfl] at H
                    simp only [Option.some.injEq, Prod.mk.injEq] at H
                    obtain ⟨rfl, rfl, rfl⟩ := H
                    go_wp2
                    go_ret3
                    exact ⟨_, rfE, nilE, hbA HB.out⟩
                  · replace c38 := Bool.eq_false_iff.mpr c38
                    subst c38
                    rw [if_neg nofT] at H
                    by_cases c39 : 0 ≤ a0_0
                    · rw [if_pos c39] at H
                      have c39b0 := eq_true c39
                      have c39b1 : decide (0 ≤ a0_0) = true := decide_eq_true c39
                      clear c39
                      by_cases c40 : (a0_0 : Int).toNat ≤ 281474976710656
                      · rw [if_pos c40] at H
                        have c40b0 := eq_true c40
                        have c40b1 : decide ((a0_0 : Int).toNat ≤ 281474976710656) = true := decide_eq_true c40
                        clear c40
                        obtain ⟨y165, hy165⟩ : ∃ y_ : List Int, y_ = (List.replicate (a0_0 : Int).toNat 0) := ⟨_, rfl⟩
                        replace H : (gauss_Combine.l0 kj19 y165 t160 t142 (t142.length : Int) 0) = some (r1, r2, r3) := by first | (rw [hy165]; with_reducible exact H) | (have H2_ := (Option.bind_some _ _).symm.trans H; rw [hy165]; with_reducible exact H2_) | (have H2_ := (Option.bind_some _ _).symm.trans H; with_reducible exact H2_) | with_reducible exact H | (rw [hy165]; exact H) | exact H
                        have Ny165 := Aside0.mk hy165
                        clear hy165
                        have H' := Aside0.mk H
                        clear H
                        have hnb41 := NB140_152.out
                        have hnc41 := NB152_140.out
                        have hnb42 := NB140_159.out
                        have hnc42 := NB159_140.out
                        obtain ⟨hcz43_0, hcz43_1, hcz43_2, hfz43_0, hfz43_1, hfz43_2⟩ := cell3 BK140
                        go_wp2_with (first | ((with_reducible refine gate_dst (N := 64) rfl ?_); (try (refine gate_guard (by rfl) ?_; dsimp only)); refine Kd.R_make (Kd.int .u8) _ 5 rfl (N := 64) rfl 22 _ _ rfl a0_0 rfl rfl Tryd.underlying22 (.int .u8 0) 1 info5 rfl (by decide) (by omega) 0 (ok := fun _ => True) (okp := fun _ => True) rfl (fun _ hk => hk) trivial (of_decide_eq_true asE) (Nat.le_trans (Nat.mul_le_mul_right _ (of_decide_eq_true asE : a0_0.toNat ≤ 281474976710656)) (by omega)) (Below.refl _ _) (Nat.le_refl _) ?_; intro v166 w44 ho45 hb hg_ hnew_; clear hg_ hnew_; (first | rw [← Ny165.out] at ho45 | (simp only [Int.reduceToNat] at ho45; rw [← Ny165.out] at ho45)); replace HO_7 := kdB HO_7 hb; have HO167 := Aside0.mk (Kd.R_lower (Kd.R_new' (Kd.R_new' (Kd.R_new' ho45 (Kd.R_lt (kdA HO_10.out))) (Kd.R_lt (kdA HO_153002.out))) (Kd.R_lt (kdA HO_160002.out))) (below_size (hbA HB.out))); replace HO_10 := Aside0.mk (Kd.R_elder' (kdA HO_10.out) (Kd.R_base ho45) hb); replace HO_153002 := Aside0.mk (Kd.R_elder' (kdA HO_153002.out) (Kd.R_base ho45) hb); replace HO_160002 := Aside0.mk (Kd.R_elder' (kdA HO_160002.out) (Kd.R_base ho45) hb); replace BK140 := bkB BK140 hb; replace BK152 := bkB BK152 hb; replace BK159 := bkB BK159 hb; replace HB := hbB HB hb; clear hb ho45))
                        go_loopg [67] kj19 (fun kq v67 w' => ∃ (x4_3 : List Int) (x67_3 : Int), v67 = .int .i64 x67_3 ∧ Aside0 (gauss_Combine.l0 kq x4_3 t160 t142 (t142.length : Int) x67_3 = some (r1, r2, r3)) ∧ Aside0 (kq ≤ kj19) ∧ Aside0 (Kd.R (Kd.int .u8) 5 w' w.heap.size (fun k_ => some k_ ≠ (v161 : Value).ownBlock ∧ some k_ ≠ ((.slice Ao29 t148.length co29) : Value).ownBlock ∧ some k_ ≠ ((.slice Ao35 t155.length co35) : Value).ownBlock) v166 x4_3) ∧ Aside0 (Kd.R (Kd.int .u8) 5 w' w.heap.size (fun k_ => some k_ ≠ (v166 : Value).ownBlock ∧ some k_ ≠ ((.slice Ao29 t148.length co29) : Value).ownBlock ∧ some k_ ≠ ((.slice Ao35 t155.length co35) : Value).ownBlock) v161 t160) ∧ Aside0 (Kd.R (Kd.int .i64) 3 w' w.heap.size (fun _ => True) (.slice Ao24 t142.length co24) t142) ∧ Aside0 (Kd.R (Kd.int .u8) 5 w' w.heap.size (fun k_ => some k_ ≠ (v166 : Value).ownBlock ∧ some k_ ≠ (v161 : Value).ownBlock ∧ some k_ ≠ ((.slice Ao35 t155.length co35) : Value).ownBlock) (.slice Ao29 t148.length co29) t148) ∧ Aside0 (Kd.R (Kd.int .u8) 5 w' w.heap.size (fun k_ => some k_ ≠ (v166 : Value).ownBlock ∧ some k_ ≠ (v161 : Value).ownBlock ∧ some k_ ≠ ((.slice Ao29 t148.length co29) : Value).ownBlock) (.slice Ao35 t155.length co35) t155) ∧ Aside0 (w'.heap[gb140]? = some (.cells #[.int .i64 a0_0, .int .i64 a0_1, (.slice A0_2 l0_2.length c0_2)] 24 (0, 0))) ∧ Aside0 (w'.heap[gb152]? = some (.cells #[.int .i64 t146, .int .i64 t147, (.slice Ao29 t148.length co29)] 24 (0, 0))) ∧ Aside0 (w'.heap[gb159]? = some (.cells #[.int .i64 t153, .int .i64 t154, (.slice Ao35 t155.length co35)] 24 (0, 0))) ∧ Aside0 (Below w.heap.size w w'))
                        case atStart => exact ⟨(y165), (0), rsE, H', ⟨Nat.le_refl _⟩, ⟨by (with_reducible repeat (first | apply Kd.R_alloc | apply Kd.R_drewN | apply Kd.R_drew)); exact Kd.R_mono HO167.out (fun _ hk => ⟨hk.1.1.2, ⟨hk.1.2, hk.2⟩⟩)⟩, ⟨by (with_reducible repeat (first | apply Kd.R_alloc | apply Kd.R_drewN | apply Kd.R_drew)); exact Kd.R_mono HO_10.out (fun _ hk => ⟨hk.2, ⟨hk.1.1, hk.1.2⟩⟩)⟩, ⟨kdA HO_7.out⟩, ⟨by (with_reducible repeat (first | apply Kd.R_alloc | apply Kd.R_drewN | apply Kd.R_drew)); exact Kd.R_mono HO_153002.out (fun _ hk => ⟨hk.2, ⟨hk.1.1, hk.1.2⟩⟩)⟩, ⟨by (with_reducible repeat (first | apply Kd.R_alloc | apply Kd.R_drewN | apply Kd.R_drew)); exact Kd.R_mono HO_160002.out (fun _ hk => ⟨hk.2, ⟨hk.1.1, hk.1.2⟩⟩)⟩, ⟨bkA BK140.out⟩, ⟨bkA BK152.out⟩, ⟨bkA BK159.out⟩, ⟨hbA HB.out⟩⟩
                        case round =>
                          clear H'
                          (try clear c1); (try clear c2); (try clear p2 p2); (try clear c3); (try clear c4); (try clear c5); (try clear c6); (try clear c7); (try clear c12); (try clear c14); (try clear c14b0); (try clear c14b1); (try clear c16); (try clear c16b0); (try clear c16b1); (try clear c18); (try clear c18b0); (try clear c18b1); (try clear c27); (try clear c32); (try clear c33); (try clear c34); (try clear c36); (try clear c37); (try clear c37b0); (try clear c37b1); (try clear c38); (try clear c39); (try clear c39b0); (try clear c39b1); (try clear c40); (try clear c40b0); (try clear c40b1); (try clear c41); (try clear c42); (try clear hcz10_0 hcz10_1 hcz10_2 hfz10_0 hfz10_1 hfz10_2); (try clear hcz21_0 hcz21_1 hcz21_2 hfz21_0 hfz21_1 hfz21_2); (try clear hcz23_0 hcz23_1 hcz23_2 hfz23_0 hfz23_1 hfz23_2); (try clear hcz28_0 hcz28_1 hcz28_2 hfz28_0 hfz28_1 hfz28_2); (try clear hcz34_0 hcz34_1 hcz34_2 hfz34_0 hfz34_1 hfz34_2); (try clear hcz43_0 hcz43_1 hcz43_2 hfz43_0 hfz43_1 hfz43_2); (try clear hcz7_0 hcz7_1 hcz7_2 hfz7_0 hfz7_1 hfz7_2); (try clear hcz9_0 hcz9_1 hcz9_2 hfz9_0 hfz9_1 hfz9_2)
                          obtain ⟨x4_3, x67_3, rfl, HA, HK3, HO_4, HO_10, HO_65, HO_153002, HO_160002, BK140, BK152, BK159, HB⟩ := hrel
                          cases gk with
                          | zero => exact absurd HA.out (by simp [gauss_Combine.l0])
                          | succ k3 =>
                            have H := HA.out
                            clear HA
                            simp only [gauss_Combine.l0] at H
                            by_cases c46 : x67_3 < (t142.length : Int)
                            · rw [if_pos c46] at H
                              have c46b0 : decide (x67_3 < (t142.length : Int)) = true := decide_eq_true c46
                              clear c46
                              by_cases c47 : 0 ≤ x67_3
                              · rw [if_pos c47] at H
                                have c47b0 : decide (0 ≤ x67_3) = true := decide_eq_true c47
                                clear c47
                                by_cases c48 : x67_3 < (t142.length : Int)
                                · rw [if_pos c48] at H
                                  have c48b0 : decide (x67_3 < (t142.length : Int)) = true := decide_eq_true c48
                                  clear c48
                                  by_cases c49 : x67_3 < (t160.length : Int)
                                  · rw [if_pos c49] at H
                                    have c49b0 : decide (x67_3 < (t160.length : Int)) = true := decide_eq_true c49
                                    clear c49
                                    by_cases c50 : 0 ≤ (rd t142 x67_3)
                                    · rw [if_pos c50] at H
                                      have c50b0 : decide (0 ≤ (rd t142 x67_3)) = true := decide_eq_true c50
                                      clear c50
                                      by_cases c51 : (rd t142 x67_3) < (x4_3.length : Int)
                                      · rw [if_pos c51] at H
                                        have c51b0 : decide ((rd t142 x67_3) < (x4_3.length : Int)) = true := decide_eq_true c51
                                        clear c51
                                        obtain ⟨y170, hy170⟩ : ∃ y_ : List Int, y_ = (x4_3.set ((rd t142 x67_3) : Int).toNat (rd t160 x67_3)) := ⟨_, rfl⟩
                                        replace H : (gauss_Combine.l0 k3 y170 t160 t142 (t142.length : Int) (wrap64 (x67_3 + 1))) = some (r1, r2, r3) := by first | (rw [hy170]; with_reducible exact H) | (have H2_ := (Option.bind_some _ _).symm.trans H; rw [hy170]; with_reducible exact H2_) | (have H2_ := (Option.bind_some _ _).symm.trans H; with_reducible exact H2_) | with_reducible exact H | (rw [hy170]; exact H) | exact H
                                        have Ny170 := Aside0.mk hy170
                                        clear hy170
                                        have H' := Aside0.mk H
                                        clear H
                                        have p168 : 0 ≤ (x67_3 : Int) := of_decide_eq_true asE
                                        have q168 : x67_3 < (t142.length : Int) := of_decide_eq_true asE
                                        obtain ⟨ad168, e168, hx168_0⟩ := Kd.at_int (Kd.R_reads' HO_65.out).2.2 x67_3 p168 q168
                                        cases e168
                                        replace p168 := eq_true p168
                                        replace q168 := eq_true q168
                                        obtain ⟨Ao53, co53, eo53⟩ := Kd.R_slice HO_10.out
                                        subst eo53
                                        have p169 : 0 ≤ (x67_3 : Int) := of_decide_eq_true asE
                                        have q169 : x67_3 < (t160.length : Int) := of_decide_eq_true asE
                                        obtain ⟨ad169, e169, hx169_0⟩ := Kd.at_int (Kd.R_reads' HO_10.out).2.2 x67_3 p169 q169
                                        cases e169
                                        replace p169 := eq_true p169
                                        replace q169 := eq_true q169
                                        have p52 : 0 ≤ ((rd t142 x67_3) : Int) := of_decide_eq_true asE
                                        have q52 : ((rd t142 x67_3) : Int) < ((x4_3.length : Int) : Int) := of_decide_eq_true asE
                                        obtain ⟨go52, co52, eo52, gb52, gl52, cl52, HG52⟩ := Kd.R_form HO_4.out (by omega)
                                        (first | cases eo52 | (injection eo52 with ea_ en_ ec_; (first | subst ea_ | (injection ea_ with ea_; subst ea_)); subst ec_; clear en_))
                                        have GB52 := Aside0.mk gb52
                                        have GG52 := Aside0.mk HG52
                                        clear gb52 gl52 HG52
                                        obtain ⟨hx52_0, hf52_0⟩ := Kd.R_celln 0 HO_4.out ((rd t142 x67_3) : Int) p52 q52
                                        replace p52 := eq_true p52
                                        replace q52 := eq_true q52
                                        have HP54 := Kd.R_putg HO_4.out ((rd t142 x67_3) : Int) (rd t160 x67_3)
                                        go_wp2_with (first | ((with_reducible refine gate_store (t := 5) (p := 78) rfl ?_); refine store_event (t := 5) (p := 78) (v := ?vo_w55) (w1 := (wr.setCell ⟨go52, ((rd t142 x67_3) : Int).toNat, none⟩ (.int .u8 (rd t160 x67_3)))) ?hg ?ho ?hn ?hr ?_; (case ho => rfl); (case hg => rfl); (case hn => rfl); (case hr => first | (go_simp; done) | (go_simp; rfl)); intro w55 hw; have hg : wr.grownBy w55 (some go52) := (by rw [hw]; exact HP54.2); have hp_ : Kd.R (Kd.int .u8) 5 w55 w.heap.size (fun k_ => some k_ ≠ (.slice (some ad169) t160.length co53 : Value).ownBlock ∧ some k_ ≠ (.slice Ao29 t148.length co29 : Value).ownBlock ∧ some k_ ≠ (.slice Ao35 t155.length co35 : Value).ownBlock) (.slice (some ⟨go52, 0, none⟩) x4_3.length co52) y170 := (by rw [hw, Ny170.out]; exact HP54.1); clear HP54; replace HO_10 := Aside0.mk (Kd.R_after (v := (.slice (some ⟨go52, 0, none⟩) x4_3.length co52)) (v1 := (.slice (some ⟨go52, 0, none⟩) x4_3.length co52)) (ok := (fun k_ => some k_ ≠ (.slice Ao29 t148.length co29 : Value).ownBlock ∧ some k_ ≠ (.slice Ao35 t155.length co35 : Value).ownBlock)) (by (with_reducible repeat (first | apply Kd.R_alloc | apply Kd.R_drewN | apply Kd.R_drew)); exact Kd.R_mono HO_10.out (fun _ hk => ⟨⟨hk.2.1, hk.2.2⟩, hk.1⟩)) hg (.inl rfl)); replace HO_65 := Aside0.mk (Kd.R_over' (v := (.slice (some ⟨go52, 0, none⟩) x4_3.length co52)) (kdA HO_65.out) (Kd.R_typed HO_4.out) (by decide) hg); replace HO_153002 := Aside0.mk (Kd.R_after (v := (.slice (some ⟨go52, 0, none⟩) x4_3.length co52)) (v1 := (.slice (some ⟨go52, 0, none⟩) x4_3.length co52)) (ok := (fun k_ => some k_ ≠ (.slice (some ad169) t160.length co53 : Value).ownBlock ∧ some k_ ≠ (.slice Ao35 t155.length co35 : Value).ownBlock)) (by (with_reducible repeat (first | apply Kd.R_alloc | apply Kd.R_drewN | apply Kd.R_drew)); exact Kd.R_mono HO_153002.out (fun _ hk => ⟨⟨hk.2.1, hk.2.2⟩, hk.1⟩)) hg (.inl rfl)); replace HO_160002 := Aside0.mk (Kd.R_after (v := (.slice (some ⟨go52, 0, none⟩) x4_3.length co52)) (v1 := (.slice (some ⟨go52, 0, none⟩) x4_3.length co52)) (ok := (fun k_ => some k_ ≠ (.slice (some ad169) t160.length co53 : Value).ownBlock ∧ some k_ ≠ (.slice Ao29 t148.length co29 : Value).ownBlock)) (by (with_reducible repeat (first | apply Kd.R_alloc | apply Kd.R_drewN | apply Kd.R_drew)); exact Kd.R_mono HO_160002.out (fun _ hk => ⟨⟨hk.2.1, hk.2.2⟩, hk.1⟩)) hg (.inl rfl)); replace BK140 := bkG BK140 hg (Kd.R_ne HO_4.out BK140.out (by decide)); replace BK152 := bkG BK152 hg (Kd.R_ne HO_4.out BK152.out (by decide)); replace BK159 := bkG BK159 hg (Kd.R_ne HO_4.out BK159.out (by decide)); replace HO_4 := Aside0.mk (hp_); replace HB := Aside0.mk ((by rw [hw]; exact below_set (HB.out) GB52.out : Below w.heap.size w w55)); clear hg hw hp_))
                                        go_roundg k3
                                        case measure => have := HJ2.out; have := HJ19.out; have := HK3.out; omega
                                        case rel => exact ⟨(y170), (wrap64 (x67_3 + 1)), rsE, H', ⟨by have := HJ2.out; have := HJ19.out; have := HK3.out; omega⟩, ⟨kdA HO_4.out⟩, ⟨by (with_reducible repeat (first | apply Kd.R_alloc | apply Kd.R_drewN | apply Kd.R_drew)); exact Kd.R_mono HO_10.out (fun _ hk => ⟨hk.2, ⟨hk.1.1, hk.1.2⟩⟩)⟩, ⟨kdA HO_65.out⟩, ⟨by (with_reducible repeat (first | apply Kd.R_alloc | apply Kd.R_drewN | apply Kd.R_drew)); exact Kd.R_mono HO_153002.out (fun _ hk => ⟨hk.2, ⟨hk.1.1, hk.1.2⟩⟩)⟩, ⟨by (with_reducible repeat (first | apply Kd.R_alloc | apply Kd.R_drewN | apply Kd.R_drew)); exact Kd.R_mono HO_160002.out (fun _ hk => ⟨hk.2, ⟨hk.1.1, hk.1.2⟩⟩)⟩, ⟨bkA BK140.out⟩, ⟨bkA BK152.out⟩, ⟨bkA BK159.out⟩, ⟨hbA HB.out⟩⟩
                                      · rw [if_neg c51] at H
                                        exact absurd H (by simp)
                                    · rw [if_neg c50] at H
                                      exact absurd H (by simp)
                                  · rw [if_neg c49] at H
                                    exact absurd H (by simp)
                                · rw [if_neg c48] at H
                                  exact absurd H (by simp)
                              · rw [if_neg c47] at H
                                exact absurd H (by simp)
                            · rw [if_neg c46] at H
                              have c46b0 : decide (x67_3 < (t142.length : Int)) = false := decide_eq_false c46
                              clear c46
                              simp only [Option.some.injEq, Prod.mk.injEq] at H
                              obtain ⟨rfl, rfl, rfl⟩ := H
                              go_wp2
                              go_ret3
                              exact ⟨_, rfE, by (with_reducible repeat (first | apply Kd.R_alloc | apply Kd.R_drewN | apply Kd.R_drew)); exact Kd.R_mono HO_4.out (fun _ hk => trivial), hbA HB.out⟩
                      · rw [if_neg c40] at H
                        exact absurd H (by simp)
                    · rw [if_neg c39] at H
                      exact absurd H (by simp)
            · rw [if_neg c18] at H
              have c18b0 : (t158 == 0) = false := beq_eq_false_iff_ne.mpr c18
              have c18b1 : (t158 != 0) = true := bne_iff_ne.mpr c18
              simp only [Option.some.injEq, Prod.mk.injEq] at H
              obtain ⟨rfl, rfl, rfl⟩ := H
              obtain ⟨hcz56_0, hcz56_1, hcz56_2, hfz56_0, hfz56_1, hfz56_2⟩ := cell3 BK140
              go_wp2_with (first | ((with_reducible refine gC 68 rfl ?_); refine cG (some 25) Tryd.func68 #[.agg #[.int .i64 a0_0, .int .i64 a0_1, .slice A0_2 l0_2.length c0_2]] ?_; (with_reducible refine (gauss_First.calls a0_0 a0_1 _ _ l0_2 t142 t145 _ ?side1 ?side2 A13.out).mono ?_); (case side1 => exact kcB HR0_2 HB); (case side2 => exact HC0_2.out); rintro e w57 ⟨v143, rfl, ho0, hb⟩; refine ⟨_, rfl, ?_⟩; have HO144 := Aside0.mk (Kd.R_lower ho0 (below_size (hbA HB.out))); replace BK140 := bkB BK140 hb; replace HB := hbB HB hb; (try clear hb); (try clear hb2); (try clear hk); (try clear hi); (try clear ho0); obtain ⟨hcz58_0, hcz58_1, hcz58_2, hfz58_0, hfz58_1, hfz58_2⟩ := cell3 BK140; obtain ⟨Ao59, co59, eo59⟩ := Kd.R_slice HO144.out; subst eo59) | ((with_reducible refine gC 34 rfl ?_); refine cG (some 34) Tryd.func34 #[.agg #[.int .i64 a0_0, .int .i64 a0_1, .slice A0_2 l0_2.length c0_2], .slice Ao59 t142.length co59] ?_; (with_reducible refine (matrix_Pick.calls a0_0 a0_1 _ _ l0_2 _ _ t142 t146 t147 t148 t151 _ ?side1 ?side2 ?side3 ?side4 A15.out).mono ?_); (case side1 => exact kcB HR0_2 HB); (case side2 => exact HC0_2.out); (case side3 => exact kcA (Kd.R_reads' HO144.out).2.2); (case side4 => exact (Kd.R_reads' HO144.out).2.1); rintro e w60 ⟨v149, rfl, ho0, hb⟩; refine ⟨_, rfl, ?_⟩; replace HO144 := kdB HO144 hb; have HO150 := Aside0.mk (Kd.R_lower ho0 (below_size (hbA HB.out))); replace BK140 := bkB BK140 hb; replace HB := hbB HB hb; (try clear hb); (try clear hb2); (try clear hk); (try clear hi); (try clear ho0)) | ((with_reducible refine gD 8 rfl ?_); (try (refine gate_guard (by rfl) ?_; dsimp only)); refine bE 8 #[.int .i64 0, .int .i64 0, .slice none 0 0] 24 ?_; intro gb152 hg w61 hbox hb; replace HO144 := kdB HO144 hb; replace HO150 := kdB HO150 hb; have BK152 := Aside0.mk (hbox); have GW152 := hbS HB hg; have GE152 := hbS HB hg; replace HB := hbB HB hb; have NB140_152 := neL BK140 hg; have NB152_140 := neG BK140 hg; replace BK140 := bkB BK140 hb; clear hb hbox hg; have hnb62 := NB152_140.out; have hnc62 := NB140_152.out; obtain ⟨hcz63_0, hcz63_1, hcz63_2, hfz63_0, hfz63_1, hfz63_2⟩ := cell3 BK152; obtain ⟨Ao64, co64, eo64⟩ := Kd.R_slice HO150.out; subst eo64) | ((with_reducible refine gC 69 rfl ?_); refine cG (some 42) Tryd.func69 #[.agg #[.int .i64 t146, .int .i64 t147, .slice Ao64 t148.length co64]] ?_; (with_reducible refine (matrix_Transpose.calls t146 t147 _ _ t148 t153 t154 t155 t158 _ ?side1 ?side2 A17.out).mono ?_); (case side1 => refine (Kd.R_reads' (e := 5) (base := w.heap.size) (ok := fun k_ => True) (n := t148.length) (c := co64) ?_).2.2; exact (by (with_reducible repeat (first | apply Kd.R_alloc | apply Kd.R_drewN | apply Kd.R_drew)); exact (Kd.R_mono (Kd.R_far (p := ⟨gb152, 2, none⟩) (Kd.R_far (p := ⟨gb152, 1, none⟩) (Kd.R_far (p := ⟨gb152, 0, none⟩) (Kd.R_types HO150.out BK152.out (by decide)) (fun _ hk => hk.2) (.int .i64 t146)) (fun _ hk => hk.2) (.int .i64 t147)) (fun _ hk => hk.2) (.slice Ao64 t148.length co64)) (fun _ h_ => h_.1)))); (case side2 => exact (Kd.R_reads' HO150.out).2.1); rintro e w65 ⟨v156, rfl, ho0, hb⟩; refine ⟨_, rfl, ?_⟩; replace HO144 := Aside0.mk (Kd.R_below (by (with_reducible repeat (first | apply Kd.R_alloc | apply Kd.R_drewN | apply Kd.R_drew)); exact (Kd.R_mono (Kd.R_far (p := ⟨gb152, 2, none⟩) (Kd.R_far (p := ⟨gb152, 1, none⟩) (Kd.R_far (p := ⟨gb152, 0, none⟩) (Kd.R_types HO144.out BK152.out (by decide)) (fun _ hk => hk.2) (.int .i64 t146)) (fun _ hk => hk.2) (.int .i64 t147)) (fun _ hk => hk.2) (.slice Ao64 t148.length co64)) (fun _ h_ => h_.1))) hb); have HO157 := Aside0.mk (Kd.R_lower (Kd.R_new' ho0 (Kd.R_lt (by (with_reducible repeat (first | apply Kd.R_alloc | apply Kd.R_drewN | apply Kd.R_drew)); exact (Kd.R_mono (Kd.R_far (p := ⟨gb152, 2, none⟩) (Kd.R_far (p := ⟨gb152, 1, none⟩) (Kd.R_far (p := ⟨gb152, 0, none⟩) (Kd.R_types HO150.out BK152.out (by decide)) (fun _ hk => hk.2) (.int .i64 t146)) (fun _ hk => hk.2) (.int .i64 t147)) (fun _ hk => hk.2) (.slice Ao64 t148.length co64)) (fun _ h_ => h_.1))))) (below_size (hbA HB.out))); replace HO150 := Aside0.mk (Kd.R_elder' (by (with_reducible repeat (first | apply Kd.R_alloc | apply Kd.R_drewN | apply Kd.R_drew)); exact (Kd.R_mono (Kd.R_far (p := ⟨gb152, 2, none⟩) (Kd.R_far (p := ⟨gb152, 1, none⟩) (Kd.R_far (p := ⟨gb152, 0, none⟩) (Kd.R_types HO150.out BK152.out (by decide)) (fun _ hk => hk.2) (.int .i64 t146)) (fun _ hk => hk.2) (.int .i64 t147)) (fun _ hk => hk.2) (.slice Ao64 t148.length co64)) (fun _ h_ => h_.1))) (Kd.R_base ho0) hb); replace BK140 := Aside0.mk (blk_below (g := gb140) (o := .cells #[.int .i64 a0_0, .int .i64 a0_1, .slice A0_2 l0_2.length c0_2] 24 (0, 0)) (by refine bkR ?_; refine blk_far ?_ NB140_152.out _; refine bkR ?_; refine blk_far ?_ NB140_152.out _; refine bkR ?_; refine blk_far ?_ NB140_152.out _; refine bkR ?_; exact BK140.out) hb); replace BK152 := Aside0.mk (blk_below (g := gb152) (o := .cells #[.int .i64 t146, .int .i64 t147, .slice Ao64 t148.length co64] 24 (0, 0)) (by refine bkR ?_; refine blk_put (cs := #[.int .i64 t146, .int .i64 t147, .slice none 0 0]) ?_ 2 _ rfl; refine bkR ?_; refine blk_put (cs := #[.int .i64 t146, .int .i64 0, .slice none 0 0]) ?_ 1 _ rfl; refine bkR ?_; refine blk_put (cs := #[.int .i64 0, .int .i64 0, .slice none 0 0]) ?_ 0 _ rfl; refine bkR ?_; exact BK152.out) hb); replace HB := hbB HB hb; (try clear hb); (try clear hb2); (try clear hk); (try clear hi); (try clear ho0)) | ((with_reducible refine gD 9 rfl ?_); (try (refine gate_guard (by rfl) ?_; dsimp only)); refine bE 9 #[.int .i64 0, .int .i64 0, .slice none 0 0] 24 ?_; intro gb159 hg w66 hbox hb; replace HO144 := kdB HO144 hb; replace HO150 := kdB HO150 hb; replace HO157 := kdB HO157 hb; have BK159 := Aside0.mk (hbox); have GW159 := hbS HB hg; have GE159 := hbS HB hg; replace HB := hbB HB hb; have NB140_159 := neL BK140 hg; have NB159_140 := neG BK140 hg; replace BK140 := bkB BK140 hb; have NB152_159 := neL BK152 hg; have NB159_152 := neG BK152 hg; replace BK152 := bkB BK152 hb; clear hb hbox hg; have hnb67 := NB159_140.out; have hnc67 := NB140_159.out; have hnb68 := NB159_152.out; have hnc68 := NB152_159.out; obtain ⟨hcz69_0, hcz69_1, hcz69_2, hfz69_0, hfz69_1, hfz69_2⟩ := cell3 BK159; obtain ⟨Ao70, co70, eo70⟩ := Kd.R_slice HO157.out; subst eo70))
              go_ret3
              exact ⟨_, rfE, nilE, hbA HB.out⟩
          · rw [if_neg c16] at H
            have c16b0 : (t151 == 0) = false := beq_eq_false_iff_ne.mpr c16
            have c16b1 : (t151 != 0) = true := bne_iff_ne.mpr c16
            simp only [Option.some.injEq, Prod.mk.injEq] at H
            obtain ⟨rfl, rfl, rfl⟩ := H
            obtain ⟨hcz71_0, hcz71_1, hcz71_2, hfz71_0, hfz71_1, hfz71_2⟩ := cell3 BK140
            go_wp2_with (first | ((with_reducible refine gC 68 rfl ?_); refine cG (some 25) Tryd.func68 #[.agg #[.int .i64 a0_0, .int .i64 a0_1, .slice A0_2 l0_2.length c0_2]] ?_; (with_reducible refine (gauss_First.calls a0_0 a0_1 _ _ l0_2 t142 t145 _ ?side1 ?side2 A13.out).mono ?_); (case side1 => exact kcB HR0_2 HB); (case side2 => exact HC0_2.out); rintro e w72 ⟨v143, rfl, ho0, hb⟩; refine ⟨_, rfl, ?_⟩; have HO144 := Aside0.mk (Kd.R_lower ho0 (below_size (hbA HB.out))); replace BK140 := bkB BK140 hb; replace HB := hbB HB hb; (try clear hb); (try clear hb2); (try clear hk); (try clear hi); (try clear ho0); obtain ⟨hcz73_0, hcz73_1, hcz73_2, hfz73_0, hfz73_1, hfz73_2⟩ := cell3 BK140; obtain ⟨Ao74, co74, eo74⟩ := Kd.R_slice HO144.out; subst eo74) | ((with_reducible refine gC 34 rfl ?_); refine cG (some 34) Tryd.func34 #[.agg #[.int .i64 a0_0, .int .i64 a0_1, .slice A0_2 l0_2.length c0_2], .slice Ao74 t142.length co74] ?_; (with_reducible refine (matrix_Pick.calls a0_0 a0_1 _ _ l0_2 _ _ t142 t146 t147 t148 t151 _ ?side1 ?side2 ?side3 ?side4 A15.out).mono ?_); (case side1 => exact kcB HR0_2 HB); (case side2 => exact HC0_2.out); (case side3 => exact kcA (Kd.R_reads' HO144.out).2.2); (case side4 => exact (Kd.R_reads' HO144.out).2.1); rintro e w75 ⟨v149, rfl, ho0, hb⟩; refine ⟨_, rfl, ?_⟩; replace HO144 := kdB HO144 hb; have HO150 := Aside0.mk (Kd.R_lower ho0 (below_size (hbA HB.out))); replace BK140 := bkB BK140 hb; replace HB := hbB HB hb; (try clear hb); (try clear hb2); (try clear hk); (try clear hi); (try clear ho0)) | ((with_reducible refine gD 8 rfl ?_); (try (refine gate_guard (by rfl) ?_; dsimp only)); refine bE 8 #[.int .i64 0, .int .i64 0, .slice none 0 0] 24 ?_; intro gb152 hg w76 hbox hb; replace HO144 := kdB HO144 hb; replace HO150 := kdB HO150 hb; have BK152 := Aside0.mk (hbox); have GW152 := hbS HB hg; have GE152 := hbS HB hg; replace HB := hbB HB hb; have NB140_152 := neL BK140 hg; have NB152_140 := neG BK140 hg; replace BK140 := bkB BK140 hb; clear hb hbox hg; have hnb77 := NB152_140.out; have hnc77 := NB140_152.out; obtain ⟨hcz78_0, hcz78_1, hcz78_2, hfz78_0, hfz78_1, hfz78_2⟩ := cell3 BK152; obtain ⟨Ao79, co79, eo79⟩ := Kd.R_slice HO150.out; subst eo79))
            go_ret3
            exact ⟨_, rfE, nilE, hbA HB.out⟩
        · rw [if_neg c14] at H
          have c14b0 : (t145 == 0) = false := beq_eq_false_iff_ne.mpr c14
          have c14b1 : (t145 != 0) = true := bne_iff_ne.mpr c14
          simp only [Option.some.injEq, Prod.mk.injEq] at H
          obtain ⟨rfl, rfl, rfl⟩ := H
          obtain ⟨hcz80_0, hcz80_1, hcz80_2, hfz80_0, hfz80_1, hfz80_2⟩ := cell3 BK140
          go_wp2_with (first | ((with_reducible refine gC 68 rfl ?_); refine cG (some 25) Tryd.func68 #[.agg #[.int .i64 a0_0, .int .i64 a0_1, .slice A0_2 l0_2.length c0_2]] ?_; (with_reducible refine (gauss_First.calls a0_0 a0_1 _ _ l0_2 t142 t145 _ ?side1 ?side2 A13.out).mono ?_); (case side1 => exact kcB HR0_2 HB); (case side2 => exact HC0_2.out); rintro e w81 ⟨v143, rfl, ho0, hb⟩; refine ⟨_, rfl, ?_⟩; have HO144 := Aside0.mk (Kd.R_lower ho0 (below_size (hbA HB.out))); replace BK140 := bkB BK140 hb; replace HB := hbB HB hb; (try clear hb); (try clear hb2); (try clear hk); (try clear hi); (try clear ho0)))
          go_ret3
          exact ⟨_, rfE, nilE, hbA HB.out⟩

end Go.Proofs.YtjgcocfnilhggaaDoor.Q
