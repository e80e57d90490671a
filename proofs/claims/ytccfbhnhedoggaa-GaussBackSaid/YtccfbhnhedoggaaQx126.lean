/- Written by drive.py (a program of this repo, over the kit's print): each Go function named here answers what the Lean function beside it answers, wherever that one answers, in every world that meets the stated premises. -/
import Derived.Test.YtccfbhnhedoggaaQx0
import Derived.Test.YtccfbhnhedoggaaQx121
import Derived.Test.YtccfbhnhedoggaaQx125
import Derived.Test.YtccfbhnhedoggaaQx149
namespace Go.Proofs.Ytccfbhnhedoggaa.Q
open Go.RowKit Go.Proofs.YtccfbhnhedoggaaW.PrintWords Go.Proofs.YtccfbhnhedoggaaW.PrintLast Go.Proofs.YtccfbhnhedoggaaW.PrintMore
attribute [local go_sem] max2_int min2_int max_two min_two max_three min_three max_four min_four   -- for this text's walks alone
set_option linter.unusedVariables false
set_option linter.unusedSimpArgs false

/-! ### recoupref03_Mul: function 26 -/
mutual
def recoupref03_Mul.j0 : Nat → Bool → Int → Int → List Int → Int → Int → List Int → Option (Int × Int × List Int × Int)
  | 0, _, _, _, _, _, _, _ => none
  | k + 1, x24, x406000, x406001, x406002, x407000, x407001, x407002 => if x24 = true then (some (0, 0, ([] : List Int), 3)) else ((recoupref03_Zero.f x406000 x407001).bind fun bt410 => (recoupref03_Mul.l0 k 0 x406000 x406001 x406002 x407000 x407001 x407002 bt410.1 bt410.2.1 bt410.2.2))
def recoupref03_Mul.l0 : Nat → Int → Int → Int → List Int → Int → Int → List Int → Int → Int → List Int → Option (Int × Int × List Int × Int)
  | 0, _, _, _, _, _, _, _, _, _, _ => none
  | k + 1, x7, x406000, x406001, x406002, x407000, x407001, x407002, x416000, x416001, x416002 => if x7 < x406000 then (recoupref03_Mul.l1 k x7 0 x406000 x406001 x406002 x407000 x407001 x407002 x416000 x416001 x416002) else (some (x416000, x416001, x416002, 0))
def recoupref03_Mul.l1 : Nat → Int → Int → Int → Int → List Int → Int → Int → List Int → Int → Int → List Int → Option (Int × Int × List Int × Int)
  | 0, _, _, _, _, _, _, _, _, _, _, _ => none
  | k + 1, x7, x8, x406000, x406001, x406002, x407000, x407001, x407002, x416000, x416001, x416002 => if x8 < x407001 then (recoupref03_Mul.l2 k x7 x8 0 x406000 x406001 x406002 x407000 x407001 x407002 x416000 x416001 x416002) else (recoupref03_Mul.l0 k (wrap64 (x7 + 1)) x406000 x406001 x406002 x407000 x407001 x407002 x416000 x416001 x416002)
def recoupref03_Mul.l2 : Nat → Int → Int → Int → Int → Int → List Int → Int → Int → List Int → Int → Int → List Int → Option (Int × Int × List Int × Int)
  | 0, _, _, _, _, _, _, _, _, _, _, _, _ => none
  | k + 1, x7, x8, x9, x406000, x406001, x406002, x407000, x407001, x407002, x416000, x416001, x416002 => if x9 < x406001 then (if 0 ≤ (wrap64 ((wrap64 (x7 * x416001)) + x8)) then (if (wrap64 ((wrap64 (x7 * x416001)) + x8)) < (x416002.length : Int) then ((recoupref03_At.f x406000 x406001 x406002 x7 x9).bind fun t417 => ((recoupref03_At.f x407000 x407001 x407002 x9 x8).bind fun t418 => ((recoupref01_Mul.f k t417 t418).bind fun t419 => (recoupref03_Mul.l2 k x7 x8 (wrap64 (x9 + 1)) x406000 x406001 x406002 x407000 x407001 x407002 x416000 x416001 (x416002.set ((wrap64 ((wrap64 (x7 * x416001)) + x8)) : Int).toNat (Go.bits .xor .u8 (rd x416002 (wrap64 ((wrap64 (x7 * x416001)) + x8))) t419)))))) else (none)) else (none)) else (recoupref03_Mul.l1 k x7 (wrap64 (x8 + 1)) x406000 x406001 x406002 x407000 x407001 x407002 x416000 x416001 x416002)
end
def recoupref03_Mul.f (k : Nat) (a0_0 : Int) (a0_1 : Int) (l0_2 : List Int) (a1_0 : Int) (a1_1 : Int) (l1_2 : List Int) : Option (Int × Int × List Int × Int) := (recoupref03_Right.f a0_0 a0_1 l0_2).bind fun t408 => (if t408 = true then ((recoupref03_Right.f a1_0 a1_1 l1_2).bind fun t409 => (if t409 = true then (recoupref03_Mul.j0 k (a0_1 != a1_0) a0_0 a0_1 l0_2 a1_0 a1_1 l1_2) else (recoupref03_Mul.j0 k true a0_0 a0_1 l0_2 a1_0 a1_1 l1_2))) else (recoupref03_Mul.j0 k true a0_0 a0_1 l0_2 a1_0 a1_1 l1_2))
theorem recoupref03_Mul.mono_l : ∀ k, (∀ y0 y1 y2 y3 y4 y5 y6, LeO (recoupref03_Mul.j0 k y0 y1 y2 y3 y4 y5 y6) (recoupref03_Mul.j0 (k + 1) y0 y1 y2 y3 y4 y5 y6)) ∧ (∀ y0 y1 y2 y3 y4 y5 y6 y7 y8 y9, LeO (recoupref03_Mul.l0 k y0 y1 y2 y3 y4 y5 y6 y7 y8 y9) (recoupref03_Mul.l0 (k + 1) y0 y1 y2 y3 y4 y5 y6 y7 y8 y9)) ∧ (∀ y0 y1 y2 y3 y4 y5 y6 y7 y8 y9 y10, LeO (recoupref03_Mul.l1 k y0 y1 y2 y3 y4 y5 y6 y7 y8 y9 y10) (recoupref03_Mul.l1 (k + 1) y0 y1 y2 y3 y4 y5 y6 y7 y8 y9 y10)) ∧ (∀ y0 y1 y2 y3 y4 y5 y6 y7 y8 y9 y10 y11, LeO (recoupref03_Mul.l2 k y0 y1 y2 y3 y4 y5 y6 y7 y8 y9 y10 y11) (recoupref03_Mul.l2 (k + 1) y0 y1 y2 y3 y4 y5 y6 y7 y8 y9 y10 y11))
  | 0 => ⟨fun _ _ _ _ _ _ _ r h => by simp [recoupref03_Mul.j0] at h, fun _ _ _ _ _ _ _ _ _ _ r h => by simp [recoupref03_Mul.l0] at h, fun _ _ _ _ _ _ _ _ _ _ _ r h => by simp [recoupref03_Mul.l1] at h, fun _ _ _ _ _ _ _ _ _ _ _ _ r h => by simp [recoupref03_Mul.l2] at h⟩
  | k + 1 => by
    obtain ⟨ih0, ih1, ih2, ih3⟩ := recoupref03_Mul.mono_l k
    refine ⟨?_, ?_, ?_, ?_⟩
    all_goals (intros; first | unfold recoupref03_Mul.j0 | unfold recoupref03_Mul.l0 | unfold recoupref03_Mul.l1 | unfold recoupref03_Mul.l2)
    all_goals repeat' first | (with_reducible exact ih0 _ _ _ _ _ _ _) | (with_reducible exact ih1 _ _ _ _ _ _ _ _ _ _) | (with_reducible exact ih2 _ _ _ _ _ _ _ _ _ _ _) | (with_reducible exact ih3 _ _ _ _ _ _ _ _ _ _ _ _) | (with_reducible exact recoupref01_Mul.mono _ _ _) | (with_reducible exact LeO.refl _) | (with_reducible exact LeO.none _) | (with_reducible refine LeO.ite ?_ ?_) | (with_reducible refine LeO.bind ?_ (fun _ => ?_)) | exact ih0 _ _ _ _ _ _ _ | exact ih1 _ _ _ _ _ _ _ _ _ _ | exact ih2 _ _ _ _ _ _ _ _ _ _ _ | exact ih3 _ _ _ _ _ _ _ _ _ _ _ _ | exact recoupref01_Mul.mono _ _ _ | exact LeO.none _ | refine LeO.ite ?_ ?_ | refine LeO.bind ?_ (fun _ => ?_)
theorem recoupref03_Mul.mono : ∀ a0 a1 a2 a3 a4 a5 k, LeO (recoupref03_Mul.f k a0 a1 a2 a3 a4 a5) (recoupref03_Mul.f (k + 1) a0 a1 a2 a3 a4 a5) := by
  intro a0 a1 a2 a3 a4 a5 k
  obtain ⟨ih0, ih1, ih2, ih3⟩ := recoupref03_Mul.mono_l k
  unfold recoupref03_Mul.f
  repeat' first
      | (with_reducible exact ih0 _ _ _ _ _ _ _)
      | (with_reducible exact ih1 _ _ _ _ _ _ _ _ _ _)
      | (with_reducible exact ih2 _ _ _ _ _ _ _ _ _ _ _)
      | (with_reducible exact ih3 _ _ _ _ _ _ _ _ _ _ _ _)
      | (with_reducible exact recoupref01_Mul.mono _ _ _)
      | (with_reducible exact LeO.refl _)
      | (with_reducible exact LeO.none _)
      | (with_reducible refine LeO.ite ?_ ?_)
      | (with_reducible refine LeO.bind ?_ (fun _ => ?_))
      | exact ih0 _ _ _ _ _ _ _
      | exact ih1 _ _ _ _ _ _ _ _ _ _
      | exact ih2 _ _ _ _ _ _ _ _ _ _ _
      | exact ih3 _ _ _ _ _ _ _ _ _ _ _ _
      | exact recoupref01_Mul.mono _ _ _
      | exact LeO.none _
      | refine LeO.ite ?_ ?_
      | refine LeO.bind ?_ (fun _ => ?_)
def recoupref03_Mul.T13 : Bool × List (List Nat × List Nat) := (true, [([], []), ([0], [0]), ([], []), ([], []), ([3], [3]), ([2, 4], [2, 4]), ([], []), ([5, 6], [5, 6]), ([1, 7], [1, 7]), ([8], [8]), ([], []), ([], []), ([], []), ([10, 11, 12], [10, 11, 12]), ([], []), ([], []), ([], []), ([14, 15, 16, 13], [14, 15, 16]), ([13, 17, 17], [13, 17]), ([9, 18], [9, 18]), ([1, 7, 0, 1, 2, 3, 4, 5, 6, 7, 8, 9, 10, 11, 12, 13, 14, 15, 16, 17, 18, 19], [1, 7]), ([20, 19, 18, 0, 1, 2, 3, 4, 5, 6, 7, 8, 9, 10, 11, 12, 13, 14, 15, 16, 17, 18, 19], [19, 20])])
def recoupref03_Mul.B13 : List Nat := [0, 1, 0, 0, 8, 28, 0, 124, 255, 511, 0, 0, 0, 7168, 0, 0, 0, 130048, 261120, 524287, 1048575, 2097151]
theorem recoupref03_Mul.tab13 : rtab .any (opsOf Try.f26 13) = recoupref03_Mul.T13 := by kernel_rfl
theorem recoupref03_Mul.bits13 : waitsOk recoupref03_Mul.T13.2 recoupref03_Mul.B13 = true := by kernel_rfl
set_option maxHeartbeats 8000000 in
set_option maxRecDepth 100000 in
theorem recoupref03_Mul.calls (k : Nat) (a0_0 : Int) (a0_1 : Int) (A0_2 : Option Addr) (c0_2 : Nat) (l0_2 : List Int) (a1_0 : Int) (a1_1 : Int) (A1_2 : Option Addr) (c1_2 : Nat) (l1_2 : List Int) (r1 : Int) (r2 : Int) (r3 : List Int) (r4 : Int) (w : World) (hr0_2 : Kd.C (Kd.int .u8) w A0_2 l0_2.length l0_2) (hc0_2 : l0_2.length ≤ c0_2) (hr1_2 : Kd.C (Kd.int .u8) w A1_2 l1_2.length l1_2) (hc1_2 : l1_2.length ≤ c1_2) (h : recoupref03_Mul.f k a0_0 a0_1 l0_2 a1_0 a1_1 l1_2 = some (r1, r2, r3, r4)) :
    Calls Try.prog 26 #[.agg #[.int .i64 a0_0, .int .i64 a0_1, .slice A0_2 l0_2.length c0_2], .agg #[.int .i64 a1_0, .int .i64 a1_1, .slice A1_2 l1_2.length c1_2]] w fun e w' => ∃ v2_ : Value, e = .returned (.tuple #[.agg #[.int .i64 r1, .int .i64 r2, v2_], .int .i64 r4]) ∧ Kd.R (Kd.int .u8) 5 w' w.heap.size (fun _ => True) v2_ r3 ∧ Below w.heap.size w w' := by
  have hu24 := Try.underlying24
  have HR0_2 := Aside0.mk hr0_2
  have HC0_2 := Aside0.mk hc0_2
  clear hr0_2 hc0_2
  have HR1_2 := Aside0.mk hr1_2
  have HC1_2 := Aside0.mk hc1_2
  clear hr1_2 hc1_2
  have HB := Aside0.mk (Below.refl w.heap.size w)
  have H : ((recoupref03_Right.f a0_0 a0_1 l0_2).bind fun t408 => (if t408 = true then ((recoupref03_Right.f a1_0 a1_1 l1_2).bind fun t409 => (if t409 = true then (recoupref03_Mul.j0 k (a0_1 != a1_0) a0_0 a0_1 l0_2 a1_0 a1_1 l1_2) else (recoupref03_Mul.j0 k true a0_0 a0_1 l0_2 a1_0 a1_1 l1_2))) else (recoupref03_Mul.j0 k true a0_0 a0_1 l0_2 a1_0 a1_1 l1_2))) = some (r1, r2, r3, r4) := h
  clear h
  have HC3 := Aside0.mk H
  clear H
  go_enter Try.func26, Try.ntmps26
  go_upto_region 1 with (first | ((with_reducible refine gD 2 rfl ?_); refine bE 2 #[.int .i64 a0_0, .int .i64 a0_1, .slice A0_2 l0_2.length c0_2] 24 ?_; intro gb405 hg w4 hbox hb; have BK405 := Aside0.mk (hbox); have GW405 := hbS HB hg; have GE405 := hbS HB hg; replace HB := hbB HB hb; clear hb hbox hg) | ((with_reducible refine gD 3 rfl ?_); refine bE 3 #[.int .i64 a1_0, .int .i64 a1_1, .slice A1_2 l1_2.length c1_2] 24 ?_; intro gb406 hg w5 hbox hb; have BK406 := Aside0.mk (hbox); have GW406 := hbS HB hg; have GE406 := hbS HB hg; replace HB := hbB HB hb; have NB405_406 := neL BK405 hg; have NB406_405 := neG BK405 hg; replace BK405 := bkB BK405 hb; clear hb hbox hg) | ((with_reducible refine gD 4 rfl ?_); refine bE 4 #[.int .i64 0, .int .i64 0, .slice none 0 0] 24 ?_; intro gb407 hg w6 hbox hb; have BK407 := Aside0.mk (hbox); have GW407 := hbS HB hg; have GE407 := hbS HB hg; replace HB := hbB HB hb; have NB405_407 := neL BK405 hg; have NB407_405 := neG BK405 hg; replace BK405 := bkB BK405 hb; have NB406_407 := neL BK406 hg; have NB407_406 := neG BK406 hg; replace BK406 := bkB BK406 hb; clear hb hbox hg))
  (try simp only [Act.put, List.setIfInBounds_toArray, List.set_cons_zero, List.set_cons_succ])
  go_cut [24] (fun v24 wc => ∃ (kq : Nat) (x24_2 : Bool), v24 = .bool x24_2 ∧ Aside0 (recoupref03_Mul.j0 kq x24_2 a0_0 a0_1 l0_2 a1_0 a1_1 l1_2 = some (r1, r2, r3, r4)) ∧ Aside0 (kq ≤ k) ∧ Aside0 (wc.heap[gb405]? = some (.cells #[.int .i64 a0_0, .int .i64 a0_1, (.slice A0_2 l0_2.length c0_2)] 24 (0, 0))) ∧ Aside0 (wc.heap[gb406]? = some (.cells #[.int .i64 a1_0, .int .i64 a1_1, (.slice A1_2 l1_2.length c1_2)] 24 (0, 0))) ∧ Aside0 (wc.heap[gb407]? = some (.cells #[.int .i64 0, .int .i64 0, (.slice none 0 0)] 24 (0, 0))) ∧ Aside0 (Below w.heap.size w wc))
  case first =>
    have H := HC3.out
    clear HC3
    obtain ⟨t408, A7, H⟩ := bindO H
    (try dsimp only at H)
    by_cases c8 : t408 = true
    · subst c8
      rw [if_pos rfl] at H
      obtain ⟨t409, A9, H⟩ := bindO H
      (try dsimp only at H)
      by_cases c10 : t409 = true
      · subst c10
        rw [if_pos rfl] at H
        have H' := Aside0.mk H
        clear H
        have hnb11 := NB405_406.out
        have hnc11 := NB406_405.out
        have hnb12 := NB405_407.out
        have hnc12 := NB407_405.out
        obtain ⟨hcz13_0, hcz13_1, hcz13_2, hfz13_0, hfz13_1, hfz13_2⟩ := cell3 BK405
        go_wp2_with (first | ((with_reducible refine gC 21 rfl ?_); refine cG (some 11) Try.func21 #[.agg #[.int .i64 a0_0, .int .i64 a0_1, .slice A0_2 l0_2.length c0_2]] ?_; (with_reducible refine (recoupref03_Right.calls a0_0 a0_1 _ _ l0_2 true _ ?side1 ?side2 A7.out).mono ?_); (case side1 => exact kcB HR0_2 HB); (case side2 => exact HC0_2.out); rintro e w14 ⟨rfl, hb⟩; refine ⟨_, rfl, ?_⟩; replace BK405 := bkB BK405 hb; replace BK406 := bkB BK406 hb; replace BK407 := bkB BK407 hb; replace HB := hbB HB hb; (try clear hb); (try clear hb2); (try clear hk); (try clear hi); have hnb15 := NB406_407.out; have hnc15 := NB407_406.out; obtain ⟨hcz16_0, hcz16_1, hcz16_2, hfz16_0, hfz16_1, hfz16_2⟩ := cell3 BK406) | (go_at_call 21; (with_reducible refine (recoupref03_Right.calls a1_0 a1_1 _ _ l1_2 true _ ?side1 ?side2 A9.out).mono ?_); (case side1 => exact kcB HR1_2 HB); (case side2 => exact HC1_2.out); rintro e w17 ⟨rfl, hb⟩; replace BK405 := bkB BK405 hb; replace BK406 := bkB BK406 hb; replace BK407 := bkB BK407 hb; replace HB := hbB HB hb; (try clear hb); (try clear hb2); (try clear hk); (try clear hi); obtain ⟨hcz18_0, hcz18_1, hcz18_2, hfz18_0, hfz18_1, hfz18_2⟩ := cell3 BK405; obtain ⟨hcz19_0, hcz19_1, hcz19_2, hfz19_0, hfz19_1, hfz19_2⟩ := cell3 BK406))
        go_meet
        case rel => exact ⟨_, ((a0_1 != a1_0)), rsE, H', ⟨leE⟩, ⟨bkA BK405.out⟩, ⟨bkA BK406.out⟩, ⟨bkA BK407.out⟩, ⟨hbA HB.out⟩⟩
      · replace c10 := Bool.eq_false_iff.mpr c10
        subst c10
        rw [if_neg nofT] at H
        have H' := Aside0.mk H
        clear H
        have hnb20 := NB405_406.out
        have hnc20 := NB406_405.out
        have hnb21 := NB405_407.out
        have hnc21 := NB407_405.out
        obtain ⟨hcz22_0, hcz22_1, hcz22_2, hfz22_0, hfz22_1, hfz22_2⟩ := cell3 BK405
        go_wp2_with (first | ((with_reducible refine gC 21 rfl ?_); refine cG (some 11) Try.func21 #[.agg #[.int .i64 a0_0, .int .i64 a0_1, .slice A0_2 l0_2.length c0_2]] ?_; (with_reducible refine (recoupref03_Right.calls a0_0 a0_1 _ _ l0_2 true _ ?side1 ?side2 A7.out).mono ?_); (case side1 => exact kcB HR0_2 HB); (case side2 => exact HC0_2.out); rintro e w23 ⟨rfl, hb⟩; refine ⟨_, rfl, ?_⟩; replace BK405 := bkB BK405 hb; replace BK406 := bkB BK406 hb; replace BK407 := bkB BK407 hb; replace HB := hbB HB hb; (try clear hb); (try clear hb2); (try clear hk); (try clear hi); have hnb24 := NB406_407.out; have hnc24 := NB407_406.out; obtain ⟨hcz25_0, hcz25_1, hcz25_2, hfz25_0, hfz25_1, hfz25_2⟩ := cell3 BK406) | (go_at_call 21; (with_reducible refine (recoupref03_Right.calls a1_0 a1_1 _ _ l1_2 false _ ?side1 ?side2 A9.out).mono ?_); (case side1 => exact kcB HR1_2 HB); (case side2 => exact HC1_2.out); rintro e w26 ⟨rfl, hb⟩; replace BK405 := bkB BK405 hb; replace BK406 := bkB BK406 hb; replace BK407 := bkB BK407 hb; replace HB := hbB HB hb; (try clear hb); (try clear hb2); (try clear hk); (try clear hi)))
        go_meet
        case rel => exact ⟨_, (true), rsE, H', ⟨leE⟩, ⟨bkA BK405.out⟩, ⟨bkA BK406.out⟩, ⟨bkA BK407.out⟩, ⟨hbA HB.out⟩⟩
    · replace c8 := Bool.eq_false_iff.mpr c8
      subst c8
      rw [if_neg nofT] at H
      have H' := Aside0.mk H
      clear H
      have hnb27 := NB405_406.out
      have hnc27 := NB406_405.out
      have hnb28 := NB405_407.out
      have hnc28 := NB407_405.out
      obtain ⟨hcz29_0, hcz29_1, hcz29_2, hfz29_0, hfz29_1, hfz29_2⟩ := cell3 BK405
      go_wp2_with (first | ((with_reducible refine gC 21 rfl ?_); refine cG (some 11) Try.func21 #[.agg #[.int .i64 a0_0, .int .i64 a0_1, .slice A0_2 l0_2.length c0_2]] ?_; (with_reducible refine (recoupref03_Right.calls a0_0 a0_1 _ _ l0_2 false _ ?side1 ?side2 A7.out).mono ?_); (case side1 => exact kcB HR0_2 HB); (case side2 => exact HC0_2.out); rintro e w30 ⟨rfl, hb⟩; refine ⟨_, rfl, ?_⟩; replace BK405 := bkB BK405 hb; replace BK406 := bkB BK406 hb; replace BK407 := bkB BK407 hb; replace HB := hbB HB hb; (try clear hb); (try clear hb2); (try clear hk); (try clear hi)))
      go_meet
      case rel => exact ⟨_, (true), rsE, H', ⟨leE⟩, ⟨bkA BK405.out⟩, ⟨bkA BK406.out⟩, ⟨bkA BK407.out⟩, ⟨hbA HB.out⟩⟩
  case rest =>
    clear HC3
    (try clear c1); (try clear c2); (try clear p2); (try clear c8); (try clear c10); (try clear c11); (try clear c12); (try clear c15); (try clear c20); (try clear c21); (try clear c24); (try clear c26); (try clear c27); (try clear c28); (try clear hcz13_0 hcz13_1 hcz13_2 hfz13_0 hfz13_1 hfz13_2); (try clear hcz16_0 hcz16_1 hcz16_2 hfz16_0 hfz16_1 hfz16_2); (try clear hcz18_0 hcz18_1 hcz18_2 hfz18_0 hfz18_1 hfz18_2); (try clear hcz19_0 hcz19_1 hcz19_2 hfz19_0 hfz19_1 hfz19_2); (try clear hcz22_0 hcz22_1 hcz22_2 hfz22_0 hfz22_1 hfz22_2); (try clear hcz25_0 hcz25_1 hcz25_2 hfz25_0 hfz25_1 hfz25_2); (try clear hcz29_0 hcz29_1 hcz29_2 hfz29_0 hfz29_1 hfz29_2)
    obtain ⟨kq, x24_2, rfl, HA, HJ2, BK405, BK406, BK407, HB⟩ := hcut
    cases kq with
    | zero => exact absurd HA.out (by simp [recoupref03_Mul.j0])
    | succ kj2 =>
      have H := HA.out
      clear HA
      simp only [recoupref03_Mul.j0] at H
      by_cases c31 : x24_2 = true
      · subst c31
        rw [if_pos rfl] at H
        simp only [Option.some.injEq, Prod.mk.injEq] at H
        obtain ⟨rfl, rfl, rfl, rfl⟩ := H
        have hnb32 := NB407_405.out
        have hnc32 := NB405_407.out
        have hnb33 := NB407_406.out
        have hnc33 := NB406_407.out
        obtain ⟨hcz34_0, hcz34_1, hcz34_2, hfz34_0, hfz34_1, hfz34_2⟩ := cell3 BK407
        go_wp2
        refine bodyPost_ret (results_ct rfl _ _ gb407 24 #[.int .i64 0, .int .i64 0, .slice none 0 0] (0, 0) _ rfl (by refine bkR ?_; refine blk_put (cs := #[.int .i64 0, .int .i64 0, .slice none 0 0]) ?_ 2 _ rfl; refine bkR ?_; refine blk_put (cs := #[.int .i64 0, .int .i64 0, .slice none 0 0]) ?_ 1 _ rfl; refine bkR ?_; refine blk_put (cs := #[.int .i64 0, .int .i64 0, .slice none 0 0]) ?_ 0 _ rfl; refine bkR ?_; exact BK407.out) Try.underlying24 rfl (by kernel_rfl)) rfl ?_
        exact ⟨_, rfE, nilE, hbA HB.out⟩
      · replace c31 := Bool.eq_false_iff.mpr c31
        subst c31
        rw [if_neg nofT] at H
        obtain ⟨⟨t410, t411, t412⟩, A35, H⟩ := bindO H
        (try dsimp only at H)
        have H' := Aside0.mk H
        clear H
        have hnb36 := NB405_406.out
        have hnc36 := NB406_405.out
        have hnb37 := NB405_407.out
        have hnc37 := NB407_405.out
        obtain ⟨hcz38_0, hcz38_1, hcz38_2, hfz38_0, hfz38_1, hfz38_2⟩ := cell3 BK405
        have hnb39 := NB406_407.out
        have hnc39 := NB407_406.out
        obtain ⟨hcz40_0, hcz40_1, hcz40_2, hfz40_0, hfz40_1, hfz40_2⟩ := cell3 BK406
        go_wp2_with (first | ((with_reducible refine gC 50 rfl ?_); refine cG (some 30) Try.func50 #[.int .i64 a0_0, .int .i64 a1_1] ?_; (with_reducible refine (recoupref03_Zero.calls a0_0 a1_1 t410 t411 t412 _ A35.out).mono ?_); rintro e w41 ⟨v413, rfl, ho0, hb⟩; refine ⟨_, rfl, ?_⟩; have HO414 := Aside0.mk (Kd.R_lower ho0 (below_size (hbA HB.out))); replace BK405 := bkB BK405 hb; replace BK406 := bkB BK406 hb; replace BK407 := bkB BK407 hb; replace HB := hbB HB hb; (try clear hb); (try clear hb2); (try clear hk); (try clear hi); (try clear ho0)) | ((with_reducible refine gD 6 rfl ?_); refine bE 6 #[.int .i64 0, .int .i64 0, .slice none 0 0] 24 ?_; intro gb415 hg w42 hbox hb; replace HO414 := kdB HO414 hb; have BK415 := Aside0.mk (hbox); have GW415 := hbS HB hg; have GE415 := hbS HB hg; replace HB := hbB HB hb; have NB405_415 := neL BK405 hg; have NB415_405 := neG BK405 hg; replace BK405 := bkB BK405 hb; have NB406_415 := neL BK406 hg; have NB415_406 := neG BK406 hg; replace BK406 := bkB BK406 hb; have NB407_415 := neL BK407 hg; have NB415_407 := neG BK407 hg; replace BK407 := bkB BK407 hb; clear hb hbox hg; have hnb43 := NB415_405.out; have hnc43 := NB405_415.out; have hnb44 := NB415_406.out; have hnc44 := NB406_415.out; have hnb45 := NB415_407.out; have hnc45 := NB407_415.out; obtain ⟨hcz46_0, hcz46_1, hcz46_2, hfz46_0, hfz46_1, hfz46_2⟩ := cell3 BK415; obtain ⟨Ao47, co47, eo47⟩ := Kd.R_slice HO414.out; subst eo47))
        go_loopg [7] kj2 (fun kq v7 w' => ∃ (x7_2 : Int) (x416002_2 : List Int) (u416002 : Value), v7 = .int .i64 x7_2 ∧ Aside0 (recoupref03_Mul.l0 kq x7_2 a0_0 a0_1 l0_2 a1_0 a1_1 l1_2 t410 t411 x416002_2 = some (r1, r2, r3, r4)) ∧ Aside0 (kq ≤ kj2) ∧ Aside0 (Kd.R (Kd.int .u8) 5 w' w.heap.size (fun _ => True) u416002 x416002_2) ∧ Aside0 (w'.heap[gb405]? = some (.cells #[.int .i64 a0_0, .int .i64 a0_1, (.slice A0_2 l0_2.length c0_2)] 24 (0, 0))) ∧ Aside0 (w'.heap[gb406]? = some (.cells #[.int .i64 a1_0, .int .i64 a1_1, (.slice A1_2 l1_2.length c1_2)] 24 (0, 0))) ∧ Aside0 (w'.heap[gb407]? = some (.cells #[.int .i64 0, .int .i64 0, (.slice none 0 0)] 24 (0, 0))) ∧ Aside0 (w'.heap[gb415]? = some (.cells #[.int .i64 t410, .int .i64 t411, u416002] 24 (0, 0))) ∧ Aside0 (Below w.heap.size w w'))
        case atStart => exact ⟨(0), (t412), (.slice Ao47 t412.length co47), rsE, H', ⟨Nat.le_refl _⟩, ⟨by (with_reducible repeat (first | apply Kd.R_alloc | apply Kd.R_drewN | apply Kd.R_drew)); exact Kd.R_mono (Kd.R_far (p := ⟨gb415, 2, none⟩) (Kd.R_far (p := ⟨gb415, 1, none⟩) (Kd.R_far (p := ⟨gb415, 0, none⟩) (Kd.R_types HO414.out BK415.out (by decide)) (fun _ hk => hk.2) (.int .i64 t410)) (fun _ hk => hk.2) (.int .i64 t411)) (fun _ hk => hk.2) (.slice Ao47 t412.length co47)) (fun _ hk => trivial)⟩, ⟨by refine bkR ?_; refine blk_far ?_ NB405_415.out _; refine bkR ?_; refine blk_far ?_ NB405_415.out _; refine bkR ?_; refine blk_far ?_ NB405_415.out _; refine bkR ?_; exact BK405.out⟩, ⟨by refine bkR ?_; refine blk_far ?_ NB406_415.out _; refine bkR ?_; refine blk_far ?_ NB406_415.out _; refine bkR ?_; refine blk_far ?_ NB406_415.out _; refine bkR ?_; exact BK406.out⟩, ⟨by refine bkR ?_; refine blk_far ?_ NB407_415.out _; refine bkR ?_; refine blk_far ?_ NB407_415.out _; refine bkR ?_; refine blk_far ?_ NB407_415.out _; refine bkR ?_; exact BK407.out⟩, ⟨by refine bkR ?_; refine blk_put (cs := #[.int .i64 t410, .int .i64 t411, .slice none 0 0]) ?_ 2 _ rfl; refine bkR ?_; refine blk_put (cs := #[.int .i64 t410, .int .i64 0, .slice none 0 0]) ?_ 1 _ rfl; refine bkR ?_; refine blk_put (cs := #[.int .i64 0, .int .i64 0, .slice none 0 0]) ?_ 0 _ rfl; refine bkR ?_; exact BK415.out⟩, ⟨hbA HB.out⟩⟩
        case round =>
          clear H'
          (try clear c1); (try clear c2); (try clear p2 p2); (try clear c3); (try clear c4); (try clear c5); (try clear c8); (try clear c10); (try clear c11); (try clear c12); (try clear c15); (try clear c20); (try clear c21); (try clear c24); (try clear c26); (try clear c27); (try clear c28); (try clear c31); (try clear c32); (try clear c33); (try clear c36); (try clear c37); (try clear c39); (try clear c43); (try clear c44); (try clear c45); (try clear hcz13_0 hcz13_1 hcz13_2 hfz13_0 hfz13_1 hfz13_2); (try clear hcz16_0 hcz16_1 hcz16_2 hfz16_0 hfz16_1 hfz16_2); (try clear hcz18_0 hcz18_1 hcz18_2 hfz18_0 hfz18_1 hfz18_2); (try clear hcz19_0 hcz19_1 hcz19_2 hfz19_0 hfz19_1 hfz19_2); (try clear hcz22_0 hcz22_1 hcz22_2 hfz22_0 hfz22_1 hfz22_2); (try clear hcz25_0 hcz25_1 hcz25_2 hfz25_0 hfz25_1 hfz25_2); (try clear hcz29_0 hcz29_1 hcz29_2 hfz29_0 hfz29_1 hfz29_2); (try clear hcz34_0 hcz34_1 hcz34_2 hfz34_0 hfz34_1 hfz34_2); (try clear hcz38_0 hcz38_1 hcz38_2 hfz38_0 hfz38_1 hfz38_2); (try clear hcz40_0 hcz40_1 hcz40_2 hfz40_0 hfz40_1 hfz40_2); (try clear hcz46_0 hcz46_1 hcz46_2 hfz46_0 hfz46_1 hfz46_2)
          obtain ⟨x7_2, x416002_2, u416002, rfl, HA, HK2, HO_416002, BK405, BK406, BK407, BK415, HB⟩ := hrel
          cases gk with
          | zero => exact absurd HA.out (by simp [recoupref03_Mul.l0])
          | succ k2 =>
            have H := HA.out
            clear HA
            simp only [recoupref03_Mul.l0] at H
            by_cases c48 : x7_2 < a0_0
            · rw [if_pos c48] at H
              have c48b0 : decide (x7_2 < a0_0) = true := decide_eq_true c48
              clear c48
              have H' := Aside0.mk H
              clear H
              have hnb49 := NB405_406.out
              have hnc49 := NB406_405.out
              have hnb50 := NB405_407.out
              have hnc50 := NB407_405.out
              have hnb51 := NB405_415.out
              have hnc51 := NB415_405.out
              obtain ⟨hcz52_0, hcz52_1, hcz52_2, hfz52_0, hfz52_1, hfz52_2⟩ := cell3 BK405
              go_wp2
              go_loopg [8] k2 (fun kq v8 w' => ∃ (x8_3 : Int) (x416002_3 : List Int) (u416002 : Value), v8 = .int .i64 x8_3 ∧ Aside0 (recoupref03_Mul.l1 kq x7_2 x8_3 a0_0 a0_1 l0_2 a1_0 a1_1 l1_2 t410 t411 x416002_3 = some (r1, r2, r3, r4)) ∧ Aside0 (kq ≤ k2) ∧ Aside0 (Kd.R (Kd.int .u8) 5 w' w.heap.size (fun _ => True) u416002 x416002_3) ∧ Aside0 (w'.heap[gb405]? = some (.cells #[.int .i64 a0_0, .int .i64 a0_1, (.slice A0_2 l0_2.length c0_2)] 24 (0, 0))) ∧ Aside0 (w'.heap[gb406]? = some (.cells #[.int .i64 a1_0, .int .i64 a1_1, (.slice A1_2 l1_2.length c1_2)] 24 (0, 0))) ∧ Aside0 (w'.heap[gb407]? = some (.cells #[.int .i64 0, .int .i64 0, (.slice none 0 0)] 24 (0, 0))) ∧ Aside0 (w'.heap[gb415]? = some (.cells #[.int .i64 t410, .int .i64 t411, u416002] 24 (0, 0))) ∧ Aside0 (Below w.heap.size w w'))
              case atStart => exact ⟨(0), (x416002_2), (u416002), rsE, H', ⟨Nat.le_refl _⟩, ⟨kdA HO_416002.out⟩, ⟨bkA BK405.out⟩, ⟨bkA BK406.out⟩, ⟨bkA BK407.out⟩, ⟨bkA BK415.out⟩, ⟨hbA HB.out⟩⟩
              case round =>
                clear H'
                (try clear c1); (try clear c2); (try clear p2 p2); (try clear c3); (try clear c4); (try clear c5); (try clear c8); (try clear c10); (try clear c11); (try clear c12); (try clear c15); (try clear c20); (try clear c21); (try clear c24); (try clear c26); (try clear c27); (try clear c28); (try clear c31); (try clear c32); (try clear c33); (try clear c36); (try clear c37); (try clear c39); (try clear c43); (try clear c44); (try clear c45); (try clear c48); (try clear c48b0); (try clear c49); (try clear c50); (try clear c51); (try clear hcz13_0 hcz13_1 hcz13_2 hfz13_0 hfz13_1 hfz13_2); (try clear hcz16_0 hcz16_1 hcz16_2 hfz16_0 hfz16_1 hfz16_2); (try clear hcz18_0 hcz18_1 hcz18_2 hfz18_0 hfz18_1 hfz18_2); (try clear hcz19_0 hcz19_1 hcz19_2 hfz19_0 hfz19_1 hfz19_2); (try clear hcz22_0 hcz22_1 hcz22_2 hfz22_0 hfz22_1 hfz22_2); (try clear hcz25_0 hcz25_1 hcz25_2 hfz25_0 hfz25_1 hfz25_2); (try clear hcz29_0 hcz29_1 hcz29_2 hfz29_0 hfz29_1 hfz29_2); (try clear hcz34_0 hcz34_1 hcz34_2 hfz34_0 hfz34_1 hfz34_2); (try clear hcz38_0 hcz38_1 hcz38_2 hfz38_0 hfz38_1 hfz38_2); (try clear hcz40_0 hcz40_1 hcz40_2 hfz40_0 hfz40_1 hfz40_2); (try clear hcz46_0 hcz46_1 hcz46_2 hfz46_0 hfz46_1 hfz46_2); (try clear hcz52_0 hcz52_1 hcz52_2 hfz52_0 hfz52_1 hfz52_2)
                obtain ⟨x8_3, x416002_3, u416002, rfl, HA, HK3, HO_416002, BK405, BK406, BK407, BK415, HB⟩ := hrel
                cases gk with
                | zero => exact absurd HA.out (by simp [recoupref03_Mul.l1])
                | succ k3 =>
                  have H := HA.out
                  clear HA
                  simp only [recoupref03_Mul.l1] at H
                  by_cases c53 : x8_3 < a1_1
                  · rw [if_pos c53] at H
                    have c53b0 : decide (x8_3 < a1_1) = true := decide_eq_true c53
                    clear c53
                    have H' := Aside0.mk H
                    clear H
                    have hnb54 := NB406_405.out
                    have hnc54 := NB405_406.out
                    have hnb55 := NB406_407.out
                    have hnc55 := NB407_406.out
                    have hnb56 := NB406_415.out
                    have hnc56 := NB415_406.out
                    obtain ⟨hcz57_0, hcz57_1, hcz57_2, hfz57_0, hfz57_1, hfz57_2⟩ := cell3 BK406
                    go_wp2
                    go_loopg [9] k3 (fun kq v9 w' => ∃ (x9_4 : Int) (x416002_4 : List Int) (u416002 : Value), v9 = .int .i64 x9_4 ∧ Aside0 (recoupref03_Mul.l2 kq x7_2 x8_3 x9_4 a0_0 a0_1 l0_2 a1_0 a1_1 l1_2 t410 t411 x416002_4 = some (r1, r2, r3, r4)) ∧ Aside0 (kq ≤ k3) ∧ Aside0 (Kd.R (Kd.int .u8) 5 w' w.heap.size (fun _ => True) u416002 x416002_4) ∧ Aside0 (w'.heap[gb405]? = some (.cells #[.int .i64 a0_0, .int .i64 a0_1, (.slice A0_2 l0_2.length c0_2)] 24 (0, 0))) ∧ Aside0 (w'.heap[gb406]? = some (.cells #[.int .i64 a1_0, .int .i64 a1_1, (.slice A1_2 l1_2.length c1_2)] 24 (0, 0))) ∧ Aside0 (w'.heap[gb407]? = some (.cells #[.int .i64 0, .int .i64 0, (.slice none 0 0)] 24 (0, 0))) ∧ Aside0 (w'.heap[gb415]? = some (.cells #[.int .i64 t410, .int .i64 t411, u416002] 24 (0, 0))) ∧ Aside0 (Below w.heap.size w w'))
                    case atStart => exact ⟨(0), (x416002_3), (u416002), rsE, H', ⟨Nat.le_refl _⟩, ⟨kdA HO_416002.out⟩, ⟨bkA BK405.out⟩, ⟨bkA BK406.out⟩, ⟨bkA BK407.out⟩, ⟨bkA BK415.out⟩, ⟨hbA HB.out⟩⟩
                    case round =>
                      clear H'
                      (try clear c1); (try clear c2); (try clear p2 p2); (try clear c3); (try clear c4); (try clear c5); (try clear c8); (try clear c10); (try clear c11); (try clear c12); (try clear c15); (try clear c20); (try clear c21); (try clear c24); (try clear c26); (try clear c27); (try clear c28); (try clear c31); (try clear c32); (try clear c33); (try clear c36); (try clear c37); (try clear c39); (try clear c43); (try clear c44); (try clear c45); (try clear c48); (try clear c48b0); (try clear c49); (try clear c50); (try clear c51); (try clear c53); (try clear c53b0); (try clear c54); (try clear c55); (try clear c56); (try clear hcz13_0 hcz13_1 hcz13_2 hfz13_0 hfz13_1 hfz13_2); (try clear hcz16_0 hcz16_1 hcz16_2 hfz16_0 hfz16_1 hfz16_2); (try clear hcz18_0 hcz18_1 hcz18_2 hfz18_0 hfz18_1 hfz18_2); (try clear hcz19_0 hcz19_1 hcz19_2 hfz19_0 hfz19_1 hfz19_2); (try clear hcz22_0 hcz22_1 hcz22_2 hfz22_0 hfz22_1 hfz22_2); (try clear hcz25_0 hcz25_1 hcz25_2 hfz25_0 hfz25_1 hfz25_2); (try clear hcz29_0 hcz29_1 hcz29_2 hfz29_0 hfz29_1 hfz29_2); (try clear hcz34_0 hcz34_1 hcz34_2 hfz34_0 hfz34_1 hfz34_2); (try clear hcz38_0 hcz38_1 hcz38_2 hfz38_0 hfz38_1 hfz38_2); (try clear hcz40_0 hcz40_1 hcz40_2 hfz40_0 hfz40_1 hfz40_2); (try clear hcz46_0 hcz46_1 hcz46_2 hfz46_0 hfz46_1 hfz46_2); (try clear hcz52_0 hcz52_1 hcz52_2 hfz52_0 hfz52_1 hfz52_2); (try clear hcz57_0 hcz57_1 hcz57_2 hfz57_0 hfz57_1 hfz57_2)
                      obtain ⟨x9_4, x416002_4, u416002, rfl, HA, HK4, HO_416002, BK405, BK406, BK407, BK415, HB⟩ := hrel
                      cases gk with
                      | zero => exact absurd HA.out (by simp [recoupref03_Mul.l2])
                      | succ k4 =>
                        have H := HA.out
                        clear HA
                        simp only [recoupref03_Mul.l2] at H
                        by_cases c58 : x9_4 < a0_1
                        · rw [if_pos c58] at H
                          have c58b0 : decide (x9_4 < a0_1) = true := decide_eq_true c58
                          clear c58
                          obtain ⟨ji59, hji59⟩ : ∃ j_ : Int, (wrap64 ((wrap64 (x7_2 * t411)) + x8_3)) = j_ := ⟨_, rfl⟩
                          replace H : (if 0 ≤ (ji59) then (if (ji59) < (x416002_4.length : Int) then ((recoupref03_At.f a0_0 a0_1 l0_2 x7_2 x9_4).bind fun t417 => ((recoupref03_At.f a1_0 a1_1 l1_2 x9_4 x8_3).bind fun t418 => ((recoupref01_Mul.f k4 t417 t418).bind fun t419 => (recoupref03_Mul.l2 k4 x7_2 x8_3 (wrap64 (x9_4 + 1)) a0_0 a0_1 l0_2 a1_0 a1_1 l1_2 t410 t411 (x416002_4.set ((ji59) : Int).toNat (Go.bits .xor .u8 (rd x416002_4 (ji59)) t419)))))) else (none)) else (none)) = some (r1, r2, r3, r4) := by first | (rw [hji59] at H; exact H) | (simp only [hji59] at H ⊢; exact H)
                          have hji59w : (IntKind.i64.wrap ((wrap64 (x7_2 * t411)) + x8_3)) = ji59 := (i64_w _).trans hji59
                          by_cases c60 : 0 ≤ (ji59)
                          · rw [if_pos c60] at H
                            have c60b0 : decide (0 ≤ (ji59)) = true := decide_eq_true c60
                            clear c60
                            by_cases c61 : (ji59) < (x416002_4.length : Int)
                            · rw [if_pos c61] at H
                              have c61b0 : decide ((ji59) < (x416002_4.length : Int)) = true := decide_eq_true c61
                              clear c61
                              obtain ⟨t417, A62, H⟩ := bindO H
                              (try dsimp only at H)
                              obtain ⟨t418, A63, H⟩ := bindO H
                              (try dsimp only at H)
                              obtain ⟨t419, A64, H⟩ := bindO H
                              (try dsimp only at H)
                              obtain ⟨y420, hy420⟩ : ∃ y_ : List Int, y_ = (x416002_4.set ((ji59) : Int).toNat (Go.bits .xor .u8 (rd x416002_4 (ji59)) t419)) := ⟨_, rfl⟩
                              replace H : (recoupref03_Mul.l2 k4 x7_2 x8_3 (wrap64 (x9_4 + 1)) a0_0 a0_1 l0_2 a1_0 a1_1 l1_2 t410 t411 y420) = some (r1, r2, r3, r4) := by first | (rw [hy420]; with_reducible exact H) | (have H2_ := (Option.bind_some _ _).symm.trans H; rw [hy420]; with_reducible exact H2_) | (have H2_ := (Option.bind_some _ _).symm.trans H; with_reducible exact H2_) | with_reducible exact H | (rw [hy420]; exact H) | exact H
                              have Ny420 := Aside0.mk hy420
                              clear hy420
                              have H' := Aside0.mk H
                              clear H
                              have hnb66 := NB405_406.out
                              have hnc66 := NB406_405.out
                              have hnb67 := NB405_407.out
                              have hnc67 := NB407_405.out
                              have hnb68 := NB405_415.out
                              have hnc68 := NB415_405.out
                              obtain ⟨hcz69_0, hcz69_1, hcz69_2, hfz69_0, hfz69_1, hfz69_2⟩ := cell3 BK405
                              try go_wp2
                              replace HO_416002 := Aside0.mk (Kd.R_drew HO_416002.out)
                              replace BK405 := Aside0.mk (blk_drew BK405.out)
                              replace BK406 := Aside0.mk (blk_drew BK406.out)
                              replace BK407 := Aside0.mk (blk_drew BK407.out)
                              replace BK415 := Aside0.mk (blk_drew BK415.out)
                              replace HB := Aside0.mk (below_drew1 HB.out)
                              obtain ⟨Ao71, co71, eo71⟩ := Kd.R_slice HO_416002.out
                              (first | subst eo71 | (injection eo71 with f1_ f2_ f3_; have f4_ := f1_.symm; have f5_ := f3_.symm; clear f1_ f2_ f3_; subst f4_; subst f5_))
                              have p416 : 0 ≤ ((ji59) : Int) := of_decide_eq_true asE
                              have q416 : (ji59) < (x416002_4.length : Int) := of_decide_eq_true asE
                              obtain ⟨ad416, e416, hx416_0⟩ := Kd.at_int (Kd.R_reads' HO_416002.out).2.2 (ji59) p416 q416
                              cases e416
                              replace p416 := eq_true p416
                              replace q416 := eq_true q416
                              refine start_ (n := 22) (S := fun w' => w'.cell? ⟨gb415, 0, none⟩ = some (.int .i64 t410) ∧ w'.cell? ⟨gb415, 1, none⟩ = some (.int .i64 t411) ∧ w'.cell? ⟨gb415, 2, none⟩ = some (.slice (some ad416) x416002_4.length co71) ∧ w'.cell? ⟨gb405, 0, none⟩ = some (.int .i64 a0_0) ∧ w'.cell? ⟨gb405, 1, none⟩ = some (.int .i64 a0_1) ∧ w'.cell? ⟨gb405, 2, none⟩ = some (.slice A0_2 l0_2.length c0_2) ∧ w'.cell? ⟨gb406, 0, none⟩ = some (.int .i64 a1_0) ∧ w'.cell? ⟨gb406, 1, none⟩ = some (.int .i64 a1_1) ∧ w'.cell? ⟨gb406, 2, none⟩ = some (.slice A1_2 l1_2.length c1_2) ∧ w'.cell? (ad416.add ((ji59)).toNat) = some (.int .u8 (rd x416002_4 (ji59)))) (ds := [21]) (.replicate 22 false) (by kernel_rfl) rfl rfl ⟨(blk_cell BK415.out 0).trans rfl, (blk_cell BK415.out 1).trans rfl, (blk_cell BK415.out 2).trans rfl, (blk_cell BK405.out 0).trans rfl, (blk_cell BK405.out 1).trans rfl, (blk_cell BK405.out 2).trans rfl, (blk_cell BK406.out 0).trans rfl, (blk_cell BK406.out 1).trans rfl, (blk_cell BK406.out 2).trans rfl, hx416_0⟩ (fun hHeld => ?_); refine with_tabW recoupref03_Mul.tab13 recoupref03_Mul.bits13 (fun HT_ HW_ => ?_)
                              generalize wr.drew = w70 at HO_416002 BK405 BK406 BK407 BK415 HB hx416_0 hHeld ⊢
                              refine pu 0 (some 49) (mB 22 1) HT_ ?_
                              refine pu 2 (some 51) (mB 22 5) HT_ ?_
                              refine pu 3 (some 52) (mB 22 13) HT_ ?_
                              refine pu 6 (some 55) (mB 22 77) HT_ ?_
                              refine pu 11 (some 60) (mB 22 2125) HT_ ?_
                              refine pu 12 (some 61) (mB 22 6221) HT_ ?_
                              refine pu 15 (some 64) (mB 22 38989) HT_ ?_
                              refine pu 16 (some 65) (mB 22 104525) HT_ ?_
                              refine tk10 1 (some 50) (mB 22 104527) HT_ HW_ hHeld ?_
                              refine tk10 4 (some 53) (mB 22 104543) HT_ HW_ hHeld ?_
                              refine pu 5 (some 54) (mB 22 104575) HT_ ?_
                              refine pu 7 (some 56) (mB 22 104703) HT_ ?_
                              refine pu 8 (some 57) (mB 22 104959) HT_ ?_
                              refine tk10 9 (some 58) (mB 22 105471) HT_ HW_ hHeld ?_
                              refine tk10 10 (some 59) (mB 22 106495) HT_ HW_ hHeld ?_
                              refine tk10 14 (some 63) (mB 22 122879) HT_ HW_ hHeld ?_
                              refine one_ (i := 13) (N := some 62) (mB 22 131071) rfl rfl (one_of HT_.out (by kernel_rfl)) (by decide) (fun K hK => ?_)
                              refine goes_ Try.func24 (by kernel_rfl) rfl #[.agg #[.int .i64 a0_0, .int .i64 a0_1, .slice A0_2 l0_2.length c0_2], .int .i64 x7_2, .int .i64 x9_4] (by rfl) rfl rfl (by (try simp only [List.map_toArray, List.map_cons, List.map_nil]); first | done | rfl | (simp only [List.length_drop, List.length_take]; rfl)) ?_
                              with_reducible refine (recoupref03_At.calls a0_0 a0_1 _ _ l0_2 x7_2 x9_4 t417 _ ?side1 ?side2 A62.out).mono ?_
                              (case side1 => exact kcB HR0_2 HB)
                              (case side2 => exact HC0_2.out)
                              rintro e w72 ⟨rfl, hb⟩
                              have HS9_ := (hb.cell (World.block_lt_of_cell? _ _ (hHeld.2.2.2.2.2.2.2.2.2))).trans (hHeld.2.2.2.2.2.2.2.2.2)
                              refine ⟨_, rfl, ?_⟩
                              replace HO_416002 := kdB HO_416002 hb
                              replace BK405 := bkB BK405 hb
                              replace BK406 := bkB BK406 hb
                              replace BK407 := bkB BK407 hb
                              replace BK415 := bkB BK415 hb
                              replace HB := hbB HB hb
                              (try clear hb)
                              (try clear hb2)
                              (try clear hk)
                              (try clear hi)
                              refine hK.out _ _ ⟨(blk_cell BK415.out 0).trans rfl, (blk_cell BK415.out 1).trans rfl, (blk_cell BK415.out 2).trans rfl, (blk_cell BK405.out 0).trans rfl, (blk_cell BK405.out 1).trans rfl, (blk_cell BK405.out 2).trans rfl, (blk_cell BK406.out 0).trans rfl, (blk_cell BK406.out 1).trans rfl, (blk_cell BK406.out 2).trans rfl, HS9_⟩ (fun hHeld => ?_)
                              clear hK K
                              refine norm_ (a' := ?_) ?_ ?_
                              rotate_left
                              · show Act.put _ (some 62) _ = _
                                simp only [Act.put, List.setIfInBounds_toArray, List.set_cons_zero, List.set_cons_succ, i64_w, i32_w]
                                rfl
                              refine one_ (i := 17) (N := some 66) (mB 22 262143) rfl rfl (one_of HT_.out (by kernel_rfl)) (by decide) (fun K hK => ?_)
                              refine goes_ Try.func24 (by kernel_rfl) rfl #[.agg #[.int .i64 a1_0, .int .i64 a1_1, .slice A1_2 l1_2.length c1_2], .int .i64 x9_4, .int .i64 x8_3] (by rfl) rfl rfl (by (try simp only [List.map_toArray, List.map_cons, List.map_nil]); first | done | rfl | (simp only [List.length_drop, List.length_take]; rfl)) ?_
                              with_reducible refine (recoupref03_At.calls a1_0 a1_1 _ _ l1_2 x9_4 x8_3 t418 _ ?side1 ?side2 A63.out).mono ?_
                              (case side1 => exact kcB HR1_2 HB)
                              (case side2 => exact HC1_2.out)
                              rintro e w73 ⟨rfl, hb⟩
                              have HS9_ := (hb.cell (World.block_lt_of_cell? _ _ (hHeld.2.2.2.2.2.2.2.2.2))).trans (hHeld.2.2.2.2.2.2.2.2.2)
                              refine ⟨_, rfl, ?_⟩
                              replace HO_416002 := kdB HO_416002 hb
                              replace BK405 := bkB BK405 hb
                              replace BK406 := bkB BK406 hb
                              replace BK407 := bkB BK407 hb
                              replace BK415 := bkB BK415 hb
                              replace HB := hbB HB hb
                              (try clear hb)
                              (try clear hb2)
                              (try clear hk)
                              (try clear hi)
                              refine hK.out _ _ ⟨(blk_cell BK415.out 0).trans rfl, (blk_cell BK415.out 1).trans rfl, (blk_cell BK415.out 2).trans rfl, (blk_cell BK405.out 0).trans rfl, (blk_cell BK405.out 1).trans rfl, (blk_cell BK405.out 2).trans rfl, (blk_cell BK406.out 0).trans rfl, (blk_cell BK406.out 1).trans rfl, (blk_cell BK406.out 2).trans rfl, HS9_⟩ (fun hHeld => ?_)
                              clear hK K
                              refine norm_ (a' := ?_) ?_ ?_
                              rotate_left
                              · show Act.put _ (some 66) _ = _
                                simp only [Act.put, List.setIfInBounds_toArray, List.set_cons_zero, List.set_cons_succ, i64_w, i32_w]
                                rfl
                              refine one_ (i := 18) (N := some 67) (mB 22 524287) rfl rfl (one_of HT_.out (by kernel_rfl)) (by decide) (fun K hK => ?_)
                              refine goes_ Try.func25 (by kernel_rfl) rfl #[.int .u8 t417, .int .u8 t418] (by rfl) rfl rfl (by (try simp only [List.map_toArray, List.map_cons, List.map_nil]); first | done | rfl | (simp only [List.length_drop, List.length_take]; rfl)) ?_
                              with_reducible refine (recoupref01_Mul.calls k4 t417 t418 t419 _ A64.out).mono ?_
                              rintro e w' ⟨rfl, ⟨nd, rfl⟩⟩
                              refine ⟨_, rfl, ?_⟩
                              have p65 : 0 ≤ ((ji59) : Int) := of_decide_eq_true asE
                              have q65 : ((ji59) : Int) < ((x416002_4.length : Int) : Int) := of_decide_eq_true asE
                              obtain ⟨go65, co65, eo65, gb65, gl65, cl65, HG65⟩ := Kd.R_form HO_416002.out (by omega)
                              (first | cases eo65 | (injection eo65 with ea_ en_ ec_; (first | subst ea_ | (injection ea_ with ea_; subst ea_)); subst ec_; clear en_))
                              have GB65 := Aside0.mk gb65
                              have GG65 := Aside0.mk HG65
                              clear gb65 gl65 HG65
                              (first | simp only [add_plain] at hx416_0 | skip)
                              obtain ⟨hx65_0, hf65_0⟩ := Kd.R_celln 0 HO_416002.out ((ji59) : Int) p65 q65
                              replace p65 := eq_true p65
                              replace q65 := eq_true q65
                              have HP74 := Kd.R_putn HO_416002.out ((ji59) : Int) (Go.bits .xor .u8 (rd x416002_4 (ji59)) t419)
                              rw [← Ny420.out] at HP74
                              have HQ74 := Aside0.mk HP74
                              clear HP74
                              refine hK.out _ _ ⟨(blk_cell BK415.out 0).trans rfl, (blk_cell BK415.out 1).trans rfl, (blk_cell BK415.out 2).trans rfl, (blk_cell BK405.out 0).trans rfl, (blk_cell BK405.out 1).trans rfl, (blk_cell BK405.out 2).trans rfl, (blk_cell BK406.out 0).trans rfl, (blk_cell BK406.out 1).trans rfl, (blk_cell BK406.out 2).trans rfl, hHeld.2.2.2.2.2.2.2.2.2⟩ (fun hHeld => ?_)
                              clear hK K
                              refine norm_ (a' := ?_) ?_ ?_
                              rotate_left
                              · show Act.put _ (some 67) _ = _
                                simp only [Act.put, List.setIfInBounds_toArray, List.set_cons_zero, List.set_cons_succ, i64_w, i32_w]
                                rfl
                              refine pu 19 (some 68) (mB 22 1048575) HT_ ?_
                              refine pu 20 (some 69) (mB 22 2097151) HT_ ?_
                              refine last_ (i := 21) (N := none) (mB 22 4194303) rfl rfl (one_of HT_.out (by kernel_rfl)) (by decide) (fun K hK => ?_)
                              refine skip_ (w1 := ?_) (by rfl) rfl ?_ ?_
                              rotate_left
                              · go_simp
                                rfl
                              refine hK.out _ _ ?_
                              clear hK K
                              refine done_ (done_of HT_.out (by kernel_rfl)) ?_
                              try go_wp2
                              go_roundg k4
                              case measure => have := HJ2.out; have := HK2.out; have := HK3.out; have := HK4.out; omega
                              case rel => exact ⟨(wrap64 (x9_4 + 1)), (y420), (.slice (some ⟨go65, 0, none⟩) x416002_4.length co71), rsE, H', ⟨by have := HJ2.out; have := HK2.out; have := HK3.out; have := HK4.out; omega⟩, ⟨kdA HQ74.out⟩, ⟨by refine bkR ?_; refine blk_far ?_ (by have h_ := Kd.R_ne HO_416002.out BK405.out (by decide); intro e_; exact h_ (by rw [e_]; rfl)) _; refine bkR ?_; exact BK405.out⟩, ⟨by refine bkR ?_; refine blk_far ?_ (by have h_ := Kd.R_ne HO_416002.out BK406.out (by decide); intro e_; exact h_ (by rw [e_]; rfl)) _; refine bkR ?_; exact BK406.out⟩, ⟨by refine bkR ?_; refine blk_far ?_ (by have h_ := Kd.R_ne HO_416002.out BK407.out (by decide); intro e_; exact h_ (by rw [e_]; rfl)) _; refine bkR ?_; exact BK407.out⟩, ⟨by refine bkR ?_; refine blk_far ?_ (by have h_ := Kd.R_ne HO_416002.out BK415.out (by decide); intro e_; exact h_ (by rw [e_]; rfl)) _; refine bkR ?_; exact BK415.out⟩, ⟨hbA HB.out⟩⟩
                            · rw [if_neg c61] at H
                              exact absurd H (by simp)
                          · rw [if_neg c60] at H
                            exact absurd H (by simp)
                        · rw [if_neg c58] at H
                          have c58b0 : decide (x9_4 < a0_1) = false := decide_eq_false c58
                          clear c58
                          have H' := Aside0.mk H
                          clear H
                          have hnb75 := NB405_406.out
                          have hnc75 := NB406_405.out
                          have hnb76 := NB405_407.out
                          have hnc76 := NB407_405.out
                          have hnb77 := NB405_415.out
                          have hnc77 := NB415_405.out
                          obtain ⟨hcz78_0, hcz78_1, hcz78_2, hfz78_0, hfz78_1, hfz78_2⟩ := cell3 BK405
                          go_wp2
                          go_roundg k4
                          case measure => have := HJ2.out; have := HK2.out; have := HK3.out; have := HK4.out; omega
                          case rel => exact ⟨(wrap64 (x8_3 + 1)), (x416002_4), (u416002), rsE, H', ⟨by have := HJ2.out; have := HK2.out; have := HK3.out; have := HK4.out; omega⟩, ⟨kdA HO_416002.out⟩, ⟨bkA BK405.out⟩, ⟨bkA BK406.out⟩, ⟨bkA BK407.out⟩, ⟨bkA BK415.out⟩, ⟨hbA HB.out⟩⟩
                  · rw [if_neg c53] at H
                    have c53b0 : decide (x8_3 < a1_1) = false := decide_eq_false c53
                    clear c53
                    have H' := Aside0.mk H
                    clear H
                    have hnb79 := NB406_405.out
                    have hnc79 := NB405_406.out
                    have hnb80 := NB406_407.out
                    have hnc80 := NB407_406.out
                    have hnb81 := NB406_415.out
                    have hnc81 := NB415_406.out
                    obtain ⟨hcz82_0, hcz82_1, hcz82_2, hfz82_0, hfz82_1, hfz82_2⟩ := cell3 BK406
                    go_wp2
                    go_roundg k3
                    case measure => have := HJ2.out; have := HK2.out; have := HK3.out; omega
                    case rel => exact ⟨(wrap64 (x7_2 + 1)), (x416002_3), (u416002), rsE, H', ⟨by have := HJ2.out; have := HK2.out; have := HK3.out; omega⟩, ⟨kdA HO_416002.out⟩, ⟨bkA BK405.out⟩, ⟨bkA BK406.out⟩, ⟨bkA BK407.out⟩, ⟨bkA BK415.out⟩, ⟨hbA HB.out⟩⟩
            · rw [if_neg c48] at H
              have c48b0 : decide (x7_2 < a0_0) = false := decide_eq_false c48
              clear c48
              simp only [Option.some.injEq, Prod.mk.injEq] at H
              obtain ⟨rfl, rfl, rfl, rfl⟩ := H
              have hnb83 := NB405_406.out
              have hnc83 := NB406_405.out
              have hnb84 := NB405_407.out
              have hnc84 := NB407_405.out
              have hnb85 := NB405_415.out
              have hnc85 := NB415_405.out
              obtain ⟨hcz86_0, hcz86_1, hcz86_2, hfz86_0, hfz86_1, hfz86_2⟩ := cell3 BK405
              have hnb87 := NB415_406.out
              have hnc87 := NB406_415.out
              have hnb88 := NB415_407.out
              have hnc88 := NB407_415.out
              obtain ⟨hcz89_0, hcz89_1, hcz89_2, hfz89_0, hfz89_1, hfz89_2⟩ := cell3 BK415
              have hnb90 := NB407_406.out
              have hnc90 := NB406_407.out
              obtain ⟨hcz91_0, hcz91_1, hcz91_2, hfz91_0, hfz91_1, hfz91_2⟩ := cell3 BK407
              obtain ⟨Ao92, co92, eo92⟩ := Kd.R_slice HO_416002.out
              subst eo92
              go_wp2
              refine bodyPost_ret (results_ct rfl _ _ gb407 24 #[.int .i64 t410, .int .i64 t411, .slice Ao92 x416002_2.length co92] (0, 0) _ rfl (by refine bkR ?_; refine blk_put (cs := #[.int .i64 t410, .int .i64 t411, .slice none 0 0]) ?_ 2 _ rfl; refine bkR ?_; refine blk_put (cs := #[.int .i64 t410, .int .i64 0, .slice none 0 0]) ?_ 1 _ rfl; refine bkR ?_; refine blk_put (cs := #[.int .i64 0, .int .i64 0, .slice none 0 0]) ?_ 0 _ rfl; refine bkR ?_; exact BK407.out) Try.underlying24 rfl (by kernel_rfl)) rfl ?_
              exact ⟨_, rfE, by (with_reducible repeat (first | apply Kd.R_alloc | apply Kd.R_drewN | apply Kd.R_drew)); exact Kd.R_mono (Kd.R_far (p := ⟨gb407, 2, none⟩) (Kd.R_far (p := ⟨gb407, 1, none⟩) (Kd.R_far (p := ⟨gb407, 0, none⟩) (Kd.R_types HO_416002.out BK407.out (by decide)) (fun _ hk => hk.2) (.int .i64 t410)) (fun _ hk => hk.2) (.int .i64 t411)) (fun _ hk => hk.2) (.slice Ao92 x416002_2.length co92)) (fun _ hk => trivial), hbA HB.out⟩

end Go.Proofs.Ytccfbhnhedoggaa.Q
