/- Written by drive.py (a program of this repo, over the kit's print): each Go function named here answers what the Lean function beside it answers, wherever that one answers, in every world that meets the stated premises. -/
import Derived.Test.YtkagobkedifhkaaDoorQx0
import Derived.Test.YtkagobkedifhkaaDoorQx168
import Derived.Test.YtkagobkedifhkaaDoorQx178
import Derived.Test.YtkagobkedifhkaaDoorQx179
namespace Go.Proofs.YtkagobkedifhkaaDoor.Q
open Go.RowKit Go.Proofs.YtkagobkedifhkaaDoorW.PrintWords Go.Proofs.YtkagobkedifhkaaDoorW.PrintLast Go.Proofs.YtkagobkedifhkaaDoorW.PrintMore
attribute [local go_sem] max2_int min2_int max_two min_two max_three min_three max_four min_four   -- for this text's walks alone
set_option linter.unusedVariables false
set_option linter.unusedSimpArgs false

/-! ### matroid_Basis: function 54 -/
def matroid_Basis.l0 : Nat → List Int → Int → List Int → Int → Int → Option (Int × Int)
  | 0, _, _, _, _, _ => none
  | k + 1, x9, x10, x32, x33, x34 => if x34 < x33 then (if 0 ≤ x34 then (if x34 < (x32.length : Int) then (if 0 ≤ (rd x32 x34) then (if (rd x32 x34) < (x9.length : Int) then (if 0 ≤ (rd x9 (rd x32 x34)) then (matroid_Basis.l0 k x9 (Go.bits .or .u64 x10 (shl .u64 1 (rd x9 (rd x32 x34)))) x32 x33 (wrap64 (x34 + 1))) else (none)) else (none)) else (none)) else (none)) else (none)) else (some (x10, 0))
def matroid_Basis.f (k : Nat) (a0_0 : Int) (a0_1 : Int) (l0_2 : List Int) (a1 : Int) : Option (Int × Int) := (matroid_pick.f k a0_0 a0_1 l0_2 a1).bind fun bt153 => (if bt153.2.2.2 = 0 then ((gauss_First.f bt153.1 bt153.2.1 bt153.2.2.1).bind fun bt160 => (if bt160.2 = 0 then ((subset_List.f k a1).bind fun t164 => (matroid_Basis.l0 k t164 0 bt160.1 (bt160.1.length : Int) 0)) else (some (0, bt160.2)))) else (some (0, bt153.2.2.2)))
theorem matroid_Basis.mono_l : ∀ k, (∀ y0 y1 y2 y3 y4, LeO (matroid_Basis.l0 k y0 y1 y2 y3 y4) (matroid_Basis.l0 (k + 1) y0 y1 y2 y3 y4))
  | 0 => fun _ _ _ _ _ r h => by simp [matroid_Basis.l0] at h
  | k + 1 => by
    have ih0 := matroid_Basis.mono_l k
    · intro y0 y1 y2 y3 y4
      unfold matroid_Basis.l0
      repeat' first
      | (with_reducible exact ih0 _ _ _ _ _)
      | (with_reducible exact matroid_pick.mono _ _ _ _ _)
      | (with_reducible exact subset_List.mono _ _)
      | (with_reducible exact LeO.refl _)
      | (with_reducible exact LeO.none _)
      | (with_reducible refine LeO.ite ?_ ?_)
      | (with_reducible refine LeO.bind ?_ (fun _ => ?_))
      | exact ih0 _ _ _ _ _
      | exact matroid_pick.mono _ _ _ _ _
      | exact subset_List.mono _ _
      | exact LeO.none _
      | refine LeO.ite ?_ ?_
      | refine LeO.bind ?_ (fun _ => ?_)
theorem matroid_Basis.mono : ∀ a0 a1 a2 a3 k, LeO (matroid_Basis.f k a0 a1 a2 a3) (matroid_Basis.f (k + 1) a0 a1 a2 a3) := by
  intro a0 a1 a2 a3 k
  have ih0 := matroid_Basis.mono_l k
  unfold matroid_Basis.f
  repeat' first
      | (with_reducible exact ih0 _ _ _ _ _)
      | (with_reducible exact matroid_pick.mono _ _ _ _ _)
      | (with_reducible exact subset_List.mono _ _)
      | (with_reducible exact LeO.refl _)
      | (with_reducible exact LeO.none _)
      | (with_reducible refine LeO.ite ?_ ?_)
      | (with_reducible refine LeO.bind ?_ (fun _ => ?_))
      | exact ih0 _ _ _ _ _
      | exact matroid_pick.mono _ _ _ _ _
      | exact subset_List.mono _ _
      | exact LeO.none _
      | refine LeO.ite ?_ ?_
      | refine LeO.bind ?_ (fun _ => ?_)
set_option maxHeartbeats 8000000 in
set_option maxRecDepth 100000 in
theorem matroid_Basis.calls (k : Nat) (a0_0 : Int) (a0_1 : Int) (A0_2 : Option Addr) (c0_2 : Nat) (l0_2 : List Int) (a1 : Int) (r1 : Int) (r2 : Int) (w : World) (hr0_2 : Kd.C (Kd.int .u8) w A0_2 l0_2.length l0_2) (hc0_2 : l0_2.length ≤ c0_2) (h : matroid_Basis.f k a0_0 a0_1 l0_2 a1 = some (r1, r2)) (hT : TabAt 0 Lib.deBruijn64tab w) :
    Calls Tryd.prog 54 #[.agg #[.int .i64 a0_0, .int .i64 a0_1, .slice A0_2 l0_2.length c0_2], .int .u64 a1] w fun e w' => e = .returned (.tuple #[.int .u64 r1, .int .i64 r2]) ∧ Below w.heap.size w w' := by
  have HT := Aside0.mk hT
  clear hT
  have hu24 := Tryd.underlying24
  have HR0_2 := Aside0.mk hr0_2
  have HC0_2 := Aside0.mk hc0_2
  clear hr0_2 hc0_2
  have HB := Aside0.mk (Below.refl w.heap.size w)
  have H : ((matroid_pick.f k a0_0 a0_1 l0_2 a1).bind fun bt153 => (if bt153.2.2.2 = 0 then ((gauss_First.f bt153.1 bt153.2.1 bt153.2.2.1).bind fun bt160 => (if bt160.2 = 0 then ((subset_List.f k a1).bind fun t164 => (matroid_Basis.l0 k t164 0 bt160.1 (bt160.1.length : Int) 0)) else (some (0, bt160.2)))) else (some (0, bt153.2.2.2)))) = some (r1, r2) := h
  clear h
  obtain ⟨⟨t153, t154, t155, t158⟩, A3, H⟩ := bindO H
  (try dsimp only at H)
  by_cases c4 : t158 = 0
  · rw [if_pos c4] at H
    have c4b0 : (t158 == 0) = true := beq_iff_eq.mpr c4
    have c4b1 : (t158 != 0) = false := bne_eq_false_iff_eq.mpr c4
    clear c4
    obtain ⟨⟨t160, t163⟩, A5, H⟩ := bindO H
    (try dsimp only at H)
    by_cases c6 : t163 = 0
    · rw [if_pos c6] at H
      have c6b0 : (t163 == 0) = true := beq_iff_eq.mpr c6
      have c6b1 : (t163 != 0) = false := bne_eq_false_iff_eq.mpr c6
      clear c6
      obtain ⟨t164, A7, H⟩ := bindO H
      (try dsimp only at H)
      have H' := Aside0.mk H
      clear H
      go_enter Tryd.func54, Tryd.ntmps54
      go_wp2_with (first | ((with_reducible refine gD 2 rfl ?_); refine bE 2 #[.int .i64 a0_0, .int .i64 a0_1, .slice A0_2 l0_2.length c0_2] 24 ?_; intro gb152 hg w8 hbox hb; have BK152 := Aside0.mk (hbox); have GW152 := hbS HB hg; have GE152 := hbS HB hg; replace HB := hbB HB hb; clear hb hbox hg; obtain ⟨hcz9_0, hcz9_1, hcz9_2, hfz9_0, hfz9_1, hfz9_2⟩ := cell3 BK152) | ((with_reducible refine gC 78 rfl ?_); refine cG (some 16) Tryd.func78 #[.agg #[.int .i64 a0_0, .int .i64 a0_1, .slice A0_2 l0_2.length c0_2], .int .u64 a1] ?_; (with_reducible refine (matroid_pick.calls k a0_0 a0_1 _ _ l0_2 a1 t153 t154 t155 t158 _ ?side1 ?side2 A3.out (tab_below HT.out (by repeat (first | (with_reducible first | exact HB.out | apply below_alloc | apply pw_below_drewN | apply below_drew1) | exact HB.out | exact Below.refl _ _)))).mono ?_); (case side1 => exact kcB HR0_2 HB); (case side2 => exact HC0_2.out); rintro e w10 ⟨v156, rfl, ho0, hb⟩; refine ⟨_, rfl, ?_⟩; have HO157 := Aside0.mk (Kd.R_lower ho0 (below_size (hbA HB.out))); replace BK152 := bkB BK152 hb; replace HB := hbB HB hb; (try clear hb); (try clear hb2); (try clear hk); (try clear hi); (try clear ho0)) | ((with_reducible refine gD 6 rfl ?_); refine bE 6 #[.int .i64 0, .int .i64 0, .slice none 0 0] 24 ?_; intro gb159 hg w11 hbox hb; replace HO157 := kdB HO157 hb; have BK159 := Aside0.mk (hbox); have GW159 := hbS HB hg; have GE159 := hbS HB hg; replace HB := hbB HB hb; have NB152_159 := neL BK152 hg; have NB159_152 := neG BK152 hg; replace BK152 := bkB BK152 hb; clear hb hbox hg; have hnb12 := NB159_152.out; have hnc12 := NB152_159.out; obtain ⟨hcz13_0, hcz13_1, hcz13_2, hfz13_0, hfz13_1, hfz13_2⟩ := cell3 BK159; obtain ⟨Ao14, co14, eo14⟩ := Kd.R_slice HO157.out; subst eo14) | ((with_reducible refine gC 79 rfl ?_); refine cG (some 24) Tryd.func79 #[.agg #[.int .i64 t153, .int .i64 t154, .slice Ao14 t155.length co14]] ?_; (with_reducible refine (gauss_First.calls t153 t154 _ _ t155 t160 t163 _ ?side1 ?side2 A5.out).mono ?_); (case side1 => refine (Kd.R_reads' (e := 5) (base := w.heap.size) (ok := fun k_ => True) (n := t155.length) (c := co14) ?_).2.2; exact (by (with_reducible repeat (first | apply Kd.R_alloc | apply Kd.R_drewN | apply Kd.R_drew)); exact (Kd.R_mono (Kd.R_far (p := ⟨gb159, 2, none⟩) (Kd.R_far (p := ⟨gb159, 1, none⟩) (Kd.R_far (p := ⟨gb159, 0, none⟩) (Kd.R_types HO157.out BK159.out (by decide)) (fun _ hk => hk.2) (.int .i64 t153)) (fun _ hk => hk.2) (.int .i64 t154)) (fun _ hk => hk.2) (.slice Ao14 t155.length co14)) (fun _ h_ => h_.1)))); (case side2 => exact (Kd.R_reads' HO157.out).2.1); rintro e w15 ⟨v161, rfl, ho0, hb⟩; refine ⟨_, rfl, ?_⟩; replace HO157 := Aside0.mk (Kd.R_below (by (with_reducible repeat (first | apply Kd.R_alloc | apply Kd.R_drewN | apply Kd.R_drew)); exact (Kd.R_mono (Kd.R_far (p := ⟨gb159, 2, none⟩) (Kd.R_far (p := ⟨gb159, 1, none⟩) (Kd.R_far (p := ⟨gb159, 0, none⟩) (Kd.R_types HO157.out BK159.out (by decide)) (fun _ hk => hk.2) (.int .i64 t153)) (fun _ hk => hk.2) (.int .i64 t154)) (fun _ hk => hk.2) (.slice Ao14 t155.length co14)) (fun _ h_ => h_.1))) hb); have HO162 := Aside0.mk (Kd.R_lower ho0 (below_size (hbA HB.out))); replace BK152 := Aside0.mk (blk_below (g := gb152) (o := .cells #[.int .i64 a0_0, .int .i64 a0_1, .slice A0_2 l0_2.length c0_2] 24 (0, 0)) (by refine bkR ?_; refine blk_far ?_ NB152_159.out _; refine bkR ?_; refine blk_far ?_ NB152_159.out _; refine bkR ?_; refine blk_far ?_ NB152_159.out _; refine bkR ?_; exact BK152.out) hb); replace BK159 := Aside0.mk (blk_below (g := gb159) (o := .cells #[.int .i64 t153, .int .i64 t154, .slice Ao14 t155.length co14] 24 (0, 0)) (by refine bkR ?_; refine blk_put (cs := #[.int .i64 t153, .int .i64 t154, .slice none 0 0]) ?_ 2 _ rfl; refine bkR ?_; refine blk_put (cs := #[.int .i64 t153, .int .i64 0, .slice none 0 0]) ?_ 1 _ rfl; refine bkR ?_; refine blk_put (cs := #[.int .i64 0, .int .i64 0, .slice none 0 0]) ?_ 0 _ rfl; refine bkR ?_; exact BK159.out) hb); replace HB := hbB HB hb; (try clear hb); (try clear hb2); (try clear hk); (try clear hi); (try clear ho0)) | ((with_reducible refine gC 47 rfl ?_); refine cG (some 31) Tryd.func47 #[.int .u64 a1] ?_; (with_reducible refine (subset_List.calls k a1 t164 _ A7.out (tab_below HT.out (by repeat (first | (with_reducible first | exact HB.out | apply below_alloc | apply pw_below_drewN | apply below_drew1) | exact HB.out | exact Below.refl _ _)))).mono ?_); rintro e w16 ⟨v165, rfl, ho0, hb⟩; refine ⟨_, rfl, ?_⟩; replace HO157 := kdB HO157 hb; have HO166 := Aside0.mk (Kd.R_lower (Kd.R_new' ho0 (Kd.R_lt (kdA HO162.out))) (below_size (hbA HB.out))); replace HO162 := Aside0.mk (Kd.R_elder' (kdA HO162.out) (Kd.R_base ho0) hb); replace BK152 := bkB BK152 hb; replace BK159 := bkB BK159 hb; replace HB := hbB HB hb; (try clear hb); (try clear hb2); (try clear hk); (try clear hi); (try clear ho0); obtain ⟨Ao17, co17, eo17⟩ := Kd.R_slice HO162.out; subst eo17))
      go_loopg [10, 34] k (fun kq v10 v34 w' => ∃ (x10_1 : Int) (x34_1 : Int), v10 = .int .u64 x10_1 ∧ v34 = .int .i64 x34_1 ∧ Aside0 (matroid_Basis.l0 kq t164 x10_1 t160 (t160.length : Int) x34_1 = some (r1, r2)) ∧ Aside0 (kq ≤ k) ∧ Aside0 (Kd.R (Kd.int .i64) 3 w' w.heap.size (fun k_ => some k_ ≠ ((.slice Ao17 t160.length co17) : Value).ownBlock) v165 t164) ∧ Aside0 (Kd.R (Kd.int .i64) 3 w' w.heap.size (fun k_ => some k_ ≠ (v165 : Value).ownBlock) (.slice Ao17 t160.length co17) t160) ∧ Aside0 (Kd.R (Kd.int .u8) 5 w' w.heap.size (fun _ => True) (.slice Ao14 t155.length co14) t155) ∧ Aside0 (w'.heap[gb152]? = some (.cells #[.int .i64 a0_0, .int .i64 a0_1, (.slice A0_2 l0_2.length c0_2)] 24 (0, 0))) ∧ Aside0 (w'.heap[gb159]? = some (.cells #[.int .i64 t153, .int .i64 t154, (.slice Ao14 t155.length co14)] 24 (0, 0))) ∧ Aside0 (Below w.heap.size w w'))
      case atStart => exact ⟨(0), (0), rsE, rsE, H', ⟨Nat.le_refl _⟩, ⟨by (with_reducible repeat (first | apply Kd.R_alloc | apply Kd.R_drewN | apply Kd.R_drew)); exact Kd.R_mono HO166.out (fun _ hk => hk.2)⟩, ⟨by (with_reducible repeat (first | apply Kd.R_alloc | apply Kd.R_drewN | apply Kd.R_drew)); exact Kd.R_mono HO162.out (fun _ hk => hk.2)⟩, ⟨kdA HO157.out⟩, ⟨bkA BK152.out⟩, ⟨bkA BK159.out⟩, ⟨hbA HB.out⟩⟩
      case round =>
        clear H'
        (try clear c1); (try clear p2); (try clear c4); (try clear c4b0); (try clear c4b1); (try clear c5); (try clear c6); (try clear c6b0); (try clear c6b1); (try clear c7); (try clear c12); (try clear hcz13_0 hcz13_1 hcz13_2 hfz13_0 hfz13_1 hfz13_2); (try clear hcz9_0 hcz9_1 hcz9_2 hfz9_0 hfz9_1 hfz9_2)
        obtain ⟨x10_1, x34_1, rfl, rfl, HA, HK1, HO_9, HO_32, HO_160002, BK152, BK159, HB⟩ := hrel
        cases gk with
        | zero => exact absurd HA.out (by simp [matroid_Basis.l0])
        | succ k1 =>
          have H := HA.out
          clear HA
          simp only [matroid_Basis.l0] at H
          by_cases c18 : x34_1 < (t160.length : Int)
          · rw [if_pos c18] at H
            have c18b0 : decide (x34_1 < (t160.length : Int)) = true := decide_eq_true c18
            clear c18
            by_cases c19 : 0 ≤ x34_1
            · rw [if_pos c19] at H
              have c19b0 : decide (0 ≤ x34_1) = true := decide_eq_true c19
              clear c19
              by_cases c20 : x34_1 < (t160.length : Int)
              · rw [if_pos c20] at H
                have c20b0 : decide (x34_1 < (t160.length : Int)) = true := decide_eq_true c20
                clear c20
                by_cases c21 : 0 ≤ (rd t160 x34_1)
                · rw [if_pos c21] at H
                  have c21b0 : decide (0 ≤ (rd t160 x34_1)) = true := decide_eq_true c21
                  clear c21
                  by_cases c22 : (rd t160 x34_1) < (t164.length : Int)
                  · rw [if_pos c22] at H
                    have c22b0 : decide ((rd t160 x34_1) < (t164.length : Int)) = true := decide_eq_true c22
                    clear c22
                    by_cases c23 : 0 ≤ (rd t164 (rd t160 x34_1))
                    · rw [if_pos c23] at H
                      have c23b0 := eq_true c23
                      have c23b1 : decide (0 ≤ (rd t164 (rd t160 x34_1))) = true := decide_eq_true c23
                      clear c23
                      obtain ⟨ji24, hji24⟩ : ∃ j_ : Int, (shl .u64 1 (rd t164 (rd t160 x34_1))) = j_ := ⟨_, rfl⟩
                      replace H : (matroid_Basis.l0 k1 t164 (Go.bits .or .u64 x10_1 (ji24)) t160 (t160.length : Int) (wrap64 (x34_1 + 1))) = some (r1, r2) := by first | (rw [hji24] at H; exact H) | (simp only [hji24] at H ⊢; exact H)
                      have hji24_ : (IntKind.u64.wrap (1 * 2 ^ min (rd t164 (rd t160 x34_1)).toNat 64)) = ji24 := hji24
                      have hji24z : (rd t164 (rd t160 x34_1)) ≤ 64 → (IntKind.u64.wrap (1 * 2 ^ (rd t164 (rd t160 x34_1)).toNat)) = ji24 := shl_small hji24
                      have hji24u : (IntKind.u64.wrap (2 ^ min (rd t164 (rd t160 x34_1)).toNat 64)) = ji24 := by have h_ := hji24_; rw [Int.one_mul] at h_; exact h_
                      have hji24v : (rd t164 (rd t160 x34_1)) ≤ 64 → (IntKind.u64.wrap (2 ^ (rd t164 (rd t160 x34_1)).toNat)) = ji24 := fun hle_ => by have h_ := hji24z hle_; rw [Int.one_mul] at h_; exact h_
                      have H' := Aside0.mk H
                      clear H
                      have p167 : 0 ≤ (x34_1 : Int) := of_decide_eq_true asE
                      have q167 : x34_1 < (t160.length : Int) := of_decide_eq_true asE
                      obtain ⟨ad167, e167, hx167_0⟩ := Kd.at_int (Kd.R_reads' HO_32.out).2.2 x34_1 p167 q167
                      cases e167
                      replace p167 := eq_true p167
                      replace q167 := eq_true q167
                      obtain ⟨Ao25, co25, eo25⟩ := Kd.R_slice HO_9.out
                      subst eo25
                      have p168 : 0 ≤ ((rd t160 x34_1) : Int) := of_decide_eq_true asE
                      have q168 : (rd t160 x34_1) < (t164.length : Int) := of_decide_eq_true asE
                      obtain ⟨ad168, e168, hx168_0⟩ := Kd.at_int (Kd.R_reads' HO_9.out).2.2 (rd t160 x34_1) p168 q168
                      cases e168
                      replace p168 := eq_true p168
                      replace q168 := eq_true q168
                      go_wp2
                      go_roundg k1
                      case measure => have := HK1.out; omega
                      case rel => exact ⟨(Go.bits .or .u64 x10_1 (ji24)), (wrap64 (x34_1 + 1)), (by first | rfl | (simp; done) | (simp only [← hji24] <;> (first | rfl | simp)) | (simp [*]; done)), rsE, H', ⟨by have := HK1.out; omega⟩, ⟨kdA HO_9.out⟩, ⟨kdA HO_32.out⟩, ⟨kdA HO_160002.out⟩, ⟨bkA BK152.out⟩, ⟨bkA BK159.out⟩, ⟨hbA HB.out⟩⟩
                    · rw [if_neg c23] at H
                      exact absurd H (by simp)
                  · rw [if_neg c22] at H
                    exact absurd H (by simp)
                · rw [if_neg c21] at H
                  exact absurd H (by simp)
              · rw [if_neg c20] at H
                exact absurd H (by simp)
            · rw [if_neg c19] at H
              exact absurd H (by simp)
          · rw [if_neg c18] at H
            have c18b0 : decide (x34_1 < (t160.length : Int)) = false := decide_eq_false c18
            clear c18
            simp only [Option.some.injEq, Prod.mk.injEq] at H
            obtain ⟨rfl, rfl⟩ := H
            go_wp2
            go_ret2
            exact ⟨rfE, hbA HB.out⟩
    · rw [if_neg c6] at H
      have c6b0 : (t163 == 0) = false := beq_eq_false_iff_ne.mpr c6
      have c6b1 : (t163 != 0) = true := bne_iff_ne.mpr c6
      simp only [Option.some.injEq, Prod.mk.injEq] at H
      obtain ⟨rfl, rfl⟩ := H
      go_enter Tryd.func54, Tryd.ntmps54
      go_wp2_with (first | ((with_reducible refine gD 2 rfl ?_); refine bE 2 #[.int .i64 a0_0, .int .i64 a0_1, .slice A0_2 l0_2.length c0_2] 24 ?_; intro gb152 hg w26 hbox hb; have BK152 := Aside0.mk (hbox); have GW152 := hbS HB hg; have GE152 := hbS HB hg; replace HB := hbB HB hb; clear hb hbox hg; obtain ⟨hcz27_0, hcz27_1, hcz27_2, hfz27_0, hfz27_1, hfz27_2⟩ := cell3 BK152) | ((with_reducible refine gC 78 rfl ?_); refine cG (some 16) Tryd.func78 #[.agg #[.int .i64 a0_0, .int .i64 a0_1, .slice A0_2 l0_2.length c0_2], .int .u64 a1] ?_; (with_reducible refine (matroid_pick.calls k a0_0 a0_1 _ _ l0_2 a1 t153 t154 t155 t158 _ ?side1 ?side2 A3.out (tab_below HT.out (by repeat (first | (with_reducible first | exact HB.out | apply below_alloc | apply pw_below_drewN | apply below_drew1) | exact HB.out | exact Below.refl _ _)))).mono ?_); (case side1 => exact kcB HR0_2 HB); (case side2 => exact HC0_2.out); rintro e w28 ⟨v156, rfl, ho0, hb⟩; refine ⟨_, rfl, ?_⟩; have HO157 := Aside0.mk (Kd.R_lower ho0 (below_size (hbA HB.out))); replace BK152 := bkB BK152 hb; replace HB := hbB HB hb; (try clear hb); (try clear hb2); (try clear hk); (try clear hi); (try clear ho0)) | ((with_reducible refine gD 6 rfl ?_); refine bE 6 #[.int .i64 0, .int .i64 0, .slice none 0 0] 24 ?_; intro gb159 hg w29 hbox hb; replace HO157 := kdB HO157 hb; have BK159 := Aside0.mk (hbox); have GW159 := hbS HB hg; have GE159 := hbS HB hg; replace HB := hbB HB hb; have NB152_159 := neL BK152 hg; have NB159_152 := neG BK152 hg; replace BK152 := bkB BK152 hb; clear hb hbox hg; have hnb30 := NB159_152.out; have hnc30 := NB152_159.out; obtain ⟨hcz31_0, hcz31_1, hcz31_2, hfz31_0, hfz31_1, hfz31_2⟩ := cell3 BK159; obtain ⟨Ao32, co32, eo32⟩ := Kd.R_slice HO157.out; subst eo32) | ((with_reducible refine gC 79 rfl ?_); refine cG (some 24) Tryd.func79 #[.agg #[.int .i64 t153, .int .i64 t154, .slice Ao32 t155.length co32]] ?_; (with_reducible refine (gauss_First.calls t153 t154 _ _ t155 t160 t163 _ ?side1 ?side2 A5.out).mono ?_); (case side1 => refine (Kd.R_reads' (e := 5) (base := w.heap.size) (ok := fun k_ => True) (n := t155.length) (c := co32) ?_).2.2; exact (by (with_reducible repeat (first | apply Kd.R_alloc | apply Kd.R_drewN | apply Kd.R_drew)); exact (Kd.R_mono (Kd.R_far (p := ⟨gb159, 2, none⟩) (Kd.R_far (p := ⟨gb159, 1, none⟩) (Kd.R_far (p := ⟨gb159, 0, none⟩) (Kd.R_types HO157.out BK159.out (by decide)) (fun _ hk => hk.2) (.int .i64 t153)) (fun _ hk => hk.2) (.int .i64 t154)) (fun _ hk => hk.2) (.slice Ao32 t155.length co32)) (fun _ h_ => h_.1)))); (case side2 => exact (Kd.R_reads' HO157.out).2.1); rintro e w33 ⟨v161, rfl, ho0, hb⟩; refine ⟨_, rfl, ?_⟩; replace HO157 := Aside0.mk (Kd.R_below (by (with_reducible repeat (first | apply Kd.R_alloc | apply Kd.R_drewN | apply Kd.R_drew)); exact (Kd.R_mono (Kd.R_far (p := ⟨gb159, 2, none⟩) (Kd.R_far (p := ⟨gb159, 1, none⟩) (Kd.R_far (p := ⟨gb159, 0, none⟩) (Kd.R_types HO157.out BK159.out (by decide)) (fun _ hk => hk.2) (.int .i64 t153)) (fun _ hk => hk.2) (.int .i64 t154)) (fun _ hk => hk.2) (.slice Ao32 t155.length co32)) (fun _ h_ => h_.1))) hb); have HO162 := Aside0.mk (Kd.R_lower ho0 (below_size (hbA HB.out))); replace BK152 := Aside0.mk (blk_below (g := gb152) (o := .cells #[.int .i64 a0_0, .int .i64 a0_1, .slice A0_2 l0_2.length c0_2] 24 (0, 0)) (by refine bkR ?_; refine blk_far ?_ NB152_159.out _; refine bkR ?_; refine blk_far ?_ NB152_159.out _; refine bkR ?_; refine blk_far ?_ NB152_159.out _; refine bkR ?_; exact BK152.out) hb); replace BK159 := Aside0.mk (blk_below (g := gb159) (o := .cells #[.int .i64 t153, .int .i64 t154, .slice Ao32 t155.length co32] 24 (0, 0)) (by refine bkR ?_; refine blk_put (cs := #[.int .i64 t153, .int .i64 t154, .slice none 0 0]) ?_ 2 _ rfl; refine bkR ?_; refine blk_put (cs := #[.int .i64 t153, .int .i64 0, .slice none 0 0]) ?_ 1 _ rfl; refine bkR ?_; refine blk_put (cs := #[.int .i64 0, .int .i64 0, .slice none 0 0]) ?_ 0 _ rfl; refine bkR ?_; exact BK159.out) hb); replace HB := hbB HB hb; (try clear hb); (try clear hb2); (try clear hk); (try clear hi); (try clear ho0)))
      go_ret2
      exact ⟨rfE, hbA HB.out⟩
  · rw [if_neg c4] at H
    have c4b0 : (t158 == 0) = false := beq_eq_false_iff_ne.mpr c4
    have c4b1 : (t158 != 0) = true := bne_iff_ne.mpr c4
    simp only [Option.some.injEq, Prod.mk.injEq] at H
    obtain ⟨rfl, rfl⟩ := H
    go_enter Tryd.func54, Tryd.ntmps54
    go_wp2_with (first | ((with_reducible refine gD 2 rfl ?_); refine bE 2 #[.int .i64 a0_0, .int .i64 a0_1, .slice A0_2 l0_2.length c0_2] 24 ?_; intro gb152 hg w34 hbox hb; have BK152 := Aside0.mk (hbox); have GW152 := hbS HB hg; have GE152 := hbS HB hg; replace HB := hbB HB hb; clear hb hbox hg; obtain ⟨hcz35_0, hcz35_1, hcz35_2, hfz35_0, hfz35_1, hfz35_2⟩ := cell3 BK152) | ((with_reducible refine gC 78 rfl ?_); refine cG (some 16) Tryd.func78 #[.agg #[.int .i64 a0_0, .int .i64 a0_1, .slice A0_2 l0_2.length c0_2], .int .u64 a1] ?_; (with_reducible refine (matroid_pick.calls k a0_0 a0_1 _ _ l0_2 a1 t153 t154 t155 t158 _ ?side1 ?side2 A3.out (tab_below HT.out (by repeat (first | (with_reducible first | exact HB.out | apply below_alloc | apply pw_below_drewN | apply below_drew1) | exact HB.out | exact Below.refl _ _)))).mono ?_); (case side1 => exact kcB HR0_2 HB); (case side2 => exact HC0_2.out); rintro e w36 ⟨v156, rfl, ho0, hb⟩; refine ⟨_, rfl, ?_⟩; have HO157 := Aside0.mk (Kd.R_lower ho0 (below_size (hbA HB.out))); replace BK152 := bkB BK152 hb; replace HB := hbB HB hb; (try clear hb); (try clear hb2); (try clear hk); (try clear hi); (try clear ho0)) | ((with_reducible refine gD 6 rfl ?_); refine bE 6 #[.int .i64 0, .int .i64 0, .slice none 0 0] 24 ?_; intro gb159 hg w37 hbox hb; replace HO157 := kdB HO157 hb; have BK159 := Aside0.mk (hbox); have GW159 := hbS HB hg; have GE159 := hbS HB hg; replace HB := hbB HB hb; have NB152_159 := neL BK152 hg; have NB159_152 := neG BK152 hg; replace BK152 := bkB BK152 hb; clear hb hbox hg; have hnb38 := NB159_152.out; have hnc38 := NB152_159.out; obtain ⟨hcz39_0, hcz39_1, hcz39_2, hfz39_0, hfz39_1, hfz39_2⟩ := cell3 BK159; obtain ⟨Ao40, co40, eo40⟩ := Kd.R_slice HO157.out; subst eo40))
    go_ret2
    exact ⟨rfE, hbA HB.out⟩

end Go.Proofs.YtkagobkedifhkaaDoor.Q
