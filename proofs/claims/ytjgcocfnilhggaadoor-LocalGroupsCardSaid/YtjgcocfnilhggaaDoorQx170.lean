/- Written by drive.py (a program of this repo, over the kit's print): each Go function named here answers what the Lean function beside it answers, wherever that one answers, in every world that meets the stated premises. -/
import Derived.Test.YtjgcocfnilhggaaDoorQx0
import Derived.Test.YtjgcocfnilhggaaDoorQx164
import Derived.Test.YtjgcocfnilhggaaDoorQx190
import Derived.Test.YtjgcocfnilhggaaDoorQx208
namespace Go.Proofs.YtjgcocfnilhggaaDoor.Q
open Go.RowKit Go.Proofs.YtjgcocfnilhggaaDoorW.PrintWords Go.Proofs.YtjgcocfnilhggaaDoorW.PrintLast Go.Proofs.YtjgcocfnilhggaaDoorW.PrintMore
attribute [local go_sem] max2_int min2_int max_two min_two max_three min_three max_four min_four   -- for this text's walks alone
set_option linter.unusedVariables false
set_option linter.unusedSimpArgs false

/-! ### gauss_Solve: function 70 -/
-- (behind gauss_Inverse.calls)
/-! ### Solve -/
theorem RowV.lit1 (w : World) (x : Int) : RowV (w.alloc (.cells #[.int .u8 x] 5)) (.slice (some ⟨w.heap.size, 0, none⟩) 1 1) [x] := by
  have hb := blk_new w (.cells #[.int .u8 x] 5)
  refine ⟨_, 1, rfl, Nat.le_refl _, Kd.C_of_reads (d := (0 : Int)) ⟨rfl, by simp, fun hn => ⟨⟨w.heap.size, 0, none⟩, rfl, fun j hj => ?_⟩⟩, fun ad ha => ?_⟩
  · obtain rfl : j = 0 := by simpa using hj
    exact (blk_cell hb 0).trans rfl
  · cases ha
    exact ⟨_, hb⟩
theorem Hold.newRow {w w1 : World} {R g d cl cd : Nat} {Al Ad : Option Addr} {M D : List (List Int)} {cols i : Nat} {v : Value} {l : List Int} (h : Hold w R g d cl cd Al Ad M D cols) (hi : i < D.length) (hb : Below w.heap.size w w1)
    (hv : RowV w1 v l) : Hold (w1.setCell ⟨d, i, none⟩ v) R g d cl cd Al Ad M (D.set i l) cols := by
  obtain ⟨cells, hc⟩ := h.LD.typ (by omega)
  have hd := (hb.block d (lt_of_get hc)).trans hc
  refine h.putD (v := v) hi (grown_trans (grown_below hb) (grown_set w1 d i v)) ?_ (hv.keep (KeepB.grown (grown_set w1 d i v) hd (by decide)))
  rw [blk_put hd i v rfl, blk_put hc i v rfl]
/-- The first i rows told by f, and nothing behind. -/
def fillTo (f : Nat → List Int) (n i : Nat) : List (List Int) := (List.range n).map fun k => if k < i then f k else []
theorem fillTo_length (f : Nat → List Int) (n i : Nat) : (fillTo f n i).length = n := by simp [fillTo]
theorem fillTo_get {f : Nat → List Int} {n i k : Nat} (hk : k < n) : (fillTo f n i).getD k [] = if k < i then f k else [] := by
  unfold fillTo
  rw [List.getD_eq_getElem?_getD, List.getElem?_map, List.getElem?_range hk]
  rfl
theorem fillTo_zero (f : Nat → List Int) (n : Nat) : fillTo f n 0 = List.replicate n [] := by
  apply List.ext_getElem (by simp [fillTo])
  intro k h1 h2
  simp [fillTo]
theorem fillTo_succ {f : Nat → List Int} {n i : Nat} (hi : i < n) : (fillTo f n i).set i (f i) = fillTo f n (i + 1) := by
  apply List.ext_getElem (by simp [fillTo])
  intro k h1 h2
  have hk : k < n := by rw [fillTo_length] at h2; exact h2
  simp only [fillTo, List.getElem_set, List.getElem_map, List.getElem_range]
  by_cases e : i = k
  · subst e
    rw [if_pos rfl, if_pos (by omega)]
  · rw [if_neg e]
    by_cases h : k < i
    · rw [if_pos h, if_pos (by omega)]
    · rw [if_neg h, if_neg (by omega)]
def colRow (y : List Int) (k : Nat) : List Int := [y.getD k 0]
theorem shp_col {rows cols : Nat} {l y : List Int} (hb : bytesB l = true) (hl : l.length = rows * cols) (h : rows ≤ 64 ∧ cols ≤ 64) (hy : bytesB y = true) (hyl : y.length = rows) : Shp (rowsOf cols rows l) (fillTo (colRow y) rows rows) cols 1 :=
  shp_of hb hl h (fillTo_length _ _ _) (by
    rw [rowsB, List.all_eq_true]
    intro x hx
    obtain ⟨k, hk, rfl⟩ := List.mem_map.1 hx
    rw [if_pos (List.mem_range.1 hk)]
    refine bytesB_mk fun z hz => ?_
    obtain rfl : z = y.getD k 0 := by simpa [colRow] using hz
    exact bytesB_at hy (by have := List.mem_range.1 hk; omega)) (fun i hi => by rw [fillTo_get hi, if_pos hi]; rfl) (by decide)
theorem red_piv {M D : List (List Int)} : ∀ j i, i < (redTo M D j).2.length → 0 ≤ (redTo M D j).2.getD i 0 ∧ (redTo M D j).2.getD i 0 < (j : Int)
  | 0, i, h => by simp [redTo] at h
  | j + 1, i, h => by
    have ih := red_piv (M := M) (D := D) j
    have e : redTo M D (j + 1) = redStep j (redTo M D j) := rfl
    rw [e] at h ⊢
    cases hf : firstIn (redTo M D j).1.1 (redTo M D j).2.length j with
    | none =>
      rw [redStep_none hf] at h ⊢
      have := ih i h
      omega
    | some k =>
      rw [redStep_some hf] at h ⊢
      simp only [] at h ⊢
      rw [List.length_append, List.length_singleton] at h
      rcases Nat.lt_or_ge i (redTo M D j).2.length with hi | hi
      · have := ih i hi
        rw [List.getD_eq_getElem?_getD, List.getElem?_append_left hi, ← List.getD_eq_getElem?_getD]
        omega
      · obtain rfl : i = (redTo M D j).2.length := by omega
        rw [List.getD_eq_getElem?_getD, List.getElem?_append_right (Nat.le_refl _), Nat.sub_self]
        simp
        omega
/-- What is known of x behind i rows. -/
def solveTo (P : List Int) (D : List (List Int)) (cols : Nat) : Nat → List Int
  | 0 => List.replicate cols 0
  | i + 1 => if i < P.length then (solveTo P D cols i).set (P.getD i 0).toNat (entry D i 0) else solveTo P D cols i
theorem solveTo_length (P : List Int) (D : List (List Int)) (cols : Nat) : ∀ i, (solveTo P D cols i).length = cols
  | 0 => by simp [solveTo]
  | i + 1 => by
    unfold solveTo
    split
    · rw [List.length_set, solveTo_length]
    · exact solveTo_length P D cols i
/-- From row i on, of so many, something stands beside rows of noughts. -/
def badFrom (P : List Int) (D : List (List Int)) : Nat → Nat → Bool
  | 0, _ => false
  | f + 1, i => if P.length ≤ i ∧ entry D i 0 ≠ 0 then true else badFrom P D f (i + 1)
def gauss_Solve.st (a b : Int) (l y : List Int) : (List (List Int) × List (List Int)) × List Int := redTo (rowsOf b.toNat a.toNat l) (fillTo (colRow y) a.toNat a.toNat) b.toNat
def gauss_Solve.f (a b : Int) (l y : List Int) : Option (List Int × Bool × Int) :=
  (matrix_Right.f a b l).bind fun t => if t = true then (if (y.length : Int) = a then (if bytesB l = true ∧ bytesB y = true then (if badFrom (gauss_Solve.st a b l y).2 (gauss_Solve.st a b l y).1.2 a.toNat 0 = true then some ([], false, 0) else some (solveTo (gauss_Solve.st a b l y).2 (gauss_Solve.st a b l y).1.2 b.toNat a.toNat, true, 0)) else none) else some ([], false, 3)) else some ([], false, 3)
theorem badFrom_yes {P : List Int} {D : List (List Int)} : ∀ f i k, i ≤ k → k < i + f → P.length ≤ k → entry D k 0 ≠ 0 → badFrom P D f i = true
  | 0, i, k, h1, h2, _, _ => by omega
  | f + 1, i, k, h1, h2, h3, h4 => by
    unfold badFrom
    by_cases e : P.length ≤ i ∧ entry D i 0 ≠ 0
    · rw [if_pos e]
    · rw [if_neg e]
      refine badFrom_yes f (i + 1) k ?_ (by omega) h3 h4
      rcases Nat.lt_or_eq_of_le h1 with h | h
      · exact h
      · subst h
        exact absurd ⟨h3, h4⟩ e
theorem badFrom_no {P : List Int} {D : List (List Int)} : ∀ f i, (∀ k, i ≤ k → k < i + f → P.length ≤ k → entry D k 0 = 0) → badFrom P D f i = false
  | 0, i, _ => rfl
  | f + 1, i, h => by
    unfold badFrom
    rw [if_neg (fun e => e.2 (h i (Nat.le_refl _) (by omega) e.1))]
    exact badFrom_no f (i + 1) fun k h1 h2 => h k (by omega) (by omega)

set_option maxHeartbeats 4000000 in
set_option maxRecDepth 100000 in
theorem gauss_Solve.calls (a0_0 : Int) (a0_1 : Int) (A0_2 : Option Addr) (c0_2 : Nat) (l0_2 : List Int) (A1 : Option Addr) (c1 : Nat) (l1 : List Int) (r1 : List Int) (r2 : Bool) (r3 : Int) (w : World) (hr0_2 : Kd.C (Kd.int .u8) w A0_2 l0_2.length l0_2) (hc0_2 : l0_2.length ≤ c0_2) (hr1 : Kd.C (Kd.int .u8) w A1 l1.length l1) (hc1 : l1.length ≤ c1) (h : gauss_Solve.f a0_0 a0_1 l0_2 l1 = some (r1, r2, r3)) :
    Calls Tryd.prog 70 #[.agg #[.int .i64 a0_0, .int .i64 a0_1, .slice A0_2 l0_2.length c0_2], .slice A1 l1.length c1] w fun e w' => ∃ v0_ : Value, e = .returned (.tuple #[v0_, .bool r2, .int .i64 r3]) ∧ Kd.R (Kd.int .u8) 5 w' w.heap.size (fun _ => True) v0_ r1 ∧ Below w.heap.size w w' := by
  have hu24 := Tryd.underlying24
  have HR := Aside0.mk hr0_2
  have HC := Aside0.mk hc0_2
  have HY := Aside0.mk hr1
  clear hr0_2 hc0_2 hr1
  unfold gauss_Solve.f at h
  obtain ⟨t, hm, h⟩ := Option.bind_eq_some_iff.mp h
  have HM := Aside0.mk hm
  cases t with
  | false =>
    simp only [Bool.false_eq_true, if_false, Option.some.injEq, Prod.mk.injEq] at h
    obtain ⟨rfl, rfl, rfl⟩ := h
    clear hm
    go_enter Tryd.func70, Tryd.ntmps70
    go_upto_region 1 with (fail)
    have hb2 := below_alloc (Below.refl w.heap.size w) (.cells #[.int .i64 a0_0, .int .i64 a0_1, .slice A0_2 l0_2.length c0_2] 24)
    have hbm := blk_new w (.cells #[.int .i64 a0_0, .int .i64 a0_1, .slice A0_2 l0_2.length c0_2] 24)
    have HB2 := Aside0.mk hb2
    clear hb2
    generalize w.alloc (.cells #[.int .i64 a0_0, .int .i64 a0_1, .slice A0_2 l0_2.length c0_2] 24) = w2 at *
    have x0 : w2.cell? ⟨w.heap.size, 0, none⟩ = some (.int .i64 a0_0) := (blk_cell hbm 0).trans rfl
    have x1 : w2.cell? ⟨w.heap.size, 1, none⟩ = some (.int .i64 a0_1) := (blk_cell hbm 1).trans rfl
    have x2 : w2.cell? ⟨w.heap.size, 2, none⟩ = some (.slice A0_2 l0_2.length c0_2) := (blk_cell hbm 2).trans rfl
    go_wp2_with fail
    refine (matrix_Right.calls a0_0 a0_1 A0_2 c0_2 l0_2 false _ (Kd.C_below HR.out HB2.out) HC.out HM.out).mono ?_
    rintro e w3 ⟨rfl, hb3⟩
    have hm3 := (hb3.block _ (lt_of_get hbm)).trans hbm
    have HB3 := Aside0.mk (below_step HB2.out hb3)
    clear x0 x1 x2 hbm hb3
    have x0 : w3.cell? ⟨w.heap.size, 0, none⟩ = some (.int .i64 a0_0) := (blk_cell hm3 0).trans rfl
    have x1 : w3.cell? ⟨w.heap.size, 1, none⟩ = some (.int .i64 a0_1) := (blk_cell hm3 1).trans rfl
    have x2 : w3.cell? ⟨w.heap.size, 2, none⟩ = some (.slice A0_2 l0_2.length c0_2) := (blk_cell hm3 2).trans rfl
    clear x0 x1 x2 hm3
    go_wp2_with fail
    go_ret3
    exact ⟨_, rfl, Kd.R_nil _ _ _ _ _, HB3.out⟩
  | true =>
    have hrt := right_true hm
    rw [if_pos rfl] at h
    by_cases hab : (l1.length : Int) = a0_0
    · rw [if_pos hab] at h
      by_cases hb : bytesB l0_2 = true ∧ bytesB l1 = true
      · rw [if_pos hb] at h
        obtain ⟨e0, e1, e2, e3, hl⟩ := hrt
        obtain ⟨n, rfl⟩ := Int.eq_ofNat_of_zero_le e0
        obtain ⟨m, rfl⟩ := Int.eq_ofNat_of_zero_le e2
        rw [Int.toNat_natCast, Int.toNat_natCast] at h
        rw [Int.toNat_natCast, Int.toNat_natCast] at hl
        have hn : n ≤ 64 := by omega
        have hmm : m ≤ 64 := by omega
        have hyl : l1.length = n := by omega
        have hab2 : (l1.length != n) = false := bne_eq_false_iff_eq.mpr hyl
        have HYL := Aside0.mk hyl
        have HYB := Aside0.mk hb.2
        have HS := Aside0.mk (shp_col hb.1 hl ⟨hn, hmm⟩ hb.2 hyl)
        have HST := Aside0.mk (show gauss_Solve.st (n : Int) (m : Int) l0_2 l1 = redTo (rowsOf m n l0_2) (fillTo (colRow l1) n n) m from rfl)
        have HL := Aside0.mk hl
        generalize gauss_Solve.st (n : Int) (m : Int) l0_2 l1 = st at *
        have HRES := Aside0.mk h
        have ne0 : ((l1.length : Int) != (n : Int)) = false := bne_eq_false_iff_eq.mpr hab
        clear hb hm hl e0 e1 e2 e3 h hab hyl
        go_enter Tryd.func70, Tryd.ntmps70
        go_upto_region 1 with (fail)
        have hb2 := below_alloc (Below.refl w.heap.size w) (.cells #[.int .i64 (n : Int), .int .i64 (m : Int), .slice A0_2 l0_2.length c0_2] 24)
        have hbm := blk_new w (.cells #[.int .i64 (n : Int), .int .i64 (m : Int), .slice A0_2 l0_2.length c0_2] 24)
        have HB2 := Aside0.mk hb2
        clear hb2
        generalize w.alloc (.cells #[.int .i64 (n : Int), .int .i64 (m : Int), .slice A0_2 l0_2.length c0_2] 24) = w2 at *
        have x0 : w2.cell? ⟨w.heap.size, 0, none⟩ = some (.int .i64 (n : Int)) := (blk_cell hbm 0).trans rfl
        have x1 : w2.cell? ⟨w.heap.size, 1, none⟩ = some (.int .i64 (m : Int)) := (blk_cell hbm 1).trans rfl
        have x2 : w2.cell? ⟨w.heap.size, 2, none⟩ = some (.slice A0_2 l0_2.length c0_2) := (blk_cell hbm 2).trans rfl
        go_wp2_with fail
        refine (matrix_Right.calls (n : Int) (m : Int) A0_2 c0_2 l0_2 true _ (Kd.C_below HR.out HB2.out) HC.out HM.out).mono ?_
        rintro e w3 ⟨rfl, hb3⟩
        have hm3 := (hb3.block _ (lt_of_get hbm)).trans hbm
        have HB3 := Aside0.mk (below_step HB2.out hb3)
        clear x0 x1 x2 hbm hb3
        have x0 : w3.cell? ⟨w.heap.size, 0, none⟩ = some (.int .i64 (n : Int)) := (blk_cell hm3 0).trans rfl
        have x1 : w3.cell? ⟨w.heap.size, 1, none⟩ = some (.int .i64 (m : Int)) := (blk_cell hm3 1).trans rfl
        have x2 : w3.cell? ⟨w.heap.size, 2, none⟩ = some (.slice A0_2 l0_2.length c0_2) := (blk_cell hm3 2).trans rfl
        go_wp2_with fail
        refine (gauss_of.calls n m A0_2 c0_2 l0_2 w3 (Kd.C_below HR.out HB3.out) HC.out HL.out ⟨hn, hmm⟩).mono ?_
        rintro e w4 ⟨R, rfl, hq⟩
        obtain ⟨g, d, cl, cd, Al, Ad, hH, hb4, hg, hd, hRw, hg4, hd4, hcl, hcd, cR, hRf⟩ := hq.out
        have hm4 := (hb4.block _ (lt_of_get hm3)).trans hm3
        rw [← fillTo_zero (colRow l1)] at hH
        have HH := Aside0.mk hH
        have HB4 := Aside0.mk (below_step HB3.out hb4)
        have hml3 := lt_of_get hm3
        have y1 : w4.cell? ⟨R, 1, none⟩ = some (.slice Ad n cd) := by have := HH.out.also; rwa [fillTo_length] at this
        clear hq hH hb4 hm3 x0 x1 x2
        go_wp2_with fail
        clear y1
        go_loopg [29] n (fun kq v29 wr => ∃ (i : Nat), v29 = .int .i64 i ∧ i ≤ n ∧ Aside0 (kq + i = n) ∧ Aside0 (Hold wr R g d cl cd Al Ad (rowsOf m n l0_2) (fillTo (colRow l1) n i) m ∧ Chg w4 wr (two g d)))
        case atStart => exact ⟨0, rfl, Nat.zero_le _, ⟨by omega⟩, ⟨HH.out, Chg.refl _ _⟩⟩
        case round =>
          obtain ⟨i, rfl, hi, HK, HO⟩ := hrel
          have hn4 := HB4.out.size
          have hm5 := (HO.out.2.block _ (lt_of_get hm4) (fun e => by rcases e with e | e <;> omega)).trans hm4
          have hw45 := HO.out.2.size
          have hbw : Below w.heap.size w wr := HB4.out.trans (HO.out.2.to_below (n := w.heap.size) hn4 (fun k hk => by rcases hk with e | e <;> omega))
          by_cases hlt : i < n
          · have tst : decide ((i : Int) < (n : Int)) = true := by simpa using hlt
            go_wp2_with fail
            have hAd := HO.out.1.hD (by rw [fillTo_length]; omega)
            subst hAd
            have z1 : wr.cell? ⟨R, 1, none⟩ = some (.slice (some ⟨d, 0, none⟩) n cd) := by have := HO.out.1.also; rwa [fillTo_length] at this
            obtain ⟨vd0, hd0, hd0r⟩ := HO.out.1.LD.row i (by rw [fillTo_length]; exact hlt)
            have hdf := HO.out.1.LD.frz i (by rw [fillTo_length]; exact hlt)
            have hdl := HO.out.1.LD.lt (by rw [fillTo_length]; omega)
            obtain ⟨ad, eA, hx0⟩ := Kd.at_int HY.out (i : Int) (by omega) (by have := HYL.out; omega)
            subst eA
            have hx : wr.cell? (ad.add i) = some (.int .u8 (l1.getD i 0)) := by
              have := pw_cell_below hbw hx0
              rw [show l1.getD i 0 = rd l1 (i : Int) from by simp [rd]]
              simpa using this
            have HCR := Aside0.mk (show colRow l1 i = [l1.getD i 0] from rfl)
            clear hd0r hx0
            generalize l1.getD i 0 = x at *
            have hyl := HYL.out
            have hio : (0 : Int) ≤ (i : Int) := by omega
            have hin : (i : Int) < (l1.length : Int) := by omega
            refine start_ (n := 12) (S := fun w' => w'.cell? ⟨R, 1, none⟩ = some (.slice (some ⟨d, 0, none⟩) n cd) ∧ w'.cell? (ad.add i) = some (.int .u8 x)) (ds := [11]) #[false, false, false, false, false, false, false, false, false, false, false, false] (by kernel_rfl) rfl rfl ⟨z1, hx⟩ (fun hHeld => ?_)
            have HO1 := Aside0.mk (show Hold wr.drew R g d cl cd Al (some ⟨d, 0, none⟩) (rowsOf m n l0_2) (fillTo (colRow l1) n i) m ∧ Chg w4 wr.drew (two g d) from ⟨HO.out.1.below (below_drew (Below.refl _ _)), HO.out.2.trans (Chg.below_all (below_drew (Below.refl _ _)) _)⟩)
            have hd1 : wr.drew.cell? ⟨d, i, none⟩ = some vd0 := hd0
            have hdf1 : wr.drew.frozen? ⟨d, i, none⟩ = false := hdf
            have hs1 : d < wr.drew.heap.size := hdl
            clear HO hm5 z1 hd0 hdf hx hbw
            generalize wr.drew = w5 at *
            refine pure_ (i := 0) (N := some 32) (v := ?_) (a' := ?_) #[true, false, false, false, false, false, false, false, false, false, false, false] rfl rfl (by kernel_rfl) (fun _ _ _ h => h) (Or.inl ⟨by rfl, ?_⟩) ?_ ?_
            rotate_left
            · intro w'
              go_simp
              with_reducible rfl
            rotate_left
            · simp only [Act.put, List.setIfInBounds_toArray, List.set_cons_zero, List.set_cons_succ, i64_w, i32_w]
              rfl
            refine pure_ (i := 1) (N := some 33) (v := ?_) (a' := ?_) #[true, true, false, false, false, false, false, false, false, false, false, false] rfl rfl (by kernel_rfl) (fun _ _ _ h => h) (Or.inl ⟨by rfl, ?_⟩) ?_ ?_
            rotate_left
            · intro w'
              go_simp
              with_reducible rfl
            rotate_left
            · simp only [Act.put, List.setIfInBounds_toArray, List.set_cons_zero, List.set_cons_succ, i64_w, i32_w]
              rfl
            refine pure_ (i := 2) (N := some 34) (v := ?_) (a' := ?_) #[true, true, true, false, false, false, false, false, false, false, false, false] rfl rfl (by kernel_rfl) (fun _ _ _ h => h) (Or.inl ⟨by rfl, ?_⟩) ?_ ?_
            rotate_left
            · intro w'
              go_simp
              with_reducible rfl
            rotate_left
            · simp only [Act.put, List.setIfInBounds_toArray, List.set_cons_zero, List.set_cons_succ, i64_w, i32_w]
              rfl
            refine pure_ (i := 4) (N := some 36) (v := ?_) (a' := ?_) #[true, true, true, false, true, false, false, false, false, false, false, false] rfl rfl (by kernel_rfl) (fun _ _ _ h => h) (Or.inl ⟨by rfl, ?_⟩) ?_ ?_
            rotate_left
            · intro w'
              go_simp
              with_reducible rfl
            rotate_left
            · simp only [Act.put, List.setIfInBounds_toArray, List.set_cons_zero, List.set_cons_succ, i64_w, i32_w]
              rfl
            refine pure_ (i := 5) (N := some 37) (v := ?_) (a' := ?_) #[true, true, true, false, true, true, false, false, false, false, false, false] rfl rfl (by kernel_rfl) (fun _ _ _ h => h) (Or.inl ⟨by rfl, ?_⟩) ?_ ?_
            rotate_left
            · intro w'
              go_simp
              with_reducible rfl
            rotate_left
            · simp only [Act.put, List.setIfInBounds_toArray, List.set_cons_zero, List.set_cons_succ, i64_w, i32_w]
              rfl
            refine pure_ (i := 6) (N := some 38) (v := ?_) (a' := ?_) #[true, true, true, false, true, true, true, false, false, false, false, false] rfl rfl (by kernel_rfl) (fun _ _ _ h => h) (Or.inl ⟨by rfl, ?_⟩) ?_ ?_
            rotate_left
            · intro w'
              go_simp
              with_reducible rfl
            rotate_left
            · simp only [Act.put, List.setIfInBounds_toArray, List.set_cons_zero, List.set_cons_succ, i64_w, i32_w]
              rfl
            refine pure_ (i := 7) (N := some 39) (v := ?_) (a' := ?_) #[true, true, true, false, true, true, true, true, false, false, false, false] rfl rfl (by kernel_rfl) (fun _ _ _ h => h) (Or.inl ⟨by rfl, ?_⟩) ?_ ?_
            rotate_left
            · intro w'
              go_simp
              with_reducible rfl
            rotate_left
            · simp only [Act.put, List.setIfInBounds_toArray, List.set_cons_zero, List.set_cons_succ, i64_w, i32_w]
              rfl
            refine take_ (i := 3) (N := some 35) (v := ?_) (a' := ?_) #[true, true, true, true, true, true, true, true, false, false, false, false] rfl rfl (by kernel_rfl) (fun _ _ _ h => h) (Or.inl ⟨by rfl, ?_⟩) hHeld ?_ ?_
            rotate_left
            · rintro w' ⟨s0, s1⟩
              go_simp
              with_reducible rfl
            rotate_left
            · simp only [Act.put, List.setIfInBounds_toArray, List.set_cons_zero, List.set_cons_succ, i64_w, i32_w]
              rfl
            refine take_ (i := 8) (N := some 40) (v := ?_) (a' := ?_) #[true, true, true, true, true, true, true, true, true, false, false, false] rfl rfl (by kernel_rfl) (fun _ _ _ h => h) (Or.inl ⟨by rfl, ?_⟩) hHeld ?_ ?_
            rotate_left
            · rintro w' ⟨s0, s1⟩
              go_simp
              with_reducible rfl
            rotate_left
            · simp only [Act.put, List.setIfInBounds_toArray, List.set_cons_zero, List.set_cons_succ, i64_w, i32_w]
              rfl
            refine one_ (i := 9) (N := some 41) #[true, true, true, true, true, true, true, true, true, true, false, false] rfl rfl (by kernel_rfl) (by decide) (fun K hK => ?_)
            refine value_ (w1 := ?_) (v := ?_) (by rfl) rfl ?_ ?_
            rotate_left 2
            · go_simp
              constructor
              · rfl
              · rfl
            have HB6 := Aside0.mk (below_alloc (Below.refl w5.heap.size w5) (.cells #[.int .u8 x] 5))
            have HRV := Aside0.mk (RowV.lit1 w5 x)
            have hd2 := pw_cell_below HB6.out hd1
            have hdf2 := (below_frozen HB6.out (p := ⟨d, i, none⟩) (by show d < _; omega)).trans hdf1
            have hH1 := hHeld.1
            have hH2 := hHeld.2
            generalize w5.alloc (.cells #[.int .u8 x] 5) = w6 at *
            refine hK.out _ _ ⟨pw_cell_below HB6.out hH1, pw_cell_below HB6.out hH2⟩ (fun hHeld => ?_)
            clear hK K
            refine norm_ (a' := ?_) ?_ ?_
            rotate_left
            · show Act.put _ (some 41) _ = _
              simp only [Act.put, List.setIfInBounds_toArray, List.set_cons_zero, List.set_cons_succ, i64_w, i32_w]
              rfl
            refine pure_ (i := 10) (N := some 42) (v := ?_) (a' := ?_) #[true, true, true, true, true, true, true, true, true, true, true, false] rfl rfl (by kernel_rfl) (fun _ _ _ h => h) (Or.inl ⟨by rfl, ?_⟩) ?_ ?_
            rotate_left
            · intro w'
              go_simp
              with_reducible rfl
            rotate_left
            · simp only [Act.put, List.setIfInBounds_toArray, List.set_cons_zero, List.set_cons_succ, i64_w, i32_w]
              rfl
            refine last_ (i := 11) (N := none) #[true, true, true, true, true, true, true, true, true, true, true, true] rfl rfl (by kernel_rfl) (by decide) (fun K hK => ?_)
            refine skip_ (w1 := ?_) (by rfl) rfl ?_ ?_
            rotate_left
            · go_simp
              rfl
            refine hK.out _ _ ?_
            clear hK K
            refine done_ (by kernel_rfl) ?_
            clear hHeld
            have HO7 := Aside0.mk (HO1.out.1.newRow (i := i) (by rw [fillTo_length]; exact hlt) HB6.out HRV.out)
            have HC7 := Aside0.mk (HO1.out.2.trans ((Chg.below_all HB6.out (two g d)).trans ((Chg.grown (grown_set w6 d i (.slice (some ⟨w5.heap.size, 0, none⟩) 1 1))).mono (t := two g d) (fun _ _ e => .inr e))))
            rw [← HCR.out, fillTo_succ hlt] at HO7
            clear HO1 HB6 HRV hd1 hdf1 hd2 hdf2 hs1 hH1 hH2
            go_wp2_with fail
            go_roundg (n - (i + 1))
            case measure => have := HK.out; omega
            case rel => exact ⟨i + 1, by go_num, by omega, ⟨by omega⟩, ⟨HO7.out, HC7.out⟩⟩
          · obtain rfl : i = n := by omega
            go_wp2_with fail
            refine (gauss_reduce.calls R g d cl cd Al Ad _ _ m 1 wr HO.out.1 HS.out (by omega) (by omega)).mono ?_
            rintro e w6 ⟨v, rfl, hq⟩
            rw [← HST.out] at hq
            obtain ⟨Av, cv, ev⟩ := Kd.R_slice hq.out.2.1
            subst ev
            have hm6 := (hq.out.2.2.block _ (lt_of_get hm5) (fun e => by rcases e with (e | e) | e <;> omega)).trans hm5
            have hsh := red_shp HS.out m
            have hpv := fun k => red_piv (M := rowsOf m i l0_2) (D := fillTo (colRow l1) i i) m k
            rw [← HST.out] at hsh hpv
            have HSH := Aside0.mk hsh
            have HPV := Aside0.mk hpv
            have HQ := Aside0.mk hq.out
            have HB6 := Aside0.mk (show Below w.heap.size w w6 from hbw.trans (hq.out.2.2.to_below (n := w.heap.size) (by omega) (fun k hk => by rcases hk with (e | e) | e <;> omega)))
            have hw6 := HB6.out.size
            have hwr6 := hq.out.2.2.size
            clear hsh hpv hq hm5 hbw HO
            have hDl : st.1.2.length = i := by rw [HSH.out.1.len, HSH.out.2.1, rowsOf_length]
            have hMl : st.1.1.length = i := by rw [HSH.out.2.1, rowsOf_length]
            have z0 : w6.cell? ⟨w.heap.size, 1, none⟩ = some (.int .i64 m) := (blk_cell hm6 1).trans rfl
            have z1 : w6.cell? ⟨R, 1, none⟩ = some (.slice Ad i cd) := by rw [← hDl]; exact HQ.out.1.also
            have hRl := HQ.out.1.small
            go_wp2_with ((with_reducible refine gate_dst (N := 48) rfl ?_); refine Kd.R_make (Kd.int .u8) (w0 := w6) w6.heap.size 5 rfl (N := 48) rfl 22 _ _ rfl (m : Int) rfl rfl Tryd.underlying22 (.int .u8 0) 1 info5 rfl (by decide) (by omega) (0 : Int) (ok := fun _ => True) (okp := fun _ => False) rfl (fun _ h => h.elim) trivial (by omega) (by omega) (Below.refl _ _) (Nat.le_refl _) ?_; intro vx w7 ho hb7 hg7 hnew; rw [Int.toNat_natCast] at ho; obtain ⟨Ax, cx, ev⟩ := Kd.R_slice ho; rw [List.length_replicate] at ev; subst ev; obtain ⟨xb, hxb, hxb2⟩ := hnew; obtain ⟨hAx, _⟩ := own_addr ho hxb; subst hAx; have HX := Aside0.mk ho; have HB7 := Aside0.mk hb7; have z2 := pw_cell_below hb7 z1; clear ho hb7 hg7 hxb)
            clear z0 z1 z2 hm6
            go_loopg [4, 54] i (fun kq v4 v54 wr => ∃ (k : Nat), v4 = .slice (some ⟨xb, 0, none⟩) m cx ∧ v54 = .int .i64 k ∧ k ≤ i ∧ Aside0 (kq + k = i) ∧ Aside0 (Below w6.heap.size w6 wr ∧ Kd.R (Kd.int .u8) 5 wr w6.heap.size (fun _ => True) (.slice (some ⟨xb, 0, none⟩) m cx) (solveTo st.2 st.1.2 m k) ∧ ∀ k', k' < k → st.2.length ≤ k' → entry st.1.2 k' 0 = 0))
            case atStart => exact ⟨0, rfl, rfl, Nat.zero_le _, ⟨by omega⟩, ⟨HB7.out, HX.out, fun k' h => by omega⟩⟩
            case round =>
              obtain ⟨k, rfl, rfl, hk, HK2, HO⟩ := hrel
              clear HX HB7
              by_cases hkl : k < i
              · have tst : decide ((k : Int) < (i : Int)) = true := by simpa using hkl
                have hAd := HQ.out.1.hD (by omega)
                subst hAd
                obtain ⟨vk, hrk, hvk⟩ := (HQ.out.1.below HO.out.1).LD.row k (by omega)
                obtain ⟨Ak, ck, rfl, hlk, hCk, _⟩ := hvk.out
                have hek := HSH.out.1.eD k (by omega)
                obtain ⟨adk, eAk, hxk0⟩ := Kd.at_int hCk (0 : Int) (by omega) (by rw [hek]; omega)
                subst eAk
                rw [hek] at hrk
                have hxk : _ = some (Value.int .u8 (entry st.1.2 k 0)) := hxk0
                rw [show adk.add (0 : Int).toNat = adk from by simp [Addr.add]] at hxk
                have HEN := Aside0.mk (show ∀ e, e = entry st.1.2 k 0 → e = entry st.1.2 k 0 from fun _ h => h)
                obtain ⟨x, ex⟩ : ∃ x, x = entry st.1.2 k 0 := ⟨_, rfl⟩
                rw [← ex] at hxk
                have EX := Aside0.mk ex
                clear ex hxk0 hCk hvk
                by_cases hpl : k < st.2.length
                · have tst2 : decide (k < st.2.length) = true := by simpa using hpl
                  obtain ⟨hp0, hp1⟩ := HPV.out k hpl
                  obtain ⟨adp, eAp, hxp0⟩ := Kd.at_int (Kd.R_reads' (Kd.R_below HQ.out.2.1 HO.out.1)).2.2 (k : Int) (by omega) (by omega)
                  subst eAp
                  have hxp : wr.cell? (adp.add k) = some (.int .i64 (st.2.getD k 0)) := by
                    rw [show st.2.getD k 0 = rd st.2 (k : Int) from by simp [rd]]
                    simpa using hxp0
                  obtain ⟨p, ep⟩ : ∃ p, p = st.2.getD k 0 := ⟨_, rfl⟩
                  rw [← ep] at hxp hp0 hp1
                  have EP := Aside0.mk ep
                  clear ep hxp0
                  obtain ⟨P, rfl⟩ := Int.eq_ofNat_of_zero_le hp0
                  have hPm : P < m := by omega
                  obtain ⟨hc1, hc2⟩ : wr.cell? ⟨xb, P, none⟩ = some (.int .u8 ((solveTo st.2 st.1.2 m k).getD P 0)) ∧ wr.frozen? ⟨xb, P, none⟩ = false := by
                    have hr := HO.out.2.1
                    have h1 := Kd.reads_of_C (enc := Value.int .u8) (d := (0 : Int)) (h1 := fun _ => rfl) (Kd.R_reads' hr).2.2
                    rw [solveTo_length] at h1
                    obtain ⟨_, cells, hcc⟩ := own_addr (b := xb) hr rfl
                    obtain ⟨ad0, ha0, hcell⟩ := h1.2.2 (by omega)
                    cases ha0
                    refine ⟨?_, by simp [World.frozen?, hcc]⟩
                    rw [show (⟨xb, P, none⟩ : Addr) = (⟨xb, 0, none⟩ : Addr).add P from by unfold Addr.add; by_cases e : P = 0 <;> simp [e]]
                    exact hcell P hPm
                  go_wp2_with fail
                  have hkz : (0 : Int) ≤ (k : Int) := by omega
                  have hkz2 : (k : Int) < (st.2.length : Int) := by omega
                  have hPz : (0 : Int) ≤ (P : Int) := by omega
                  have hPz2 : (P : Int) < (m : Int) := by omega
                  have hadd : (⟨xb, 0, none⟩ : Addr).add P = ⟨xb, P, none⟩ := by unfold Addr.add; by_cases e : P = 0 <;> simp [e]
                  refine start_ (n := 10) (S := fun w' => w'.cell? (adp.add k) = some (.int .i64 P) ∧ w'.cell? adk = some (.int .u8 x)) (ds := [9]) #[false, false, false, false, false, false, false, false, false, false] (by kernel_rfl) rfl rfl ⟨hxp, hxk⟩ (fun hHeld => ?_)
                  have HO1 := Aside0.mk (show Below w6.heap.size w6 wr.drew ∧ Kd.R (Kd.int .u8) 5 wr.drew w6.heap.size (fun _ => True) (.slice (some ⟨xb, 0, none⟩) m cx) (solveTo st.2 st.1.2 m k) ∧ ∀ k', k' < k → st.2.length ≤ k' → entry st.1.2 k' 0 = 0 from ⟨HO.out.1.trans (below_drew (Below.refl _ _) |>.mono HO.out.1.size), Kd.R_drew HO.out.2.1, HO.out.2.2⟩)
                  have hc1' : wr.drew.cell? ⟨xb, P, none⟩ = some (.int .u8 ((solveTo st.2 st.1.2 m k).getD P 0)) := hc1
                  have hc2' : wr.drew.frozen? ⟨xb, P, none⟩ = false := hc2
                  clear HO hrk hxk hxp hc1 hc2
                  generalize wr.drew = w8 at *
                  refine pure_ (i := 0) (N := some 64) (v := ?_) (a' := ?_) #[true, false, false, false, false, false, false, false, false, false] rfl rfl (by kernel_rfl) (fun _ _ _ h => h) (Or.inl ⟨by rfl, ?_⟩) ?_ ?_
                  rotate_left
                  · intro w'
                    go_simp
                    with_reducible rfl
                  rotate_left
                  · simp only [Act.put, List.setIfInBounds_toArray, List.set_cons_zero, List.set_cons_succ, i64_w, i32_w]
                    rfl
                  refine pure_ (i := 1) (N := some 65) (v := ?_) (a' := ?_) #[true, true, false, false, false, false, false, false, false, false] rfl rfl (by kernel_rfl) (fun _ _ _ h => h) (Or.inl ⟨by rfl, ?_⟩) ?_ ?_
                  rotate_left
                  · intro w'
                    go_simp
                    with_reducible rfl
                  rotate_left
                  · simp only [Act.put, List.setIfInBounds_toArray, List.set_cons_zero, List.set_cons_succ, i64_w, i32_w]
                    rfl
                  refine pure_ (i := 2) (N := some 66) (v := ?_) (a' := ?_) #[true, true, true, false, false, false, false, false, false, false] rfl rfl (by kernel_rfl) (fun _ _ _ h => h) (Or.inl ⟨by rfl, ?_⟩) ?_ ?_
                  rotate_left
                  · intro w'
                    go_simp
                    with_reducible rfl
                  rotate_left
                  · simp only [Act.put, List.setIfInBounds_toArray, List.set_cons_zero, List.set_cons_succ, i64_w, i32_w]
                    rfl
                  refine pure_ (i := 3) (N := some 67) (v := ?_) (a' := ?_) #[true, true, true, true, false, false, false, false, false, false] rfl rfl (by kernel_rfl) (fun _ _ _ h => h) (Or.inl ⟨by rfl, ?_⟩) ?_ ?_
                  rotate_left
                  · intro w'
                    go_simp
                    with_reducible rfl
                  rotate_left
                  · simp only [Act.put, List.setIfInBounds_toArray, List.set_cons_zero, List.set_cons_succ, i64_w, i32_w]
                    rfl
                  refine pure_ (i := 5) (N := some 69) (v := ?_) (a' := ?_) #[true, true, true, true, false, true, false, false, false, false] rfl rfl (by kernel_rfl) (fun _ _ _ h => h) (Or.inl ⟨by rfl, ?_⟩) ?_ ?_
                  rotate_left
                  · intro w'
                    go_simp
                    with_reducible rfl
                  rotate_left
                  · simp only [Act.put, List.setIfInBounds_toArray, List.set_cons_zero, List.set_cons_succ, i64_w, i32_w]
                    rfl
                  refine pure_ (i := 6) (N := some 70) (v := ?_) (a' := ?_) #[true, true, true, true, false, true, true, false, false, false] rfl rfl (by kernel_rfl) (fun _ _ _ h => h) (Or.inl ⟨by rfl, ?_⟩) ?_ ?_
                  rotate_left
                  · intro w'
                    go_simp
                    with_reducible rfl
                  rotate_left
                  · simp only [Act.put, List.setIfInBounds_toArray, List.set_cons_zero, List.set_cons_succ, i64_w, i32_w]
                    rfl
                  refine take_ (i := 4) (N := some 68) (v := ?_) (a' := ?_) #[true, true, true, true, true, true, true, false, false, false] rfl rfl (by kernel_rfl) (fun _ _ _ h => h) (Or.inl ⟨by rfl, ?_⟩) hHeld ?_ ?_
                  rotate_left
                  · rintro w' ⟨s0, s1⟩
                    go_simp
                    with_reducible rfl
                  rotate_left
                  · simp only [Act.put, List.setIfInBounds_toArray, List.set_cons_zero, List.set_cons_succ, i64_w, i32_w]
                    rfl
                  refine take_ (i := 7) (N := some 71) (v := ?_) (a' := ?_) #[true, true, true, true, true, true, true, true, false, false] rfl rfl (by kernel_rfl) (fun _ _ _ h => h) (Or.inl ⟨by rfl, ?_⟩) hHeld ?_ ?_
                  rotate_left
                  · rintro w' ⟨s0, s1⟩
                    go_simp
                    with_reducible rfl
                  rotate_left
                  · simp only [Act.put, List.setIfInBounds_toArray, List.set_cons_zero, List.set_cons_succ, i64_w, i32_w]
                    rfl
                  refine pure_ (i := 8) (N := some 72) (v := ?_) (a' := ?_) #[true, true, true, true, true, true, true, true, true, false] rfl rfl (by kernel_rfl) (fun _ _ _ h => h) (Or.inl ⟨by rfl, ?_⟩) ?_ ?_
                  rotate_left
                  · intro w'
                    go_simp
                    with_reducible rfl
                  rotate_left
                  · simp only [Act.put, List.setIfInBounds_toArray, List.set_cons_zero, List.set_cons_succ, i64_w, i32_w]
                    rfl
                  refine last_ (i := 9) (N := none) #[true, true, true, true, true, true, true, true, true, true] rfl rfl (by kernel_rfl) (by decide) (fun K hK => ?_)
                  refine skip_ (w1 := ?_) (by rfl) rfl ?_ ?_
                  rotate_left
                  · go_simp
                    rfl
                  refine hK.out _ _ ?_
                  clear hK K
                  refine done_ (by kernel_rfl) ?_
                  clear hHeld
                  have hp := Kd.R_putn HO1.out.2.1 (P : Int) x
                  rw [Int.toNat_natCast] at hp
                  have HN := Aside0.mk (show Below w6.heap.size w6 (w8.setCell ⟨xb, P, none⟩ (.int .u8 x)) ∧ Kd.R (Kd.int .u8) 5 (w8.setCell ⟨xb, P, none⟩ (.int .u8 x)) w6.heap.size (fun _ => True) (.slice (some ⟨xb, 0, none⟩) m cx) (solveTo st.2 st.1.2 m (k + 1)) ∧ ∀ k', k' < k + 1 → st.2.length ≤ k' → entry st.1.2 k' 0 = 0 from by
                    refine ⟨HO1.out.1.setCell (by show w6.heap.size ≤ xb; omega) _, ?_, fun k' h1 h2 => HO1.out.2.2 k' (by omega) h2⟩
                    unfold solveTo
                    rw [if_pos hpl, ← EP.out, ← EX.out, Int.toNat_natCast]
                    exact hp)
                  clear HO1 hp hc1' hc2'
                  go_wp2_with fail
                  go_roundg (i - (k + 1))
                  case measure => have := HK2.out; omega
                  case rel => exact ⟨k + 1, rfl, by go_num, by omega, ⟨by omega⟩, HN⟩
                · have tst2 : decide (k < st.2.length) = false := by simpa using hpl
                  by_cases hx0 : x = 0
                  · have tst3 : (x != 0) = false := bne_eq_false_iff_eq.mpr hx0
                    have HN := Aside0.mk (show Below w6.heap.size w6 wr ∧ Kd.R (Kd.int .u8) 5 wr w6.heap.size (fun _ => True) (.slice (some ⟨xb, 0, none⟩) m cx) (solveTo st.2 st.1.2 m (k + 1)) ∧ ∀ k', k' < k + 1 → st.2.length ≤ k' → entry st.1.2 k' 0 = 0 from by
                      refine ⟨HO.out.1, ?_, fun k' h1 h2 => ?_⟩
                      · unfold solveTo
                        rw [if_neg hpl]
                        exact HO.out.2.1
                      · rcases Nat.lt_or_eq_of_le (Nat.le_of_lt_succ h1) with h | h
                        · exact HO.out.2.2 k' h h2
                        · rw [h, ← EX.out, hx0])
                    clear HO hx0
                    go_wp2_with fail
                    go_roundg (i - (k + 1))
                    case measure => have := HK2.out; omega
                    case rel => exact ⟨k + 1, rfl, by go_num, by omega, ⟨by omega⟩, HN⟩
                  · have tst3 : (x != 0) = true := bne_iff_ne.mpr hx0
                    have hres := HRES.out
                    rw [if_pos (badFrom_yes i 0 k (Nat.zero_le _) (by omega) (by omega) (by rw [← EX.out]; exact hx0))] at hres
                    simp only [Option.some.injEq, Prod.mk.injEq] at hres
                    obtain ⟨rfl, rfl, rfl⟩ := hres
                    clear hx0
                    go_wp2_with fail
                    go_ret3
                    exact ⟨_, rfl, Kd.R_nil _ _ _ _ _, HB6.out.trans (HO.out.1.mono hw6)⟩
              · obtain rfl : k = i := by omega
                have hres := HRES.out
                rw [badFrom_no k 0 (fun k' _ h2 h3 => HO.out.2.2 k' (by omega) h3), if_neg (by simp)] at hres
                simp only [Option.some.injEq, Prod.mk.injEq] at hres
                obtain ⟨rfl, rfl, rfl⟩ := hres
                go_wp2_with fail
                go_ret3
                exact ⟨_, rfl, Kd.R_lower HO.out.2.1 hw6, HB6.out.trans (HO.out.1.mono hw6)⟩
      · rw [if_neg hb] at h
        cases h
    · rw [if_neg hab] at h
      simp only [Option.some.injEq, Prod.mk.injEq] at h
      obtain ⟨rfl, rfl, rfl⟩ := h
      have hne : ((l1.length : Int) != a0_0) = true := bne_iff_ne.mpr hab
      clear hm hrt hab
      go_enter Tryd.func70, Tryd.ntmps70
      go_upto_region 1 with (fail)
      have hb2 := below_alloc (Below.refl w.heap.size w) (.cells #[.int .i64 a0_0, .int .i64 a0_1, .slice A0_2 l0_2.length c0_2] 24)
      have hbm := blk_new w (.cells #[.int .i64 a0_0, .int .i64 a0_1, .slice A0_2 l0_2.length c0_2] 24)
      have HB2 := Aside0.mk hb2
      clear hb2
      generalize w.alloc (.cells #[.int .i64 a0_0, .int .i64 a0_1, .slice A0_2 l0_2.length c0_2] 24) = w2 at *
      have x0 : w2.cell? ⟨w.heap.size, 0, none⟩ = some (.int .i64 a0_0) := (blk_cell hbm 0).trans rfl
      have x1 : w2.cell? ⟨w.heap.size, 1, none⟩ = some (.int .i64 a0_1) := (blk_cell hbm 1).trans rfl
      have x2 : w2.cell? ⟨w.heap.size, 2, none⟩ = some (.slice A0_2 l0_2.length c0_2) := (blk_cell hbm 2).trans rfl
      go_wp2_with fail
      refine (matrix_Right.calls a0_0 a0_1 A0_2 c0_2 l0_2 true _ (Kd.C_below HR.out HB2.out) HC.out HM.out).mono ?_
      rintro e w3 ⟨rfl, hb3⟩
      have hm3 := (hb3.block _ (lt_of_get hbm)).trans hbm
      have HB3 := Aside0.mk (below_step HB2.out hb3)
      clear x0 x1 x2 hbm hb3
      have x0 : w3.cell? ⟨w.heap.size, 0, none⟩ = some (.int .i64 a0_0) := (blk_cell hm3 0).trans rfl
      have x1 : w3.cell? ⟨w.heap.size, 1, none⟩ = some (.int .i64 a0_1) := (blk_cell hm3 1).trans rfl
      have x2 : w3.cell? ⟨w.heap.size, 2, none⟩ = some (.slice A0_2 l0_2.length c0_2) := (blk_cell hm3 2).trans rfl
      go_wp2_with fail
      go_ret3
      exact ⟨_, rfl, Kd.R_nil _ _ _ _ _, HB3.out⟩


end Go.Proofs.YtjgcocfnilhggaaDoor.Q
