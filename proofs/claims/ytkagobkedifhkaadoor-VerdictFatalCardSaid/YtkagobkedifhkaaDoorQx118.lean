/- Written by drive.py (a program of this repo, over the kit's print): each Go function named here answers what the Lean function beside it answers, wherever that one answers, in every world that meets the stated premises. -/
import Derived.Test.YtkagobkedifhkaaDoorQx0
import Derived.Test.YtkagobkedifhkaaDoorQx139
import Derived.Test.YtkagobkedifhkaaDoorQx157
namespace Go.Proofs.YtkagobkedifhkaaDoor.Q
open Go.RowKit Go.Proofs.YtkagobkedifhkaaDoorW.PrintWords Go.Proofs.YtkagobkedifhkaaDoorW.PrintLast Go.Proofs.YtkagobkedifhkaaDoorW.PrintMore
attribute [local go_sem] max2_int min2_int max_two min_two max_three min_three max_four min_four   -- for this text's walks alone
set_option linter.unusedVariables false
set_option linter.unusedSimpArgs false
theorem kd_blockK {w : World} {e base : Nat} {ok : Nat → Prop} {g n cap : Nat} {xs : List Int} {k : IntKind} (h : Kd.R (Kd.int k) e w base ok (.slice (some ⟨g, 0, none⟩) n cap) xs) : ∃ cells, w.heap[g]? = some (.cells cells e (0, 0)) := by
  obtain ⟨inner, ho⟩ := Kd.R_own h
  rcases ho.2 with ⟨h', _⟩ | ⟨g', cap', cur, h', _, hh, _⟩
  · cases h'
  · have : g = g' := by injection h' with h'; injection h' with h'; injection h' with h'
    subst this
    exact ⟨_, hh⟩
mutual
def recoupref04_Kernel.l0 : Nat → List Int → Int → Int → Int → Int → List Int → Int → Int → List Int → Int → Int → List Int → Option (Int × Int × List Int × Int)
  | 0, _, _, _, _, _, _, _, _, _, _, _, _ => none
  | k + 1, x5, x8, x9, x325000, x325001, x325002, x336000, x336001, x336002, x337000, x337001, x337002 => if x9 < x325001 then (if x8 < (x5.length : Int) then (if 0 ≤ x8 then (recoupref04_Kernel.j1 k x5 x8 x9 ((rd x5 x8) == x9) x325000 x325001 x325002 x336000 x336001 x336002 x337000 x337001 x337002) else (none)) else (recoupref04_Kernel.j1 k x5 x8 x9 false x325000 x325001 x325002 x336000 x336001 x336002 x337000 x337001 x337002)) else (some (x337000, x337001, x337002, 0))
def recoupref04_Kernel.j1 : Nat → List Int → Int → Int → Bool → Int → Int → List Int → Int → Int → List Int → Int → Int → List Int → Option (Int × Int × List Int × Int)
  | 0, _, _, _, _, _, _, _, _, _, _, _, _, _ => none
  | k + 1, x5, x8, x9, x42, x325000, x325001, x325002, x336000, x336001, x336002, x337000, x337001, x337002 => if x42 = true then (recoupref04_Kernel.l0 k x5 (wrap64 (x8 + 1)) (wrap64 (x9 + 1)) x325000 x325001 x325002 x336000 x336001 x336002 x337000 x337001 x337002) else (if 0 ≤ x325001 then (if (x325001 : Int).toNat ≤ 281474976710656 then ((some (List.replicate (x325001 : Int).toNat 0 : List Int)).bind fun y338 => (if 0 ≤ x9 then (if x9 < (y338.length : Int) then (recoupref04_Kernel.l1 k x5 x8 x9 (y338.set (x9 : Int).toNat 1) 0 x325000 x325001 x325002 x336000 x336001 x336002 x337000 x337001 x337002) else (none)) else (none))) else (none)) else (none))
def recoupref04_Kernel.l1 : Nat → List Int → Int → Int → List Int → Int → Int → Int → List Int → Int → Int → List Int → Int → Int → List Int → Option (Int × Int × List Int × Int)
  | 0, _, _, _, _, _, _, _, _, _, _, _, _, _, _ => none
  | k + 1, x5, x8, x9, x10, x11, x325000, x325001, x325002, x336000, x336001, x336002, x337000, x337001, x337002 => if x11 < (x5.length : Int) then (if 0 ≤ x11 then ((recoupref03_At.f x336000 x336001 x336002 x11 x9).bind fun t343 => (if 0 ≤ (rd x5 x11) then (if (rd x5 x11) < (x10.length : Int) then (recoupref04_Kernel.l1 k x5 x8 x9 (x10.set ((rd x5 x11) : Int).toNat t343) (wrap64 (x11 + 1)) x325000 x325001 x325002 x336000 x336001 x336002 x337000 x337001 x337002) else (none)) else (none))) else (none)) else (if x337002.length + x10.length < 140737488355328 then (recoupref04_Kernel.l0 k x5 x8 (wrap64 (x9 + 1)) x325000 x325001 x325002 x336000 x336001 x336002 (wrap64 (x337000 + 1)) x337001 (x337002 ++ x10)) else (none))
end
def recoupref04_Kernel.f (k : Nat) (a0_0 : Int) (a0_1 : Int) (l0_2 : List Int) : Option (Int × Int × List Int × Int) := (recoupref04_Reduce.f k a0_0 a0_1 l0_2).bind fun bt326 => (if bt326.2.2.2.2 = 0 then (recoupref04_Kernel.l0 k bt326.2.2.2.1 0 0 a0_0 a0_1 l0_2 bt326.1 bt326.2.1 bt326.2.2.1 0 a0_1 ([] : List Int)) else (some (0, 0, ([] : List Int), bt326.2.2.2.2)))
def recoupref04_Kernel.T16 : Bool × List (List Nat × List Nat) := (true, [([], []), ([], []), ([], []), ([1, 2], [1, 2]), ([3], [3]), ([], []), ([], []), ([], []), ([5, 6, 7], [5, 6, 7]), ([0, 4, 0, 1, 2, 3, 4, 5, 6, 7, 8], [0, 4]), ([9, 8, 8, 0, 1, 2, 3, 4, 5, 6, 7, 8], [8, 9])])
def recoupref04_Kernel.B16 : List Nat := [0, 0, 0, 6, 14, 0, 0, 0, 224, 511, 1023]
theorem recoupref04_Kernel.tab16 : rtab .any (opsOf Tryd.f18 16) = recoupref04_Kernel.T16 := by kernel_rfl
theorem recoupref04_Kernel.bits16 : waitsOk recoupref04_Kernel.T16.2 recoupref04_Kernel.B16 = true := by kernel_rfl
set_option maxHeartbeats 8000000 in
set_option maxRecDepth 100000 in
theorem recoupref04_Kernel.calls (k : Nat) (a0_0 : Int) (a0_1 : Int) (A0_2 : Option Addr) (c0_2 : Nat) (l0_2 : List Int) (r1 : Int) (r2 : Int) (r3 : List Int) (r4 : Int) (w : World) (hr0_2 : Kd.C (Kd.int .u8) w A0_2 l0_2.length l0_2) (hc0_2 : l0_2.length ≤ c0_2) (h : recoupref04_Kernel.f k a0_0 a0_1 l0_2 = some (r1, r2, r3, r4)) :
    Calls Tryd.prog 18 #[.agg #[.int .i64 a0_0, .int .i64 a0_1, .slice A0_2 l0_2.length c0_2]] w fun e w' => ∃ v2_ : Value, e = .returned (.tuple #[.agg #[.int .i64 r1, .int .i64 r2, v2_], .int .i64 r4]) ∧ Kd.R (Kd.int .u8) 5 w' w.heap.size (fun _ => True) v2_ r3 ∧ Below w.heap.size w w' := by
  have hu24 := Tryd.underlying24
  have HR0_2 := Aside0.mk hr0_2
  have HC0_2 := Aside0.mk hc0_2
  clear hr0_2 hc0_2
  have HB := Aside0.mk (Below.refl w.heap.size w)
  have H : ((recoupref04_Reduce.f k a0_0 a0_1 l0_2).bind fun bt326 => (if bt326.2.2.2.2 = 0 then (recoupref04_Kernel.l0 k bt326.2.2.2.1 0 0 a0_0 a0_1 l0_2 bt326.1 bt326.2.1 bt326.2.2.1 0 a0_1 ([] : List Int)) else (some (0, 0, ([] : List Int), bt326.2.2.2.2)))) = some (r1, r2, r3, r4) := h
  clear h
  obtain ⟨⟨t326, t327, t328, t331, t334⟩, A2, H⟩ := bindO H
  (try dsimp only at H)
  by_cases c3 : t334 = 0
  · rw [if_pos c3] at H
    have c3b0 : (t334 == 0) = true := beq_iff_eq.mpr c3
    have c3b1 : (t334 != 0) = false := bne_eq_false_iff_eq.mpr c3
    clear c3
    have H' := Aside0.mk H
    clear H
    go_enter Tryd.func18, Tryd.ntmps18
    go_wp2_with (first | ((with_reducible refine gD 1 rfl ?_); refine bE 1 #[.int .i64 a0_0, .int .i64 a0_1, .slice A0_2 l0_2.length c0_2] 24 ?_; intro gb324 hg w4 hbox hb; have BK324 := Aside0.mk (hbox); have GW324 := hbS HB hg; have GE324 := hbS HB hg; replace HB := hbB HB hb; clear hb hbox hg) | ((with_reducible refine gD 2 rfl ?_); refine bE 2 #[.int .i64 0, .int .i64 0, .slice none 0 0] 24 ?_; intro gb325 hg w5 hbox hb; have BK325 := Aside0.mk (hbox); have GW325 := hbS HB hg; have GE325 := hbS HB hg; replace HB := hbB HB hb; have NB324_325 := neL BK324 hg; have NB325_324 := neG BK324 hg; replace BK324 := bkB BK324 hb; clear hb hbox hg; have hnb6 := NB324_325.out; have hnc6 := NB325_324.out; obtain ⟨hcz7_0, hcz7_1, hcz7_2, hfz7_0, hfz7_1, hfz7_2⟩ := cell3 BK324) | ((with_reducible refine gC 39 rfl ?_); refine cG (some 14) Tryd.func39 #[.agg #[.int .i64 a0_0, .int .i64 a0_1, .slice A0_2 l0_2.length c0_2]] ?_; (with_reducible refine (recoupref04_Reduce.calls k a0_0 a0_1 _ _ l0_2 t326 t327 t328 t331 t334 _ ?side1 ?side2 A2.out).mono ?_); (case side1 => exact kcB HR0_2 HB); (case side2 => exact HC0_2.out); rintro e w8 ⟨v329, v332, rfl, ho0, ho1, hb⟩; refine ⟨_, rfl, ?_⟩; have HO330 := Aside0.mk (Kd.R_lower ho0 (below_size (hbA HB.out))); have HO333 := Aside0.mk (Kd.R_lower ho1 (below_size (hbA HB.out))); replace BK324 := bkB BK324 hb; replace BK325 := bkB BK325 hb; replace HB := hbB HB hb; (try clear hb); (try clear hb2); (try clear hk); (try clear hi); (try clear ho0); (try clear ho1)) | ((with_reducible refine gD 4 rfl ?_); refine bE 4 #[.int .i64 0, .int .i64 0, .slice none 0 0] 24 ?_; intro gb335 hg w9 hbox hb; replace HO330 := kdB HO330 hb; replace HO333 := kdB HO333 hb; have BK335 := Aside0.mk (hbox); have GW335 := hbS HB hg; have GE335 := hbS HB hg; replace HB := hbB HB hb; have NB324_335 := neL BK324 hg; have NB335_324 := neG BK324 hg; replace BK324 := bkB BK324 hb; have NB325_335 := neL BK325 hg; have NB335_325 := neG BK325 hg; replace BK325 := bkB BK325 hb; clear hb hbox hg; have hnb10 := NB335_324.out; have hnc10 := NB324_335.out; have hnb11 := NB335_325.out; have hnc11 := NB325_335.out; obtain ⟨hcz12_0, hcz12_1, hcz12_2, hfz12_0, hfz12_1, hfz12_2⟩ := cell3 BK335; obtain ⟨Ao13, co13, eo13⟩ := Kd.R_slice HO330.out; subst eo13; obtain ⟨hcz14_0, hcz14_1, hcz14_2, hfz14_0, hfz14_1, hfz14_2⟩ := cell3 BK324) | ((with_reducible refine gD 7 rfl ?_); refine bE 7 #[.int .i64 0, .int .i64 0, .slice none 0 0] 24 ?_; intro gb336 hg w15 hbox hb; replace HO330 := Aside0.mk (Kd.R_below (by (with_reducible repeat (first | apply Kd.R_alloc | apply Kd.R_drewN | apply Kd.R_drew)); exact (Kd.R_mono (Kd.R_far (p := ⟨gb335, 2, none⟩) (Kd.R_far (p := ⟨gb335, 1, none⟩) (Kd.R_far (p := ⟨gb335, 0, none⟩) (Kd.R_types HO330.out BK335.out (by decide)) (fun _ hk => hk.2) (.int .i64 t326)) (fun _ hk => hk.2) (.int .i64 t327)) (fun _ hk => hk.2) (.slice Ao13 t328.length co13)) (fun _ h_ => h_.1))) hb); replace HO333 := Aside0.mk (Kd.R_below (by (with_reducible repeat (first | apply Kd.R_alloc | apply Kd.R_drewN | apply Kd.R_drew)); exact (Kd.R_mono (Kd.R_far (p := ⟨gb335, 2, none⟩) (Kd.R_far (p := ⟨gb335, 1, none⟩) (Kd.R_far (p := ⟨gb335, 0, none⟩) (Kd.R_types HO333.out BK335.out (by decide)) (fun _ hk => hk.2) (.int .i64 t326)) (fun _ hk => hk.2) (.int .i64 t327)) (fun _ hk => hk.2) (.slice Ao13 t328.length co13)) (fun _ h_ => h_.1))) hb); have BK336 := Aside0.mk (hbox); have GW336 := hbS HB hg; have GE336 := hbS HB hg; replace HB := hbB HB hb; have NB324_336 := Aside0.mk ((by rw [hg]; exact Nat.ne_of_lt (blk_lt (g := gb324) (o := .cells #[.int .i64 a0_0, .int .i64 a0_1, .slice A0_2 l0_2.length c0_2] 24 (0, 0)) (by refine bkR ?_; refine blk_far ?_ NB324_335.out _; refine bkR ?_; refine blk_far ?_ NB324_335.out _; refine bkR ?_; refine blk_far ?_ NB324_335.out _; refine bkR ?_; exact BK324.out)) : gb324 ≠ gb336)); have NB336_324 := Aside0.mk ((by rw [hg]; exact Nat.ne_of_gt (blk_lt (g := gb324) (o := .cells #[.int .i64 a0_0, .int .i64 a0_1, .slice A0_2 l0_2.length c0_2] 24 (0, 0)) (by refine bkR ?_; refine blk_far ?_ NB324_335.out _; refine bkR ?_; refine blk_far ?_ NB324_335.out _; refine bkR ?_; refine blk_far ?_ NB324_335.out _; refine bkR ?_; exact BK324.out)) : gb336 ≠ gb324)); replace BK324 := Aside0.mk (blk_below (g := gb324) (o := .cells #[.int .i64 a0_0, .int .i64 a0_1, .slice A0_2 l0_2.length c0_2] 24 (0, 0)) (by refine bkR ?_; refine blk_far ?_ NB324_335.out _; refine bkR ?_; refine blk_far ?_ NB324_335.out _; refine bkR ?_; refine blk_far ?_ NB324_335.out _; refine bkR ?_; exact BK324.out) hb); have NB325_336 := Aside0.mk ((by rw [hg]; exact Nat.ne_of_lt (blk_lt (g := gb325) (o := .cells #[.int .i64 0, .int .i64 0, .slice none 0 0] 24 (0, 0)) (by refine bkR ?_; refine blk_far ?_ NB325_335.out _; refine bkR ?_; refine blk_far ?_ NB325_335.out _; refine bkR ?_; refine blk_far ?_ NB325_335.out _; refine bkR ?_; exact BK325.out)) : gb325 ≠ gb336)); have NB336_325 := Aside0.mk ((by rw [hg]; exact Nat.ne_of_gt (blk_lt (g := gb325) (o := .cells #[.int .i64 0, .int .i64 0, .slice none 0 0] 24 (0, 0)) (by refine bkR ?_; refine blk_far ?_ NB325_335.out _; refine bkR ?_; refine blk_far ?_ NB325_335.out _; refine bkR ?_; refine blk_far ?_ NB325_335.out _; refine bkR ?_; exact BK325.out)) : gb336 ≠ gb325)); replace BK325 := Aside0.mk (blk_below (g := gb325) (o := .cells #[.int .i64 0, .int .i64 0, .slice none 0 0] 24 (0, 0)) (by refine bkR ?_; refine blk_far ?_ NB325_335.out _; refine bkR ?_; refine blk_far ?_ NB325_335.out _; refine bkR ?_; refine blk_far ?_ NB325_335.out _; refine bkR ?_; exact BK325.out) hb); have NB335_336 := Aside0.mk ((by rw [hg]; exact Nat.ne_of_lt (blk_lt (g := gb335) (o := .cells #[.int .i64 t326, .int .i64 t327, .slice Ao13 t328.length co13] 24 (0, 0)) (by refine bkR ?_; refine blk_put (cs := #[.int .i64 t326, .int .i64 t327, .slice none 0 0]) ?_ 2 _ rfl; refine bkR ?_; refine blk_put (cs := #[.int .i64 t326, .int .i64 0, .slice none 0 0]) ?_ 1 _ rfl; refine bkR ?_; refine blk_put (cs := #[.int .i64 0, .int .i64 0, .slice none 0 0]) ?_ 0 _ rfl; refine bkR ?_; exact BK335.out)) : gb335 ≠ gb336)); have NB336_335 := Aside0.mk ((by rw [hg]; exact Nat.ne_of_gt (blk_lt (g := gb335) (o := .cells #[.int .i64 t326, .int .i64 t327, .slice Ao13 t328.length co13] 24 (0, 0)) (by refine bkR ?_; refine blk_put (cs := #[.int .i64 t326, .int .i64 t327, .slice none 0 0]) ?_ 2 _ rfl; refine bkR ?_; refine blk_put (cs := #[.int .i64 t326, .int .i64 0, .slice none 0 0]) ?_ 1 _ rfl; refine bkR ?_; refine blk_put (cs := #[.int .i64 0, .int .i64 0, .slice none 0 0]) ?_ 0 _ rfl; refine bkR ?_; exact BK335.out)) : gb336 ≠ gb335)); replace BK335 := Aside0.mk (blk_below (g := gb335) (o := .cells #[.int .i64 t326, .int .i64 t327, .slice Ao13 t328.length co13] 24 (0, 0)) (by refine bkR ?_; refine blk_put (cs := #[.int .i64 t326, .int .i64 t327, .slice none 0 0]) ?_ 2 _ rfl; refine bkR ?_; refine blk_put (cs := #[.int .i64 t326, .int .i64 0, .slice none 0 0]) ?_ 1 _ rfl; refine bkR ?_; refine blk_put (cs := #[.int .i64 0, .int .i64 0, .slice none 0 0]) ?_ 0 _ rfl; refine bkR ?_; exact BK335.out) hb); clear hb hbox hg; have hnb16 := NB336_324.out; have hnc16 := NB324_336.out; have hnb17 := NB336_325.out; have hnc17 := NB325_336.out; have hnb18 := NB336_335.out; have hnc18 := NB335_336.out; obtain ⟨hcz19_0, hcz19_1, hcz19_2, hfz19_0, hfz19_1, hfz19_2⟩ := cell3 BK336))
    go_loopg [8, 9] k (fun kq v8 v9 w' => ∃ (x8_1 : Int) (x9_1 : Int) (x336002_1 : List Int) (x337000_1 : Int) (x337002_1 : List Int) (u336002 : Value) (u337002 : Value), v8 = .int .i64 x8_1 ∧ v9 = .int .i64 x9_1 ∧ Aside0 (recoupref04_Kernel.l0 kq t331 x8_1 x9_1 a0_0 a0_1 l0_2 t326 t327 x336002_1 x337000_1 a0_1 x337002_1 = some (r1, r2, r3, r4)) ∧ Aside0 (kq ≤ k) ∧ Aside0 (Kd.R (Kd.int .i64) 3 w' w.heap.size (fun _ => True) v332 t331) ∧ Aside0 (Kd.R (Kd.int .u8) 5 w' w.heap.size (fun k_ => some k_ ≠ (u337002 : Value).ownBlock) u336002 x336002_1) ∧ Aside0 (Kd.R (Kd.int .u8) 5 w' w.heap.size (fun k_ => some k_ ≠ (u336002 : Value).ownBlock) u337002 x337002_1) ∧ Aside0 (w'.heap[gb324]? = some (.cells #[.int .i64 a0_0, .int .i64 a0_1, (.slice A0_2 l0_2.length c0_2)] 24 (0, 0))) ∧ Aside0 (w'.heap[gb325]? = some (.cells #[.int .i64 0, .int .i64 0, (.slice none 0 0)] 24 (0, 0))) ∧ Aside0 (w'.heap[gb335]? = some (.cells #[.int .i64 t326, .int .i64 t327, u336002] 24 (0, 0))) ∧ Aside0 (w'.heap[gb336]? = some (.cells #[.int .i64 x337000_1, .int .i64 a0_1, u337002] 24 (0, 0))) ∧ Aside0 (Below w.heap.size w w'))
    case atStart => exact ⟨(0), (0), (t328), (0), (([] : List Int)), (.slice Ao13 t328.length co13), (.slice none 0 0), rsE, rsE, H', ⟨Nat.le_refl _⟩, ⟨by (with_reducible repeat (first | apply Kd.R_alloc | apply Kd.R_drewN | apply Kd.R_drew)); exact Kd.R_mono (Kd.R_far (p := ⟨gb336, 2, none⟩) (Kd.R_far (p := ⟨gb336, 1, none⟩) (Kd.R_far (p := ⟨gb336, 0, none⟩) (Kd.R_types HO333.out BK336.out (by decide)) (fun _ hk => hk.2) (.int .i64 0)) (fun _ hk => hk.2) (.int .i64 a0_1)) (fun _ hk => hk.2) (.slice none 0 0)) (fun _ hk => trivial)⟩, ⟨by (with_reducible repeat (first | apply Kd.R_alloc | apply Kd.R_drewN | apply Kd.R_drew)); exact Kd.R_mono (Kd.R_far (p := ⟨gb336, 2, none⟩) (Kd.R_far (p := ⟨gb336, 1, none⟩) (Kd.R_far (p := ⟨gb336, 0, none⟩) (Kd.R_types HO330.out BK336.out (by decide)) (fun _ hk => hk.2) (.int .i64 0)) (fun _ hk => hk.2) (.int .i64 a0_1)) (fun _ hk => hk.2) (.slice none 0 0)) (fun _ hk => (by simp [Value.ownBlock]))⟩, ⟨nilE⟩, ⟨by refine bkR ?_; refine blk_far ?_ NB324_336.out _; refine bkR ?_; refine blk_far ?_ NB324_336.out _; refine bkR ?_; refine blk_far ?_ NB324_336.out _; refine bkR ?_; exact BK324.out⟩, ⟨by refine bkR ?_; refine blk_far ?_ NB325_336.out _; refine bkR ?_; refine blk_far ?_ NB325_336.out _; refine bkR ?_; refine blk_far ?_ NB325_336.out _; refine bkR ?_; exact BK325.out⟩, ⟨by refine bkR ?_; refine blk_far ?_ NB335_336.out _; refine bkR ?_; refine blk_far ?_ NB335_336.out _; refine bkR ?_; refine blk_far ?_ NB335_336.out _; refine bkR ?_; exact BK335.out⟩, ⟨by refine bkR ?_; refine blk_put (cs := #[.int .i64 0, .int .i64 a0_1, .slice none 0 0]) ?_ 2 _ rfl; refine bkR ?_; refine blk_put (cs := #[.int .i64 0, .int .i64 0, .slice none 0 0]) ?_ 1 _ rfl; refine bkR ?_; refine blk_put (cs := #[.int .i64 0, .int .i64 0, .slice none 0 0]) ?_ 0 _ rfl; refine bkR ?_; exact BK336.out⟩, ⟨hbA HB.out⟩⟩
    case round =>
      clear H'
      (try clear c1); (try clear p2); (try clear c3); (try clear c3b0); (try clear c3b1); (try clear c6); (try clear c10); (try clear c11); (try clear c16); (try clear c17); (try clear c18); (try clear hcz12_0 hcz12_1 hcz12_2 hfz12_0 hfz12_1 hfz12_2); (try clear hcz14_0 hcz14_1 hcz14_2 hfz14_0 hfz14_1 hfz14_2); (try clear hcz19_0 hcz19_1 hcz19_2 hfz19_0 hfz19_1 hfz19_2); (try clear hcz7_0 hcz7_1 hcz7_2 hfz7_0 hfz7_1 hfz7_2)
      obtain ⟨x8_1, x9_1, x336002_1, x337000_1, x337002_1, u336002, u337002, rfl, rfl, HA, HK1, HO_5, HO_336002, HO_337002, BK324, BK325, BK335, BK336, HB⟩ := hrel
      cases gk with
      | zero => exact absurd HA.out (by simp [recoupref04_Kernel.l0])
      | succ k1 =>
        have H := HA.out
        clear HA
        simp only [recoupref04_Kernel.l0] at H
        by_cases c20 : x9_1 < a0_1
        · rw [if_pos c20] at H
          have c20b0 : decide (x9_1 < a0_1) = true := decide_eq_true c20
          clear c20
          have HC21 := Aside0.mk H
          clear H
          have hnb22 := NB324_325.out
          have hnc22 := NB325_324.out
          have hnb23 := NB324_335.out
          have hnc23 := NB335_324.out
          have hnb24 := NB324_336.out
          have hnc24 := NB336_324.out
          obtain ⟨hcz25_0, hcz25_1, hcz25_2, hfz25_0, hfz25_1, hfz25_2⟩ := cell3 BK324
          go_upto_region 9 with (fail)
          go_cut [42] (fun v42 wc => ∃ (kq : Nat) (x42_20 : Bool), v42 = .bool x42_20 ∧ Aside0 (recoupref04_Kernel.j1 kq t331 x8_1 x9_1 x42_20 a0_0 a0_1 l0_2 t326 t327 x336002_1 x337000_1 a0_1 x337002_1 = some (r1, r2, r3, r4)) ∧ Aside0 (kq ≤ k1) ∧ Aside0 (Kd.R (Kd.int .i64) 3 wc w.heap.size (fun _ => True) v332 t331) ∧ Aside0 (Kd.R (Kd.int .u8) 5 wc w.heap.size (fun k_ => some k_ ≠ (u337002 : Value).ownBlock) u336002 x336002_1) ∧ Aside0 (Kd.R (Kd.int .u8) 5 wc w.heap.size (fun k_ => some k_ ≠ (u336002 : Value).ownBlock) u337002 x337002_1) ∧ Aside0 (wc.heap[gb324]? = some (.cells #[.int .i64 a0_0, .int .i64 a0_1, (.slice A0_2 l0_2.length c0_2)] 24 (0, 0))) ∧ Aside0 (wc.heap[gb325]? = some (.cells #[.int .i64 0, .int .i64 0, (.slice none 0 0)] 24 (0, 0))) ∧ Aside0 (wc.heap[gb335]? = some (.cells #[.int .i64 t326, .int .i64 t327, u336002] 24 (0, 0))) ∧ Aside0 (wc.heap[gb336]? = some (.cells #[.int .i64 x337000_1, .int .i64 a0_1, u337002] 24 (0, 0))) ∧ Aside0 (Below w.heap.size w wc))
          case first =>
            have H := HC21.out
            clear HC21
            by_cases c26 : x8_1 < (t331.length : Int)
            · rw [if_pos c26] at H
              have c26b0 : decide (x8_1 < (t331.length : Int)) = true := decide_eq_true c26
              clear c26
              (first | rw [c26b0] | (simp only [i64_w, i32_w]; rw [c26b0]) | skip)
              by_cases c27 : 0 ≤ x8_1
              · rw [if_pos c27] at H
                have c27b0 : decide (0 ≤ x8_1) = true := decide_eq_true c27
                clear c27
                have H' := Aside0.mk H
                clear H
                obtain ⟨Ao28, co28, eo28⟩ := Kd.R_slice HO_5.out
                subst eo28
                have p337 : 0 ≤ (x8_1 : Int) := of_decide_eq_true asE
                have q337 : x8_1 < (t331.length : Int) := of_decide_eq_true asE
                obtain ⟨ad337, e337, hx337_0⟩ := Kd.at_int (Kd.R_reads' HO_5.out).2.2 x8_1 p337 q337
                cases e337
                replace p337 := eq_true p337
                replace q337 := eq_true q337
                go_wp2
                go_meet
                case rel => exact ⟨_, (((rd t331 x8_1) == x9_1)), rsE, H', ⟨by have := HK1.out; first | omega | exact Nat.le_refl _⟩, ⟨kdA HO_5.out⟩, ⟨kdA HO_336002.out⟩, ⟨kdA HO_337002.out⟩, ⟨bkA BK324.out⟩, ⟨bkA BK325.out⟩, ⟨bkA BK335.out⟩, ⟨bkA BK336.out⟩, ⟨hbA HB.out⟩⟩
              · rw [if_neg c27] at H
                exact absurd H (by simp)
            · rw [if_neg c26] at H
              have c26b0 : decide (x8_1 < (t331.length : Int)) = false := decide_eq_false c26
              clear c26
              (first | rw [c26b0] | (simp only [i64_w, i32_w]; rw [c26b0]) | skip)
              have H' := Aside0.mk H
              clear H
              obtain ⟨Ao29, co29, eo29⟩ := Kd.R_slice HO_5.out
              subst eo29
              go_wp2
              go_meet
              case rel => exact ⟨_, (false), rsE, H', ⟨by have := HK1.out; first | omega | exact Nat.le_refl _⟩, ⟨kdA HO_5.out⟩, ⟨kdA HO_336002.out⟩, ⟨kdA HO_337002.out⟩, ⟨bkA BK324.out⟩, ⟨bkA BK325.out⟩, ⟨bkA BK335.out⟩, ⟨bkA BK336.out⟩, ⟨hbA HB.out⟩⟩
          case rest =>
            clear HC21
            (try clear c1); (try clear c2); (try clear p2 p2); (try clear c3); (try clear c3b0); (try clear c3b1); (try clear p3); (try clear q3); (try clear hx3); (try clear c6); (try clear c10); (try clear c11); (try clear c16); (try clear c17); (try clear c18); (try clear c20); (try clear c20b0); (try clear c22); (try clear c23); (try clear c24); (try clear c26); (try clear c26b0); (try clear c27); (try clear c27b0); (try clear hcz12_0 hcz12_1 hcz12_2 hfz12_0 hfz12_1 hfz12_2); (try clear hcz14_0 hcz14_1 hcz14_2 hfz14_0 hfz14_1 hfz14_2); (try clear hcz19_0 hcz19_1 hcz19_2 hfz19_0 hfz19_1 hfz19_2); (try clear hcz25_0 hcz25_1 hcz25_2 hfz25_0 hfz25_1 hfz25_2); (try clear hcz7_0 hcz7_1 hcz7_2 hfz7_0 hfz7_1 hfz7_2); (try clear hx337_0); (try clear p337); (try clear q337)
            obtain ⟨kq, x42_20, rfl, HA, HJ20, HO_5, HO_336002, HO_337002, BK324, BK325, BK335, BK336, HB⟩ := hcut
            cases kq with
            | zero => exact absurd HA.out (by simp [recoupref04_Kernel.j1])
            | succ kj20 =>
              have H := HA.out
              clear HA
              simp only [recoupref04_Kernel.j1] at H
              by_cases c30 : x42_20 = true
              · subst c30
                rw [if_pos rfl] at H
                have H' := Aside0.mk H
                clear H
                go_wp2
                go_roundg kj20
                case measure => have := HK1.out; have := HJ20.out; omega
                case rel => exact ⟨(wrap64 (x8_1 + 1)), (wrap64 (x9_1 + 1)), (x336002_1), (x337000_1), (x337002_1), (u336002), (u337002), rsE, rsE, H', ⟨by have := HK1.out; have := HJ20.out; omega⟩, ⟨kdA HO_5.out⟩, ⟨kdA HO_336002.out⟩, ⟨kdA HO_337002.out⟩, ⟨bkA BK324.out⟩, ⟨bkA BK325.out⟩, ⟨bkA BK335.out⟩, ⟨bkA BK336.out⟩, ⟨hbA HB.out⟩⟩
              · replace c30 := Bool.eq_false_iff.mpr c30
                subst c30
                rw [if_neg nofT] at H
                by_cases c31 : 0 ≤ a0_1
                · rw [if_pos c31] at H
                  have c31b0 := eq_true c31
                  have c31b1 : decide (0 ≤ a0_1) = true := decide_eq_true c31
                  clear c31
                  by_cases c32 : (a0_1 : Int).toNat ≤ 281474976710656
                  · rw [if_pos c32] at H
                    have c32b0 := eq_true c32
                    have c32b1 : decide ((a0_1 : Int).toNat ≤ 281474976710656) = true := decide_eq_true c32
                    clear c32
                    obtain ⟨y338, hy338⟩ : ∃ y_ : List Int, y_ = (List.replicate (a0_1 : Int).toNat 0) := ⟨_, rfl⟩
                    replace H : (if 0 ≤ x9_1 then (if x9_1 < (y338.length : Int) then (recoupref04_Kernel.l1 kj20 t331 x8_1 x9_1 (y338.set (x9_1 : Int).toNat 1) 0 a0_0 a0_1 l0_2 t326 t327 x336002_1 x337000_1 a0_1 x337002_1) else (none)) else (none)) = some (r1, r2, r3, r4) := by first | (rw [hy338]; with_reducible exact H) | (have H2_ := (Option.bind_some _ _).symm.trans H; rw [hy338]; with_reducible exact H2_) | (have H2_ := (Option.bind_some _ _).symm.trans H; with_reducible exact H2_) | with_reducible exact H | (rw [hy338]; exact H) | exact H
                    have Ny338 := Aside0.mk hy338
                    clear hy338
                    by_cases c33 : 0 ≤ x9_1
                    · rw [if_pos c33] at H
                      have c33b0 : decide (0 ≤ x9_1) = true := decide_eq_true c33
                      clear c33
                      by_cases c34 : x9_1 < (y338.length : Int)
                      · rw [if_pos c34] at H
                        have c34b0 : decide (x9_1 < (y338.length : Int)) = true := decide_eq_true c34
                        clear c34
                        obtain ⟨y341, hy341⟩ : ∃ y_ : List Int, y_ = (y338.set (x9_1 : Int).toNat 1) := ⟨_, rfl⟩
                        replace H : (recoupref04_Kernel.l1 kj20 t331 x8_1 x9_1 y341 0 a0_0 a0_1 l0_2 t326 t327 x336002_1 x337000_1 a0_1 x337002_1) = some (r1, r2, r3, r4) := by first | (rw [hy341]; with_reducible exact H) | (have H2_ := (Option.bind_some _ _).symm.trans H; rw [hy341]; with_reducible exact H2_) | (have H2_ := (Option.bind_some _ _).symm.trans H; with_reducible exact H2_) | with_reducible exact H | (rw [hy341]; exact H) | exact H
                        have Ny341 := Aside0.mk hy341
                        clear hy341
                        have H' := Aside0.mk H
                        clear H
                        have hnb36 := NB324_325.out
                        have hnc36 := NB325_324.out
                        have hnb37 := NB324_335.out
                        have hnc37 := NB335_324.out
                        have hnb38 := NB324_336.out
                        have hnc38 := NB336_324.out
                        obtain ⟨hcz39_0, hcz39_1, hcz39_2, hfz39_0, hfz39_1, hfz39_2⟩ := cell3 BK324
                        go_wp2_with (first | ((with_reducible refine gate_dst (N := 47) rfl ?_); refine Kd.R_make (Kd.int .u8) _ 5 rfl (N := 47) rfl 22 _ _ rfl a0_1 rfl rfl Tryd.underlying22 (.int .u8 0) 1 info5 rfl (by decide) (by omega) 0 (ok := fun _ => True) (okp := fun _ => True) rfl (fun _ hk => hk) trivial (of_decide_eq_true asE) (Nat.le_trans (Nat.mul_le_mul_right _ (of_decide_eq_true asE : a0_1.toNat ≤ 281474976710656)) (by omega)) (Below.refl _ _) (Nat.le_refl _) ?_; intro v339 w40 ho41 hb hg_ hnew_; clear hg_ hnew_; (first | rw [← Ny338.out] at ho41 | (simp only [Int.reduceToNat] at ho41; rw [← Ny338.out] at ho41)); replace HO_5 := kdB HO_5 hb; have HO340 := Aside0.mk (Kd.R_lower (Kd.R_new' (Kd.R_new' ho41 (Kd.R_lt (kdA HO_336002.out))) (Kd.R_lt (kdA HO_337002.out))) (below_size (hbA HB.out))); replace HO_336002 := Aside0.mk (Kd.R_elder' (kdA HO_336002.out) (Kd.R_base ho41) hb); replace HO_337002 := Aside0.mk (Kd.R_elder' (kdA HO_337002.out) (Kd.R_base ho41) hb); replace BK324 := bkB BK324 hb; replace BK325 := bkB BK325 hb; replace BK335 := bkB BK335 hb; replace BK336 := bkB BK336 hb; replace HB := hbB HB hb; clear hb ho41; have p35 : 0 ≤ (x9_1 : Int) := of_decide_eq_true asE; have q35 : (x9_1 : Int) < ((y338.length : Int) : Int) := of_decide_eq_true asE; obtain ⟨go35, co35, eo35, gb35, gl35, cl35, HG35⟩ := Kd.R_form HO340.out (by omega); (first | cases eo35 | (injection eo35 with ea_ en_ ec_; (first | subst ea_ | (injection ea_ with ea_; subst ea_)); subst ec_; clear en_)); have GB35 := Aside0.mk gb35; have GG35 := Aside0.mk HG35; clear gb35 gl35 HG35; obtain ⟨hx35_0, hf35_0⟩ := Kd.R_celln 0 HO340.out (x9_1 : Int) p35 q35; replace p35 := eq_true p35; replace q35 := eq_true q35; have n_ := Aside0.mk (Kd.R_mono (ok' := (fun k_ => some k_ ≠ (u336002 : Value).ownBlock ∧ some k_ ≠ (u337002 : Value).ownBlock)) HO340.out (fun k_ hk => ⟨hk.1.2, hk.2⟩)); clear HO340; have HO340 := n_; clear n_; obtain ⟨hy42_, hz42_⟩ := Kd.R_celln 0 HO340.out (x9_1 : Int) (of_decide_eq_true asE) (of_decide_eq_true asE); have HP42 := Kd.R_putg HO340.out (x9_1 : Int) 1) | ((with_reducible refine gate_store (t := 5) (p := 50) rfl ?_); refine store_event (t := 5) (p := 50) (v := ?vo_w43) (w1 := (w40.setCell ⟨go35, (x9_1 : Int).toNat, none⟩ (.int .u8 1))) ?hg ?ho ?hn ?hr ?_; (case ho => rfl); (case hg => rfl); (case hn => rfl); (case hr => first | (go_simp; done) | (go_simp; rfl)); intro w43 hw; have hg : w40.grownBy w43 (some go35) := (by rw [hw]; exact HP42.2); have hp_ : Kd.R (Kd.int .u8) 5 w43 w.heap.size (fun k_ => some k_ ≠ (u336002 : Value).ownBlock ∧ some k_ ≠ (u337002 : Value).ownBlock) (.slice (some ⟨go35, 0, none⟩) y338.length co35) y341 := (by rw [hw, Ny341.out]; exact HP42.1); clear HP42; replace HO_5 := Aside0.mk (Kd.R_over' (v := (.slice (some ⟨go35, 0, none⟩) y338.length co35)) (kdA HO_5.out) (Kd.R_typed HO340.out) (by decide) hg); replace HO_336002 := Aside0.mk (Kd.R_after (v := (.slice (some ⟨go35, 0, none⟩) y338.length co35)) (v1 := (.slice (some ⟨go35, 0, none⟩) y338.length co35)) (ok := (fun k_ => some k_ ≠ (u337002 : Value).ownBlock)) (kdA HO_336002.out) hg (.inl rfl)); replace HO_337002 := Aside0.mk (Kd.R_after (v := (.slice (some ⟨go35, 0, none⟩) y338.length co35)) (v1 := (.slice (some ⟨go35, 0, none⟩) y338.length co35)) (ok := (fun k_ => some k_ ≠ (u336002 : Value).ownBlock)) (kdA HO_337002.out) hg (.inl rfl)); replace BK324 := bkG BK324 hg (Kd.R_ne HO340.out BK324.out (by decide)); replace BK325 := bkG BK325 hg (Kd.R_ne HO340.out BK325.out (by decide)); replace BK335 := bkG BK335 hg (Kd.R_ne HO340.out BK335.out (by decide)); replace BK336 := bkG BK336 hg (Kd.R_ne HO340.out BK336.out (by decide)); replace HO340 := Aside0.mk (hp_); replace HB := Aside0.mk ((by rw [hw]; exact below_set (HB.out) GB35.out : Below w.heap.size w w43)); clear hg hw hp_))
                        go_loopg [11] kj20 (fun kq v11 w' => ∃ (x10_3 : List Int) (x11_3 : Int), v11 = .int .i64 x11_3 ∧ Aside0 (recoupref04_Kernel.l1 kq t331 x8_1 x9_1 x10_3 x11_3 a0_0 a0_1 l0_2 t326 t327 x336002_1 x337000_1 a0_1 x337002_1 = some (r1, r2, r3, r4)) ∧ Aside0 (kq ≤ kj20) ∧ Aside0 (Kd.R (Kd.int .i64) 3 w' w.heap.size (fun _ => True) v332 t331) ∧ Aside0 (Kd.R (Kd.int .u8) 5 w' w.heap.size (fun k_ => some k_ ≠ (u336002 : Value).ownBlock ∧ some k_ ≠ (u337002 : Value).ownBlock) (.slice (some ⟨go35, 0, none⟩) y338.length co35) x10_3) ∧ Aside0 (Kd.R (Kd.int .u8) 5 w' w.heap.size (fun k_ => some k_ ≠ ((.slice (some ⟨go35, 0, none⟩) y338.length co35) : Value).ownBlock ∧ some k_ ≠ (u337002 : Value).ownBlock) u336002 x336002_1) ∧ Aside0 (Kd.R (Kd.int .u8) 5 w' w.heap.size (fun k_ => some k_ ≠ ((.slice (some ⟨go35, 0, none⟩) y338.length co35) : Value).ownBlock ∧ some k_ ≠ (u336002 : Value).ownBlock) u337002 x337002_1) ∧ Aside0 (w'.heap[gb324]? = some (.cells #[.int .i64 a0_0, .int .i64 a0_1, (.slice A0_2 l0_2.length c0_2)] 24 (0, 0))) ∧ Aside0 (w'.heap[gb325]? = some (.cells #[.int .i64 0, .int .i64 0, (.slice none 0 0)] 24 (0, 0))) ∧ Aside0 (w'.heap[gb335]? = some (.cells #[.int .i64 t326, .int .i64 t327, u336002] 24 (0, 0))) ∧ Aside0 (w'.heap[gb336]? = some (.cells #[.int .i64 x337000_1, .int .i64 a0_1, u337002] 24 (0, 0))) ∧ Aside0 (Below w.heap.size w w'))
                        case atStart => exact ⟨(y341), (0), rsE, H', ⟨Nat.le_refl _⟩, ⟨kdA HO_5.out⟩, ⟨kdA HO340.out⟩, ⟨by (with_reducible repeat (first | apply Kd.R_alloc | apply Kd.R_drewN | apply Kd.R_drew)); exact Kd.R_mono HO_336002.out (fun _ hk => ⟨hk.2, hk.1⟩)⟩, ⟨by (with_reducible repeat (first | apply Kd.R_alloc | apply Kd.R_drewN | apply Kd.R_drew)); exact Kd.R_mono HO_337002.out (fun _ hk => ⟨hk.2, hk.1⟩)⟩, ⟨bkA BK324.out⟩, ⟨bkA BK325.out⟩, ⟨bkA BK335.out⟩, ⟨bkA BK336.out⟩, ⟨hbA HB.out⟩⟩
                        case round =>
                          clear H'
                          (try clear c1); (try clear c2); (try clear p2 p2); (try clear c3); (try clear c3b0); (try clear c3b1); (try clear p3 p3); (try clear q3 q3); (try clear hx3); (try clear hf3); (try clear c6); (try clear p6); (try clear c10); (try clear c11); (try clear c16); (try clear c17); (try clear c18); (try clear c20); (try clear c20b0); (try clear c22); (try clear c23); (try clear c24); (try clear c26); (try clear c26b0); (try clear c27); (try clear c27b0); (try clear c30); (try clear c31); (try clear c31b0); (try clear c31b1); (try clear c32); (try clear c32b0); (try clear c32b1); (try clear c33); (try clear c33b0); (try clear p33); (try clear q33); (try clear hx33); (try clear c34); (try clear c34b0); (try clear p35 p35); (try clear q35 q35); (try clear hx35); (try clear hf35); (try clear c36); (try clear c37); (try clear c38); (try clear c39); (try clear hcz12_0 hcz12_1 hcz12_2 hfz12_0 hfz12_1 hfz12_2); (try clear hcz14_0 hcz14_1 hcz14_2 hfz14_0 hfz14_1 hfz14_2); (try clear hcz19_0 hcz19_1 hcz19_2 hfz19_0 hfz19_1 hfz19_2); (try clear hcz25_0 hcz25_1 hcz25_2 hfz25_0 hfz25_1 hfz25_2); (try clear hcz39_0 hcz39_1 hcz39_2 hfz39_0 hfz39_1 hfz39_2); (try clear hcz7_0 hcz7_1 hcz7_2 hfz7_0 hfz7_1 hfz7_2); (try clear hx337_0); (try clear hx35_0); (try clear p337); (try clear q337)
                          obtain ⟨x10_3, x11_3, rfl, HA, HK3, HO_5, HO_10, HO_336002, HO_337002, BK324, BK325, BK335, BK336, HB⟩ := hrel
                          have hl10_3 := (Kd.R_reads' HO_10.out).1
                          rw [hl10_3] at HO_10
                          (try simp only [hl10_3])
                          (try simp only [hl10_3] at BK324)
                          (try simp only [hl10_3] at BK325)
                          (try simp only [hl10_3] at BK335)
                          (try simp only [hl10_3] at BK336)
                          (try simp only [hl10_3] at HO_5)
                          (try simp only [hl10_3] at HO_336002)
                          (try simp only [hl10_3] at HO_337002)
                          cases gk with
                          | zero => exact absurd HA.out (by simp [recoupref04_Kernel.l1])
                          | succ k3 =>
                            have H := HA.out
                            clear HA
                            simp only [recoupref04_Kernel.l1] at H
                            by_cases c44 : x11_3 < (t331.length : Int)
                            · rw [if_pos c44] at H
                              have c44b0 : decide (x11_3 < (t331.length : Int)) = true := decide_eq_true c44
                              clear c44
                              by_cases c45 : 0 ≤ x11_3
                              · rw [if_pos c45] at H
                                have c45b0 : decide (0 ≤ x11_3) = true := decide_eq_true c45
                                clear c45
                                obtain ⟨t343, A46, H⟩ := bindO H
                                (try dsimp only at H)
                                by_cases c47 : 0 ≤ (rd t331 x11_3)
                                · rw [if_pos c47] at H
                                  have c47b0 : decide (0 ≤ (rd t331 x11_3)) = true := decide_eq_true c47
                                  clear c47
                                  by_cases c48 : (rd t331 x11_3) < (x10_3.length : Int)
                                  · rw [if_pos c48] at H
                                    have c48b0 : decide ((rd t331 x11_3) < (x10_3.length : Int)) = true := decide_eq_true c48
                                    clear c48
                                    obtain ⟨y344, hy344⟩ : ∃ y_ : List Int, y_ = (x10_3.set ((rd t331 x11_3) : Int).toNat t343) := ⟨_, rfl⟩
                                    replace H : (recoupref04_Kernel.l1 k3 t331 x8_1 x9_1 y344 (wrap64 (x11_3 + 1)) a0_0 a0_1 l0_2 t326 t327 x336002_1 x337000_1 a0_1 x337002_1) = some (r1, r2, r3, r4) := by first | (rw [hy344]; with_reducible exact H) | (have H2_ := (Option.bind_some _ _).symm.trans H; rw [hy344]; with_reducible exact H2_) | (have H2_ := (Option.bind_some _ _).symm.trans H; with_reducible exact H2_) | with_reducible exact H | (rw [hy344]; exact H) | exact H
                                    have Ny344 := Aside0.mk hy344
                                    clear hy344
                                    have H' := Aside0.mk H
                                    clear H
                                    obtain ⟨Ao50, co50, eo50⟩ := Kd.R_slice HO_5.out
                                    subst eo50
                                    try go_wp2
                                    replace HO_5 := Aside0.mk (Kd.R_drew HO_5.out)
                                    replace HO_10 := Aside0.mk (Kd.R_drew HO_10.out)
                                    replace HO_336002 := Aside0.mk (Kd.R_drew HO_336002.out)
                                    replace HO_337002 := Aside0.mk (Kd.R_drew HO_337002.out)
                                    replace BK324 := Aside0.mk (blk_drew BK324.out)
                                    replace BK325 := Aside0.mk (blk_drew BK325.out)
                                    replace BK335 := Aside0.mk (blk_drew BK335.out)
                                    replace BK336 := Aside0.mk (blk_drew BK336.out)
                                    replace HB := Aside0.mk (below_drew1 HB.out)
                                    have p342 : 0 ≤ (x11_3 : Int) := of_decide_eq_true asE
                                    have q342 : x11_3 < (t331.length : Int) := of_decide_eq_true asE
                                    obtain ⟨ad342, e342, hx342_0⟩ := Kd.at_int (Kd.R_reads' HO_5.out).2.2 x11_3 p342 q342
                                    cases e342
                                    replace p342 := eq_true p342
                                    replace q342 := eq_true q342
                                    obtain ⟨Ao52, co52, eo52⟩ := Kd.R_slice HO_336002.out
                                    (first | subst eo52 | (injection eo52 with f1_ f2_ f3_; have f4_ := f1_.symm; have f5_ := f3_.symm; clear f1_ f2_ f3_; subst f4_; subst f5_))
                                    refine start_ (n := 11) (S := fun w' => w'.cell? ⟨gb335, 0, none⟩ = some (.int .i64 t326) ∧ w'.cell? ⟨gb335, 1, none⟩ = some (.int .i64 t327) ∧ w'.cell? ⟨gb335, 2, none⟩ = some (.slice Ao52 x336002_1.length co52) ∧ w'.cell? (ad342.add (x11_3).toNat) = some (.int .i64 (rd t331 x11_3))) (ds := [10]) (.replicate 11 false) (by kernel_rfl) rfl rfl ⟨(blk_cell BK335.out 0).trans rfl, (blk_cell BK335.out 1).trans rfl, (blk_cell BK335.out 2).trans rfl, hx342_0⟩ (fun hHeld => ?_); refine with_tabW recoupref04_Kernel.tab16 recoupref04_Kernel.bits16 (fun HT_ HW_ => ?_)
                                    generalize wr.drew = w51 at HO_5 HO_10 HO_336002 HO_337002 BK324 BK325 BK335 BK336 HB hx342_0 hHeld ⊢
                                    refine pu 0 (some 57) (mB 11 1) HT_ ?_
                                    refine pu 1 (some 58) (mB 11 3) HT_ ?_
                                    refine pu 2 (some 59) (mB 11 7) HT_ ?_
                                    refine pu 3 (some 60) (mB 11 15) HT_ ?_
                                    refine pu 6 (some 63) (mB 11 79) HT_ ?_
                                    refine pu 7 (some 64) (mB 11 207) HT_ ?_
                                    refine tk4 4 (some 61) (mB 11 223) HT_ HW_ hHeld ?_
                                    refine tk4 5 (some 62) (mB 11 255) HT_ HW_ hHeld ?_
                                    refine one_ (i := 8) (N := some 65) (mB 11 511) rfl rfl (one_of HT_.out (by kernel_rfl)) (by decide) (fun K hK => ?_)
                                    refine goes_ Tryd.func40 (by kernel_rfl) rfl #[.agg #[.int .i64 t326, .int .i64 t327, .slice Ao52 x336002_1.length co52], .int .i64 x11_3, .int .i64 x9_1] (by rfl) rfl rfl (by (try simp only [List.map_toArray, List.map_cons, List.map_nil]); first | done | rfl | (simp only [List.length_drop, List.length_take]; rfl)) ?_
                                    with_reducible refine (recoupref03_At.calls t326 t327 _ _ x336002_1 x11_3 x9_1 t343 _ ?side1 ?side2 A46.out).mono ?_
                                    (case side1 => exact kcA (Kd.R_reads' HO_336002.out).2.2)
                                    (case side2 => exact (Kd.R_reads' HO_336002.out).2.1)
                                    rintro e w53 ⟨rfl, hb⟩
                                    have HS3_ := (hb.cell (World.block_lt_of_cell? _ _ (hHeld.2.2.2))).trans (hHeld.2.2.2)
                                    refine ⟨_, rfl, ?_⟩
                                    replace HO_5 := kdB HO_5 hb
                                    replace HO_10 := kdB HO_10 hb
                                    replace HO_336002 := kdB HO_336002 hb
                                    replace HO_337002 := kdB HO_337002 hb
                                    replace BK324 := bkB BK324 hb
                                    replace BK325 := bkB BK325 hb
                                    replace BK335 := bkB BK335 hb
                                    replace BK336 := bkB BK336 hb
                                    replace HB := hbB HB hb
                                    (try clear hb)
                                    (try clear hb2)
                                    (try clear hk)
                                    (try clear hi)
                                    have p49 : 0 ≤ ((rd t331 x11_3) : Int) := of_decide_eq_true asE
                                    have q49 : ((rd t331 x11_3) : Int) < ((x10_3.length : Int) : Int) := of_decide_eq_true asE
                                    obtain ⟨hx49_0, hf49_0⟩ := Kd.R_celln 0 HO_10.out ((rd t331 x11_3) : Int) p49 q49
                                    replace p49 := eq_true p49
                                    replace q49 := eq_true q49
                                    have HP54 := Kd.R_putn HO_10.out ((rd t331 x11_3) : Int) t343
                                    rw [← Ny344.out] at HP54
                                    have HQ54 := Aside0.mk HP54
                                    clear HP54
                                    refine hK.out _ _ ⟨(blk_cell BK335.out 0).trans rfl, (blk_cell BK335.out 1).trans rfl, (blk_cell BK335.out 2).trans rfl, HS3_⟩ (fun hHeld => ?_)
                                    clear hK K
                                    refine norm_ (a' := ?_) ?_ ?_
                                    rotate_left
                                    · show Act.put _ (some 65) _ = _
                                      simp only [Act.put, List.setIfInBounds_toArray, List.set_cons_zero, List.set_cons_succ, i64_w, i32_w]
                                      rfl
                                    refine pu 9 (some 66) (mB 11 1023) HT_ ?_
                                    refine last_ (i := 10) (N := none) (mB 11 2047) rfl rfl (one_of HT_.out (by kernel_rfl)) (by decide) (fun K hK => ?_)
                                    refine skip_ (w1 := ?_) (by rfl) rfl ?_ ?_
                                    rotate_left
                                    · go_simp
                                      rfl
                                    refine hK.out _ _ ?_
                                    clear hK K
                                    refine done_ (done_of HT_.out (by kernel_rfl)) ?_
                                    try go_wp2
                                    (try simp only [← hl10_3])
                                    go_roundg k3
                                    case measure => have := HK1.out; have := HJ20.out; have := HK3.out; omega
                                    case rel => exact ⟨(y344), (wrap64 (x11_3 + 1)), rsE, H', ⟨by have := HK1.out; have := HJ20.out; have := HK3.out; omega⟩, ⟨by (try simp only [hl10_3]); (with_reducible repeat (first | apply Kd.R_alloc | apply Kd.R_drewN | apply Kd.R_drew)); exact Kd.R_mono (Kd.R_far (p := ⟨go35, ((rd t331 x11_3) : Int).toNat, none⟩) (Kd.R_types HO_5.out (kd_blockK HO_10.out).choose_spec (by decide)) (fun _ hk => hk.2) (.int .u8 t343)) (fun _ hk => trivial)⟩, ⟨by (try simp only [hl10_3]); (with_reducible repeat (first | apply Kd.R_alloc | apply Kd.R_drewN | apply Kd.R_drew)); exact HQ54.out⟩, ⟨by (try simp only [hl10_3]); (with_reducible repeat (first | apply Kd.R_alloc | apply Kd.R_drewN | apply Kd.R_drew)); exact Kd.R_mono (Kd.R_far (p := ⟨go35, ((rd t331 x11_3) : Int).toNat, none⟩) (Kd.R_mono HO_336002.out (fun k_ hk => (⟨hk, fun e_ => hk.1 (by rw [e_]; rfl)⟩ : _ ∧ k_ ≠ go35))) (fun _ hk => hk.2) (.int .u8 t343)) (fun _ hk => ⟨hk.1.1, hk.1.2⟩)⟩, ⟨by (try simp only [hl10_3]); (with_reducible repeat (first | apply Kd.R_alloc | apply Kd.R_drewN | apply Kd.R_drew)); exact Kd.R_mono (Kd.R_far (p := ⟨go35, ((rd t331 x11_3) : Int).toNat, none⟩) (Kd.R_mono HO_337002.out (fun k_ hk => (⟨hk, fun e_ => hk.1 (by rw [e_]; rfl)⟩ : _ ∧ k_ ≠ go35))) (fun _ hk => hk.2) (.int .u8 t343)) (fun _ hk => ⟨hk.1.1, hk.1.2⟩)⟩, ⟨by (try simp only [hl10_3]); refine bkR ?_; refine blk_far ?_ (by have h_ := Kd.R_ne HO_10.out BK324.out (by decide); intro e_; exact h_ (by rw [e_]; rfl)) _; refine bkR ?_; exact BK324.out⟩, ⟨by (try simp only [hl10_3]); refine bkR ?_; refine blk_far ?_ (by have h_ := Kd.R_ne HO_10.out BK325.out (by decide); intro e_; exact h_ (by rw [e_]; rfl)) _; refine bkR ?_; exact BK325.out⟩, ⟨by (try simp only [hl10_3]); refine bkR ?_; refine blk_far ?_ (by have h_ := Kd.R_ne HO_10.out BK335.out (by decide); intro e_; exact h_ (by rw [e_]; rfl)) _; refine bkR ?_; exact BK335.out⟩, ⟨by (try simp only [hl10_3]); refine bkR ?_; refine blk_far ?_ (by have h_ := Kd.R_ne HO_10.out BK336.out (by decide); intro e_; exact h_ (by rw [e_]; rfl)) _; refine bkR ?_; exact BK336.out⟩, ⟨hbA HB.out⟩⟩
                                  · rw [if_neg c48] at H
                                    exact absurd H (by simp)
                                · rw [if_neg c47] at H
                                  exact absurd H (by simp)
                              · rw [if_neg c45] at H
                                exact absurd H (by simp)
                            · rw [if_neg c44] at H
                              have c44b0 : decide (x11_3 < (t331.length : Int)) = false := decide_eq_false c44
                              clear c44
                              by_cases c55 : x337002_1.length + x10_3.length < 140737488355328
                              · rw [if_pos c55] at H
                                have LMc55 := Aside0.mk c55
                                clear c55
                                obtain ⟨y345, hy345⟩ : ∃ y_ : List Int, y_ = (x337002_1 ++ x10_3) := ⟨_, rfl⟩
                                replace H : (recoupref04_Kernel.l0 k3 t331 x8_1 (wrap64 (x9_1 + 1)) a0_0 a0_1 l0_2 t326 t327 x336002_1 (wrap64 (x337000_1 + 1)) a0_1 y345) = some (r1, r2, r3, r4) := by first | (rw [hy345]; with_reducible exact H) | (have H2_ := (Option.bind_some _ _).symm.trans H; rw [hy345]; with_reducible exact H2_) | (have H2_ := (Option.bind_some _ _).symm.trans H; with_reducible exact H2_) | with_reducible exact H | (rw [hy345]; exact H) | exact H
                                have Ny345 := Aside0.mk hy345
                                clear hy345
                                have H' := Aside0.mk H
                                clear H
                                obtain ⟨Ao56, co56, eo56⟩ := Kd.R_slice HO_5.out
                                subst eo56
                                have hnb57 := NB336_324.out
                                have hnc57 := NB324_336.out
                                have hnb58 := NB336_325.out
                                have hnc58 := NB325_336.out
                                have hnb59 := NB336_335.out
                                have hnc59 := NB335_336.out
                                obtain ⟨hcz60_0, hcz60_1, hcz60_2, hfz60_0, hfz60_1, hfz60_2⟩ := cell3 BK336
                                go_wp2_with (first | ((with_reducible refine gate_builtin (b := .append) (xs := #[.tmp 72, .tmp 73]) rfl ?_); at_builtin; refine Kd.R_append_rows (Kd.int .u8) (w0 := w) w.heap.size rfl (.tmp 72) (.tmp 73) 22 5 (.int .u8 0) 1 rfl Tryd.underlying22 info5 rfl (by decide) (by omega) u337002 x337002_1 x10_3 _ _ _ (fun k_ => some k_ ≠ (.slice (some ⟨go35, 0, none⟩) x10_3.length co35 : Value).ownBlock ∧ some k_ ≠ (u336002 : Value).ownBlock) (fun _ => False) rfl rfl ?aO ?aR (fun _ _ h => h) (fun _ h => h.elim) ?aF ?aB ?aS ?aL ?_; (case aR => refine (Kd.R_reads' (e := 5) (base := w.heap.size) (ok := fun k_ => (some k_ ≠ (u336002 : Value).ownBlock ∧ some k_ ≠ (u337002 : Value).ownBlock)) (n := x10_3.length) (c := co35) ?_).2.2; exact (by (with_reducible repeat (first | apply Kd.R_alloc | apply Kd.R_drewN | apply Kd.R_drew)); exact (Kd.R_mono (Kd.R_far (p := ⟨gb336, 0, none⟩) (Kd.R_types HO_10.out BK336.out (by decide)) (fun _ hk => hk.2) (.int .i64 (wrap64 (x337000_1 + 1)))) (fun _ h_ => h_.1)))); (case aB => exact (hbA HB.out)); (case aF => exact (fun k_ hk => ⟨Kd.fresh' (Kd.R_lt (by (with_reducible repeat (first | apply Kd.R_alloc | apply Kd.R_drewN | apply Kd.R_drew)); exact (Kd.R_mono (Kd.R_far (p := ⟨gb336, 0, none⟩) (Kd.R_types HO_10.out BK336.out (by decide)) (fun _ hk => hk.2) (.int .i64 (wrap64 (x337000_1 + 1)))) (fun _ h_ => h_.1)))) k_ hk, Kd.fresh' (Kd.R_lt (by (with_reducible repeat (first | apply Kd.R_alloc | apply Kd.R_drewN | apply Kd.R_drew)); exact (Kd.R_mono (Kd.R_far (p := ⟨gb336, 0, none⟩) (Kd.R_types HO_336002.out BK336.out (by decide)) (fun _ hk => hk.2) (.int .i64 (wrap64 (x337000_1 + 1)))) (fun _ h_ => h_.1)))) k_ hk⟩)); (case aO => exact (by (with_reducible repeat (first | apply Kd.R_alloc | apply Kd.R_drewN | apply Kd.R_drew)); exact Kd.R_mono (Kd.R_far (p := ⟨gb336, 0, none⟩) (Kd.R_types HO_337002.out BK336.out (by decide)) (fun _ hk => hk.2) (.int .i64 (wrap64 (x337000_1 + 1)))) (fun _ hk => ⟨hk.1.1, hk.1.2⟩))); (case aS => exact (below_size (hbA HB.out))); (case aL => have := LMc55.out; omega); intro v346 w61 ho hb hg hat; rw [← Ny345.out] at ho; have n0_ := Aside0.mk (Kd.R_over' (by (with_reducible repeat (first | apply Kd.R_alloc | apply Kd.R_drewN | apply Kd.R_drew)); exact (Kd.R_mono (Kd.R_far (p := ⟨gb336, 0, none⟩) (Kd.R_types HO_5.out BK336.out (by decide)) (fun _ hk => hk.2) (.int .i64 (wrap64 (x337000_1 + 1)))) (fun _ h_ => h_.1))) (Kd.R_typed (by (with_reducible repeat (first | apply Kd.R_alloc | apply Kd.R_drewN | apply Kd.R_drew)); exact (Kd.R_mono (Kd.R_far (p := ⟨gb336, 0, none⟩) (Kd.R_types HO_337002.out BK336.out (by decide)) (fun _ hk => hk.2) (.int .i64 (wrap64 (x337000_1 + 1)))) (fun _ h_ => h_.1)))) (by decide) hg); have n1_ := Aside0.mk (Kd.R_after (ok := (fun k_ => some k_ ≠ (u336002 : Value).ownBlock)) (by (with_reducible repeat (first | apply Kd.R_alloc | apply Kd.R_drewN | apply Kd.R_drew)); exact Kd.R_mono (Kd.R_far (p := ⟨gb336, 0, none⟩) (Kd.R_types HO_10.out BK336.out (by decide)) (fun _ hk => hk.2) (.int .i64 (wrap64 (x337000_1 + 1)))) (fun _ hk => ⟨hk.1.1, hk.1.2⟩)) hg hat); have n2_ := Aside0.mk (Kd.R_after (ok := (fun k_ => some k_ ≠ (.slice (some ⟨go35, 0, none⟩) x10_3.length co35 : Value).ownBlock)) (by (with_reducible repeat (first | apply Kd.R_alloc | apply Kd.R_drewN | apply Kd.R_drew)); exact Kd.R_mono (Kd.R_far (p := ⟨gb336, 0, none⟩) (Kd.R_types HO_336002.out BK336.out (by decide)) (fun _ hk => hk.2) (.int .i64 (wrap64 (x337000_1 + 1)))) (fun _ hk => ⟨hk.1.1, hk.1.2⟩)) hg hat); have n3_ := Aside0.mk (blk_grown (g := gb324) (o := .cells #[.int .i64 a0_0, .int .i64 a0_1, .slice A0_2 l0_2.length c0_2] 24 (0, 0)) (by refine bkR ?_; refine blk_far ?_ NB324_336.out _; refine bkR ?_; exact BK324.out) hg (Kd.R_ne HO_337002.out BK324.out (by decide))); have n4_ := Aside0.mk (blk_grown (g := gb325) (o := .cells #[.int .i64 0, .int .i64 0, .slice none 0 0] 24 (0, 0)) (by refine bkR ?_; refine blk_far ?_ NB325_336.out _; refine bkR ?_; exact BK325.out) hg (Kd.R_ne HO_337002.out BK325.out (by decide))); have n5_ := Aside0.mk (blk_grown (g := gb335) (o := .cells #[.int .i64 t326, .int .i64 t327, u336002] 24 (0, 0)) (by refine bkR ?_; refine blk_far ?_ NB335_336.out _; refine bkR ?_; exact BK335.out) hg (Kd.R_ne HO_337002.out BK335.out (by decide))); have n6_ := Aside0.mk (blk_grown (g := gb336) (o := .cells #[.int .i64 (wrap64 (x337000_1 + 1)), .int .i64 a0_1, u337002] 24 (0, 0)) (by refine bkR ?_; refine blk_put (cs := #[.int .i64 x337000_1, .int .i64 a0_1, u337002]) ?_ 0 _ rfl; refine bkR ?_; exact BK336.out) hg (Kd.R_ne HO_337002.out BK336.out (by decide))); have n7_ := Aside0.mk (hb); have n8_ := Aside0.mk (ho); clear HO_5; clear HO_10; clear HO_336002; clear BK324; clear BK325; clear BK335; clear BK336; clear HB; clear HO_337002; have HO_5 := n0_; have HO_10 := n1_; have HO_336002 := n2_; have BK324 := n3_; have BK325 := n4_; have BK335 := n5_; have BK336 := n6_; have HB := n7_; have HO347 := n8_; clear n0_ n1_ n2_ n3_ n4_ n5_ n6_ n7_ n8_; clear ho hb hg hat; obtain ⟨Ao62, co62, eo62⟩ := Kd.R_slice HO347.out; subst eo62; obtain ⟨hcz63_0, hcz63_1, hcz63_2, hfz63_0, hfz63_1, hfz63_2⟩ := cell3 BK336))
                                (try simp only [← hl10_3])
                                go_roundg k3
                                case measure => have := HK1.out; have := HJ20.out; have := HK3.out; omega
                                case rel => exact ⟨(x8_1), (wrap64 (x9_1 + 1)), (x336002_1), (wrap64 (x337000_1 + 1)), (y345), (u336002), (.slice Ao62 y345.length co62), rsE, rsE, H', ⟨by have := HK1.out; have := HJ20.out; have := HK3.out; omega⟩, ⟨by (try simp only [hl10_3]); (with_reducible repeat (first | apply Kd.R_alloc | apply Kd.R_drewN | apply Kd.R_drew)); exact Kd.R_mono (Kd.R_far (p := ⟨gb336, 2, none⟩) (Kd.R_types HO_5.out BK336.out (by decide)) (fun _ hk => hk.2) (.slice Ao62 y345.length co62)) (fun _ hk => trivial)⟩, ⟨by (try simp only [hl10_3]); (with_reducible repeat (first | apply Kd.R_alloc | apply Kd.R_drewN | apply Kd.R_drew)); exact Kd.R_mono (Kd.R_far (p := ⟨gb336, 2, none⟩) (Kd.R_types HO_336002.out BK336.out (by decide)) (fun _ hk => hk.2) (.slice Ao62 y345.length co62)) (fun _ hk => hk.1.2)⟩, ⟨by (try simp only [hl10_3]); (with_reducible repeat (first | apply Kd.R_alloc | apply Kd.R_drewN | apply Kd.R_drew)); exact Kd.R_mono (Kd.R_far (p := ⟨gb336, 2, none⟩) (Kd.R_types HO347.out BK336.out (by decide)) (fun _ hk => hk.2) (.slice Ao62 y345.length co62)) (fun _ hk => hk.1.2)⟩, ⟨by (try simp only [hl10_3]); refine bkR ?_; refine blk_far ?_ NB324_336.out _; refine bkR ?_; exact BK324.out⟩, ⟨by (try simp only [hl10_3]); refine bkR ?_; refine blk_far ?_ NB325_336.out _; refine bkR ?_; exact BK325.out⟩, ⟨by (try simp only [hl10_3]); refine bkR ?_; refine blk_far ?_ NB335_336.out _; refine bkR ?_; exact BK335.out⟩, ⟨by (try simp only [hl10_3]); refine bkR ?_; refine blk_put (cs := #[.int .i64 (wrap64 (x337000_1 + 1)), .int .i64 a0_1, u337002]) ?_ 2 _ rfl; refine bkR ?_; exact BK336.out⟩, ⟨hbA HB.out⟩⟩
                              · rw [if_neg c55] at H
                                exact absurd H (by simp)
                      · rw [if_neg c34] at H
                        exact absurd H (by simp)
                    · rw [if_neg c33] at H
                      exact absurd H (by simp)
                  · rw [if_neg c32] at H
                    exact absurd H (by simp)
                · rw [if_neg c31] at H
                  exact absurd H (by simp)
        · rw [if_neg c20] at H
          have c20b0 : decide (x9_1 < a0_1) = false := decide_eq_false c20
          clear c20
          simp only [Option.some.injEq, Prod.mk.injEq] at H
          obtain ⟨rfl, rfl, rfl, rfl⟩ := H
          have hnb64 := NB324_325.out
          have hnc64 := NB325_324.out
          have hnb65 := NB324_335.out
          have hnc65 := NB335_324.out
          have hnb66 := NB324_336.out
          have hnc66 := NB336_324.out
          obtain ⟨hcz67_0, hcz67_1, hcz67_2, hfz67_0, hfz67_1, hfz67_2⟩ := cell3 BK324
          have hnb68 := NB336_325.out
          have hnc68 := NB325_336.out
          have hnb69 := NB336_335.out
          have hnc69 := NB335_336.out
          obtain ⟨hcz70_0, hcz70_1, hcz70_2, hfz70_0, hfz70_1, hfz70_2⟩ := cell3 BK336
          have hnb71 := NB325_335.out
          have hnc71 := NB335_325.out
          obtain ⟨hcz72_0, hcz72_1, hcz72_2, hfz72_0, hfz72_1, hfz72_2⟩ := cell3 BK325
          obtain ⟨Ao73, co73, eo73⟩ := Kd.R_slice HO_337002.out
          subst eo73
          go_wp2
          refine bodyPost_ret (results_ct rfl _ _ gb325 24 #[.int .i64 x337000_1, .int .i64 a0_1, .slice Ao73 x337002_1.length co73] (0, 0) _ rfl (by refine bkR ?_; refine blk_put (cs := #[.int .i64 x337000_1, .int .i64 a0_1, .slice none 0 0]) ?_ 2 _ rfl; refine bkR ?_; refine blk_put (cs := #[.int .i64 x337000_1, .int .i64 0, .slice none 0 0]) ?_ 1 _ rfl; refine bkR ?_; refine blk_put (cs := #[.int .i64 0, .int .i64 0, .slice none 0 0]) ?_ 0 _ rfl; refine bkR ?_; exact BK325.out) Tryd.underlying24 rfl (by kernel_rfl)) rfl ?_
          exact ⟨_, rfE, by (with_reducible repeat (first | apply Kd.R_alloc | apply Kd.R_drewN | apply Kd.R_drew)); exact Kd.R_mono (Kd.R_far (p := ⟨gb325, 2, none⟩) (Kd.R_far (p := ⟨gb325, 1, none⟩) (Kd.R_far (p := ⟨gb325, 0, none⟩) (Kd.R_types HO_337002.out BK325.out (by decide)) (fun _ hk => hk.2) (.int .i64 x337000_1)) (fun _ hk => hk.2) (.int .i64 a0_1)) (fun _ hk => hk.2) (.slice Ao73 x337002_1.length co73)) (fun _ hk => trivial), hbA HB.out⟩
  · rw [if_neg c3] at H
    have c3b0 : (t334 == 0) = false := beq_eq_false_iff_ne.mpr c3
    have c3b1 : (t334 != 0) = true := bne_iff_ne.mpr c3
    simp only [Option.some.injEq, Prod.mk.injEq] at H
    obtain ⟨rfl, rfl, rfl, rfl⟩ := H
    go_enter Tryd.func18, Tryd.ntmps18
    go_wp2_with (first | ((with_reducible refine gD 1 rfl ?_); refine bE 1 #[.int .i64 a0_0, .int .i64 a0_1, .slice A0_2 l0_2.length c0_2] 24 ?_; intro gb324 hg w74 hbox hb; have BK324 := Aside0.mk (hbox); have GW324 := hbS HB hg; have GE324 := hbS HB hg; replace HB := hbB HB hb; clear hb hbox hg) | ((with_reducible refine gD 2 rfl ?_); refine bE 2 #[.int .i64 0, .int .i64 0, .slice none 0 0] 24 ?_; intro gb325 hg w75 hbox hb; have BK325 := Aside0.mk (hbox); have GW325 := hbS HB hg; have GE325 := hbS HB hg; replace HB := hbB HB hb; have NB324_325 := neL BK324 hg; have NB325_324 := neG BK324 hg; replace BK324 := bkB BK324 hb; clear hb hbox hg; have hnb76 := NB324_325.out; have hnc76 := NB325_324.out; obtain ⟨hcz77_0, hcz77_1, hcz77_2, hfz77_0, hfz77_1, hfz77_2⟩ := cell3 BK324) | ((with_reducible refine gC 39 rfl ?_); refine cG (some 14) Tryd.func39 #[.agg #[.int .i64 a0_0, .int .i64 a0_1, .slice A0_2 l0_2.length c0_2]] ?_; (with_reducible refine (recoupref04_Reduce.calls k a0_0 a0_1 _ _ l0_2 t326 t327 t328 t331 t334 _ ?side1 ?side2 A2.out).mono ?_); (case side1 => exact kcB HR0_2 HB); (case side2 => exact HC0_2.out); rintro e w78 ⟨v329, v332, rfl, ho0, ho1, hb⟩; refine ⟨_, rfl, ?_⟩; have HO330 := Aside0.mk (Kd.R_lower ho0 (below_size (hbA HB.out))); have HO333 := Aside0.mk (Kd.R_lower ho1 (below_size (hbA HB.out))); replace BK324 := bkB BK324 hb; replace BK325 := bkB BK325 hb; replace HB := hbB HB hb; (try clear hb); (try clear hb2); (try clear hk); (try clear hi); (try clear ho0); (try clear ho1)) | ((with_reducible refine gD 4 rfl ?_); refine bE 4 #[.int .i64 0, .int .i64 0, .slice none 0 0] 24 ?_; intro gb335 hg w79 hbox hb; replace HO330 := kdB HO330 hb; replace HO333 := kdB HO333 hb; have BK335 := Aside0.mk (hbox); have GW335 := hbS HB hg; have GE335 := hbS HB hg; replace HB := hbB HB hb; have NB324_335 := neL BK324 hg; have NB335_324 := neG BK324 hg; replace BK324 := bkB BK324 hb; have NB325_335 := neL BK325 hg; have NB335_325 := neG BK325 hg; replace BK325 := bkB BK325 hb; clear hb hbox hg; have hnb80 := NB335_324.out; have hnc80 := NB324_335.out; have hnb81 := NB335_325.out; have hnc81 := NB325_335.out; obtain ⟨hcz82_0, hcz82_1, hcz82_2, hfz82_0, hfz82_1, hfz82_2⟩ := cell3 BK335; obtain ⟨Ao83, co83, eo83⟩ := Kd.R_slice HO330.out; subst eo83; obtain ⟨hcz84_0, hcz84_1, hcz84_2, hfz84_0, hfz84_1, hfz84_2⟩ := cell3 BK325))
    refine bodyPost_ret (results_ct rfl _ _ gb325 24 #[.int .i64 0, .int .i64 0, .slice none 0 0] (0, 0) _ rfl (by refine bkR ?_; refine blk_put (cs := #[.int .i64 0, .int .i64 0, .slice none 0 0]) ?_ 2 _ rfl; refine bkR ?_; refine blk_put (cs := #[.int .i64 0, .int .i64 0, .slice none 0 0]) ?_ 1 _ rfl; refine bkR ?_; refine blk_put (cs := #[.int .i64 0, .int .i64 0, .slice none 0 0]) ?_ 0 _ rfl; refine bkR ?_; refine blk_far ?_ NB325_335.out _; refine bkR ?_; refine blk_far ?_ NB325_335.out _; refine bkR ?_; refine blk_far ?_ NB325_335.out _; refine bkR ?_; exact BK325.out) Tryd.underlying24 rfl (by kernel_rfl)) rfl ?_
    exact ⟨_, rfE, nilE, hbA HB.out⟩
end Go.Proofs.YtkagobkedifhkaaDoor.Q
