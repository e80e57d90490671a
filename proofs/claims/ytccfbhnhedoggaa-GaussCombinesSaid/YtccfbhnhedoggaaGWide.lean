import Derived.Test.YtccfbhnhedoggaaQx17
import Derived.Test.YtccfbhnhedoggaaGAug
namespace Go.Proofs.Ytccfbhnhedoggaa.M
open Go.RowKit Go.Proofs.YtccfbhnhedoggaaW.PrintWords Go.Proofs.YtccfbhnhedoggaaW.PrintLast Go.Proofs.YtccfbhnhedoggaaW.PrintMore Go.Proofs.Ytccfbhnhedoggaa.Q
set_option linter.unusedVariables false
/-! ### the reference's wide: as Reduce, of up to 65 columns -/
theorem idx65 {i c j : Nat} (hi : i ≤ 64) (hc : c ≤ 65) (hj : j ≤ 65) : wrap64 (wrap64 ((i : Int) * (c : Int)) + (j : Int)) = ((i * c + j : Nat) : Int) := by
 have hm : i * c ≤ 64 * 65 := Nat.mul_le_mul hi hc
 rw [← Int.natCast_mul]
 generalize i * c = p at *
 have e1 : wrap64 (p : Int) = (p : Int) := w64 (by omega) (by omega)
 rw [e1, w64 (by omega) (by omega)]
 omega
theorem map_getD {f : Int → Int} {l : List Int} {i : Nat} (h : i < l.length) : (l.map f).getD i 0 = f (l.getD i 0) := by
 rw [List.getD_eq_getElem?_getD, List.getD_eq_getElem?_getD, List.getElem?_map, List.getElem?_eq_getElem h]
 rfl
theorem At65 {W i j : Nat} {A : List (List Int)} (h : Sh A W) (hi : i < A.length) (hj : j < W) (a : Int) : recoupref03_At.f a (W : Int) A.flatten (i : Int) (j : Int) = some (entry A i j) := by
 have hl := idx_lt hi hj
 have h1 := h.m
 have h2 := h.w
 unfold recoupref03_At.f
 rw [idx65 (by omega) h2 (by omega), flat_len h.u, if_pos (Int.natCast_nonneg _), if_pos (Int.ofNat_lt.2 hl), rd_nat, flat_get h.u hi hj]
abbrev WR := Int × Int × List Int × List Int
theorem Wide_l4 {W : Nat} {A : List (List Int)} (h : Sh A W) {top kk : Nat} (ht : top < A.length) (hk : kk < A.length) (hne : kk ≠ top) {c : Int} (hcb : 0 ≤ c ∧ c < 256) (x4 : List Int) (x5 : Int) {R : WR}
  (hR : Ends (fun q => recoupref04_wide.l3 q x4 x5 (top : Int) ((kk + 1 : Nat) : Int) (A.length : Int) (W : Int) (A.set kk (xrow c (A.getD kk []) (A.getD top []))).flatten) R) :
  ∀ n l : Nat, l + n = W → Ends (fun q => recoupref04_wide.l4 q x4 x5 (top : Int) (kk : Int) c (l : Int) (A.length : Int) (W : Int) (A.set kk ((xrow c (A.getD kk []) (A.getD top [])).take l ++ (A.getD kk []).drop l)).flatten) R
 | 0, l, hl => by
  obtain rfl : l = W := by omega
  have hr := h.u.at hk
  have hs := h.u.at ht
  have hg := xrow_length (c := c) (hr.trans hs.symm)
  have h1 := h.m
  refine Ends.succ (fun k => by rw [recoupref04_wide.l4]) ?_
  refine Ends.neg (by omega) ?_
  refine Ends.succ (fun k => by rw [recoupref04_wide.j5]) ?_
  refine Ends.neg (by decide) ?_
  have e1 : (xrow c (A.getD kk []) (A.getD top [])).take l = xrow c (A.getD kk []) (A.getD top []) := List.take_of_length_le (by rw [hg, hr]; exact Nat.le_refl _)
  have e2 : (A.getD kk []).drop l = [] := List.drop_of_length_le (by rw [hr]; exact Nat.le_refl _)
  have hk4 : kk ≤ 4096 := by omega
  rw [e1, e2, List.append_nil, i64_succ hk4]
  exact hR
 | n + 1, l, hl => by
  have hr := h.u.at hk
  have hs := h.u.at ht
  have hg := xrow_length (c := c) (hr.trans hs.symm)
  have hlW : l < W := by omega
  have h1 := h.m
  have h2 := h.w
  have hk64 : kk ≤ 64 := by omega
  have hl65 : l ≤ 65 := by omega
  have hl4 : l ≤ 4096 := by omega
  have hmid : ((xrow c (A.getD kk []) (A.getD top [])).take l ++ (A.getD kk []).drop l).length = W := by rw [List.length_append, List.length_take, List.length_drop]; omega
  have hU := h.u.set (k := kk) hmid
  have hlen : (A.set kk ((xrow c (A.getD kk []) (A.getD top [])).take l ++ (A.getD kk []).drop l)).length = A.length := List.length_set
  refine Ends.succ (fun k => by rw [recoupref04_wide.l4]) ?_
  refine Ends.pos (by omega) ?_
  refine Ends.succ (fun k => by rw [recoupref04_wide.j5]) ?_
  refine Ends.pos (by rw [bne_iff_ne]; omega) ?_
  rw [idx65 hk64 h2 hl65]
  refine Ends.pos (Int.natCast_nonneg _) ?_
  have hix := idx_lt (c := W) hk hlW
  refine Ends.pos (by rw [flat_len hU, hlen]; exact Int.ofNat_lt.2 hix) ?_
  have hSet : Sh (A.set kk ((xrow c (A.getD kk []) (A.getD top [])).take l ++ (A.getD kk []).drop l)) W := by
   refine h.set hmid ?_
   have b1 := rows_bytes h.b kk
   have b2 : bytesB (xrow c (A.getD kk []) (A.getD top [])) = true := by rw [xrow_mac]; exact xorL_bytes
   unfold bytesB at b1 b2 ⊢
   rw [List.all_eq_true] at b1 b2 ⊢
   intro x hx
   rcases List.mem_append.1 hx with hx | hx
   ·exact b2 x (List.mem_of_mem_take hx)
   ·exact b1 x (List.mem_of_mem_drop hx)
  have ha := At65 hSet (i := top) (j := l) (by omega) hlW (A.length : Int)
  have e0 : entry (A.set kk ((xrow c (A.getD kk []) (A.getD top [])).take l ++ (A.getD kk []).drop l)) top l = (A.getD top []).getD l 0 := by
   unfold entry
   rw [getD_set_ne hne]
  rw [e0] at ha
  refine Ends.bind1 ha ?_
  refine Ends.bind (mulT_ends hcb (bytesB_at (rows_bytes h.b top) (by omega))) ?_
  have e2 : (A.set kk ((xrow c (A.getD kk []) (A.getD top [])).take l ++ (A.getD kk []).drop l)).flatten.set (((kk * W + l : Nat) : Int)).toNat (Go.bits .xor .u8 (rd (A.set kk ((xrow c (A.getD kk []) (A.getD top [])).take l ++ (A.getD kk []).drop l)).flatten ((kk * W + l : Nat) : Int)) (mulT c ((A.getD top []).getD l 0))) = (A.set kk ((xrow c (A.getD kk []) (A.getD top [])).take (l + 1) ++ (A.getD kk []).drop (l + 1))).flatten := by
   rw [rd_nat, Int.toNat_natCast, flat_get hU (by omega) hlW, flat_set _ hU (by omega) hlW, getD_set_self hk, List.set_set]
   have e3 : entry (A.set kk ((xrow c (A.getD kk []) (A.getD top [])).take l ++ (A.getD kk []).drop l)) kk l = (A.getD kk []).getD l 0 := by
    unfold entry
    rw [getD_set_self hk, mid_get (by omega) (by omega)]
   rw [e3, ← xrow_get (by omega) (by omega), mid_set (by omega) (by omega)]
  rw [e2, i64_succ hl4]
  exact Wide_l4 h ht hk hne hcb x4 x5 hR n (l + 1) (by omega)
theorem Wide_l4_top {W : Nat} {x4 : List Int} {x5 top a b c : Int} {L : List Int} {R : WR} (hR : Ends (fun q => recoupref04_wide.l3 q x4 x5 top (wrap64 (top + 1)) a b L) R) (l : Int) : Ends (fun q => recoupref04_wide.l4 q x4 x5 top top c l a b L) R := by
 refine Ends.succ (fun k => by rw [recoupref04_wide.l4]) ?_
 have key : ∀ z, z = false → Ends (fun q => recoupref04_wide.j5 q x4 x5 top top c l z a b L) R := fun z hz => by
  subst hz
  refine Ends.succ (fun k => by rw [recoupref04_wide.j5]) ?_
  exact Ends.neg (by decide) hR
 by_cases hl : l < b
 ·exact Ends.pos hl (key _ (by simp))
 ·exact Ends.neg hl (key _ rfl)
theorem el1_top {col top : Nat} {A : List (List Int)} : ∀ k, (el1 col top k A).getD top [] = A.getD top []
 | 0 => rfl
 | k + 1 => by
  show (if k ≠ top ∧ entry (el1 col top k A) k col ≠ 0 then macS (el1 col top k A) k top (entry (el1 col top k A) k col) else el1 col top k A).getD top [] = _
  split
  ·rename_i hh
   unfold macS
   rw [getD_set_ne hh.1]
   exact el1_top k
  ·exact el1_top k
theorem Wide_l3 {W : Nat} {S : List (List Int)} (h : Sh S W) {top j : Nat} (ht : top < S.length) (hj : j < W) (x4 : List Int) (h6 : x4.length ≤ 64) {R : WR}
  (hR : Ends (fun q => recoupref04_wide.l0 q (x4 ++ [(j : Int)]) ((j + 1 : Nat) : Int) (S.length : Int) (W : Int) (el1 j top S.length S).flatten) R) :
  ∀ n k : Nat, k + n = S.length → Ends (fun q => recoupref04_wide.l3 q x4 (j : Int) (top : Int) (k : Int) (S.length : Int) (W : Int) (el1 j top k S).flatten) R
 | 0, k, hk => by
  obtain rfl : k = S.length := by omega
  have h2 := h.w
  have hj4 : j ≤ 4096 := by omega
  refine Ends.succ (fun k => by rw [recoupref04_wide.l3]) ?_
  refine Ends.neg (by omega) (Ends.pos (by omega) ?_)
  rw [i64_succ hj4]
  exact hR
 | n + 1, k, hk => by
  have hkS : k < S.length := by omega
  obtain ⟨hT, hTl⟩ := h.el (col := j) ht k (by omega)
  have hm := h.m
  have ih := Wide_l3 h ht hj x4 h6 hR n (k + 1) (by omega)
  have hk4 : k ≤ 4096 := by omega
  have hst := el1_top (col := j) (top := top) (A := S) k
  have hEx : el1 j top (k + 1) S = (if k ≠ top ∧ entry (el1 j top k S) k j ≠ 0 then macS (el1 j top k S) k top (entry (el1 j top k S) k j) else el1 j top k S) := rfl
  rw [hEx] at ih
  refine Ends.succ (fun k => by rw [recoupref04_wide.l3]) ?_
  refine Ends.pos (by omega) ?_
  generalize el1 j top k S = T at *
  have ha := At65 hT (i := k) (j := j) (by omega) hj (S.length : Int)
  refine Ends.bind1 ha ?_
  by_cases e : k = top
  ·rw [if_neg (fun hh => hh.1 e)] at ih
   subst e
   refine Wide_l4_top (W := W) ?_ _
   rw [i64_succ hk4]
   exact ih
  ·have hcb := hT.byte (i := k) (j := j) (by omega) hj
   have h0 := Wide_l4 hT (top := top) (kk := k) (by omega) (by omega) e hcb x4 (j : Int) (R := R) ?_ W 0 (by omega)
   ·rw [List.take_zero, List.nil_append, List.drop_zero, set_getD_self (by omega), hTl] at h0
    exact h0
   ·rw [hTl]
    by_cases e0 : entry T k j = 0
    ·rw [if_neg (fun hh => hh.2 e0)] at ih
     rw [e0, xrow_zero (rows_bytes hT.b k) (by rw [hT.u.at (by omega), hT.u.at (by omega)]), set_getD_self (by omega)]
     exact ih
    ·rw [if_pos ⟨e, e0⟩] at ih
     unfold macS at ih
     rw [xrow_mac]
     exact ih
/-- Rows i and top have changed places to column l, what has come up divided. -/
def midW (A : List (List Int)) (top i : Nat) (d : Int) (l : Nat) : List (List Int) :=
 (A.set i ((A.getD top []).take l ++ (A.getD i []).drop l)).set top (((A.getD i []).map (mulT d)).take l ++ (A.getD top []).drop l)
theorem midW_zero {A : List (List Int)} {top i : Nat} (d : Int) (ht : top < A.length) (hi : i < A.length) : midW A top i d 0 = A := by
 unfold midW
 rw [List.take_zero, List.nil_append, List.drop_zero, List.take_zero, List.nil_append, List.drop_zero, set_getD_self hi, set_getD_self ht]
theorem midW_full {A : List (List Int)} {W top i : Nat} (d : Int) (h : Sh A W) (ht : top < A.length) (hi : i < A.length) : midW A top i d W = swapS d A top i := by
 have h1 := h.u.at ht
 have h2 := h.u.at hi
 unfold midW swapS
 rw [List.take_of_length_le (by omega), List.drop_of_length_le (l := A.getD i []) (by omega), List.append_nil, List.take_of_length_le (by rw [List.length_map]; omega), List.drop_of_length_le (by omega), List.append_nil, List.set_set]
theorem bytesB_append {a b : List Int} (h : bytesB a = true) (k : bytesB b = true) : bytesB (a ++ b) = true := by
 unfold bytesB at *
 rw [List.all_append, h, k]
 rfl
theorem bytesB_take {a : List Int} (h : bytesB a = true) (n : Nat) : bytesB (a.take n) = true := by
 have := bytesB_sub h 0 n
 rwa [List.drop_zero] at this
theorem bytesB_drop {a : List Int} (h : bytesB a = true) (n : Nat) : bytesB (a.drop n) = true := by
 have := bytesB_sub h n a.length
 rwa [List.take_of_length_le (by rw [List.length_drop]; omega)] at this
theorem midW_sh {A : List (List Int)} {W top i : Nat} {d : Int} (hd : 0 ≤ d ∧ d < 256) (h : Sh A W) (ht : top < A.length) (hi : i < A.length) (l : Nat) : Sh (midW A top i d l) W := by
 have h1 := h.u.at ht
 have h2 := h.u.at hi
 unfold midW
 refine (h.set ?_ (bytesB_append (bytesB_take (rows_bytes h.b top) _) (bytesB_drop (rows_bytes h.b i) _))).set ?_ (bytesB_append (bytesB_take (scale_bytes hd (rows_bytes h.b i)) _) (bytesB_drop (rows_bytes h.b top) _))
 ·rw [List.length_append, List.length_take, List.length_drop]; omega
 ·rw [List.length_append, List.length_take, List.length_drop, List.length_map]; omega
theorem midW_top {A : List (List Int)} {W top i l : Nat} {d : Int} (h : Sh A W) (ht : top < A.length) (hi : i < A.length) (hl : l < W) : entry (midW A top i d l) top l = entry A top l := by
 have h1 := h.u.at ht
 have h2 := h.u.at hi
 unfold midW entry
 rw [getD_set_self (by rw [List.length_set]; exact ht), mid_get (by rw [List.length_map]; omega) (by rw [List.length_map]; omega)]
theorem midW_i {A : List (List Int)} {W top i l : Nat} {d : Int} (h : Sh A W) (ht : top < A.length) (hi : i < A.length) (hl : l < W) : entry (midW A top i d l) i l = entry A i l := by
 by_cases e : top = i
 ·subst e
  exact midW_top h ht ht hl
 ·have h1 := h.u.at ht
  have h2 := h.u.at hi
  unfold midW entry
  rw [getD_set_ne e, getD_set_self hi, mid_get (by omega) (by omega)]
theorem midW_succ {A : List (List Int)} {W top i l : Nat} {d : Int} (h : Sh A W) (ht : top < A.length) (hi : i < A.length) (hl : l < W) :
  ((midW A top i d l).set i (((midW A top i d l).getD i []).set l (entry A top l))).set top ((((midW A top i d l).set i (((midW A top i d l).getD i []).set l (entry A top l))).getD top []).set l (mulT d (entry A i l))) = midW A top i d (l + 1) := by
 have h1 := h.u.at ht
 have h2 := h.u.at hi
 have hm : mulT d (entry A i l) = ((A.getD i []).map (mulT d)).getD l 0 := (map_getD (by omega)).symm
 have ht2 : ∀ X : List Int, top < (A.set i X).length := fun X => by rw [List.length_set]; exact ht
 by_cases e : top = i
 ·subst e
  unfold midW
  simp only [List.set_set, getD_set_self ht]
  rw [hm, mid_set (by rw [List.length_map]; omega) (by simp)]
 ·unfold midW
  rw [getD_set_ne e, getD_set_self hi, getD_set_ne (fun x => e x.symm), getD_set_self (ht2 _), hm, mid_set (by rw [List.length_map]; omega) (by rw [List.length_map]; omega)]
  have e4 : ((A.getD top []).take l ++ (A.getD i []).drop l).set l (entry A top l) = (A.getD top []).take (l + 1) ++ (A.getD i []).drop (l + 1) := mid_set (by omega) (by omega)
  rw [e4, List.set_comm _ _ e, List.set_set, List.set_set]
theorem Wide_l2 {W : Nat} {A : List (List Int)} (h : Sh A W) {top i j : Nat} (ht : top < A.length) (hi : i < A.length) (hj : j < W) {d : Int} (hd : 0 ≤ d ∧ d < 256) (x4 : List Int) (h6 : x4.length ≤ 64) {R : WR}
  (hR : Ends (fun q => recoupref04_wide.l3 q x4 (j : Int) (top : Int) 0 (A.length : Int) (W : Int) (swapS d A top i).flatten) R) :
  ∀ n l : Nat, l + n = W → Ends (fun q => recoupref04_wide.l2 q x4 (j : Int) (top : Int) (i : Int) d (l : Int) (A.length : Int) (W : Int) (midW A top i d l).flatten) R
 | 0, l, hl => by
  obtain rfl : l = W := by omega
  refine Ends.succ (fun k => by rw [recoupref04_wide.l2]) ?_
  refine Ends.neg (by omega) ?_
  rw [midW_full d h ht hi]
  exact hR
 | n + 1, l, hl => by
  have hlW : l < W := by omega
  have h1 := h.m
  have h2 := h.w
  have ht64 : top ≤ 64 := by omega
  have hi64 : i ≤ 64 := by omega
  have hl65 : l ≤ 65 := by omega
  have hl4 : l ≤ 4096 := by omega
  have ih := Wide_l2 h ht hi hj hd x4 h6 hR n (l + 1) (by omega)
  rw [← midW_succ h ht hi hlW] at ih
  have hS := midW_sh hd h ht hi l
  have hlen : (midW A top i d l).length = A.length := by simp [midW]
  have a1 := At65 hS (i := top) (j := l) (by omega) hlW (A.length : Int)
  have a2 := At65 hS (i := i) (j := l) (by omega) hlW (A.length : Int)
  rw [midW_top h ht hi hlW] at a1
  rw [midW_i h ht hi hlW] at a2
  have hib := h.byte hi hlW
  generalize midW A top i d l = T at *
  refine Ends.succ (fun k => by rw [recoupref04_wide.l2]) ?_
  refine Ends.pos (by omega) ?_
  refine Ends.bind1 a1 ?_
  refine Ends.bind1 a2 ?_
  rw [idx65 hi64 h2 hl65, idx65 ht64 h2 hl65]
  have hix := idx_lt (c := W) hi hlW
  have htx := idx_lt (c := W) ht hlW
  refine Ends.pos (Int.natCast_nonneg _) ?_
  refine Ends.pos (by rw [flat_len hS.u, hlen]; exact Int.ofNat_lt.2 hix) ?_
  refine Ends.bind (mulT_ends hd hib) ?_
  refine Ends.pos (Int.natCast_nonneg _) ?_
  refine Ends.pos (by rw [flat_len hS.u, hlen]; exact Int.ofNat_lt.2 htx) ?_
  rw [Int.toNat_natCast, Int.toNat_natCast, flat_set _ hS.u (by omega) hlW, flat_set _ (hS.u.set (by rw [List.length_set]; exact hS.u.at (by omega))) (by rw [List.length_set]; omega) hlW, i64_succ hl4]
  exact ih
theorem Wide_l1 {W : Nat} {S : List (List Int)} (h : Sh S W) {j : Nat} (hj : j < W) (x4 : List Int) (h6 : x4.length < S.length ∨ x4.length ≤ 64) {R : WR}
  (h0 : firstIn S x4.length j = none → Ends (fun q => recoupref04_wide.l0 q x4 ((j + 1 : Nat) : Int) (S.length : Int) (W : Int) S.flatten) R)
  (h1 : ∀ i, firstIn S x4.length j = some i → Ends (fun q => recoupref04_wide.l2 q x4 (j : Int) (x4.length : Int) (i : Int) (invT (entry S i j)) 0 (S.length : Int) (W : Int) S.flatten) R) :
  ∀ n i : Nat, i + n = S.length → firstIn S x4.length j = seekCol S j n i →
   Ends (fun q => recoupref04_wide.l1 q x4 (j : Int) (x4.length : Int) (i : Int) (S.length : Int) (W : Int) S.flatten) R
 | 0, i, hi, he => by
  have h2 := h.w
  have hj4 : j ≤ 4096 := by omega
  refine Ends.succ (fun k => by rw [recoupref04_wide.l1]) ?_
  refine Ends.neg (by omega) ?_
  rw [i64_succ hj4]
  exact h0 he
 | n + 1, i, hi, he => by
  have h2 := h.m
  have hi4 : i ≤ 4096 := by omega
  refine Ends.succ (fun k => by rw [recoupref04_wide.l1]) ?_
  refine Ends.pos (by omega) ?_
  refine Ends.bind1 (At65 h (by omega) hj _) ?_
  unfold seekCol at he
  by_cases e : entry S i j = 0
  ·rw [if_neg (fun x => x e)] at he
   refine Ends.pos e ?_
   rw [i64_succ hi4]
   exact Wide_l1 h hj x4 h6 h0 h1 n (i + 1) (by omega) he
  ·rw [if_pos e] at he
   refine Ends.neg e ?_
   refine Ends.bind (Inv_ends (h.byte (by omega) hj) e) ?_
   exact h1 i he
theorem Wide_l0 {W : Nat} {A : List (List Int)} (h : Sh A W) : ∀ n j : Nat, j + n = W →
  Ends (fun q => recoupref04_wide.l0 q (redA A j).2 (j : Int) (A.length : Int) (W : Int) (redA A j).1.flatten) ((A.length : Int), (W : Int), (redA A W).1.flatten, (redA A W).2)
 | 0, j, hj => by
  obtain rfl : j = W := by omega
  refine Ends.succ (fun k => by rw [recoupref04_wide.l0]) ?_
  exact Ends.neg (by omega) (Ends.const rfl)
 | n + 1, j, hj => by
  have hs := h.red j (by omega)
  have ih := Wide_l0 h n (j + 1) (by omega)
  have hm := h.m
  have hE : redA A (j + 1) = stepA j (redA A j) := rfl
  rw [hE] at ih
  obtain ⟨hS, hSl, hp, _⟩ := hs
  refine Ends.succ (fun k => by rw [recoupref04_wide.l0]) ?_
  refine Ends.pos (by omega) ?_
  generalize hT : redA A j = T at *
  have h1 := Wide_l1 hS (j := j) (by omega) T.2 (.inr (by omega)) (R := ((A.length : Int), (W : Int), (redA A W).1.flatten, (redA A W).2)) ?_ ?_ (T.1.length - T.2.length) T.2.length (by omega) rfl
  ·rw [hSl] at h1
   exact h1
  ·intro hf
   rw [stepA_none hf] at ih
   rw [hSl]
   exact ih
  ·intro i hf
   rw [stepA_some hf] at ih
   obtain ⟨q1, q2, q3, _⟩ := seekCol_spec _ _ hf
   have hb := hS.byte (i := i) (j := j) (by omega) (by omega)
   have hsw := hS.swap (top := T.2.length) (i := i) (invT_range hb q3) (by omega) (by omega)
   have hsl : (swapS (invT (entry T.1 i j)) T.1 T.2.length i).length = T.1.length := by simp [swapS]
   have h3 := Wide_l3 hsw (top := T.2.length) (j := j) (by omega) (by omega) T.2 (by omega) (R := ((A.length : Int), (W : Int), (redA A W).1.flatten, (redA A W).2)) (by rw [hsl, hSl]; rw [hSl] at ih; exact ih) T.1.length 0 (by omega)
   rw [hsl] at h3
   have h2 := Wide_l2 hS (top := T.2.length) (i := i) (j := j) (by omega) (by omega) (by omega) (invT_range hb q3) T.2 (by omega) h3 W 0 (by omega)
   rw [midW_zero _ (by omega) (by omega)] at h2
   exact h2
theorem wide_ends {W : Nat} {A : List (List Int)} (h : Sh A W) : Ends (fun k => recoupref04_wide.f k (A.length : Int) (W : Int) A.flatten) ((A.length : Int), (W : Int), (redA A W).1.flatten, (redA A W).2) := by
 unfold recoupref04_wide.f
 exact Wide_l0 h W 0 (by omega)
end Go.Proofs.Ytccfbhnhedoggaa.M
