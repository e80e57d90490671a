import Derived.Test.YtccfbhnhedoggaaGRef
namespace Go.Proofs.Ytccfbhnhedoggaa.M
open Go.RowKit Go.Proofs.YtccfbhnhedoggaaW.PrintWords Go.Proofs.YtccfbhnhedoggaaW.PrintLast Go.Proofs.YtccfbhnhedoggaaW.PrintMore Go.Proofs.Ytccfbhnhedoggaa.Q
set_option linter.unusedVariables false
theorem i64_succ {i : Nat} (h : i ≤ 4096) : wrap64 ((i : Int) + 1) = ((i + 1 : Nat) : Int) := by rw [w64 (by omega) (by omega)]; omega
theorem getD_set_self {α : Type} {l : List α} {i : Nat} {v d : α} (h : i < l.length) : (l.set i v).getD i d = v := by
 rw [List.getD_eq_getElem?_getD, List.getElem?_set_self h, Option.getD_some]
theorem getD_set_ne {α : Type} {l : List α} {i j : Nat} {v d : α} (h : i ≠ j) : (l.set i v).getD j d = l.getD j d := by
 rw [List.getD_eq_getElem?_getD, List.getD_eq_getElem?_getD, List.getElem?_set_ne h]
theorem set_getD_self {α : Type} {l : List α} {i : Nat} {d : α} (h : i < l.length) : l.set i (l.getD i d) = l := by
 rw [List.getD_eq_getElem?_getD, List.getElem?_eq_getElem h, Option.getD_some, List.set_getElem_self]
theorem xrow_length {c : Int} {r s : List Int} (h : r.length = s.length) : (xrow c r s).length = r.length := by unfold xrow; rw [List.length_zipWith]; omega
theorem xrow_get {c : Int} {r s : List Int} {l : Nat} (h1 : l < r.length) (h2 : l < s.length) : (xrow c r s).getD l 0 = Go.bits .xor .u8 (r.getD l 0) (mulT c (s.getD l 0)) := by
 unfold xrow
 rw [List.getD_eq_getElem?_getD, List.getD_eq_getElem?_getD, List.getD_eq_getElem?_getD, List.getElem?_zipWith, List.getElem?_eq_getElem h1, List.getElem?_eq_getElem h2]
 rfl
theorem Red_l4 {C : Nat} {M : List (List Int)} (h : U M C) (hm : M.length ≤ 64) (hc : C ≤ 64) {kk : Nat} (hk : kk < M.length) {s : List Int} (hs : s.length = C) (hsb : bytesB s = true) {c : Int} (hcb : 0 ≤ c ∧ c < 256) (x6 : List Int) (x7 x8 : Int) {R : Int × Int × List Int × List Int × Int}
  (hR : Ends (fun q => recoupref04_Reduce.l3 q x6 x7 x8 s ((kk + 1 : Nat) : Int) (M.length : Int) (C : Int) (M.set kk (xrow c (M.getD kk []) s)).flatten) R) :
  ∀ n l : Nat, l + n = C → Ends (fun q => recoupref04_Reduce.l4 q x6 x7 x8 s (kk : Int) c (l : Int) (M.length : Int) (C : Int) (M.set kk ((xrow c (M.getD kk []) s).take l ++ (M.getD kk []).drop l)).flatten) R
 | 0, l, hl => by
  obtain rfl : l = C := by omega
  have hr := h.at hk
  have hg := xrow_length (c := c) (hr.trans hs.symm)
  refine Ends.succ (fun k => by rw [recoupref04_Reduce.l4]) (Ends.neg (by omega) ?_)
  have e1 : (xrow c (M.getD kk []) s).take l = xrow c (M.getD kk []) s := List.take_of_length_le (by rw [hg, hr]; exact Nat.le_refl _)
  have e2 : (M.getD kk []).drop l = [] := List.drop_of_length_le (by rw [hr]; exact Nat.le_refl _)
  have e3 := i64_succ (i := kk) (by clear hR e1 e2 hg hr hcb; omega)
  rw [e1, e2, List.append_nil, e3]
  exact hR
 | n + 1, l, hl => by
  have hr := h.at hk
  have hg := xrow_length (c := c) (hr.trans hs.symm)
  have hlC : l < C := by omega
  have hk64 : kk ≤ 64 := by omega
  have hl64 : l ≤ 64 := by omega
  have hmid : ((xrow c (M.getD kk []) s).take l ++ (M.getD kk []).drop l).length = C := by rw [List.length_append, List.length_take, List.length_drop]; omega
  have hU := h.set (k := kk) hmid
  have hlen : (M.set kk ((xrow c (M.getD kk []) s).take l ++ (M.getD kk []).drop l)).length = M.length := List.length_set
  refine Ends.succ (fun k => by rw [recoupref04_Reduce.l4]) (Ends.pos (by omega) ?_)
  rw [(idx_small (i := kk) (c := C) (j := l) hk64 hc hl64).2]
  refine Ends.pos (Int.natCast_nonneg _) ?_
  have hix := idx_lt (c := C) hk hlC
  refine Ends.pos (by rw [flat_len hU, hlen]; exact Int.ofNat_lt.2 hix) ?_
  refine Ends.pos (Int.natCast_nonneg _) ?_
  have hls : l < s.length := by rw [hs]; exact hlC
  refine Ends.pos (Int.ofNat_lt.2 hls) ?_
  rw [rd_nat]
  refine Ends.bind (mulT_ends hcb (bytesB_at hsb hls)) ?_
  have e2 : (M.set kk ((xrow c (M.getD kk []) s).take l ++ (M.getD kk []).drop l)).flatten.set (((kk * C + l : Nat) : Int)).toNat (Go.bits .xor .u8 (rd (M.set kk ((xrow c (M.getD kk []) s).take l ++ (M.getD kk []).drop l)).flatten ((kk * C + l : Nat) : Int)) (mulT c (s.getD l 0))) = (M.set kk ((xrow c (M.getD kk []) s).take (l + 1) ++ (M.getD kk []).drop (l + 1))).flatten := by
   rw [rd_nat, Int.toNat_natCast, flat_get hU (by omega) hlC, flat_set _ hU (by omega) hlC, getD_set_self hk, List.set_set]
   have e3 : entry (M.set kk ((xrow c (M.getD kk []) s).take l ++ (M.getD kk []).drop l)) kk l = (M.getD kk []).getD l 0 := by
    unfold entry
    rw [getD_set_self hk, mid_get (by omega) (by omega)]
   rw [e3, ← xrow_get (by omega) (by omega), mid_set (by omega) (by omega)]
  rw [e2, i64_succ (by omega)]
  exact Red_l4 h hm hc hk hs hsb hcb x6 x7 x8 hR n (l + 1) (by omega)
theorem elim_top {col top : Nat} {s : List (List Int) × List (List Int)} : ∀ k, (elimTo col top k s).1.getD top [] = s.1.getD top []
 | 0 => rfl
 | k + 1 => by
  unfold elimTo
  simp only []
  split
  ·rename_i hh
   unfold macS
   rw [getD_set_ne hh.1]
   exact elim_top k
  ·exact elim_top k
theorem rows_bytes {M : List (List Int)} (h : rowsB M = true) (i : Nat) : bytesB (M.getD i []) = true := rowsB_at h i
theorem Red_l3 {C wd : Nat} {S D : List (List Int)} (h : Shp S D C wd) {top j : Nat} (ht : top < S.length) (hj : j < C) (x6 : List Int) (h6 : x6.length ≤ 64) {R : Int × Int × List Int × List Int × Int}
  (hR : Ends (fun q => recoupref04_Reduce.l0 q (x6 ++ [(j : Int)]) ((j + 1 : Nat) : Int) (S.length : Int) (C : Int) (elimTo j top S.length (S, D)).1.flatten) R) :
  ∀ n k : Nat, k + n = S.length → Ends (fun q => recoupref04_Reduce.l3 q x6 (j : Int) (top : Int) (S.getD top []) (k : Int) (S.length : Int) (C : Int) (elimTo j top k (S, D)).1.flatten) R
 | 0, k, hk => by
  obtain rfl : k = S.length := by omega
  refine Ends.succ (fun k => by rw [recoupref04_Reduce.l3]) (Ends.neg (by omega) (Ends.pos (by omega) ?_))
  have := h.small.2.1
  rw [i64_succ (by omega)]
  exact hR
 | n + 1, k, hk => by
  have hkS : k < S.length := by omega
  obtain ⟨hT, hTl⟩ := elim_shp (col := j) h ht k (by omega)
  have hm := h.small.1
  have hc := h.small.2.1
  have ih := Red_l3 h ht hj x6 h6 hR n (k + 1) (by omega)
  refine Ends.succ (fun k => by rw [recoupref04_Reduce.l3]) (Ends.pos (by omega) ?_)
  by_cases e : k = top
  ·refine Ends.pos (by omega) ?_
   rw [i64_succ (by omega)]
   have e1 : elimTo j top (k + 1) (S, D) = elimTo j top k (S, D) := by
    conv => lhs; unfold elimTo
    simp only []
    rw [if_neg (fun hh => hh.1 e)]
   rw [e1] at ih
   exact ih
  ·refine Ends.neg (by omega) ?_
   have hst := elim_top (col := j) (top := top) (s := (S, D)) k
   have hEx : elimTo j top (k + 1) (S, D) = (if k ≠ top ∧ entry (elimTo j top k (S, D)).1 k j ≠ 0 then (macS (elimTo j top k (S, D)).1 k top (entry (elimTo j top k (S, D)).1 k j), macS (elimTo j top k (S, D)).2 k top (entry (elimTo j top k (S, D)).1 k j)) else elimTo j top k (S, D)) := by
    conv => lhs; unfold elimTo
   rw [hEx] at ih
   generalize elimTo j top k (S, D) = T at *
   have hUT := U.of hT
   rw [← hTl]
   refine Ends.bind1 (At_eq hUT (by omega) hc (by omega) hj _) ?_
   have hcb := entry_byte hT (i := k) (j := j) (by omega) hj
   have hst' : T.1.getD top [] = S.getD top [] := hst
   have hs : (S.getD top []).length = C := h.eM top ht
   have h0 := Red_l4 hUT (by omega) hc (kk := k) (by omega) hs (rows_bytes h.bM top) hcb x6 (j : Int) (top : Int) (R := R) ?_ C 0 (by omega)
   ·rw [List.take_zero, List.nil_append, List.drop_zero, set_getD_self (by omega)] at h0
    exact h0
   ·rw [hTl]
    by_cases e0 : entry T.1 k j = 0
    ·rw [if_neg (fun hh => hh.2 e0)] at ih
     rw [e0, xrow_zero (rows_bytes hT.bM k) (by rw [hT.eM k (by omega), hs]), set_getD_self (by omega)]
     exact ih
    ·rw [if_pos ⟨e, e0⟩] at ih
     unfold macS at ih
     rw [hst'] at ih
     rw [xrow_mac]
     exact ih
theorem Red_l2 {C wd : Nat} {M D : List (List Int)} (h : Shp M D C wd) {top i j : Nat} (ht : top < M.length) (hi : i < M.length) (hj : j < C) (h0 : entry M i j ≠ 0) (x6 : List Int) (h6 : x6.length ≤ 64) {R : Int × Int × List Int × List Int × Int}
  (hR : Ends (fun q => recoupref04_Reduce.l0 q (x6 ++ [(j : Int)]) ((j + 1 : Nat) : Int) (M.length : Int) (C : Int) (stepAt M D top i j).1.flatten) R) :
  ∀ n k : Nat, k + n = M.length → Ends (fun q => recoupref04_Reduce.l2 q x6 (j : Int) (top : Int) (i : Int) (((List.range M.length).map fun (x : Nat) => (x : Int)).take k ++ (List.replicate M.length (0 : Int)).drop k) (k : Int) (M.length : Int) (C : Int) M.flatten) R
 | 0, k, hk => by
  obtain rfl : k = M.length := by omega
  have hm := h.small.1
  have hc := h.small.2.1
  have hU := U.of h
  have hlen : (((List.range M.length).map fun (x : Nat) => (x : Int)).take M.length ++ (List.replicate M.length (0 : Int)).drop M.length) = ((List.range M.length).map fun (x : Nat) => (x : Int)) := by
   rw [List.take_of_length_le (by simp), List.drop_of_length_le (by simp), List.append_nil]
  refine Ends.succ (fun k => by rw [recoupref04_Reduce.l2]) (Ends.neg (by omega) ?_)
  rw [hlen]
  have hl2 : (((List.range M.length).map fun (x : Nat) => (x : Int)).length : Int) = (M.length : Int) := by simp
  rw [hl2]
  refine Ends.pos (Int.natCast_nonneg _) (Ends.pos (by omega) (Ends.pos (Int.natCast_nonneg _) (Ends.pos (by omega) ?_)))
  have ho : ((((List.range M.length).map fun (x : Nat) => (x : Int)).set ((top : Int)).toNat (i : Int)).set ((i : Int)).toNat (top : Int)) = ordL M.length top i := rfl
  rw [ho]
  have hol : (ordL M.length top i).length = M.length := by simp [ordL]
  refine Ends.bind (Pick_ends hU hm hc (ordL_range ht hi) (by omega)) ?_
  rw [ordL_map ht hi, hol]
  have hsl : (sw M top i).length = M.length := by simp [sw]
  have hUs : U (sw M top i) C := (hU.set (k := i) (hU.at ht)).set (hU.at hi)
  have hst : (sw M top i).getD top [] = M.getD i [] := by unfold sw; rw [getD_set_self (by simpa using ht)]
  have hA := At_eq hUs (by omega) hc (i := top) (by omega) hj (M.length : Int)
  have he : entry (sw M top i) top j = entry M i j := by unfold entry; rw [hst]
  rw [he] at hA
  refine Ends.bind1 hA ?_
  have hb := entry_byte h hi hj
  refine Ends.bind (Inv_ends hb h0) ?_
  have hRw := Row_ends hUs (by omega) hc (i := top) (by omega)
  rw [hsl, hst] at hRw
  refine Ends.bind hRw ?_
  refine Ends.bind (Scale_ends (invT_range hb h0) (rows_bytes h.bM i) (by rw [h.eM i hi]; omega)) ?_
  have ht64 : top ≤ 64 := by omega
  have hix := idx_lt (c := C) ht (by omega : 0 < C)
  have hfl : (sw M top i).flatten.length = M.length * C := by rw [flat_len hUs, hsl]
  show Ends (fun k => if 0 ≤ wrap64 ((top : Int) * (C : Int)) then if wrap64 ((top : Int) * (C : Int)) < ((sw M top i).flatten.length : Int) then recoupref04_Reduce.l3 k x6 (j : Int) (top : Int) ((M.getD i []).map (mulT (invT (entry M i j)))) 0 (M.length : Int) (C : Int) (copyL (sw M top i).flatten (wrap64 ((top : Int) * (C : Int))) ((M.getD i []).map (mulT (invT (entry M i j))))) else none else none) R
  rw [(idx_small (i := top) (c := C) (j := 0) ht64 hc (by decide)).1, hfl]
  refine Ends.pos (Int.natCast_nonneg _) (Ends.pos (Int.ofNat_lt.2 (by omega)) ?_)
  have hrl : ((M.getD i []).map (mulT (invT (entry M i j)))).length = C := by rw [List.length_map]; exact h.eM i hi
  have hcp : copyL (sw M top i).flatten ((top * C : Nat) : Int) ((M.getD i []).map (mulT (invT (entry M i j)))) = (swapS (invT (entry M i j)) M top i).flatten := by
   unfold copyL
   have : (top + 1) * C ≤ M.length * C := Nat.mul_le_mul_right _ ht
   rw [Nat.succ_mul] at this
   rw [Int.toNat_natCast, hfl, List.take_of_length_le (by omega), flat_splice hUs (by omega) hrl]
   rfl
  rw [hcp]
  have hS := h.swap (o := invT (entry M i j)) ht hi
  have hSl : (swapS (invT (entry M i j)) M top i).length = M.length := by simp [swapS]
  have hSt : (swapS (invT (entry M i j)) M top i).getD top [] = (M.getD i []).map (mulT (invT (entry M i j))) := by
   unfold swapS
   rw [getD_set_self (by simpa using ht)]
  have := Red_l3 hS (by omega : top < _) hj x6 h6 (R := R) (by rw [hSl]; exact hR) M.length 0 (by omega)
  rw [hSl, hSt] at this
  exact this
 | n + 1, k, hk => by
  have hm := h.small.1
  refine Ends.succ (fun k => by rw [recoupref04_Reduce.l2]) (Ends.pos (by omega) (Ends.pos (Int.natCast_nonneg _) ?_))
  refine Ends.pos (by simp; omega) ?_
  have e := mid_set (g := (List.range M.length).map fun (x : Nat) => (x : Int)) (r := List.replicate M.length (0 : Int)) (l := k) (by simp; omega) (by simp)
  have e1 : ((List.range M.length).map fun (x : Nat) => (x : Int)).getD k 0 = (k : Int) := by
   rw [List.getD_eq_getElem?_getD, List.getElem?_map, List.getElem?_range (by omega)]
   rfl
  rw [e1] at e
  rw [Int.toNat_natCast, e, i64_succ (by omega)]
  exact Red_l2 h ht hi hj h0 x6 h6 hR n (k + 1) (by omega)
end Go.Proofs.Ytccfbhnhedoggaa.M
