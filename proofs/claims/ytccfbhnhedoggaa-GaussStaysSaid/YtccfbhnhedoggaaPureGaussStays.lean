import Derived.Test.YtccfbhnhedoggaaBGaussStays
import Derived.Test.YtccfbhnhedoggaaQx105
import Derived.Test.YtccfbhnhedoggaaQx114
import Derived.Test.YtccfbhnhedoggaaQx116
import Derived.Test.YtccfbhnhedoggaaQx121
import Derived.Test.YtccfbhnhedoggaaQx122
import Derived.Test.YtccfbhnhedoggaaQx155
import Derived.Test.YtccfbhnhedoggaaQx159
namespace Go.Proofs.Ytccfbhnhedoggaa.M
open Go.RowKit Go.Proofs.YtccfbhnhedoggaaW.PrintWords Go.Proofs.YtccfbhnhedoggaaW.PrintLast Go.Proofs.YtccfbhnhedoggaaW.PrintMore Go.Proofs.Ytccfbhnhedoggaa.Q
set_option linter.unusedVariables false
theorem stays_l0 {r c i j : Nat} {l : List Int} {x : Int} (hb : bytesB l = true) (hl : l.length = r * c) (hr : r ≤ 64) (hc : c ≤ 64) (hi : i < r) (hj : j < r) (hx : 0 ≤ x ∧ x < 256) (a b : Int) (L : List Int)
  (hR : Ends (fun k => (gauss_Reduce.f (r : Int) (c : Int) (macS (rowsOf c r l) j i x).flatten).bind fun bt393 => ((recouplaw04_anchored.f).bind fun t403 => (if t403 = true then (if bt393.2.2.2.2 = 0 then ((recoupref03_Like.f bt393.1 bt393.2.1 bt393.2.2.1 a b L).bind fun t404 => (some t404)) else (some false)) else (some false)))) true) :
  ∀ n q : Nat, q + n = c → Ends (fun k => recouplaw04_GaussStays.l0 k x (i : Int) (j : Int) (q : Int) (r : Int) (c : Int) l a b L (r : Int) (c : Int) ((rowsOf c r l).set j ((xorL (((rowsOf c r l).getD i []).map (mulT x)) ((rowsOf c r l).getD j [])).take q ++ ((rowsOf c r l).getD j []).drop q)).flatten) true
 | 0, q, hq => by
  obtain rfl : q = c := by omega
  have hf := flat_rowsOf r l hl
  have hlen := rowsOf_length q r l
  have e1 := hf.2.at (i := i) (by omega)
  have e2 := hf.2.at (i := j) (by omega)
  have e3 : (xorL (((rowsOf q r l).getD i []).map (mulT x)) ((rowsOf q r l).getD j [])).length = q := by unfold xorL; rw [List.length_zipWith, List.length_map]; omega
  refine Ends.succ (fun k => by rw [recouplaw04_GaussStays.l0]) ?_
  refine Ends.neg (by omega) ?_
  rw [List.take_of_length_le (by omega), List.drop_of_length_le (by omega), List.append_nil]
  exact hR
 | n + 1, q, hq => by
  have hqc : q < c := by omega
  have hq4 : q ≤ 4096 := by omega
  have hq64 : q ≤ 64 := by omega
  have hj64 : j ≤ 64 := by omega
  have hf := flat_rowsOf r l hl
  have hs := sh_rows hb hl hr hc
  have hlen := rowsOf_length c r l
  have e1 := hf.2.at (i := i) (by omega)
  have e2 := hf.2.at (i := j) (by omega)
  have e3 : (xorL (((rowsOf c r l).getD i []).map (mulT x)) ((rowsOf c r l).getD j [])).length = c := by unfold xorL; rw [List.length_zipWith, List.length_map]; omega
  have a1 := At_eq hf.2 (by omega) hc (i := i) (j := q) (by omega) hqc (r : Int)
  have a2 := At_eq hf.2 (by omega) hc (i := j) (j := q) (by omega) hqc (r : Int)
  rw [hf.1] at a1 a2
  have hib := hs.byte (i := i) (j := q) (by omega) hqc
  have hjl : j < (rowsOf c r l).length := by omega
  have hmid : ((xorL (((rowsOf c r l).getD i []).map (mulT x)) ((rowsOf c r l).getD j [])).take q ++ ((rowsOf c r l).getD j []).drop q).length = c := by rw [List.length_append, List.length_take, List.length_drop]; omega
  have hU := hf.2.set (k := j) hmid
  have hix := idx_lt (c := c) (n := r) hj hqc
  have ih := stays_l0 hb hl hr hc hi hj hx a b L hR n (q + 1) (by omega)
  refine Ends.succ (fun k => by rw [recouplaw04_GaussStays.l0]) ?_
  refine Ends.pos (by omega) ?_
  refine Ends.bind1 a1 ?_
  refine Ends.bind1 a2 ?_
  refine Ends.bind (mulT_ends hx hib) ?_
  rw [(idx_small (i := j) (c := c) (j := q) hj64 hc hq64).2]
  refine Ends.pos (Int.natCast_nonneg _) (Ends.pos (by rw [flat_len hU, List.length_set, hlen]; exact Int.ofNat_lt.2 hix) ?_)
  rw [Int.toNat_natCast, flat_set _ hU (by rw [List.length_set]; exact hjl) hqc, getD_set_self hjl, List.set_set, i64_succ hq4]
  have e4 : Go.bits .xor .u8 (mulT x (entry (rowsOf c r l) i q)) (entry (rowsOf c r l) j q) = (xorL (((rowsOf c r l).getD i []).map (mulT x)) ((rowsOf c r l).getD j [])).getD q 0 := by
   rw [xor_getD (by rw [List.length_map]; omega) (by omega), map_getD (by omega)]
   rfl
  rw [e4, mid_set (by omega) (by omega)]
  exact ih
end Go.Proofs.Ytccfbhnhedoggaa.M
namespace Go.Proofs.Ytccfbhnhedoggaa.Pure
open Go.RowKit Go.Proofs.Ytccfbhnhedoggaa.M Go.Proofs.Ytccfbhnhedoggaa.Q
set_option linter.unusedVariables false
/-- A reduced matrix is reduced to itself; what is done to rows leaves the reduced form. -/
theorem GaussStays : ∀ x0 : Q.S24, ((Lit.int .i64 x0.f0).wf = true ∧ ((Lit.int .i64 x0.f1).wf = true ∧ (x0.f2.length ≤ maxLen ∧ x0.f2.length * 1 ≤ 140737488351232 ∧ ∀ x5 ∈ x0.f2, (Lit.int .u8 x5).wf = true))) → ∀ x1 : Q.S40, ((Lit.int .i64 x1.f0).wf = true ∧ (Lit.int .i64 x1.f1).wf = true) → ∀ x2 : Int, (Lit.int .u8 x2).wf = true → ∃ k, Q.recouplaw04_GaussStays.f k x0.f0 x0.f1 x0.f2 x1.f0 x1.f1 x2 = some true := by
 rintro ⟨a, b, l⟩ ⟨ha, hb, _, _, hl⟩ ⟨u, v⟩ ⟨hu, hv⟩ x hx
 have hbl : bytesB l = true := bytesB_wf hl
 clear hl
 have hxb := wf_u8 hx
 have hR : recoupref03_Right.f a b l = matrix_Right.f a b l := Right_eq (wf_i64 ha)
 show ∃ k, Q.recouplaw04_GaussStays.f k a b l u v x = some true
 refine Ends.exists ?_
 unfold Q.recouplaw04_GaussStays.f
 rcases Right_cases a b l with h | h
 ·obtain ⟨r, c, rfl, rfl, hr, hc, hlen, _⟩ := right_nat (hR ▸ h)
  have hri := redL_ri hbl hlen hr hc
  have hRl : (redL r c l).1.1.length = r := hri.len.trans (rowsOf_length c r l)
  have hRf : (redL r c l).1.1.flatten.length = r * c := by rw [flat_len hri.sh.u, hRl]
  have hRb : bytesB (redL r c l).1.1.flatten = true := by
   have := hri.sh.b
   unfold rowsB at this
   unfold bytesB
   rw [List.all_eq_true] at this ⊢
   intro z hz
   obtain ⟨y, hy, hzy⟩ := List.mem_flatten.1 hz
   have h2 := this y hy
   unfold bytesB at h2
   rw [List.all_eq_true] at h2
   exact h2 z hzy
  have hrows : rowsOf c r (redL r c l).1.1.flatten = (redL r c l).1.1 := by
   refine List.ext_getElem (by rw [rowsOf_length, hRl]) fun i h1 h2 => ?_
   rw [rowsOf_elem, flat_row hri.sh.u h2, List.getD_eq_getElem?_getD, List.getElem?_eq_getElem h2, Option.getD_some]
  have hri2 := redL_ri hRb hRf hr hc
  rw [hrows] at hri2
  have hsame := (ri_unique hri hri2 (by rw [rowsOf_length, hRl]) (fun v => by rw [hRl, ← hri.span, rowsOf_length])).1
  refine Ends.bind1 (gReduce_eq (hR ▸ h) hbl) (Ends.bind1 h (Ends.pos rfl ?_))
  refine Ends.bind1 (gReduce_eq (right_of hr hc hRf).1 hRb) ?_
  refine Ends.pos rfl (Ends.pos rfl ?_)
  rw [← hsame]
  refine Ends.bind1 (Like_self _ _ _) ?_
  refine Ends.succ (fun k => by rw [recouplaw04_GaussStays.j0]) ?_
  refine Ends.neg (by decide) ?_
  have out : ∀ z, z = true → M.Ends (fun k => recouplaw04_GaussStays.j1 k x u v z (r : Int) (c : Int) l (r : Int) (c : Int) (redL r c l).1.1.flatten) true := fun z hz => by
   subst hz
   refine Ends.succ (fun k => by rw [recouplaw04_GaussStays.j1]) ?_
   exact Ends.pos rfl (Ends.bind1 anchored_ok (Ends.const rfl))
  by_cases h1 : u < 0
  ·exact Ends.pos h1 (out _ rfl)
  refine Ends.neg h1 ?_
  by_cases h2 : v < 0
  ·exact Ends.pos h2 (out _ rfl)
  refine Ends.neg h2 ?_
  by_cases h3 : u ≥ (r : Int)
  ·exact Ends.pos h3 (out _ rfl)
  refine Ends.neg h3 ?_
  by_cases h4 : v ≥ (r : Int)
  ·exact Ends.pos h4 (out _ rfl)
  refine Ends.neg h4 ?_
  by_cases h5 : u = v
  ·exact Ends.pos h5 (out _ rfl)
  refine Ends.neg h5 ?_
  by_cases h6 : x = 0
  ·exact out _ (by simp [h6])
  obtain ⟨i, rfl⟩ := Int.eq_ofNat_of_zero_le (Int.not_lt.1 h1)
  obtain ⟨j, rfl⟩ := Int.eq_ofNat_of_zero_le (Int.not_lt.1 h2)
  refine Ends.succ (fun k => by rw [recouplaw04_GaussStays.j1]) ?_
  refine Ends.neg (by simp [h6]) ?_
  refine Ends.bind1 (Copy_eq (Nat.le_trans (Nat.le_of_eq hlen) (Nat.mul_le_mul hr hc))) ?_
  have hsh := sh_rows hbl hlen hr hc
  have hMl := rowsOf_length c r l
  have hir : i < (rowsOf c r l).length := by rw [hMl]; omega
  have hjr : j < (rowsOf c r l).length := by rw [hMl]; omega
  have hij : j ≠ i := fun e => h5 (by rw [e])
  have hmac := hsh.mac hjr hir x
  have hml : (macS (rowsOf c r l) j i x).length = r := by simp [macS, hMl]
  have h0 := stays_l0 hbl hlen hr hc (by rw [hMl] at hir; exact hir) (by rw [hMl] at hjr; exact hjr) (x := x) ⟨hxb.1, by omega⟩ (r : Int) (c : Int) (redL r c l).1.1.flatten ?_ c 0 (Nat.zero_add _)
  ·rw [List.take_zero, List.nil_append, List.drop_zero, set_getD_self hjr, (flat_rowsOf r l hlen).1] at h0
   exact h0
  ·have hof : (macS (rowsOf c r l) j i x).flatten.length = r * c := by rw [flat_len hmac.u, hml]
   have hob : bytesB (macS (rowsOf c r l) j i x).flatten = true := by
    have := hmac.b
    unfold rowsB at this
    unfold bytesB
    rw [List.all_eq_true] at this ⊢
    intro z hz
    obtain ⟨y, hy, hzy⟩ := List.mem_flatten.1 hz
    have h2 := this y hy
    unfold bytesB at h2
    rw [List.all_eq_true] at h2
    exact h2 z hzy
   have horows : rowsOf c r (macS (rowsOf c r l) j i x).flatten = macS (rowsOf c r l) j i x := by
    refine List.ext_getElem (by rw [rowsOf_length, hml]) fun i h1 h2 => ?_
    rw [rowsOf_elem, flat_row hmac.u h2, List.getD_eq_getElem?_getD, List.getElem?_eq_getElem h2, Option.getD_some]
   have hri3 := redL_ri hob hof hr hc
   rw [horows] at hri3
   have hsp := span_mac hsh (c := x) ⟨hxb.1, by omega⟩ hir hjr hij
   have hsame3 := (ri_unique hri hri3 (by rw [hMl, hml]) (fun v => by have h9 := (hsp v).symm; rw [hMl] at h9; rw [hMl, hml]; exact h9)).1
   refine Ends.bind1 (gReduce_eq (right_of hr hc hof).1 hob) ?_
   refine Ends.bind1 anchored_ok (Ends.pos rfl (Ends.pos rfl ?_))
   rw [← hsame3]
   exact Ends.bind1 (Like_self _ _ _) (Ends.const rfl)
 ·refine Ends.bind1 (gReduce_bad (hR ▸ h)) (Ends.bind1 h (Ends.neg (by decide) ?_))
  exact Ends.bind1 anchored_ok (Ends.pos rfl (Ends.const rfl))
end Go.Proofs.Ytccfbhnhedoggaa.Pure
