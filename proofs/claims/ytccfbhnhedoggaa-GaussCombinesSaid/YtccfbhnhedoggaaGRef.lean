import Derived.Test.YtccfbhnhedoggaaGFlat
namespace Go.Proofs.Ytccfbhnhedoggaa.M
open Go.RowKit Go.Proofs.YtccfbhnhedoggaaW.PrintWords Go.Proofs.YtccfbhnhedoggaaW.PrintLast Go.Proofs.YtccfbhnhedoggaaW.PrintMore Go.Proofs.Ytccfbhnhedoggaa.Q
set_option linter.unusedVariables false

theorem U.of {M D : List (List Int)} {cols wd : Nat} (h : Shp M D cols wd) : U M cols := fun r hr => by
 obtain ⟨i, hi, rfl⟩ := List.getElem_of_mem hr
 have := h.eM i hi
 rwa [List.getD_eq_getElem?_getD, List.getElem?_eq_getElem hi, Option.getD_some] at this
/-! ### Pick, by an order -/
theorem Pick_l1 {c : Nat} {M : List (List Int)} (h : U M c) (hm : M.length ≤ 64) (hc : c ≤ 64) {L : List Int} (hL : ∀ x ∈ L, 0 ≤ x ∧ x < (M.length : Int)) (hl : L.length ≤ 64) (a b : Int) : ∀ n i : Nat, i + n = L.length →
  Ends (fun k => recoupref03_Pick.l1 k L (i : Int) (M.length : Int) (c : Int) M.flatten a b ((L.take i).map fun x => M.getD x.toNat []).flatten) (a, b, (L.map fun x => M.getD x.toNat []).flatten, 0)
 | 0, i, hi => by
  refine Ends.succ (fun k => by rw [recoupref03_Pick.l1]) (Ends.neg (by omega) (Ends.const ?_))
  rw [List.take_of_length_le (by omega)]
 | n + 1, i, hi => by
  have hiL : i < L.length := by omega
  refine Ends.succ (fun k => by rw [recoupref03_Pick.l1]) (Ends.pos (by omega) ?_)
  refine Ends.pos (Int.natCast_nonneg _) ?_
  have hx := hL _ (List.getElem_mem hiL)
  obtain ⟨x, hx'⟩ := Int.eq_ofNat_of_zero_le hx.1
  rw [rd_nat, List.getD_eq_getElem?_getD, List.getElem?_eq_getElem hiL, Option.getD_some, hx']
  have hxm : x < M.length := by omega
  refine Ends.bind (Row_ends h hm hc hxm) ?_
  have hfl : ((L.take i).map fun x => M.getD x.toNat []).flatten.length = i * c := by
   have hu : U ((L.take i).map fun x => M.getD x.toNat []) c := fun r hr => by
    obtain ⟨y, hy, rfl⟩ := List.mem_map.1 hr
    have := hL y (List.mem_of_mem_take hy)
    exact h.at (by omega)
   rw [flat_len hu, List.length_map, List.length_take, Nat.min_eq_left (by omega)]
  have hic : i * c ≤ 64 * 64 := Nat.mul_le_mul (by omega) hc
  have hrl := h.at hxm
  refine Ends.pos (by rw [hfl, hrl]; omega) ?_
  have e2 : wrap64 ((i : Int) + 1) = ((i + 1 : Nat) : Int) := by rw [w64 (by omega) (by omega)]; omega
  have e3 : ((L.take i).map fun x => M.getD x.toNat []).flatten ++ M.getD x [] = ((L.take (i + 1)).map fun x => M.getD x.toNat []).flatten := by
   rw [List.take_succ_eq_append_getElem hiL, List.map_append, List.flatten_append, hx']
   simp
  rw [e2, e3]
  exact Pick_l1 h hm hc hL hl a b n (i + 1) (by omega)
theorem Pick_l0 {c : Nat} {M : List (List Int)} (h : U M c) (hm : M.length ≤ 64) (hc : c ≤ 64) {L : List Int} (hL : ∀ x ∈ L, 0 ≤ x ∧ x < (M.length : Int)) (hl : L.length ≤ 64) : ∀ n i : Nat, i + n = L.length →
  Ends (fun k => recoupref03_Pick.l0 k L (i : Int) (M.length : Int) (c : Int) M.flatten) ((L.length : Int), (c : Int), (L.map fun x => M.getD x.toNat []).flatten, 0)
 | 0, i, hi => by
  refine Ends.succ (fun k => by rw [recoupref03_Pick.l0]) (Ends.neg (by omega) (Ends.neg (by omega) ?_))
  exact Pick_l1 h hm hc hL hl _ _ L.length 0 (by omega)
 | n + 1, i, hi => by
  have hiL : i < L.length := by omega
  have hx := hL _ (List.getElem_mem hiL)
  refine Ends.succ (fun k => by rw [recoupref03_Pick.l0]) (Ends.pos (by omega) ?_)
  refine Ends.pos (Int.natCast_nonneg _) ?_
  have e : rd L (i : Int) = L[i] := by rw [rd_nat, List.getD_eq_getElem?_getD, List.getElem?_eq_getElem hiL, Option.getD_some]
  rw [e]
  refine Ends.neg (by omega) (Ends.neg (by omega) ?_)
  have e2 : wrap64 ((i : Int) + 1) = ((i + 1 : Nat) : Int) := by rw [w64 (by omega) (by omega)]; omega
  rw [e2]
  exact Pick_l0 h hm hc hL hl n (i + 1) (by omega)
theorem Pick_ends {c : Nat} {M : List (List Int)} (h : U M c) (hm : M.length ≤ 64) (hc : c ≤ 64) {L : List Int} (hL : ∀ x ∈ L, 0 ≤ x ∧ x < (M.length : Int)) (hl : L.length ≤ 64) :
  Ends (fun k => recoupref03_Pick.f k (M.length : Int) (c : Int) M.flatten L) ((L.length : Int), (c : Int), (L.map fun x => M.getD x.toNat []).flatten, 0) := by
 unfold recoupref03_Pick.f
 exact Ends.bind1 (Right_true h hm hc) (Ends.pos rfl (Pick_l0 h hm hc hL hl L.length 0 (by omega)))

/-! ### the reference's Reduce -/
/-- Rows top and i change places. -/
def sw (M : List (List Int)) (top i : Nat) : List (List Int) := (M.set i (M.getD top [])).set top (M.getD i [])
def ordL (n top i : Nat) : List Int := (((List.range n).map fun (x : Nat) => (x : Int)).set top (i : Int)).set i (top : Int)
theorem ordL_map {M : List (List Int)} {top i : Nat} (ht : top < M.length) (hi : i < M.length) : ((ordL M.length top i).map fun x => M.getD x.toNat []) = sw M top i := by
 unfold ordL sw
 refine List.ext_getElem (by simp) fun p h1 h2 => ?_
 have hp : p < M.length := by simpa using h2
 rw [List.getElem_map, List.getElem_set, List.getElem_set, List.getElem_set, List.getElem_set, List.getElem_map, List.getElem_range]
 by_cases e1 : i = p
 ·subst e1
  by_cases e2 : top = i
  ·subst e2; simp
  ·rw [if_pos rfl, if_neg e2, if_pos rfl]; simp
 ·by_cases e2 : top = p
  ·subst e2
   rw [if_neg e1, if_pos rfl, if_pos rfl]; simp
  ·rw [if_neg e1, if_neg e2, if_neg e2, if_neg e1]
   simp [List.getElem?_eq_getElem hp]
theorem ordL_range {n top i : Nat} (ht : top < n) (hi : i < n) : ∀ x ∈ ordL n top i, 0 ≤ x ∧ x < (n : Int) := fun x hx => by
 unfold ordL at hx
 rcases List.mem_or_eq_of_mem_set hx with hx | rfl
 ·rcases List.mem_or_eq_of_mem_set hx with hx | rfl
  ·obtain ⟨y, hy, rfl⟩ := List.mem_map.1 hx
   have : y < n := by simpa using hy
   omega
  ·omega
 ·omega
theorem mid_set {g r : List Int} {l : Nat} (hg : l < g.length) (hr : g.length = r.length) : (g.take l ++ r.drop l).set l (g.getD l 0) = g.take (l + 1) ++ r.drop (l + 1) := by
 rw [List.set_append_right _ _ (by rw [List.length_take]; omega), List.length_take, Nat.min_eq_left (by omega), Nat.sub_self, List.drop_eq_getElem_cons (by omega : l < r.length), List.set_cons_zero, List.take_succ_eq_append_getElem hg, List.append_assoc, List.getD_eq_getElem?_getD, List.getElem?_eq_getElem hg]
 rfl
theorem mid_get {g r : List Int} {l : Nat} (hg : l < g.length) (hr : g.length = r.length) : (g.take l ++ r.drop l).getD l 0 = r.getD l 0 := by
 rw [List.getD_eq_getElem?_getD, List.getD_eq_getElem?_getD, List.getElem?_append_right (by rw [List.length_take]; omega), List.length_take, Nat.min_eq_left (by omega), Nat.sub_self, List.getElem?_drop, Nat.add_zero]
/-- A row with a multiple of another put to it, as the reference does it. -/
def xrow (c : Int) (r s : List Int) : List Int := List.zipWith (fun x y => Go.bits .xor .u8 x (mulT c y)) r s
theorem xrow_mac (c : Int) (r s : List Int) : xrow c r s = xorL (s.map (mulT c)) r := by
 unfold xrow xorL
 rw [List.zipWith_map_left, List.zipWith_comm]
 congr 1
 funext a b
 show IntKind.u8.wrap ((BitVec.ofInt 8 _ ^^^ BitVec.ofInt 8 _).toNat : Int) = IntKind.u8.wrap ((BitVec.ofInt 8 _ ^^^ BitVec.ofInt 8 _).toNat : Int)
 rw [BitVec.xor_comm]
theorem xrow_zero {r s : List Int} (hr : bytesB r = true) (hl : r.length = s.length) : xrow 0 r s = r := by
 unfold xrow
 refine List.ext_getElem (by simp [hl]) fun p h1 h2 => ?_
 rw [List.getElem_zipWith]
 have hb := bytesB_at hr h2
 rw [List.getD_eq_getElem?_getD, List.getElem?_eq_getElem h2, Option.getD_some] at hb
 refine toE_inj (xor_range _ _) hb ?_
 rw [xor_el]
 show toE r[p] + toE (mulT 0 _) = _
 rw [show mulT 0 (s[p]'(by omega)) = 0 from by unfold mulT; rw [if_pos rfl], toE_zero, add_zero]
end Go.Proofs.Ytccfbhnhedoggaa.M
