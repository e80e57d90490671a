import Derived.Test.YtccfbhnhedoggaaQx20
import Derived.Test.YtccfbhnhedoggaaQx16
import Derived.Test.YtccfbhnhedoggaaQx19
import Derived.Test.YtccfbhnhedoggaaGEnt
namespace Go.Proofs.Ytccfbhnhedoggaa.M
open Go.RowKit Go.Proofs.YtccfbhnhedoggaaW.PrintWords Go.Proofs.YtccfbhnhedoggaaW.PrintLast Go.Proofs.YtccfbhnhedoggaaW.PrintMore Go.Proofs.Ytccfbhnhedoggaa.Q
set_option linter.unusedVariables false
/-! ### Inverse -/
theorem unit_getD {n i b : Nat} (hb : b < n) : (unitRow n i).getD b 0 = if b = i then 1 else 0 := by
  unfold unitRow
  by_cases e : b = i
  · subst e
    rw [if_pos rfl, getD_set_self (by simpa using hb)]
  · rw [if_neg e, getD_set_ne (fun x => e x.symm), List.getD_eq_getElem?_getD, List.getElem?_replicate_of_lt hb]
    rfl
theorem units_length (n i : Nat) : (unitsTo n i).length = n := by simp [unitsTo]
theorem units_get {n k : Nat} (hk : k < n) : (unitsTo n n).getD k [] = unitRow n k := by
  unfold unitsTo
  rw [List.getD_eq_getElem?_getD, List.getElem?_map, List.getElem?_range hk]
  simp [hk]
theorem unit_bytes (n i : Nat) : bytesB (unitRow n i) = true := by
  unfold bytesB
  rw [List.all_eq_true]
  intro x hx
  unfold unitRow at hx
  rcases List.mem_or_eq_of_mem_set hx with h | rfl
  · rw [List.eq_of_mem_replicate h]; rfl
  · rfl
theorem shp_units {n : Nat} {l : List Int} (hb : bytesB l = true) (hl : l.length = n * n) (hn : n ≤ 64) : Shp (rowsOf n n l) (unitsTo n n) n n := by
  refine shp_of hb hl ⟨hn, hn⟩ (units_length n n) ?_ (fun i hi => by rw [units_get hi]; simp [unitRow]) hn
  rw [rowsB, List.all_eq_true]
  intro x hx
  obtain ⟨i, hi, rfl⟩ := List.getElem_of_mem hx
  have hin : i < n := by rw [units_length] at hi; exact hi
  have := units_get hin
  rw [List.getD_eq_getElem?_getD, List.getElem?_eq_getElem hi, Option.getD_some] at this
  rw [this]
  exact unit_bytes n i
/-- The unit vectors' columns. -/
theorem units_col {n i q : Nat} (hi : i < n) (hq : q < n) : entry (unitsTo n n) i q = entry (Ycol (unitRow n q) n) i 0 := by
  have e1 : (Ycol (unitRow n q) n).getD i [] = colRow (unitRow n q) i := fill_get hi
  unfold entry
  rw [units_get hi, e1, unit_getD hq]
  show _ = (unitRow n q).getD i 0
  rw [unit_getD hi]
  by_cases e : q = i
  · rw [if_pos e, if_pos e.symm]
  · rw [if_neg e, if_neg (fun x => e x.symm)]
/-- What stands beside, reduced. -/
def invD (n : Nat) (l : List Int) : List (List Int) := (redTo (rowsOf n n l) (unitsTo n n) n).1.2
theorem solve_range {D : List (List Int)} {n : Nat} : ∀ k, k ≤ n → ∀ i, i < n → (solveTo ((List.range n).map fun (x : Nat) => (x : Int)) D n k).getD i 0 = if i < k then entry D i 0 else 0
  | 0, _, i, hi => by
    rw [if_neg (by omega)]
    unfold solveTo
    rw [List.getD_eq_getElem?_getD, List.getElem?_replicate_of_lt hi]
    rfl
  | k + 1, hk, i, hi => by
    have ih := solve_range (D := D) (n := n) k (by omega) i hi
    have e1 : ((List.range n).map fun (x : Nat) => (x : Int)).getD k 0 = (k : Int) := by
      rw [List.getD_eq_getElem?_getD, List.getElem?_map, List.getElem?_range (by omega)]
      rfl
    rw [solveTo, if_pos (by simp; omega), e1, Int.toNat_natCast]
    by_cases e : i = k
    · subst e
      rw [getD_set_self (by rw [solveTo_length]; exact hi), if_pos (by omega)]
    · rw [getD_set_ne (fun x => e x.symm), ih]
      by_cases e2 : i < k
      · rw [if_pos e2, if_pos (by omega)]
      · rw [if_neg e2, if_neg (by omega)]
/-- Column j, solved. -/
theorem inv_col {n j : Nat} {l : List Int} (hb : bytesB l = true) (hl : l.length = n * n) (hn : n ≤ 64) (hf : (redL n n l).2.length = n) (hj : j < n) :
    ∃ c : List Int, solR n n l (unitRow n j) = (c, true, 0) ∧ c.length = n ∧ ∀ i, i < n → c.getD i 0 = entry (invD n l) i j := by
  have hY : Shp (rowsOf n n l) (Ycol (unitRow n j) n) n 1 := shp_Y hb (unit_bytes n j) hl hn hn (by simp [unitRow])
  have hD := shp_units hb hl hn
  have hlen := rowsOf_length n n l
  have e := red_same (rowsOf n n l) (List.replicate n []) (Ycol (unitRow n j) n) n
  have hf2 : (redTo (rowsOf n n l) (Ycol (unitRow n j) n) n).2.length = n := by rw [← e.2]; exact hf
  have hP := red_full hY hf2 n (Nat.le_refl _)
  unfold solR
  simp only []
  have hbad : ¬ badFrom (redTo (rowsOf n n l) (Ycol (unitRow n j) n) n).2 (redTo (rowsOf n n l) (Ycol (unitRow n j) n) n).1.2 n 0 = true := by
    rw [bad_iff]
    rintro ⟨i, _, h2, h3, _⟩
    omega
  rw [if_neg hbad]
  refine ⟨_, rfl, solveTo_length _ _ _ _, fun i hi => ?_⟩
  rw [hP, solve_range n (Nat.le_refl _) i hi, if_pos hi]
  exact (red_col hD hY hj (fun p hp => units_col (by omega) hj) n i (by omega)).symm
abbrev IR := Int × Int × List Int × Int
/-- A row of what comes out, columns to j done. -/
def tk (D : List (List Int)) (n j r : Nat) : List Int := (D.getD r []).take j ++ (List.replicate n (0 : Int)).drop j
def midI (D : List (List Int)) (n j i : Nat) : List (List Int) := (List.range n).map fun r => if r < i then tk D n (j + 1) r else tk D n j r
theorem tk_length {D : List (List Int)} {n j r : Nat} (hU : U D n) (hr : r < D.length) (hj : j ≤ n) : (tk D n j r).length = n := by
  have := hU.at hr
  unfold tk
  rw [List.length_append, List.length_take, List.length_drop, List.length_replicate]
  omega
theorem midI_len (D : List (List Int)) (n j i : Nat) : (midI D n j i).length = n := by simp [midI]
theorem midI_elem {D : List (List Int)} {n j i p : Nat} (h : p < (midI D n j i).length) : (midI D n j i)[p] = if p < i then tk D n (j + 1) p else tk D n j p := by simp [midI]
theorem midI_get {D : List (List Int)} {n j i r : Nat} (hr : r < n) : (midI D n j i).getD r [] = if r < i then tk D n (j + 1) r else tk D n j r := by
  unfold midI
  rw [List.getD_eq_getElem?_getD, List.getElem?_map, List.getElem?_range hr]
  rfl
theorem midI_U {D : List (List Int)} {n j i : Nat} (hU : U D n) (hD : D.length = n) (hj : j < n) : U (midI D n j i) n := fun r hr => by
  obtain ⟨p, hp, rfl⟩ := List.mem_map.1 hr
  have hpn : p < n := by simpa using hp
  split
  · exact tk_length hU (by omega) (by omega)
  · exact tk_length hU (by omega) (by omega)
theorem midI_set {D : List (List Int)} {n j i : Nat} (hU : U D n) (hD : D.length = n) (hj : j < n) (hi : i < n) : (midI D n j i).set i (((midI D n j i).getD i []).set j (entry D i j)) = midI D n j (i + 1) := by
  have hl := hU.at (i := i) (by omega)
  have e : (tk D n j i).set j (entry D i j) = tk D n (j + 1) i := mid_set (by omega) (by rw [List.length_replicate]; omega)
  rw [midI_get hi, if_neg (by omega), e]
  refine List.ext_getElem (by simp [midI]) fun p h1 h2 => ?_
  have hp : p < n := by simpa [midI] using h2
  rw [List.getElem_set]
  rw [midI_elem, midI_elem]
  by_cases e2 : i = p
  · subst e2; rw [if_pos rfl, if_pos (by omega)]
  · rw [if_neg e2]
    by_cases e3 : p < i
    · rw [if_pos e3, if_pos (by omega)]
    · rw [if_neg e3, if_neg (by omega)]
theorem midI_next {D : List (List Int)} {n j : Nat} : midI D n j n = midI D n (j + 1) 0 := by
  unfold midI
  refine List.map_congr_left fun p hp => ?_
  have : p < n := by simpa using hp
  rw [if_pos this, if_neg (by omega)]
theorem midI_zero {D : List (List Int)} {n : Nat} : (midI D n 0 0).flatten = List.replicate (n * n) 0 := by
  have hU : ∀ r ∈ midI D n 0 0, r = List.replicate n (0 : Int) := fun r hr => by
    obtain ⟨p, hp, rfl⟩ := List.mem_map.1 hr
    simp [tk]
  rw [List.eq_replicate_of_mem hU, midI_len, List.flatten_replicate_replicate]
theorem midI_full {D : List (List Int)} {n : Nat} (hU : U D n) (hD : D.length = n) : midI D n n 0 = D := by
  refine List.ext_getElem (by rw [midI_len, hD]) fun p h1 h2 => ?_
  rw [midI_elem, if_neg (by omega)]
  have hl := hU.at h2
  unfold tk
  rw [List.getD_eq_getElem?_getD, List.getElem?_eq_getElem h2, Option.getD_some] at hl ⊢
  rw [List.take_of_length_le (by omega), List.drop_of_length_le (by rw [List.length_replicate]; omega), List.append_nil]
theorem Inv_l1 {n j : Nat} {D : List (List Int)} (hn : n ≤ 64) (hU : U D n) (hD : D.length = n) (hj : j < n) {c : List Int} (hc : c.length = n) (hcv : ∀ i, i < n → c.getD i 0 = entry D i j) (b : Int) (L : List Int) (s1 : Int) {R : IR}
    (hR : Ends (fun q => recoupref04_Inverse.l0 q ((j + 1 : Nat) : Int) (n : Int) b L (n : Int) s1 (midI D n (j + 1) 0).flatten) R) :
    ∀ m i : Nat, i + m = n → Ends (fun q => recoupref04_Inverse.l1 q (j : Int) c (i : Int) (n : Int) b L (n : Int) s1 (midI D n j i).flatten) R
  | 0, i, hi => by
    obtain rfl : i = n := by omega
    have hj4 : j ≤ 4096 := by omega
    refine Ends.succ (fun k => by rw [recoupref04_Inverse.l1]) ?_
    refine Ends.neg (by omega) ?_
    rw [i64_succ hj4, midI_next]
    exact hR
  | m + 1, i, hi => by
    have hin : i < n := by omega
    have hi4 : i ≤ 4096 := by omega
    have hi64 : i ≤ 64 := by omega
    have hj64 : j ≤ 64 := by omega
    have hUm := midI_U (i := i) hU hD hj
    have hlm := midI_len D n j i
    have hix := idx_lt (c := n) (n := n) hin hj
    refine Ends.succ (fun k => by rw [recoupref04_Inverse.l1]) ?_
    refine Ends.pos (by omega) (Ends.pos (by omega) (Ends.pos (by omega) ?_))
    rw [(idx_small (i := i) (c := n) (j := j) hi64 hn hj64).2]
    refine Ends.pos (Int.natCast_nonneg _) (Ends.pos (by rw [flat_len hUm, hlm]; exact Int.ofNat_lt.2 hix) ?_)
    rw [rd_nat, hcv i hin, Int.toNat_natCast, flat_set _ hUm (by omega) hj, midI_set hU hD hj hin, i64_succ hi4]
    exact Inv_l1 hn hU hD hj hc hcv b L s1 hR m (i + 1) (by omega)
theorem Inv_l0 {n : Nat} {l : List Int} (hb : bytesB l = true) (hl : l.length = n * n) (hn : n ≤ 64) (hf : (redL n n l).2.length = n) (s1 : Int) :
    ∀ m j : Nat, j + m = n → Ends (fun q => recoupref04_Inverse.l0 q (j : Int) (n : Int) (n : Int) l (n : Int) s1 (midI (invD n l) n j 0).flatten) ((n : Int), s1, (invD n l).flatten, 0)
  | 0, j, hj => by
    obtain rfl : j = n := by omega
    have hs := red_shp (shp_units hb hl hn) j
    have hD : (invD j l).length = j := hs.1.len.trans (hs.2.1.trans (rowsOf_length j j l))
    have hU : U (invD j l) j := (Sh.of2 hs.1).u
    refine Ends.succ (fun k => by rw [recoupref04_Inverse.l0]) ?_
    refine Ends.neg (by omega) ?_
    rw [midI_full hU hD]
    exact Ends.const rfl
  | m + 1, j, hj => by
    have hjn : j < n := by omega
    have hs := red_shp (shp_units hb hl hn) n
    have hD : (invD n l).length = n := hs.1.len.trans (hs.2.1.trans (rowsOf_length n n l))
    have hU : U (invD n l) n := (Sh.of2 hs.1).u
    obtain ⟨c, h1, h2, h3⟩ := inv_col hb hl hn hf hjn
    have ih := Inv_l0 hb hl hn hf s1 m (j + 1) (by omega)
    refine Ends.succ (fun k => by rw [recoupref04_Inverse.l0]) ?_
    refine Ends.pos (by omega) (Ends.pos (by omega) (Ends.pos (by rw [Int.toNat_natCast]; omega) ?_))
    rw [Int.toNat_natCast, Int.toNat_natCast]
    refine Ends.bind1 rfl (Ends.pos (by omega) (Ends.pos (by rw [List.length_replicate]; omega) ?_))
    have hy : (List.replicate n (0 : Int)).set j 1 = unitRow n j := rfl
    rw [hy]
    have hsol := Solve_ends hn hn hl hb (y := unitRow n j) (by simp [unitRow]) (unit_bytes n j)
    rw [h1] at hsol
    refine Ends.bind hsol ?_
    exact Inv_l1 hn hU hD hjn h2 h3 (n : Int) l s1 ih n 0 (by omega)
theorem Rank_ends {r c : Nat} {l : List Int} (hr : r ≤ 64) (hc : c ≤ 64) (hl : l.length = r * c) (hb : bytesB l = true) : Ends (fun k => recoupref04_Rank.f k (r : Int) (c : Int) l) (((redL r c l).2.length : Int), 0) := by
  unfold recoupref04_Rank.f
  exact Ends.bind (Reduce_ends hr hc hl hb) (Ends.const rfl)
/-- What both answer. -/
def invR (n : Nat) (l : List Int) : IR := if (redL n n l).2.length < n then (0, 0, [], 6) else ((n : Int), (n : Int), (invD n l).flatten, 0)
theorem Inverse_ends {n : Nat} {l : List Int} (hn : n ≤ 64) (hl : l.length = n * n) (hb : bytesB l = true) : Ends (fun k => recoupref04_Inverse.f k (n : Int) (n : Int) l) (invR n l) := by
  have hf := flat_rowsOf n l hl
  have hlen := rowsOf_length n n l
  have hm : n * n ≤ 64 * 64 := Nat.mul_le_mul hn hn
  have h1 := Right_true hf.2 (by omega) hn
  rw [hf.1, hlen] at h1
  unfold recoupref04_Inverse.f
  refine Ends.bind1 h1 (Ends.pos rfl ?_)
  refine Ends.succ (fun k => by rw [recoupref04_Inverse.j0]) ?_
  refine Ends.neg (by simp) ?_
  refine Ends.bind (Rank_ends hn hn hl hb) ?_
  unfold invR
  by_cases h : (redL n n l).2.length < n
  · rw [if_pos h]
    exact Ends.pos (by omega) (Ends.const rfl)
  · rw [if_neg h]
    refine Ends.neg (by omega) ?_
    have hs := (red_shp (shp_nil hb hl ⟨hn, hn⟩) n).2.2.2
    have hfull : (redL n n l).2.length = n := by
      have : (redL n n l).2.length ≤ n := hs
      omega
    have hz : recoupref03_Zero.f (n : Int) (n : Int) = some ((n : Int), (n : Int), List.replicate (n * n) 0) := by
      unfold recoupref03_Zero.f
      rw [(idx_small (i := n) (c := n) (j := 0) hn hn (by decide)).1, if_pos (Int.natCast_nonneg _), if_pos (by rw [Int.toNat_natCast]; omega), Int.toNat_natCast]
    refine Ends.bind1 hz ?_
    have := Inv_l0 hb hl hn hfull (n : Int) n 0 (by omega)
    rw [midI_zero] at this
    exact this
theorem gInverse_eq {n : Nat} {l : List Int} (hR : matrix_Right.f (n : Int) (n : Int) l = some true) (hb : bytesB l = true) : gauss_Inverse.f (n : Int) (n : Int) l = some (invR n l) := by
  unfold gauss_Inverse.f
  rw [hR, Option.bind_some, if_pos rfl, if_pos rfl, if_pos hb]
  have e := (red_same (rowsOf n n l) (unitsTo n n) (List.replicate n []) n).2
  unfold gauss_Inverse.st invR redL invD
  simp only [Int.toNat_natCast]
  rw [e]
  by_cases h : (redTo (rowsOf n n l) (List.replicate n []) n).2.length < n
  · rw [if_pos (by omega), if_pos h]
  · rw [if_neg (by omega), if_neg h]
theorem gInverse_bad {a b : Int} {l : List Int} (h : matrix_Right.f a b l = some false ∨ (matrix_Right.f a b l = some true ∧ a ≠ b)) : gauss_Inverse.f a b l = some (0, 0, [], 3) := by
  unfold gauss_Inverse.f
  rcases h with h | ⟨h, h2⟩
  · rw [h, Option.bind_some, if_neg (by decide)]
  · rw [h, Option.bind_some, if_pos rfl, if_neg h2]
theorem Inverse_bad {a b : Int} {l : List Int} (h : recoupref03_Right.f a b l = some false ∨ (recoupref03_Right.f a b l = some true ∧ a ≠ b)) : Ends (fun k => recoupref04_Inverse.f k a b l) (0, 0, [], 3) := by
  unfold recoupref04_Inverse.f
  have key : ∀ z, z = true → Ends (fun k => recoupref04_Inverse.j0 k z a b l) (0, 0, [], 3) := fun z hz => by
    subst hz
    refine Ends.succ (fun k => by rw [recoupref04_Inverse.j0]) ?_
    exact Ends.pos rfl (Ends.const rfl)
  rcases h with h | ⟨h, h2⟩
  · exact Ends.bind1 h (Ends.neg (by decide) (key _ rfl))
  · exact Ends.bind1 h (Ends.pos rfl (key _ (by simpa using h2)))
end Go.Proofs.Ytccfbhnhedoggaa.M
