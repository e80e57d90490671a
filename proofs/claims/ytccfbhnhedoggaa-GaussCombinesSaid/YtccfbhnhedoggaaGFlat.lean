import Derived.Test.YtccfbhnhedoggaaQx12
import Derived.Test.YtccfbhnhedoggaaGTab
namespace Go.Proofs.Ytccfbhnhedoggaa.M
open Go.RowKit Go.Proofs.YtccfbhnhedoggaaW.PrintWords Go.Proofs.YtccfbhnhedoggaaW.PrintLast Go.Proofs.YtccfbhnhedoggaaW.PrintMore Go.Proofs.Ytccfbhnhedoggaa.Q

/-! ### rows in one list -/
def U (M : List (List Int)) (c : Nat) : Prop := ∀ r ∈ M, r.length = c
theorem U.cons {r : List Int} {M : List (List Int)} {c : Nat} (h : U (r :: M) c) : r.length = c ∧ U M c := ⟨h r (List.mem_cons_self ..), fun x hx => h x (List.mem_cons_of_mem _ hx)⟩
theorem U.set {M : List (List Int)} {c k : Nat} {r : List Int} (h : U M c) (hr : r.length = c) : U (M.set k r) c := fun x hx => by
 rcases List.mem_or_eq_of_mem_set hx with hx | rfl
 ·exact h x hx
 ·exact hr
theorem U.at {M : List (List Int)} {c i : Nat} (h : U M c) (hi : i < M.length) : (M.getD i []).length = c := by
 rw [List.getD_eq_getElem?_getD, List.getElem?_eq_getElem hi]
 exact h _ (List.getElem_mem hi)
theorem flat_len {c : Nat} : ∀ {M : List (List Int)}, U M c → M.flatten.length = M.length * c
 | [], _ => by simp
 | r :: M, h => by
  rw [List.flatten_cons, List.length_append, flat_len h.cons.2, h.cons.1, List.length_cons, Nat.succ_mul, Nat.add_comm]
theorem flat_drop {c : Nat} : ∀ {M : List (List Int)} (i : Nat), U M c → M.flatten.drop (i * c) = (M.drop i).flatten
 | [], i, _ => by simp
 | r :: M, 0, h => by simp
 | r :: M, i + 1, h => by
  rw [List.flatten_cons, Nat.succ_mul, Nat.add_comm, List.drop_succ_cons, ← flat_drop i h.cons.2]
  have := h.cons.1
  rw [List.drop_append, List.drop_eq_nil_of_le (by omega), List.nil_append, this, Nat.add_sub_cancel_left]
theorem flat_take {c : Nat} : ∀ {M : List (List Int)} (i : Nat), U M c → M.flatten.take (i * c) = (M.take i).flatten
 | [], i, _ => by simp
 | r :: M, 0, h => by simp
 | r :: M, i + 1, h => by
  rw [List.flatten_cons, Nat.succ_mul, Nat.add_comm, List.take_succ_cons, List.flatten_cons, ← flat_take i h.cons.2]
  have := h.cons.1
  rw [List.take_append, List.take_of_length_le (by omega), this, Nat.add_sub_cancel_left]
theorem flat_get {c i j : Nat} {M : List (List Int)} (h : U M c) (hi : i < M.length) (hj : j < c) : M.flatten.getD (i * c + j) 0 = entry M i j := by
 have e : M.flatten.getD (i * c + j) 0 = (M.flatten.drop (i * c)).getD j 0 := by
  rw [List.getD_eq_getElem?_getD, List.getD_eq_getElem?_getD, List.getElem?_drop]
 have hl := h.at hi
 rw [e, flat_drop i h, List.drop_eq_getElem_cons hi, List.flatten_cons]
 unfold entry
 rw [List.getD_eq_getElem?_getD, List.getD_eq_getElem?_getD, List.getD_eq_getElem?_getD, List.getElem?_eq_getElem hi, Option.getD_some]
 rw [List.getD_eq_getElem?_getD, List.getElem?_eq_getElem hi, Option.getD_some] at hl
 rw [List.getElem?_append_left (by omega)]
theorem flat_row {c i : Nat} {M : List (List Int)} (h : U M c) (hi : i < M.length) : (M.flatten.drop (i * c)).take c = M.getD i [] := by
 have hl := h.at hi
 rw [flat_drop i h, List.drop_eq_getElem_cons hi, List.flatten_cons]
 rw [List.getD_eq_getElem?_getD, List.getElem?_eq_getElem hi, Option.getD_some] at hl ⊢
 rw [List.take_append, List.take_of_length_le (by omega), hl, Nat.sub_self, List.take_zero, List.append_nil]
theorem flat_splice {c k : Nat} {M : List (List Int)} {r : List Int} (h : U M c) (hk : k < M.length) (hr : r.length = c) : splice M.flatten (k * c) r = (M.set k r).flatten := by
 unfold splice
 rw [flat_take k h, hr, show k * c + c = (k + 1) * c from (Nat.succ_mul k c).symm, flat_drop (k + 1) h, List.set_eq_take_append_cons_drop, if_pos hk, List.flatten_append, List.flatten_cons]
theorem set_splice {α : Type} {l : List α} {i : Nat} {v : α} (hi : i < l.length) : l.set i v = splice l i [v] := by
 unfold splice
 rw [List.set_eq_take_append_cons_drop, if_pos hi]
 rfl
theorem flat_set {c k j : Nat} {M : List (List Int)} (v : Int) (h : U M c) (hk : k < M.length) (hj : j < c) : M.flatten.set (k * c + j) v = (M.set k ((M.getD k []).set j v)).flatten := by
 have hl := h.at hk
 rw [← flat_splice h hk (by rw [List.length_set]; exact hl)]
 unfold splice
 rw [List.length_set, hl, List.set_eq_take_append_cons_drop]
 have hlen : k * c + j < M.flatten.length := by
  rw [flat_len h]
  have : (k + 1) * c ≤ M.length * c := Nat.mul_le_mul_right _ hk
  rw [Nat.succ_mul] at this
  omega
 rw [if_pos hlen, List.set_eq_take_append_cons_drop, if_pos (by omega), ← flat_row h hk, List.take_take, Nat.min_eq_left (by omega), List.append_assoc, List.cons_append]
 have e1 : M.flatten.take (k * c + j) = M.flatten.take (k * c) ++ (M.flatten.drop (k * c)).take j := by
  rw [List.take_add]
 have e2 : ((M.flatten.drop (k * c)).take c).drop (j + 1) ++ M.flatten.drop (k * c + c) = M.flatten.drop (k * c + j + 1) := by
  rw [List.drop_take, List.drop_drop, ← List.drop_drop (i := c), ← List.drop_drop (i := j + 1)]
  rw [show M.flatten.drop (k * c + j + 1) = ((M.flatten.drop (k * c)).drop (j + 1)) from by rw [List.drop_drop]; congr 1, show (M.flatten.drop (k * c)).drop c = ((M.flatten.drop (k * c)).drop (j + 1)).drop (c - (j + 1)) from by simp only [List.drop_drop]; congr 1; omega]
  rw [List.take_append_drop]
 rw [e1, ← e2]
 simp [List.append_assoc]
theorem flat_rowsOf {c : Nat} : ∀ (r : Nat) (l : List Int), l.length = r * c → (rowsOf c r l).flatten = l ∧ U (rowsOf c r l) c := by
 intro r
 have key : ∀ r (l : List Int), l.length = r * c → ((List.range r).map fun i => (l.drop (i * c)).take c).flatten = l := by
  intro r
  induction r with
  | zero => intro l hl; rw [Nat.zero_mul] at hl; simp [List.length_eq_zero_iff.1 hl]
  | succ r ih =>
   intro l hl
   rw [Nat.succ_mul] at hl
   rw [List.range_succ, List.map_append, List.flatten_append]
   have := ih (l.take (r * c)) (by rw [List.length_take]; omega)
   have e : ((List.range r).map fun i => (l.drop (i * c)).take c) = ((List.range r).map fun i => ((l.take (r * c)).drop (i * c)).take c) := by
    refine List.map_congr_left fun i hi => ?_
    have hir : i < r := by simpa using hi
    have : (i + 1) * c ≤ r * c := Nat.mul_le_mul_right _ hir
    rw [Nat.succ_mul] at this
    rw [List.drop_take, List.take_take, Nat.min_eq_left (by omega)]
   rw [e, this]
   simp only [List.map_cons, List.map_nil, List.flatten_cons, List.flatten_nil, List.append_nil]
   rw [List.take_of_length_le (l := l.drop (r * c)) (by rw [List.length_drop]; omega), List.take_append_drop]
 intro l hl
 refine ⟨key r l hl, fun x hx => ?_⟩
 obtain ⟨i, hi, rfl⟩ := List.mem_map.1 hx
 have hir : i < r := by simpa using hi
 have : (i + 1) * c ≤ r * c := Nat.mul_le_mul_right _ hir
 rw [Nat.succ_mul] at this
 rw [List.length_take, List.length_drop]
 omega
theorem idx_small {i c j : Nat} (hi : i ≤ 64) (hc : c ≤ 64) (hj : j ≤ 64) : wrap64 ((i : Int) * (c : Int)) = ((i * c : Nat) : Int) ∧ wrap64 (wrap64 ((i : Int) * (c : Int)) + (j : Int)) = ((i * c + j : Nat) : Int) := by
 have hm : i * c ≤ 64 * 64 := Nat.mul_le_mul hi hc
 rw [← Int.natCast_mul]
 generalize i * c = p at *
 rw [w64 (by omega) (by omega), w64 (by omega) (by omega)]
 exact ⟨rfl, by omega⟩
theorem idx_lt {i c j n : Nat} (hi : i < n) (hj : j < c) : i * c + j < n * c := by
 have : (i + 1) * c ≤ n * c := Nat.mul_le_mul_right _ hi
 rw [Nat.succ_mul] at this
 omega
/-- The reference's At. -/
theorem At_eq {c i j : Nat} {M : List (List Int)} (h : U M c) (hm : M.length ≤ 64) (hc : c ≤ 64) (hi : i < M.length) (hj : j < c) (a : Int) : recoupref03_At.f a (c : Int) M.flatten (i : Int) (j : Int) = some (entry M i j) := by
 obtain ⟨_, e⟩ := idx_small (i := i) (c := c) (j := j) (by omega) hc (by omega)
 have hl := idx_lt hi hj
 unfold recoupref03_At.f
 rw [e, flat_len h, if_pos (Int.natCast_nonneg _), if_pos (Int.ofNat_lt.2 hl), rd_nat, flat_get h hi hj]
theorem Right_true {c : Nat} {M : List (List Int)} (h : U M c) (hm : M.length ≤ 64) (hc : c ≤ 64) : recoupref03_Right.f (M.length : Int) (c : Int) M.flatten = some true := by
 obtain ⟨e, _⟩ := idx_small (i := M.length) (c := c) (j := 0) hm hc (by omega)
 unfold recoupref03_Right.f
 rw [if_pos (by omega), if_pos (by omega), if_pos (by omega), if_pos (by omega), e, flat_len h]
 simp
/-- The reference's Row. -/
theorem Row_l0 {c i : Nat} {M : List (List Int)} (h : U M c) (hm : M.length ≤ 64) (hc : c ≤ 64) (hi : i < M.length) : ∀ n j : Nat, j + n = c → Ends (fun k => recoupref03_Row.l0 k (i : Int) ((M.getD i []).take j) (j : Int) (M.length : Int) (c : Int) M.flatten) (M.getD i [], 0)
 | 0, j, hj => by
  obtain rfl : j = c := by omega
  refine Ends.succ (fun k => by rw [recoupref03_Row.l0]) (Ends.neg (by omega) (Ends.const ?_))
  rw [List.take_of_length_le (by rw [h.at hi]; exact Nat.le_refl _)]
 | n + 1, j, hj => by
  refine Ends.succ (fun k => by rw [recoupref03_Row.l0]) (Ends.pos (by omega) ?_)
  refine Ends.bind1 (At_eq h hm hc hi (by omega : j < c) _) ?_
  refine Ends.pos (by rw [List.length_take]; omega) ?_
  have e2 : wrap64 ((j : Int) + 1) = ((j + 1 : Nat) : Int) := by rw [w64 (by omega) (by omega)]; omega
  have e3 : (M.getD i []).take j ++ [entry M i j] = (M.getD i []).take (j + 1) := by
   have hl := h.at hi
   rw [List.take_succ_eq_append_getElem (by omega)]
   unfold entry
   rw [List.getD_eq_getElem?_getD (l := M.getD i []), List.getElem?_eq_getElem (by omega : j < (M.getD i []).length), Option.getD_some]
  rw [e2, e3]
  exact Row_l0 h hm hc hi n (j + 1) (by omega)
theorem Row_ends {c i : Nat} {M : List (List Int)} (h : U M c) (hm : M.length ≤ 64) (hc : c ≤ 64) (hi : i < M.length) : Ends (fun k => recoupref03_Row.f k (M.length : Int) (c : Int) M.flatten (i : Int)) (M.getD i [], 0) := by
 unfold recoupref03_Row.f
 refine Ends.bind1 (Right_true h hm hc) (Ends.pos rfl (Ends.neg (by omega) ?_))
 refine Ends.succ (fun k => by rw [recoupref03_Row.j0]) (Ends.neg (by rw [decide_eq_true_eq]; omega) ?_)
 simpa using Row_l0 h hm hc hi c 0 (by omega)
end Go.Proofs.Ytccfbhnhedoggaa.M
