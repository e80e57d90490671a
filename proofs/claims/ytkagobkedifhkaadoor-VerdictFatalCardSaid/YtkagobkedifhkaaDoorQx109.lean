/- Written by drive.py (a program of this repo, over the kit's print): each Go function named here answers what the Lean function beside it answers, wherever that one answers, in every world that meets the stated premises. -/
import Derived.Test.YtkagobkedifhkaaDoorQx0
import Derived.Test.YtkagobkedifhkaaDoorQx154
import Derived.Test.YtkagobkedifhkaaDoorQx155
import Derived.Test.YtkagobkedifhkaaDoorQx168
import Derived.RangeFuncNested
import Derived.RangeFuncBound
import Derived.RangeFuncCalls
import Derived.RangeFuncLeaves
import Derived.Shelf.Abstract
import Derived.Shelf.RegionOpen
import Derived.WalkKit
import Derived.OwnWalkIn
import Derived.TacticsInMore
import Derived.LoopNIn
import Derived.LoopIn
import Derived.Test.YtkagobkedifhkaaDoorSq
namespace Go.Proofs.YtkagobkedifhkaaDoor.Q
open Go.RowKit Go.Proofs.YtkagobkedifhkaaDoorW.PrintWords Go.Proofs.YtkagobkedifhkaaDoorW.PrintLast Go.Proofs.YtkagobkedifhkaaDoorW.PrintMore
attribute [local go_sem] max2_int min2_int max_two min_two max_three min_three max_four min_four   -- for this text's walks alone
set_option linter.unusedVariables false
set_option linter.unusedSimpArgs false

/-! ### verdict_Recovers: function 9 -/
attribute [local go_sem] Oper.semAt_some
/-! verdict.left, and verdict.recovered over whatever closure goes on -/
def hasB (x : Int) (i : Nat) : Bool := subset_Has.f x (i : Int) == some true
theorem hasB_eq (x : Int) (i : Nat) : subset_Has.f x (i : Int) = some (hasB x i) := by
  have : ∃ v, subset_Has.f x (i : Int) = some v := by
    unfold subset_Has.f
    by_cases h : (i : Int) < 64
    · exact ⟨_, by rw [if_pos (by omega), if_pos h, if_pos (by omega)]⟩
    · exact ⟨_, by rw [if_pos (by omega), if_neg h]⟩
  obtain ⟨v, hv⟩ := this
  unfold hasB
  rw [hv]
  cases v <;> rfl
/-- The rows below i that are left. -/
def leftL (x : Int) (i : Nat) : List Nat := (List.range i).filter fun b => !hasB x b
theorem leftL_succ (x : Int) (i : Nat) : leftL x (i + 1) = if hasB x i = true then leftL x i else leftL x i ++ [i] := by
  unfold leftL
  rw [List.range_succ, List.filter_append]
  cases h : hasB x i with
  | true => rw [if_pos rfl, show List.filter (fun b => !hasB x b) [i] = [] from by simp [h], List.append_nil]
  | false => rw [if_neg (by decide), show List.filter (fun b => !hasB x b) [i] = [i] from by simp [h]]
theorem leftL_prefix (x : Int) (i : Nat) : ∀ d, leftL x i <+: leftL x (i + d)
  | 0 => List.prefix_refl _
  | d + 1 => by
    refine (leftL_prefix x i d).trans ?_
    rw [show i + (d + 1) = (i + d) + 1 from rfl, leftL_succ]
    split
    · exact List.prefix_refl _
    · exact List.prefix_append _ _
theorem leftL_le (x : Int) {i j : Nat} (h : i ≤ j) : leftL x i <+: leftL x j := by
  obtain ⟨d, rfl⟩ := Nat.exists_eq_add_of_le h
  exact leftL_prefix x i d
/-- A list's numbers as a set. -/
def orL (l : List Nat) : Int := l.foldl (fun (s : Int) (i : Nat) => Go.bits .or .u64 s (shl .u64 1 (i : Int))) 0
theorem orL_snoc (l : List Nat) (a : Nat) : orL (l ++ [a]) = Go.bits .or .u64 (orL l) (shl .u64 1 (a : Int)) := by unfold orL; rw [List.foldl_append]; rfl
theorem grown_of_belowV {W W' : World} (h : Below W.heap.size W W') : W.grownBy W' none := ⟨h.os, h.tape, h.output, h.size, fun k hk _ => h.block k hk⟩

theorem cell_as18 {W W' : World} {p : Addr} (h : W'.heap[p.block]? = W.heap[p.block]?) : W'.cell? p = W.cell? p := by simp [World.cell?, h]

theorem verdict_left.calls (a b x : Int) (A : Option Addr) (n c : Nat) (w : World) :
    Calls Tryd.prog 53 #[.agg #[.int .i64 a, .int .i64 b, .slice A n c], .int .u64 x] w fun e w' =>
      e = .returned (.func (.func 76) #[] #[.pointer (some ⟨w.heap.size, 0, none⟩), .pointer (some ⟨w.heap.size + 1, 0, none⟩)]) ∧
      w' = (w.alloc (.cells #[.int .i64 a, .int .i64 b, .slice A n c] 24)).alloc (.cells #[.int .u64 x] 26) := by
  have hu24 := Tryd.underlying24
  go_enter Tryd.func53, Tryd.ntmps53
  go_wp2
  go_ret
  exact ⟨rfl, rfl⟩

set_option maxHeartbeats 4000000 in
set_option maxRecDepth 100000 in
theorem verdict_left1.calls (m l bg bx : Nat) (a x : Int) (ha : 0 ≤ a ∧ a ≤ 64) (J Jx : List Nat → World → Prop) (B0 : Nat) (hJ : AbidesFrom B0 J)
    (hY : ∀ (pre : List Nat) (b : Nat) W, J pre W → pre.length < (leftL x a.toNat).length → YieldAt Fence.wide m Tryd.prog l #[.int .i64 b] W fun e W' =>
      (e = .returned (.bool true) ∧ J (pre ++ [b]) W' ∧ W'.heap[bx]? = W.heap[bx]?) ∨ (e = .returned (.bool false) ∧ Jx (pre ++ [b]) W'))
    (W : World) (cg : W.cell? ⟨bg, 0, none⟩ = some (.int .i64 a)) (cx : W.cell? ⟨bx, 0, none⟩ = some (.int .u64 x)) (h0 : J [] W) :
    CallsIn Fence.wide (m + 1) Tryd.prog 76 #[.func (.yield l) #[] #[], .pointer (some ⟨bg, 0, none⟩), .pointer (some ⟨bx, 0, none⟩)] W fun e W' => (∃ v, e = .returned v) ∧
      ((∃ ys, ys = leftL x a.toNat ∧ J ys W') ∨ (∃ pre, pre <+: leftL x a.toNat ∧ Jx pre W')) := by
  have hu24 := Tryd.underlying24
  refine callsIn_of_wp Tryd.func76 rfl trivial ?_ rfl
  simp only [Tryd.ntmps76, List.size_toArray, List.length_cons, List.length_nil, Nat.reduceAdd, Nat.reduceSub, Array.replicate_succ, Array.replicate_zero, List.push_toArray, List.append_toArray, List.nil_append, List.cons_append]
  gi_wp2
  gi_loopw [7] (fun p wr => ∃ i : Nat, p = .int .i64 (i : Int) ∧ (i : Int) ≤ a ∧ Aside0 (J (leftL x i) wr) ∧ wr.cell? ⟨bx, 0, none⟩ = some (.int .u64 x))
    (fun p _ => (a - intOf p).toNat)
  case atStart => exact ⟨0, rfl, ha.1, ⟨h0⟩, cx⟩
  case round =>
    obtain ⟨i, rfl, hi, hJs, hcx⟩ := hrel
    clear h0 cx cg
    by_cases hlt : (i : Int) < a
    · have c1 : decide ((i : Int) < a) = true := decide_eq_true hlt
      have hle : leftL x (i + 1) <+: leftL x a.toNat := leftL_le x (by omega)
      have hw : wrap64 ((i : Int) + 1) = ((i + 1 : Nat) : Int) := by unfold wrap64; omega
      have hsucc := leftL_succ x i
      have HH := Aside0.mk (hasB_eq x i)
      cases hb : hasB x i with
      | true =>
        rw [hb] at HH
        rw [if_pos hb] at hsucc
        gi_wp2_with (refine ⟨trivial, ?_⟩; gi_at_call 77; refine (callsIn_wide.2 (subset_Has.calls x (i : Int) true _ HH.out)).mono ?_; rintro e w1 ⟨rfl, ⟨nd, rfl⟩⟩)
        refine ⟨fun _ h => (by cases h), ?_⟩
        gi_wp2
        refine ⟨⟨i + 1, by simp, by omega, ⟨?_⟩, by simpa using hcx⟩, by simp [intOf]; omega⟩
        rw [hsucc]
        exact hJ _ _ _ none hJs.out (grown_of_belowV (pw_below_drewN (Below.refl _ _) _)) (fun r e => by cases e)
      | false =>
        rw [hb] at HH
        rw [if_neg (by rw [hb]; decide)] at hsucc
        have hlen : (leftL x i).length < (leftL x a.toNat).length := by
          have := hle.length_le
          rw [hsucc, List.length_append, List.length_singleton] at this
          omega
        have HY : ∀ nd, YieldAt Fence.wide m Tryd.prog l #[.int .i64 i] (wr.drewN nd) fun e W' =>
            (e = .returned (.bool true) ∧ J (leftL x i ++ [i]) W' ∧ W'.heap[bx]? = (wr.drewN nd).heap[bx]?) ∨ (e = .returned (.bool false) ∧ Jx (leftL x i ++ [i]) W') := fun nd =>
          hY _ i _ (hJ _ _ _ none hJs.out (grown_of_belowV (pw_below_drewN (Below.refl _ _) _)) (fun r e => by cases e)) hlen
        gi_wp2_with (refine ⟨trivial, ?_⟩; gi_at_call 77; refine (callsIn_wide.2 (subset_Has.calls x (i : Int) false _ HH.out)).mono ?_; rintro e w1 ⟨rfl, ⟨nd, rfl⟩⟩; obtain ⟨fn, tmps, assign, body, hy, hR⟩ := HY nd; clear HY)
        refine hR.mono ?_
        rintro e W3 (⟨rfl, hJ3, hk3⟩ | ⟨rfl, hJx3⟩)
        · clear hR hy
          gi_wp2
          refine ⟨⟨i + 1, by simp, by omega, ⟨by rw [hsucc]; exact hJ3⟩, (cell_as18 (p := ⟨bx, 0, none⟩) hk3).trans (by simpa using hcx)⟩, by simp [intOf]; omega⟩
        · clear hR hy
          gi_wp2
          refine bodyPost_ret (results_none rfl _ _ _) rfl ?_
          exact ⟨⟨_, rfl⟩, .inr ⟨leftL x i ++ [i], by rw [← hsucc]; exact hle, hJx3⟩⟩
    · have c1 : decide ((i : Int) < a) = false := decide_eq_false hlt
      gi_wp2
      go_end0
      exact ⟨⟨_, rfl⟩, .inl (by rw [show a.toNat = i from by omega]; exact hJs.out)⟩
theorem verdict_left1.stops (m bg bx : Nat) (a x : Int) (ha : 0 ≤ a ∧ a ≤ 64) (w : World) (cg : w.cell? ⟨bg, 0, none⟩ = some (.int .i64 a)) (cx : w.cell? ⟨bx, 0, none⟩ = some (.int .u64 x)) :
    SeqStopsK Fence.wide (m + 1) Tryd.prog 76 #[.pointer (some ⟨bg, 0, none⟩), .pointer (some ⟨bx, 0, none⟩)] (fun b : Nat => #[.int .i64 (b : Int)]) (fun W W' => W'.heap[bx]? = W.heap[bx]?) (fun ys => ys = leftL x a.toNat) (fun pre => pre <+: leftL x a.toNat) (leftL x a.toNat).length w :=
  fun l J Jx W hW hJ _ hY h0 => verdict_left1.calls m l bg bx a x ha J Jx W.heap.size hJ hY W (pw_cell_below hW cg) (pw_cell_below hW cx) h0

attribute [local go_sem] Oper.semAt_some
/-- What recovered comes to ahead of the closure: the sources, whether it goes on, the error. -/
def verdict_rec.f (k : Nat) (a b : Int) (l : List Int) (x : Int) : Option (Int × Bool × Int) :=
  (matrix_Right.f a b l).bind fun t => if t = true ∧ 1 ≤ b ∧ b ≤ a then
    ((subset_Full.f a).bind fun p => if p.2 = 0 ∧ Go.bits .andNot .u64 x p.1 = 0 then
      ((matroid_Basis.f k a b l (orL (leftL x a.toNat))).bind fun q => if q.2 = 0 then ((subset_Count.f q.1).bind fun n => if n < b then some (0, false, 0) else some (q.1, true, 0)) else some (0, false, q.2))
    else some (0, false, 2))
  else some (0, false, 3)
theorem verdict_rec.mono (k : Nat) (a b : Int) (l : List Int) (x : Int) : LeO (verdict_rec.f k a b l x) (verdict_rec.f (k + 1) a b l x) := by
  unfold verdict_rec.f
  refine LeO.bind (LeO.refl _) fun t => ?_
  split
  · refine LeO.bind (LeO.refl _) fun p => ?_
    split
    · exact LeO.bind (matroid_Basis.mono _ _ _ _ _) fun q => LeO.refl _
    · exact LeO.refl _
  · exact LeO.refl _
theorem verdict_left.calls' (a b x : Int) (A : Option Addr) (n c : Nat) (w : World) :
    Calls Tryd.prog 53 #[.agg #[.int .i64 a, .int .i64 b, .slice A n c], .int .u64 x] w fun e w' =>
      e = .returned (.func (.func 76) #[] #[.pointer (some ⟨w.heap.size, 0, none⟩), .pointer (some ⟨w.heap.size + 1, 0, none⟩)]) ∧
      w'.heap[w.heap.size]? = some (.cells #[.int .i64 a, .int .i64 b, .slice A n c] 24 (0, 0)) ∧ Boxed w' (w.heap.size + 1) 26 (.int .u64 x) ∧ w'.heap.size = w.heap.size + 2 ∧ Below w.heap.size w w' := by
  refine (verdict_left.calls a b x A n c w).mono ?_
  rintro e w' ⟨rfl, rfl⟩
  refine ⟨rfl, (Below.heap_alloc _ _ _ (by simp)).trans (World.alloc_heap_new w _), ?_, by simp, ((Below.refl _ w).alloc (Nat.le_refl _) _).alloc (by simp) _⟩
  have := Boxed.new (w.alloc (.cells #[.int .i64 a, .int .i64 b, .slice A n c] 24)) 26 (.int .u64 x)
  rwa [World.size_alloc] at this
theorem right_rows {a b : Int} {l : List Int} (h : matrix_Right.f a b l = some true) : 0 ≤ a ∧ a ≤ 64 := by
  unfold matrix_Right.f matrix_side.f at h
  by_cases h0 : a ≥ 0
  · by_cases h1 : a ≤ 64
    · exact ⟨h0, h1⟩
    · exfalso
      rw [if_pos h0] at h
      simp [h1] at h
  · exfalso
    rw [if_neg h0] at h
    simp at h
/-- A way on that a region takes alone. -/
def onlyN (Q : Exit → Act → World → Prop) : Exit → Act → World → Prop
  | .normal, a, w => Q .normal a w
  | _, _, _ => False
theorem onlyN_le {Q : Exit → Act → World → Prop} : ∀ e a w, onlyN Q e a w → Q e a w := fun e a w h => by
  cases e <;> first | exact h | exact h.elim
theorem shl_spell (y : Nat) : shl .u64 1 (y : Int) = IntKind.u64.wrap (2 ^ min y 64) := by
  show IntKind.u64.wrap (1 * 2 ^ min ((y : Int).toNat) 64) = _
  rw [Int.one_mul, Int.toNat_natCast]
theorem round_end {W WB : World} {bs bx : Nat} {t : TypeId} {v v' : Value} (hb : Boxed W bs t v) (hB : Below bs WB W) (hne : bx ≠ bs) :
    KeepsOthers W (W.setCell ⟨bs, 0, none⟩ v').drew ∧ (W.setCell ⟨bs, 0, none⟩ v').drew.heap[bx]? = W.heap[bx]? ∧ Boxed (W.setCell ⟨bs, 0, none⟩ v').drew bs t v' ∧ Below bs WB (W.setCell ⟨bs, 0, none⟩ v').drew :=
  ⟨(KeepsOthers.setCell _ _ _).trans (KeepsOthers.drew _), Below.heap_setCell W ⟨bs, 0, none⟩ v' bx hne, hb.set v', below_drew1 (hB.setCell (p := ⟨bs, 0, none⟩) (Nat.le_refl _) v')⟩
set_option maxHeartbeats 4000000 in
set_option maxRecDepth 100000 in
theorem verdict_recovered.goes (k : Nat) (a b : Int) (A : Option Addr) (c : Nat) (l : List Int) (x s : Int) (ok : Bool) (er : Int) (tf : Nat) (caps : Array Value) (w : World) (T : World → Int → World → Prop) (R : Ending → World → Prop)
    (hr : Kd.C (Kd.int .u8) w A l.length l) (hc : l.length ≤ c) (h : verdict_rec.f k a b l x = some (s, ok, er)) (hT : TabAt 0 Lib.deBruijn64tab w)
    (het : ∀ args W, (callFunc tf args).run Tryd.prog W = .ok (.enter tf args) W)
    (hthen : ok = true → ∀ W, Below w.heap.size w W → Calls Tryd.prog tf (#[.int .u64 s] ++ caps) W fun e W' => ∃ er2, e = .returned (.int .i64 er2) ∧ T W er2 W' ∧ ∀ D : Nat, W.heap[D]? = some (.deferred (some [])) → W'.heap[D]? = some (.deferred (some [])))
    (hno : ok = false → ∀ w', Below w.heap.size w w' → R (.returned (.tuple #[.bool false, .int .i64 er])) w')
    (hyes : ok = true → ∀ W er2 W2 D, Below w.heap.size w W → w.heap.size ≤ D → D < W.heap.size → T W er2 W2 → W2.heap[D]? = some (.deferred (some [])) → R (.returned (.tuple #[.bool (er2 == 0), .int .i64 er2])) (W2.putObj D (.deferred none))) :
    Calls Tryd.prog 30 #[.agg #[.int .i64 a, .int .i64 b, .slice A l.length c], .int .u64 x, .func (.func tf) #[] caps] w R := by
  have hu24 := Tryd.underlying24
  have HR := Aside0.mk hr
  have HC := Aside0.mk hc
  have HT := Aside0.mk hT
  have HTH := Aside0.mk hthen
  have HNO := Aside0.mk hno
  have HYES := Aside0.mk hyes
  have HB := Aside0.mk (Below.refl w.heap.size w)
  clear hr hc hT hthen hno hyes
  refine (callsIn_wide (n := 9)).1 ?_
  refine callsIn_of_wp_marks Tryd.func30 rfl trivial ?_ rfl
  simp only [Tryd.ntmps30, List.size_toArray, List.length_cons, List.length_nil, Nat.reduceAdd, Nat.reduceSub, Array.replicate_succ, Array.replicate_zero, List.push_toArray, List.append_toArray, List.nil_append, List.cons_append]
  have bk0 : (w.alloc (.cells #[.int .i64 a, .int .i64 b, .slice A l.length c] 24)).heap[w.heap.size]? = some (.cells #[.int .i64 a, .int .i64 b, .slice A l.length c] 24 (0, 0)) := World.alloc_heap_new w _
  have BK := Aside0.mk bk0
  obtain ⟨hcx_0, hcx_1, hcx_2, hfx_0, hfx_1, hfx_2⟩ := cell3 BK
  clear bk0
  unfold verdict_rec.f at h
  obtain ⟨t, hm, h⟩ := Option.bind_eq_some_iff.mp h
  have HM := Aside0.mk hm
  clear hm
  by_cases hh : t = true ∧ 1 ≤ b ∧ b ≤ a
  case neg =>
    rw [if_neg hh] at h
    injection h with h
    injection h with h1 h
    injection h with h2 h3
    subst h1 h2 h3
    cases t with
    | false =>
      clear hh
      gi_wp2_with (refine ⟨trivial, ?_⟩; gi_at_call 51; refine (callsIn_wide.2 (matrix_Right.calls a b A c l false _ (kcB HR HB) HC.out HM.out)).mono ?_; rintro e w1 ⟨rfl, hb⟩; replace BK := Aside0.mk (blk_below BK.out hb); replace HB := hbB HB hb; clear hb; obtain ⟨hcy_0, hcy_1, hcy_2, hfy_0, hfy_1, hfy_2⟩ := cell3 BK)
      refine ⟨_, results_tmp2 rfl _ _ _, ?_⟩
      exact HNO.out (by simp) _ (hbA HB.out)
    | true =>
      by_cases h1 : b < 1
      · have c1 : decide (b < 1) = true := decide_eq_true h1
        clear hh
        gi_wp2_with (refine ⟨trivial, ?_⟩; gi_at_call 51; refine (callsIn_wide.2 (matrix_Right.calls a b A c l true _ (kcB HR HB) HC.out HM.out)).mono ?_; rintro e w1 ⟨rfl, hb⟩; replace BK := Aside0.mk (blk_below BK.out hb); replace HB := hbB HB hb; clear hb; obtain ⟨hcy_0, hcy_1, hcy_2, hfy_0, hfy_1, hfy_2⟩ := cell3 BK)
        refine ⟨_, results_tmp2 rfl _ _ _, ?_⟩
        exact HNO.out (by simp) _ (hbA HB.out)
      · have c1 : decide (b < 1) = false := decide_eq_false h1
        have c2 : decide (a < b) = true := decide_eq_true (by have : ¬ b ≤ a := fun e => hh ⟨rfl, by omega, e⟩; omega)
        clear hh
        gi_wp2_with (refine ⟨trivial, ?_⟩; gi_at_call 51; refine (callsIn_wide.2 (matrix_Right.calls a b A c l true _ (kcB HR HB) HC.out HM.out)).mono ?_; rintro e w1 ⟨rfl, hb⟩; replace BK := Aside0.mk (blk_below BK.out hb); replace HB := hbB HB hb; clear hb; obtain ⟨hcy_0, hcy_1, hcy_2, hfy_0, hfy_1, hfy_2⟩ := cell3 BK)
        refine ⟨_, results_tmp2 rfl _ _ _, ?_⟩
        exact HNO.out (by simp) _ (hbA HB.out)
  rw [if_pos hh] at h
  obtain ⟨rfl, b1, ba⟩ := hh
  have c1 : decide (b < 1) = false := decide_eq_false (by omega)
  have c2 : decide (a < b) = false := decide_eq_false (by omega)
  obtain ⟨⟨p1, p2⟩, hf, h⟩ := Option.bind_eq_some_iff.mp h
  have HF := Aside0.mk hf
  clear hf
  dsimp only at h
  by_cases hp : p2 = 0 ∧ Go.bits .andNot .u64 x p1 = 0
  case neg =>
    rw [if_neg hp] at h
    injection h with h
    injection h with h1 h
    injection h with h2 h3
    subst h1 h2 h3
    by_cases hq : p2 = 0
    · have c3 : (p2 != 0) = false := by simpa using hq
      have c4 : (Go.bits .andNot .u64 x p1 != 0) = true := bne_iff_ne.mpr fun e => hp ⟨hq, e⟩
      clear hp hq
      gi_wp2_with (first
        | (refine ⟨trivial, ?_⟩; gi_at_call 51; refine (callsIn_wide.2 (matrix_Right.calls a b A c l true _ (kcB HR HB) HC.out HM.out)).mono ?_; rintro e w1 ⟨rfl, hb⟩; replace BK := Aside0.mk (blk_below BK.out hb); replace HB := hbB HB hb; clear hb; obtain ⟨hcy_0, hcy_1, hcy_2, hfy_0, hfy_1, hfy_2⟩ := cell3 BK)
        | (refine ⟨trivial, ?_⟩; gi_at_call 52; refine (callsIn_wide.2 (subset_Full.calls a p1 p2 _ HF.out)).mono ?_; rintro e w2 ⟨rfl, ⟨nd, rfl⟩⟩))
      refine ⟨_, results_tmp2 rfl _ _ _, ?_⟩
      exact HNO.out (by simp) _ (hbA HB.out)
    · have c3 : (p2 != 0) = true := bne_iff_ne.mpr hq
      clear hp hq
      gi_wp2_with (first
        | (refine ⟨trivial, ?_⟩; gi_at_call 51; refine (callsIn_wide.2 (matrix_Right.calls a b A c l true _ (kcB HR HB) HC.out HM.out)).mono ?_; rintro e w1 ⟨rfl, hb⟩; replace BK := Aside0.mk (blk_below BK.out hb); replace HB := hbB HB hb; clear hb; obtain ⟨hcy_0, hcy_1, hcy_2, hfy_0, hfy_1, hfy_2⟩ := cell3 BK)
        | (refine ⟨trivial, ?_⟩; gi_at_call 52; refine (callsIn_wide.2 (subset_Full.calls a p1 p2 _ HF.out)).mono ?_; rintro e w2 ⟨rfl, ⟨nd, rfl⟩⟩))
      refine ⟨_, results_tmp2 rfl _ _ _, ?_⟩
      exact HNO.out (by simp) _ (hbA HB.out)
  rw [if_pos hp] at h
  have c3 : (p2 != 0) = false := by simpa using hp.1
  have c4 : (Go.bits .andNot .u64 x p1 != 0) = false := by simpa using hp.2
  clear hp
  have H := Aside0.mk h
  clear h
  gi_wp2_with (first
    | (refine ⟨trivial, ?_⟩; gi_at_call 51; refine (callsIn_wide.2 (matrix_Right.calls a b A c l true _ (kcB HR HB) HC.out HM.out)).mono ?_; rintro e w1 ⟨rfl, hb⟩; replace BK := Aside0.mk (blk_below BK.out hb); replace HB := hbB HB hb; clear hb; obtain ⟨hcy_0, hcy_1, hcy_2, hfy_0, hfy_1, hfy_2⟩ := cell3 BK)
    | (refine ⟨trivial, ?_⟩; gi_at_call 52; refine (callsIn_wide.2 (subset_Full.calls a p1 p2 _ HF.out)).mono ?_; rintro e w2 ⟨rfl, ⟨nd, rfl⟩⟩; have BK2 := Aside0.mk (bkA BK.out : ((w1.drewN nd).alloc (.cells #[.int .u64 0] 26)).heap[w.heap.size]? = some (.cells #[.int .i64 a, .int .i64 b, .slice A l.length c] 24 (0, 0))); obtain ⟨hcz_0, hcz_1, hcz_2, hfz_0, hfz_1, hfz_2⟩ := cell3 BK2)
    | (refine ⟨trivial, ?_⟩; gi_at_call 53; refine (callsIn_wide.2 (verdict_left.calls' a b x A l.length c _)).mono ?_; rintro e w3 ⟨rfl, hbg, hbx, hsz3, hb3⟩))
  have hsA : w3.heap.size = w1.heap.size + 3 := by rw [hsz3]; simp
  have hB1 : Below w1.heap.size (w1.drewN nd) w3 := by
    have := (Below.refl w1.heap.size (w1.drewN nd)).alloc (by simp) (.cells #[.int .u64 0] 26)
    exact this.trans (hb3.mono (by simp))
  have hs0 : Boxed w3 w1.heap.size 26 (.int .u64 (orL [])) := by
    have := Boxed.new (w1.drewN nd) 26 (.int .u64 0)
    rw [show (w1.drewN nd).heap.size = w1.heap.size from by simp] at this
    exact (hb3.block _ (by simp)).trans this
  have hcg := blk_cell hbg 0
  have hcx := hbx.cell
  have hbgs : ((w1.drewN nd).alloc (.cells #[.int .u64 0] 26)).heap.size = w1.heap.size + 1 := by simp
  rw [hbgs] at hbx hcx hcg hbg
  have hle : w.heap.size < w1.heap.size := (Array.getElem?_eq_some_iff.1 BK.out).1
  have ha : 0 ≤ a ∧ a ≤ 64 := right_rows HM.out
  clear hcx_0 hcx_1 hcx_2 hfx_0 hfx_1 hfx_2 hcy_0 hcy_1 hcy_2 hfy_0 hfy_1 hfy_2 hcz_0 hcz_1 hcz_2 hfz_0 hfz_1 hfz_2
  refine wpIn_rangeFunc_ownF rfl (by decide) (gf := 76) (lb := #[.pointer (some ⟨w1.heap.size + 1, 0, none⟩), .pointer (some ⟨w1.heap.size + 2, 0, none⟩)]) (by simp [go_sem]) trivial (enters_of Tryd.func76 (by kernel_rfl) rfl)
    (verdict_left1.stops 7 (w1.heap.size + 1) (w1.heap.size + 2) a x ha w3 hcg hcx) (fun h k => k.trans h) (fun W l o o' hl _ _ _ => World.putObj_heap_other (by omega)) (Below.refl _ _) (fun _ => rfl)
    (fun pre W => Boxed W w1.heap.size 26 (.int .u64 (orL pre)) ∧ Below w1.heap.size (w1.drewN nd) W)
    (fun _ _ _ => False)
    ?own ?ownx ?start ?a1 ?assign ?body ?done ?stop
  case own =>
    rintro pre V V' row ⟨h1, h2⟩ hg hr
    exact ⟨boxed_own w1.heap.size 26 (fun _ : Unit => _) () V V' row h1 hg (fun r e => (hr r e).2), ownFrom_below (by simp) (by omega) () V V' row h2 hg hr⟩
  case ownx => exact fun _ _ _ _ _ hs _ _ => hs
  case start => exact ⟨hs0, hB1⟩
  case assign =>
    intro lo y W K hK
    gi_wp2
    exact hK
  case body =>
    rintro lo pre y W ⟨hbs, hBW⟩ _
    have cs := hbs.cell
    have fs := hbs.frozen
    have hy0 : ¬ ((y : Int) < 0) := by omega
    have hy1 : (0 : Int) ≤ (y : Int) := by omega
    gi_wp2
    gi_region
    all_goals gi_wp2
    all_goals
      have hend := round_end (v' := .int .u64 (orL (pre ++ [y]))) hbs hBW (show w1.heap.size + 2 ≠ w1.heap.size by omega)
      rw [orL_snoc, shl_spell] at hend
      exact ⟨hend.1, hend.2.1, by show Boxed _ _ _ (.int .u64 (orL (pre ++ [y]))) ∧ Below w1.heap.size (w1.drewN nd) _; rw [orL_snoc, shl_spell]; exact hend.2.2⟩
  case stop =>
    rintro D c pre W _ _ h _
    exact h.elim
  case done =>
    rintro D ys W hD rfl ⟨hbs, hBW⟩ hK
    have hBWw : Below w.heap.size w W := (hbA HB.out : Below w.heap.size w (w1.drewN nd)).trans (hBW.mono (by omega))
    have hcg2 : W.heap[w.heap.size]? = some (.cells #[.int .i64 a, .int .i64 b, .slice A l.length c] 24 (0, 0)) := (hBW.block _ (by simpa using hle)).trans BK.out
    have BKW := Aside0.mk hcg2
    have HBW := Aside0.mk hBWw
    have KD := Aside0.mk hK
    obtain ⟨hcx_0, hcx_1, hcx_2, hfx_0, hfx_1, hfx_2⟩ := cell3 BKW
    have hcs := hbs.cell
    clear hbs hBW hBWw hcg2 hK hbg hbx hcg hcx hB1 hs0 hb3
    have h := H.out
    obtain ⟨⟨q1, q2⟩, hq, h⟩ := Option.bind_eq_some_iff.mp h
    have HQ := Aside0.mk hq
    clear hq H
    dsimp only at h
    have hDw : D < W.heap.size := (Array.getElem?_eq_some_iff.1 KD.out).1
    by_cases hq2 : q2 = 0
    case neg =>
      rw [if_neg hq2] at h
      injection h with h
      injection h with h1 h
      injection h with h2 h3
      subst h1 h2 h3
      have c5 : (q2 != 0) = true := bne_iff_ne.mpr hq2
      clear hq2
      gi_wp2_with (refine ⟨trivial, ?_⟩; gi_at_call 54; refine (callsIn_wide.2 (matroid_Basis.calls k a b A c l (orL (leftL x a.toNat)) q1 q2 _ (kcB HR HBW) HC.out HQ.out (tab_below HT.out HBW.out))).mono ?_; rintro e w5 ⟨rfl, hb5⟩; replace BKW := Aside0.mk (blk_below BKW.out hb5); replace HBW := hbB HBW hb5; have KD5 := Aside0.mk ((hb5.block _ hDw).trans KD.out); clear hb5; obtain ⟨hcy_0, hcy_1, hcy_2, hfy_0, hfy_1, hfy_2⟩ := cell3 BKW)
      refine wpIn_wide.2 (Code.wp_mono onlyN_le ?_)
      refine start_ (n := 9) (S := fun w' => True) (ds := []) #[false, false, false, false, false, false, false, false, false] (by kernel_rfl) rfl rfl trivial (fun hHeld => ?_)
      refine pure_ (i := 0) (N := some 57) (v := ?_) (a' := ?_) #[true, false, false, false, false, false, false, false, false] rfl rfl (by kernel_rfl) (fun _ _ _ h => h) (Or.inl ⟨by rfl, ?_⟩) ?_ ?_
      rotate_left
      · intro w'
        go_simp
        with_reducible rfl
      rotate_left
      · simp only [Act.put, List.setIfInBounds_toArray, List.set_cons_zero, List.set_cons_succ, i64_w, i32_w]
        rfl
      refine pure_ (i := 1) (N := some 58) (v := ?_) (a' := ?_) #[true, true, false, false, false, false, false, false, false] rfl rfl (by kernel_rfl) (fun _ _ _ h => h) (Or.inl ⟨by rfl, ?_⟩) ?_ ?_
      rotate_left
      · intro w'
        go_simp
        with_reducible rfl
      rotate_left
      · simp only [Act.put, List.setIfInBounds_toArray, List.set_cons_zero, List.set_cons_succ, i64_w, i32_w]
        rfl
      refine pure_ (i := 2) (N := some 59) (v := ?_) (a' := ?_) #[true, true, true, false, false, false, false, false, false] rfl rfl (by kernel_rfl) (fun _ _ _ h => h) (Or.inl ⟨by rfl, ?_⟩) ?_ ?_
      rotate_left
      · intro w'
        go_simp
        with_reducible rfl
      rotate_left
      · simp only [Act.put, List.setIfInBounds_toArray, List.set_cons_zero, List.set_cons_succ, i64_w, i32_w]
        rfl
      refine pure_ (i := 3) (N := some 60) (v := undef) (a' := ?_) #[true, true, true, true, false, false, false, false, false] rfl rfl (by kernel_rfl) (fun _ _ _ h => h) (Or.inr ⟨by rfl, rfl⟩) ?_ ?_
      rotate_left
      · simp only [Act.put, List.setIfInBounds_toArray, List.set_cons_zero, List.set_cons_succ, i64_w, i32_w]
        rfl
      refine pure_ (i := 4) (N := some 61) (v := undef) (a' := ?_) #[true, true, true, true, true, false, false, false, false] rfl rfl (by kernel_rfl) (fun _ _ _ h => h) (Or.inr ⟨by rfl, rfl⟩) ?_ ?_
      rotate_left
      · simp only [Act.put, List.setIfInBounds_toArray, List.set_cons_zero, List.set_cons_succ, i64_w, i32_w]
        rfl
      refine pure_ (i := 5) (N := some 62) (v := undef) (a' := ?_) #[true, true, true, true, true, true, false, false, false] rfl rfl (by kernel_rfl) (fun _ _ _ h => h) (Or.inr ⟨by rfl, rfl⟩) ?_ ?_
      rotate_left
      · simp only [Act.put, List.setIfInBounds_toArray, List.set_cons_zero, List.set_cons_succ, i64_w, i32_w]
        rfl
      refine pure_ (i := 6) (N := some 63) (v := undef) (a' := ?_) #[true, true, true, true, true, true, true, false, false] rfl rfl (by kernel_rfl) (fun _ _ _ h => h) (Or.inr ⟨by rfl, rfl⟩) ?_ ?_
      rotate_left
      · simp only [Act.put, List.setIfInBounds_toArray, List.set_cons_zero, List.set_cons_succ, i64_w, i32_w]
        rfl
      refine pure_ (i := 7) (N := some 64) (v := undef) (a' := ?_) #[true, true, true, true, true, true, true, true, false] rfl rfl (by kernel_rfl) (fun _ _ _ h => h) (Or.inr ⟨by rfl, rfl⟩) ?_ ?_
      rotate_left
      · simp only [Act.put, List.setIfInBounds_toArray, List.set_cons_zero, List.set_cons_succ, i64_w, i32_w]
        rfl
      refine pure_ (i := 8) (N := some 65) (v := ?_) (a' := ?_) #[true, true, true, true, true, true, true, true, true] rfl rfl (by kernel_rfl) (fun _ _ _ h => h) (Or.inl ⟨by rfl, ?_⟩) ?_ ?_
      rotate_left
      · intro w'
        go_simp
        with_reducible rfl
      rotate_left
      · simp only [Act.put, List.setIfInBounds_toArray, List.set_cons_zero, List.set_cons_succ, i64_w, i32_w]
        rfl
      refine done_ (by kernel_rfl) ?_
      simp only [onlyN]
      gi_wp2
      refine ⟨by simp, .inl ⟨_, _, rfl, run_takeDeferred KD5.out, ?_⟩⟩
      refine ⟨_, results_tmp2 rfl _ _ _, ?_⟩
      exact HNO.out (by simp) _ ((below_drew1 HBW.out).trans (belowK_b (w := w) (Nat.le_refl _) _ D _ _ (by omega) KD5.out rfl rfl))
    rw [if_pos hq2] at h
    subst hq2
    obtain ⟨n, hn, h⟩ := Option.bind_eq_some_iff.mp h
    have HN := Aside0.mk hn
    clear hn
    have c5 : ((0 : Int) != 0) = false := by decide
    by_cases hnb : n < b
    · rw [if_pos hnb] at h
      injection h with h
      injection h with h1 h
      injection h with h2 h3
      subst h1 h2 h3
      have c6 : decide (n < b) = true := decide_eq_true hnb
      clear hnb
      gi_wp2_with (refine ⟨trivial, ?_⟩; gi_at_call 54; refine (callsIn_wide.2 (matroid_Basis.calls k a b A c l (orL (leftL x a.toNat)) q1 0 _ (kcB HR HBW) HC.out HQ.out (tab_below HT.out HBW.out))).mono ?_; rintro e w5 ⟨rfl, hb5⟩; replace BKW := Aside0.mk (blk_below BKW.out hb5); replace HBW := hbB HBW hb5; have KD5 := Aside0.mk ((hb5.block _ hDw).trans KD.out); clear hb5; obtain ⟨hcy_0, hcy_1, hcy_2, hfy_0, hfy_1, hfy_2⟩ := cell3 BKW)
      refine wpIn_wide.2 (Code.wp_mono onlyN_le ?_)
      refine start_ (n := 9) (S := fun w' => w'.cell? ⟨w.heap.size, 1, none⟩ = some (.int .i64 b)) (ds := []) #[false, false, false, false, false, false, false, false, false] (by kernel_rfl) rfl rfl (hcy_1) (fun hHeld => ?_)
      refine pure_ (i := 0) (N := some 57) (v := ?_) (a' := ?_) #[true, false, false, false, false, false, false, false, false] rfl rfl (by kernel_rfl) (fun _ _ _ h => h) (Or.inl ⟨by rfl, ?_⟩) ?_ ?_
      rotate_left
      · intro w'
        go_simp
        with_reducible rfl
      rotate_left
      · simp only [Act.put, List.setIfInBounds_toArray, List.set_cons_zero, List.set_cons_succ, i64_w, i32_w]
        rfl
      refine pure_ (i := 1) (N := some 58) (v := ?_) (a' := ?_) #[true, true, false, false, false, false, false, false, false] rfl rfl (by kernel_rfl) (fun _ _ _ h => h) (Or.inl ⟨by rfl, ?_⟩) ?_ ?_
      rotate_left
      · intro w'
        go_simp
        with_reducible rfl
      rotate_left
      · simp only [Act.put, List.setIfInBounds_toArray, List.set_cons_zero, List.set_cons_succ, i64_w, i32_w]
        rfl
      refine pure_ (i := 2) (N := some 59) (v := ?_) (a' := ?_) #[true, true, true, false, false, false, false, false, false] rfl rfl (by kernel_rfl) (fun _ _ _ h => h) (Or.inl ⟨by rfl, ?_⟩) ?_ ?_
      rotate_left
      · intro w'
        go_simp
        with_reducible rfl
      rotate_left
      · simp only [Act.put, List.setIfInBounds_toArray, List.set_cons_zero, List.set_cons_succ, i64_w, i32_w]
        rfl
      refine pure_ (i := 3) (N := some 60) (v := ?_) (a' := ?_) #[true, true, true, true, false, false, false, false, false] rfl rfl (by kernel_rfl) (fun _ _ _ h => h) (Or.inl ⟨by rfl, ?_⟩) ?_ ?_
      rotate_left
      · intro w'
        go_simp
        with_reducible rfl
      rotate_left
      · simp only [Act.put, List.setIfInBounds_toArray, List.set_cons_zero, List.set_cons_succ, i64_w, i32_w]
        rfl
      refine pure_ (i := 5) (N := some 62) (v := ?_) (a' := ?_) #[true, true, true, true, false, true, false, false, false] rfl rfl (by kernel_rfl) (fun _ _ _ h => h) (Or.inl ⟨by rfl, ?_⟩) ?_ ?_
      rotate_left
      · intro w'
        go_simp
        with_reducible rfl
      rotate_left
      · simp only [Act.put, List.setIfInBounds_toArray, List.set_cons_zero, List.set_cons_succ, i64_w, i32_w]
        rfl
      refine take_ (i := 6) (N := some 63) (v := ?_) (a' := ?_) #[true, true, true, true, false, true, true, false, false] rfl rfl (by kernel_rfl) (fun _ _ _ h => h) (Or.inl ⟨by rfl, ?_⟩) hHeld ?_ ?_
      rotate_left
      · intro w' s0
        go_simp
        with_reducible rfl
      rotate_left
      · simp only [Act.put, List.setIfInBounds_toArray, List.set_cons_zero, List.set_cons_succ, i64_w, i32_w]
        rfl
      refine one_ (i := 4) (N := some 61) #[true, true, true, true, true, true, true, false, false] rfl rfl (by kernel_rfl) (by decide) (fun K hK => ?_)
      refine goes_ Tryd.func55 (by kernel_rfl) rfl #[.int .u64 q1] (by rfl) rfl rfl (by simp only [List.map_toArray, List.map_cons, List.map_nil]; rfl) ?_
      with_reducible refine (subset_Count.calls q1 n _ HN.out).mono ?_
      rintro e w6 ⟨rfl, ⟨nd6, rfl⟩⟩
      refine ⟨_, rfl, ?_⟩
      refine hK.out _ _ ((by simpa using hHeld)) (fun hHeld => ?_)
      clear hK K
      refine norm_ (a' := ?_) ?_ ?_
      rotate_left
      · show Act.put _ (some 61) _ = _
        simp only [Act.put, List.setIfInBounds_toArray, List.set_cons_zero, List.set_cons_succ, i64_w, i32_w]
        rfl
      refine pure_ (i := 7) (N := some 64) (v := ?_) (a' := ?_) #[true, true, true, true, true, true, true, true, false] rfl rfl (by kernel_rfl) (fun _ _ _ h => h) (Or.inl ⟨by rfl, ?_⟩) ?_ ?_
      rotate_left
      · intro w'
        go_simp
        with_reducible rfl
      rotate_left
      · simp only [Act.put, List.setIfInBounds_toArray, List.set_cons_zero, List.set_cons_succ, i64_w, i32_w]
        rfl
      refine pure_ (i := 8) (N := some 65) (v := ?_) (a' := ?_) #[true, true, true, true, true, true, true, true, true] rfl rfl (by kernel_rfl) (fun _ _ _ h => h) (Or.inl ⟨by rfl, ?_⟩) ?_ ?_
      rotate_left
      · intro w'
        go_simp
        with_reducible rfl
      rotate_left
      · simp only [Act.put, List.setIfInBounds_toArray, List.set_cons_zero, List.set_cons_succ, i64_w, i32_w]
        rfl
      refine done_ (by kernel_rfl) ?_
      simp only [onlyN]
      gi_wp2
      have KD6 : (w5.drew.drewN nd6).heap[D]? = some (.deferred (some [])) := KD5.out
      refine ⟨by simp, .inl ⟨_, _, rfl, run_takeDeferred KD6, ?_⟩⟩
      refine ⟨_, results_tmp2 rfl _ _ _, ?_⟩
      exact HNO.out (by simp) _ ((pw_below_drewN (below_drew1 HBW.out) _).trans (belowK_b (w := w) (Nat.le_refl _) _ D _ _ (by omega) KD6 rfl rfl))
    · rw [if_neg hnb] at h
      injection h with h
      injection h with h1 h
      injection h with h2 h3
      subst h1 h2 h3
      have c6 : decide (n < b) = false := decide_eq_false hnb
      clear hnb
      gi_wp2_with (refine ⟨trivial, ?_⟩; gi_at_call 54; refine (callsIn_wide.2 (matroid_Basis.calls k a b A c l (orL (leftL x a.toNat)) q1 0 _ (kcB HR HBW) HC.out HQ.out (tab_below HT.out HBW.out))).mono ?_; rintro e w5 ⟨rfl, hb5⟩; replace BKW := Aside0.mk (blk_below BKW.out hb5); replace HBW := hbB HBW hb5; have KD5 := Aside0.mk ((hb5.block _ hDw).trans KD.out); clear hb5; obtain ⟨hcy_0, hcy_1, hcy_2, hfy_0, hfy_1, hfy_2⟩ := cell3 BKW)
      refine wpIn_wide.2 (Code.wp_mono onlyN_le ?_)
      refine start_ (n := 9) (S := fun w' => w'.cell? ⟨w.heap.size, 1, none⟩ = some (.int .i64 b)) (ds := []) #[false, false, false, false, false, false, false, false, false] (by kernel_rfl) rfl rfl (hcy_1) (fun hHeld => ?_)
      refine pure_ (i := 0) (N := some 57) (v := ?_) (a' := ?_) #[true, false, false, false, false, false, false, false, false] rfl rfl (by kernel_rfl) (fun _ _ _ h => h) (Or.inl ⟨by rfl, ?_⟩) ?_ ?_
      rotate_left
      · intro w'
        go_simp
        with_reducible rfl
      rotate_left
      · simp only [Act.put, List.setIfInBounds_toArray, List.set_cons_zero, List.set_cons_succ, i64_w, i32_w]
        rfl
      refine pure_ (i := 1) (N := some 58) (v := ?_) (a' := ?_) #[true, true, false, false, false, false, false, false, false] rfl rfl (by kernel_rfl) (fun _ _ _ h => h) (Or.inl ⟨by rfl, ?_⟩) ?_ ?_
      rotate_left
      · intro w'
        go_simp
        with_reducible rfl
      rotate_left
      · simp only [Act.put, List.setIfInBounds_toArray, List.set_cons_zero, List.set_cons_succ, i64_w, i32_w]
        rfl
      refine pure_ (i := 2) (N := some 59) (v := ?_) (a' := ?_) #[true, true, true, false, false, false, false, false, false] rfl rfl (by kernel_rfl) (fun _ _ _ h => h) (Or.inl ⟨by rfl, ?_⟩) ?_ ?_
      rotate_left
      · intro w'
        go_simp
        with_reducible rfl
      rotate_left
      · simp only [Act.put, List.setIfInBounds_toArray, List.set_cons_zero, List.set_cons_succ, i64_w, i32_w]
        rfl
      refine pure_ (i := 3) (N := some 60) (v := ?_) (a' := ?_) #[true, true, true, true, false, false, false, false, false] rfl rfl (by kernel_rfl) (fun _ _ _ h => h) (Or.inl ⟨by rfl, ?_⟩) ?_ ?_
      rotate_left
      · intro w'
        go_simp
        with_reducible rfl
      rotate_left
      · simp only [Act.put, List.setIfInBounds_toArray, List.set_cons_zero, List.set_cons_succ, i64_w, i32_w]
        rfl
      refine pure_ (i := 5) (N := some 62) (v := ?_) (a' := ?_) #[true, true, true, true, false, true, false, false, false] rfl rfl (by kernel_rfl) (fun _ _ _ h => h) (Or.inl ⟨by rfl, ?_⟩) ?_ ?_
      rotate_left
      · intro w'
        go_simp
        with_reducible rfl
      rotate_left
      · simp only [Act.put, List.setIfInBounds_toArray, List.set_cons_zero, List.set_cons_succ, i64_w, i32_w]
        rfl
      refine take_ (i := 6) (N := some 63) (v := ?_) (a' := ?_) #[true, true, true, true, false, true, true, false, false] rfl rfl (by kernel_rfl) (fun _ _ _ h => h) (Or.inl ⟨by rfl, ?_⟩) hHeld ?_ ?_
      rotate_left
      · intro w' s0
        go_simp
        with_reducible rfl
      rotate_left
      · simp only [Act.put, List.setIfInBounds_toArray, List.set_cons_zero, List.set_cons_succ, i64_w, i32_w]
        rfl
      refine one_ (i := 4) (N := some 61) #[true, true, true, true, true, true, true, false, false] rfl rfl (by kernel_rfl) (by decide) (fun K hK => ?_)
      refine goes_ Tryd.func55 (by kernel_rfl) rfl #[.int .u64 q1] (by rfl) rfl rfl (by simp only [List.map_toArray, List.map_cons, List.map_nil]; rfl) ?_
      with_reducible refine (subset_Count.calls q1 n _ HN.out).mono ?_
      rintro e w6 ⟨rfl, ⟨nd6, rfl⟩⟩
      refine ⟨_, rfl, ?_⟩
      refine hK.out _ _ ((by simpa using hHeld)) (fun hHeld => ?_)
      clear hK K
      refine norm_ (a' := ?_) ?_ ?_
      rotate_left
      · show Act.put _ (some 61) _ = _
        simp only [Act.put, List.setIfInBounds_toArray, List.set_cons_zero, List.set_cons_succ, i64_w, i32_w]
        rfl
      refine pure_ (i := 7) (N := some 64) (v := ?_) (a' := ?_) #[true, true, true, true, true, true, true, true, false] rfl rfl (by kernel_rfl) (fun _ _ _ h => h) (Or.inl ⟨by rfl, ?_⟩) ?_ ?_
      rotate_left
      · intro w'
        go_simp
        with_reducible rfl
      rotate_left
      · simp only [Act.put, List.setIfInBounds_toArray, List.set_cons_zero, List.set_cons_succ, i64_w, i32_w]
        rfl
      refine pure_ (i := 8) (N := some 65) (v := ?_) (a' := ?_) #[true, true, true, true, true, true, true, true, true] rfl rfl (by kernel_rfl) (fun _ _ _ h => h) (Or.inl ⟨by rfl, ?_⟩) ?_ ?_
      rotate_left
      · intro w'
        go_simp
        with_reducible rfl
      rotate_left
      · simp only [Act.put, List.setIfInBounds_toArray, List.set_cons_zero, List.set_cons_succ, i64_w, i32_w]
        rfl
      refine done_ (by kernel_rfl) ?_
      simp only [onlyN]
      gi_wp2
      refine ⟨trivial, ?_⟩
      refine (callsIn_wide.2 (HTH.out (by simp) (w5.drewN (1 + nd6)) (pw_below_drewN HBW.out _))).mono ?_
      rintro e w9 ⟨er2, rfl, hT9, hd9⟩
      have KD9 := Aside0.mk (hd9 D KD5.out)
      clear hd9
      have hBD : Below w.heap.size w (w5.drewN (1 + nd6)) := pw_below_drewN HBW.out _
      have hD5 : D < (w5.drewN (1 + nd6)).heap.size := (Array.getElem?_eq_some_iff.1 KD5.out).1
      have hDw2 : w.heap.size ≤ D := by omega
      have HY9 := HYES.out (by simp) _ er2 w9 D hBD hDw2 hD5 hT9 KD9.out
      by_cases h0 : er2 = 0
      · subst h0
        gi_wp2
        refine ⟨by simp, .inl ⟨_, _, rfl, run_takeDeferred KD9.out, ?_⟩⟩
        refine ⟨_, results_tmp2 rfl _ _ _, ?_⟩
        exact HY9
      · have c8 : (er2 != 0) = true := bne_iff_ne.mpr h0
        have c9 : (er2 == 0) = false := by simpa using h0
        rw [c9] at HY9
        gi_wp2
        refine ⟨by simp, .inl ⟨_, _, rfl, run_takeDeferred KD9.out, ?_⟩⟩
        refine ⟨_, results_tmp2 rfl _ _ _, ?_⟩
        exact HY9

def verdict_Recovers.f (k : Nat) (a0_0 : Int) (a0_1 : Int) (l0_2 : List Int) (a1 : Int) : Option (Bool × Int) := (verdict_rec.f k a0_0 a0_1 l0_2 a1).bind fun p => some (p.2.1, if p.2.1 = true then 0 else p.2.2)
theorem verdict_Recovers.mono : ∀ a0 a1 a2 a3 k, LeO (verdict_Recovers.f k a0 a1 a2 a3) (verdict_Recovers.f (k + 1) a0 a1 a2 a3) := fun a0 a1 a2 a3 k => LeO.bind (verdict_rec.mono k a0 a1 a2 a3) fun _ => LeO.refl _
theorem verdict_fn31.calls (x : Int) (w : World) : Calls Tryd.prog 31 #[.int .u64 x] w fun e w' => e = .returned (.int .i64 0) ∧ w' = w := by
  go_enter Tryd.func31, Tryd.ntmps31
  go_wp2
  go_ret
  exact ⟨rfl, rfl⟩
theorem below_mark {w W : World} {D : Nat} (hB : Below w.heap.size w W) (hD : w.heap.size ≤ D) (hK : W.heap[D]? = some (.deferred (some []))) : Below w.heap.size w (W.putObj D (.deferred none)) :=
  hB.trans (belowK_b (w := w) (Nat.le_refl _) W D _ _ hD hK rfl rfl)
theorem verdict_recovered31.calls (k : Nat) (a b : Int) (A : Option Addr) (c : Nat) (l : List Int) (x : Int) (r1 : Bool) (r2 : Int) (w : World)
    (hr : Kd.C (Kd.int .u8) w A l.length l) (hc : l.length ≤ c) (h : verdict_Recovers.f k a b l x = some (r1, r2)) (hT : TabAt 0 Lib.deBruijn64tab w) :
    Calls Tryd.prog 30 #[.agg #[.int .i64 a, .int .i64 b, .slice A l.length c], .int .u64 x, .func (.func 31) #[] #[]] w fun e w' =>
      e = .returned (.tuple #[.bool r1, .int .i64 r2]) ∧ Below w.heap.size w w' := by
  unfold verdict_Recovers.f at h
  obtain ⟨⟨s, ok, er⟩, h1, h2⟩ := Option.bind_eq_some_iff.mp h
  injection h2 with h2
  injection h2 with e1 e2
  refine verdict_recovered.goes k a b A c l x s ok er 31 #[] w (fun W er2 W2 => er2 = 0 ∧ W2 = W) _ hr hc h1 hT (enters_of Tryd.func31 (by kernel_rfl) rfl) (fun _ W _ => ?_) (fun hok w' hB => ?_) (fun hok W er2 W2 D hB hD1 hD2 hT2 hK => ?_)
  · refine (verdict_fn31.calls s W).mono ?_
    rintro e W' ⟨rfl, rfl⟩
    exact ⟨0, rfl, ⟨rfl, rfl⟩, fun _ h => h⟩
  · rw [← e1, ← e2, hok]
    exact ⟨rfl, hB⟩
  · obtain ⟨rfl, rfl⟩ := hT2
    rw [← e1, ← e2, hok]
    exact ⟨rfl, below_mark hB hD1 hK⟩
set_option maxHeartbeats 4000000 in
set_option maxRecDepth 100000 in
theorem verdict_Recovers.calls (k : Nat) (a0_0 : Int) (a0_1 : Int) (A0_2 : Option Addr) (c0_2 : Nat) (l0_2 : List Int) (a1 : Int) (r1 : Bool) (r2 : Int) (w : World) (hr0_2 : Kd.C (Kd.int .u8) w A0_2 l0_2.length l0_2) (hc0_2 : l0_2.length ≤ c0_2) (h : verdict_Recovers.f k a0_0 a0_1 l0_2 a1 = some (r1, r2)) (hT : TabAt 0 Lib.deBruijn64tab w) :
    Calls Tryd.prog 9 #[.agg #[.int .i64 a0_0, .int .i64 a0_1, .slice A0_2 l0_2.length c0_2], .int .u64 a1] w fun e w' => e = .returned (.tuple #[.bool r1, .int .i64 r2]) ∧ Below w.heap.size w w' := by
  have hu24 := Tryd.underlying24
  have HR := Aside0.mk hr0_2
  have HC := Aside0.mk hc0_2
  have HT := Aside0.mk hT
  have HH := Aside0.mk h
  have HB := Aside0.mk (Below.refl w.heap.size w)
  clear hr0_2 hc0_2 hT h
  have BK := Aside0.mk (World.alloc_heap_new w (.cells #[.int .i64 a0_0, .int .i64 a0_1, .slice A0_2 l0_2.length c0_2] 24))
  obtain ⟨hcx_0, hcx_1, hcx_2, hfx_0, hfx_1, hfx_2⟩ := cell3 BK
  go_enter Tryd.func9, Tryd.ntmps9
  go_wp2_with (go_at_call 30; refine (verdict_recovered31.calls k a0_0 a0_1 A0_2 c0_2 l0_2 a1 r1 r2 _ (kcB HR HB) HC.out HH.out (tab_below HT.out (hbA HB.out))).mono ?_; rintro e w1 ⟨rfl, hb⟩; replace HB := hbB HB hb; clear hb)
  go_ret2
  exact ⟨rfl, hbA HB.out⟩


end Go.Proofs.YtkagobkedifhkaaDoor.Q
