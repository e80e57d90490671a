/- subset.All hands back a closure, and that closure tells the sets in the order of Next, or so many of them as are asked for. -/
import Derived.Test.YtagghjljbedfdaaDoorQx8
import Derived.Test.YtagghjljbedfdaaDoorP06Place
import Derived.RangeFuncNested
import Derived.RangeFuncBound
import Derived.RangeFuncCalls
import Derived.RangeFuncLeaves
import Derived.Shelf.Abstract
import Derived.Shelf.RegionOpen
import Derived.WalkKit
import Derived.OwnWalkIn
import Derived.TacticsInMore
import Derived.LoopNIn
import Derived.LoopIn
namespace Go.Proofs.YtagghjljbedfdaaDoor.Q
open Go.RowKit Go.Shelf Go.Proofs.YtagghjljbedfdaaDoorW.PrintWords Go.Proofs.YtagghjljbedfdaaDoorW.PrintLast Go.Proofs.YtagghjljbedfdaaDoorW.PrintMore
attribute [local go_sem] Oper.semAt_some
set_option linter.unusedVariables false
set_option linter.unusedSimpArgs false

theorem subset_All.calls (n k : Int) (w : World) :
    Calls Tryd.prog 27 #[.int .i64 n, .int .i64 k] w fun e w' => e = .returned (.func (.func 38) #[] #[.pointer (some ⟨w.heap.size, 0, none⟩), .pointer (some ⟨w.heap.size + 1, 0, none⟩)]) ∧ w' = (w.alloc (.cells #[.int .i64 n] 3)).alloc (.cells #[.int .i64 k] 3) := by
  go_enter Tryd.func27, Tryd.ntmps27
  go_wp2
  go_ret
  exact ⟨rfl, rfl⟩

/-- The sets from s on, in the order of Next. -/
def subset_All.chain (n : Int) : Nat → List Nat → Prop
  | _, [] => False
  | s, x :: rest => x = s ∧ s < 2 ^ 64 ∧ (match M.nextV n s with | (t, true) => subset_All.chain n t.toNat rest | (_, false) => rest = [])
def subset_All.good (n k : Int) (xs : List Nat) : Prop := if 0 ≤ n ∧ n ≤ 64 ∧ 0 ≤ k ∧ k ≤ n then subset_All.chain n (2 ^ k.toNat - 1) xs else xs = []

theorem subset_All.chain_unique {n : Int} : ∀ {r r' : List Nat} {s : Nat}, subset_All.chain n s r → subset_All.chain n s r' → r = r'
  | [], _, s, h, _ => absurd h (by simp [subset_All.chain])
  | _ :: _, [], s, _, h => absurd h (by simp [subset_All.chain])
  | x :: r, y :: r', s, h, h' => by
    unfold subset_All.chain at h h'
    obtain ⟨rfl, _, h2⟩ := h
    obtain ⟨rfl, _, h3⟩ := h'
    obtain ⟨t, b, ht⟩ : ∃ t b, M.nextV n y = (t, b) := ⟨_, _, rfl⟩
    rw [ht] at h2 h3
    cases b with
    | false => simp only at h2 h3; rw [h2, h3]
    | true => simp only at h2 h3; rw [subset_All.chain_unique h2 h3]
theorem subset_All.len (n : Int) : ∃ len : Nat → Nat, ∀ s r, subset_All.chain n s r → len s = r.length := by
  classical
  refine ⟨fun s => if h : ∃ r, subset_All.chain n s r then (Classical.choose h).length else 0, fun s r hr => ?_⟩
  have h : ∃ r, subset_All.chain n s r := ⟨r, hr⟩
  simp only [dif_pos h]
  rw [subset_All.chain_unique (Classical.choose_spec h) hr]
theorem subset_All.next_nat (n : Int) (s : Nat) : (((M.nextV n s).1.toNat : Nat) : Int) = (M.nextV n s).1 := by
  unfold M.nextV
  split
  · split <;> simp
  · simp

theorem grown_of_below {W W' : World} (h : Below W.heap.size W W') : W.grownBy W' none := ⟨h.os, h.tape, h.output, h.size, fun k hk _ => h.block k hk⟩

set_option maxHeartbeats 4000000 in
set_option maxRecDepth 100000 in
theorem subset_All1.calls (m l bn bk n₀ : Nat) (n k : Int) (xs : List Nat) (hg : subset_All.good n k xs) (J Jx : List Nat → World → Prop) (B0 : Nat) (hJ : AbidesFrom B0 J)
    (hY : ∀ (pre : List Nat) (x : Nat) W, J pre W → pre.length < xs.length → YieldAt Fence.wide m Tryd.prog l #[.int .u64 x] W fun e W' =>
      (e = .returned (.bool true) ∧ J (pre ++ [x]) W' ∧ Below n₀ W W') ∨ (e = .returned (.bool false) ∧ Jx (pre ++ [x]) W'))
    (W : World) (hbn : bn < n₀) (hbk : bk < n₀) (h0n : 0 < n₀) (hs : n₀ ≤ W.heap.size) (cn : W.cell? ⟨bn, 0, none⟩ = some (.int .i64 n)) (ck : W.cell? ⟨bk, 0, none⟩ = some (.int .i64 k)) (hT : TabAt 0 Lib.deBruijn64tab W) (h0 : J [] W) :
    CallsIn Fence.wide (m + 1) Tryd.prog 38 #[.func (.yield l) #[] #[], .pointer (some ⟨bn, 0, none⟩), .pointer (some ⟨bk, 0, none⟩)] W fun e W' => (∃ v, e = .returned v) ∧
      ((∃ ys, ys = xs ∧ J ys W') ∨ (∃ pre, pre <+: xs ∧ Jx pre W')) := by
  refine callsIn_of_wp Tryd.func38 rfl trivial ?_ rfl
  simp only [Tryd.ntmps38, List.size_toArray, List.length_cons, List.length_nil, Nat.reduceAdd, Nat.reduceSub, Array.replicate_succ, Array.replicate_zero, List.push_toArray, List.append_toArray, List.nil_append, List.cons_append]
  by_cases hh : 0 ≤ n ∧ n ≤ 64 ∧ 0 ≤ k ∧ k ≤ n
  · unfold subset_All.good at hg
    rw [if_pos hh] at hg
    obtain ⟨n0, n1, k0, k1⟩ := hh
    have HG := Aside0.mk hg
    clear hg
    have hmay : subset_may.f n = some true := by unfold subset_may.f; rw [if_pos n0]; simpa using n1
    have c1 : (decide (k < 0)) = false := decide_eq_false (by omega)
    have c2 : (decide (k > n)) = false := decide_eq_false (by omega)
    have hlow : subset_low.f k = some ((2 ^ k.toNat - 1 : Nat) : Int) := by
      have := M.low_eq (n := k.toNat) (by omega)
      rwa [show ((k.toNat : Nat) : Int) = k by omega] at this
    have HM := Aside0.mk hmay
    have HL := Aside0.mk hlow
    clear hmay hlow
    gi_wp2_with (first | (refine ⟨trivial, ?_⟩; gi_at_call 30; refine (callsIn_wide.2 (subset_may.calls n true _ HM.out)).mono ?_; rintro e w1 ⟨rfl, ⟨nd, rfl⟩⟩) | (refine ⟨trivial, ?_⟩; gi_at_call 31; refine (callsIn_wide.2 (subset_low.calls k _ _ HL.out)).mono ?_; rintro e w2 ⟨rfl, ⟨nd2, rfl⟩⟩))
    have hb1 := grown_of_below (W := W) (W' := W.drewN (nd + nd2)) (pw_below_drewN (Below.refl _ _) _)
    have hJ1 := hJ _ _ _ none h0 hb1 (fun r e => by cases e)
    have hcn1 : (W.drewN (nd + nd2)).cell? ⟨bn, 0, none⟩ = some (.int .i64 n) := by simpa using cn
    have hTn : TabAt 0 Lib.deBruijn64tab (W.drewN (nd + nd2)) := tab_below hT (pw_below_drewN (Below.refl _ _) _)
    have hsz : n₀ ≤ (W.drewN (nd + nd2)).heap.size := by simpa using hs
    generalize W.drewN (nd + nd2) = W1 at *
    clear cn ck hT h0 hs hb1
    obtain ⟨len, hlen⟩ := subset_All.len n
    gi_loopw [4, 5] (fun p q wr => ∃ (pre rest : List Nat) (s : Nat) (b : Bool), p = .int .u64 s ∧ q = .bool b ∧ Aside0 (xs = pre ++ rest) ∧ Aside0 (if b then subset_All.chain n s rest else rest = []) ∧ Aside0 (J pre wr) ∧ Aside0 (TabAt 0 Lib.deBruijn64tab wr) ∧ n₀ ≤ wr.heap.size ∧ wr.cell? ⟨bn, 0, none⟩ = some (.int .i64 n))
      (fun p q _ => match q with | .bool true => len (intOf p).toNat + 1 | _ => 0)
    case atStart =>
      exact ⟨[], xs, 2 ^ k.toNat - 1, true, rfl, rfl, ⟨rfl⟩, ⟨HG.out⟩, ⟨hJ1⟩, ⟨hTn⟩, hsz, hcn1⟩
    case round =>
      obtain ⟨pre, rest, s, b, rfl, rfl, hx, hc, hJs, hTs, hsz2, hcn⟩ := hrel
      clear hJ1 hTn hsz hcn1
      cases b with
      | false =>
        gi_wp2
        refine ⟨fun _ h => (by cases h), ?_⟩
        gi_wp2
        go_end0
        have hr : rest = [] := by simpa using hc.out
        exact ⟨⟨_, rfl⟩, .inl ⟨pre, by rw [hx.out, hr, List.append_nil], hJs.out⟩⟩
      | true =>
        obtain ⟨x, rest, rfl⟩ : ∃ x r, rest = x :: r := by
          cases rest with
          | nil => exact absurd hc.out (by simp [subset_All.chain])
          | cons x r => exact ⟨x, r, rfl⟩
        have hc2 : subset_All.chain n s (x :: rest) := by simpa using hc.out
        have hlx := hlen s (x :: rest) hc2
        unfold subset_All.chain at hc2
        obtain ⟨hxs, hs64, hmt⟩ := hc2
        subst hxs
        clear hc
        obtain ⟨fn, tmps, assign, body, hy, hR⟩ := hY pre x wr hJs.out (by rw [hx.out]; simp)
        obtain ⟨K, hK⟩ := M.Next_eq n hs64
        obtain ⟨t, tb, ht⟩ : ∃ t tb, M.nextV n x = (t, tb) := ⟨_, _, rfl⟩
        rw [ht] at hmt
        have htn : ((t.toNat : Nat) : Int) = t := by have := subset_All.next_nat n x; rwa [ht] at this
        have hnx : subset_Next.f K n (x : Int) = some (t, tb) := by rw [← ht]; exact hK K (Nat.le_refl _)
        have HNX := Aside0.mk hnx
        have HMT := Aside0.mk hmt
        have HLX := Aside0.mk hlx
        clear hK hnx hmt ht hlx
        gi_wp2
        refine hR.mono ?_
        rintro e W3 (⟨rfl, hJ3, hk3⟩ | ⟨rfl, hJx3⟩)
        · have hcn3 := (hk3.cell (p := ⟨bn, 0, none⟩) hbn).trans hcn
          have hs3 : n₀ ≤ W3.heap.size := Nat.le_trans hsz2 hk3.size
          have HT3 : TabAt 0 Lib.deBruijn64tab W3 := fun j hj => (hk3.cell (p := ⟨0, j, none⟩) h0n).trans (hTs.out j hj)
          clear hR hy
          gi_wp2_with (refine ⟨trivial, ?_⟩; gi_at_call 9; refine (callsIn_wide.2 (subset_Next.calls K n x t tb _ HNX.out HT3)).mono ?_; rintro e W4 ⟨rfl, hb4⟩)
          have hJ4 := hJ _ _ _ none hJ3 (grown_of_below hb4) (fun r e => by cases e)
          refine ⟨⟨pre ++ [x], rest, t.toNat, tb, by rw [htn], rfl, ⟨by rw [hx.out]; simp⟩, ⟨?_⟩, ⟨hJ4⟩, ⟨tab_below HT3 hb4⟩, Nat.le_trans hs3 hb4.size, (hb4.cell (p := ⟨bn, 0, none⟩) (by simp only; omega)).trans hcn3⟩, ?_⟩
          · cases tb with
            | true => simpa using HMT.out
            | false => simpa using HMT.out
          · cases tb with
            | true =>
              have e2 := hlen t.toNat rest (by simpa using HMT.out)
              simp [intOf, HLX.out, e2]
            | false => simp
        · gi_wp2
          go_end0
          exact ⟨⟨_, rfl⟩, .inr ⟨pre ++ [x], ⟨rest, by rw [hx.out]; simp⟩, hJx3⟩⟩
  · unfold subset_All.good at hg
    rw [if_neg hh] at hg
    subst hg
    by_cases hm : 0 ≤ n ∧ n ≤ 64
    · have hmay : subset_may.f n = some true := by unfold subset_may.f; rw [if_pos hm.1]; simpa using hm.2
      have HM := Aside0.mk hmay
      clear hmay
      by_cases hk : k < 0
      · have c1 : (decide (k < 0)) = true := decide_eq_true hk
        clear hh hm hk
        gi_wp2_with (refine ⟨trivial, ?_⟩; gi_at_call 30; refine (callsIn_wide.2 (subset_may.calls n true _ HM.out)).mono ?_; rintro e w1 ⟨rfl, ⟨nd, rfl⟩⟩)
        refine bodyPost_ret (results_none rfl _ _ _) rfl ?_
        exact ⟨⟨_, rfl⟩, .inl ⟨[], rfl, hJ _ _ _ none h0 (grown_of_below (pw_below_drewN (Below.refl _ _) _)) (fun r e => by cases e)⟩⟩
      · have c1 : (decide (k < 0)) = false := decide_eq_false hk
        have c2 : (decide (k > n)) = true := decide_eq_true (by omega)
        clear hh hm hk
        gi_wp2_with (refine ⟨trivial, ?_⟩; gi_at_call 30; refine (callsIn_wide.2 (subset_may.calls n true _ HM.out)).mono ?_; rintro e w1 ⟨rfl, ⟨nd, rfl⟩⟩)
        refine bodyPost_ret (results_none rfl _ _ _) rfl ?_
        exact ⟨⟨_, rfl⟩, .inl ⟨[], rfl, hJ _ _ _ none h0 (grown_of_below (pw_below_drewN (Below.refl _ _) _)) (fun r e => by cases e)⟩⟩
    · have hmay : subset_may.f n = some false := by
        unfold subset_may.f
        by_cases h : n ≥ 0
        · rw [if_pos h]; simp; omega
        · rw [if_neg h]
      have HM := Aside0.mk hmay
      clear hmay hh hm
      gi_wp2_with (refine ⟨trivial, ?_⟩; gi_at_call 30; refine (callsIn_wide.2 (subset_may.calls n false _ HM.out)).mono ?_; rintro e w1 ⟨rfl, ⟨nd, rfl⟩⟩)
      refine bodyPost_ret (results_none rfl _ _ _) rfl ?_
      exact ⟨⟨_, rfl⟩, .inl ⟨[], rfl, hJ _ _ _ none h0 (grown_of_below (pw_below_drewN (Below.refl _ _) _)) (fun r e => by cases e)⟩⟩
end Go.Proofs.YtagghjljbedfdaaDoor.Q
