import Derived.Test.YthjncmdlhmppiaaDoorBMatroidSums
import Derived.Test.YthjncmdlhmppiaaDoorQx106
import Derived.Test.YthjncmdlhmppiaaDoorQx134
import Derived.Test.YthjncmdlhmppiaaDoorQx147
import Derived.Test.YthjncmdlhmppiaaDoorQx168
namespace Go.Proofs.YthjncmdlhmppiaaDoor.Pure
open Go.RowKit Go.Proofs.YthjncmdlhmppiaaDoorW.PrintWords Go.Proofs.YthjncmdlhmppiaaDoor.M Go.Proofs.YthjncmdlhmppiaaDoor.Q
set_option linter.unusedVariables false
/-- The rank is not more on a union and a meeting than on the two sets, grows with the set, and never by more than was put in. -/
theorem MatroidSums : ∀ x0 : Q.S24, ((Lit.int .i64 x0.f0).wf = true ∧ ((Lit.int .i64 x0.f1).wf = true ∧ (x0.f2.length ≤ maxLen ∧ x0.f2.length * 1 ≤ 140737488351232 ∧ ∀ x5 ∈ x0.f2, (Lit.int .u8 x5).wf = true))) → ∀ x1 : Int, (Lit.int .u64 x1).wf = true → ∀ x2 : Int, (Lit.int .u64 x2).wf = true → ∃ k, Q.recouplaw07_MatroidSums.f k x0.f0 x0.f1 x0.f2 x1 x2 = some true := by
 rintro ⟨a, b, l⟩ ⟨ha, hb, _, _, hl⟩ x hx y hy
 have hbl : bytesB l = true := bytesB_wf hl
 clear hl
 show ∃ k, Q.recouplaw07_MatroidSums.f k a b l x y = some true
 obtain ⟨t, rfl, ht⟩ := u64_nat hy
 refine M.Ends.exists ?_
 unfold Q.recouplaw07_MatroidSums.f
 rcases args7 (b := b) (l := l) ha hx with ⟨h1, h2⟩ | ⟨r, c, s, rfl, rfl, rfl, hr, hc, hl, hs⟩
 ·refine M.Ends.bind (Rank7_bad h2) (M.Ends.bind (Rank7_bad h2) (M.Ends.bind (right7 (rRank7_bad h1)) (M.Ends.neg (by decide) ?_)))
  refine M.Ends.succ (fun k => by rw [recouplaw07_MatroidSums.j0]) ?_
  exact M.Ends.pos rfl (M.Ends.bind anch7 (M.Ends.pos rfl (M.Ends.neg (by decide) (M.Ends.const rfl))))
 by_cases hS : Val r s
 ·by_cases hT : Val r t
  ·refine M.Ends.bind (Rank7 hbl hl hr hc hs hS) (M.Ends.bind (Rank7 hbl hl hr hc ht hT) (M.Ends.bind (right7 (rRank7 hbl hl hr hc hs hS)) (M.Ends.pos rfl (M.Ends.bind (right7 (rRank7 hbl hl hr hc ht hT)) ?_))))
   have vo := val_or hs ht hS hT
   have va : Val r (s &&& t) := val_sub hs (lt_and hs) hS fun i hi => by rw [Nat.testBit_and, Bool.and_eq_true] at hi; exact hi.1
   have vw : Val r (wo t s) := val_sub ht (wo_lt ht) hT fun i hi => ((bit_wo ht hs i).1 hi).1
   refine M.Ends.succ (fun k => by rw [recouplaw07_MatroidSums.j0]) ?_
   refine M.Ends.neg (show ¬ (!((0 : Int) == 0)) = true by decide) ?_
   rw [bor hs ht, band hs ht]
   refine M.Ends.bind (Rank7 hbl hl hr hc (lt_or hs ht) vo) (M.Ends.bind (Rank7 hbl hl hr hc (lt_and hs) va) (M.Ends.bind anch7 (M.Ends.pos rfl (M.Ends.pos rfl (M.Ends.pos rfl (M.Ends.pos rfl (M.Ends.pos rfl ?_)))))))
   have q1 := setL_len_rk hs hS (mv (rowsOf c r l) c)
   have q2 := setL_len_rk ht hT (mv (rowsOf c r l) c)
   have q3 := setL_len_rk (wo_lt ht (t := s)) vw (mv (rowsOf c r l) c)
   have q4 := setL_len_rk (lt_or hs ht) vo (mv (rowsOf c r l) c)
   have q5 := setL_len_rk (lt_and hs (b := t)) va (mv (rowsOf c r l) c)
   have l1 := setL_length s
   have l2 := setL_length t
   have l3 := setL_length (wo t s)
   have l4 := setL_length (s ||| t)
   have l5 := setL_length (s &&& t)
   have sm := rkS_sums (b := mv (rowsOf c r l) c) (n := r) (A := Bit s) (B := Bit t)
   rw [← rkS_or, ← rkS_and] at sm
   have sw := sum_wo (mv (rowsOf c r l) c) (r := r) hs ht
   have m1 : rkS (mv (rowsOf c r l) c) r (Bit s) ≤ rkS (mv (rowsOf c r l) c) r (Bit (s ||| t)) := rkS_mono fun i _ hi => (bit_or s t i).2 (.inl hi)
   have m2 : rkS (mv (rowsOf c r l) c) r (Bit t) ≤ rkS (mv (rowsOf c r l) c) r (Bit (s ||| t)) := rkS_mono fun i _ hi => (bit_or s t i).2 (.inr hi)
   have m3 : rkS (mv (rowsOf c r l) c) r (Bit (s &&& t)) ≤ rkS (mv (rowsOf c r l) c) r (Bit s) := rkS_mono fun i _ hi => ((bit_and s t i).1 hi).1
   have m4 : rkS (mv (rowsOf c r l) c) r (Bit (s &&& t)) ≤ rkS (mv (rowsOf c r l) c) r (Bit t) := rkS_mono fun i _ hi => ((bit_and s t i).1 hi).2
   rw [← rho_rk hbl hl hr hc hs hS] at q1 sm sw m1 m3
   rw [← rho_rk hbl hl hr hc ht hT] at q2 sm m2 m4
   rw [← rho_rk hbl hl hr hc (wo_lt ht) vw] at q3 sw
   rw [← rho_rk hbl hl hr hc (lt_or hs ht) vo] at q4 sm sw m1 m2
   rw [← rho_rk hbl hl hr hc (lt_and hs) va] at q5 sm m3 m4
   have hL1 := refList_eq hs
   have hL2 := refList_eq (wo_lt ht (t := s))
   have e2 : Go.bits .andNot .u64 (t : Int) (s : Int) = ((wo t s : Nat) : Int) := bandNot ht hs
   rw [e2]
   show M.Ends (fun k => if wrap64 ((rho c l (s ||| t) : Int) + (rho c l (s &&& t) : Int)) ≤ wrap64 ((rho c l s : Int) + (rho c l t : Int)) then _ else _) true
   generalize rho c l s = n1 at *
   generalize rho c l t = n2 at *
   generalize rho c l (s ||| t) = n3 at *
   generalize rho c l (s &&& t) = n4 at *
   clear hS hT vo va vw e2
   rw [w64 (show (-9223372036854775808 : Int) ≤ (n3 : Int) + (n4 : Int) by omega) (by omega), w64 (show (-9223372036854775808 : Int) ≤ (n1 : Int) + (n2 : Int) by omega) (by omega)]
   refine M.Ends.pos (by omega) (M.Ends.pos (show (n3 : Int) ≥ (n1 : Int) by omega) (M.Ends.pos (show (n3 : Int) ≥ (n2 : Int) by omega) (M.Ends.pos (show (n4 : Int) ≤ (n1 : Int) by omega) (M.Ends.pos (show (n4 : Int) ≤ (n2 : Int) by omega) ?_))))
   refine M.Ends.bind hL1 (M.Ends.pos (by rw [ints_length]; show (n1 : Int) ≤ _; omega) (M.Ends.bind hL2 (M.Ends.const ?_)))
   rw [ints_length, w64 (show (-9223372036854775808 : Int) ≤ (n1 : Int) + ((setL (wo t s)).length : Int) by omega) (by omega)]
   exact congrArg some (decide_eq_true (show (n3 : Int) ≤ (n1 : Int) + ((setL (wo t s)).length : Int) by omega))
  ·refine M.Ends.bind (Rank7 hbl hl hr hc hs hS) (M.Ends.bind (Rank7_arg hl hr hc ht hT) (M.Ends.bind (right7 (rRank7 hbl hl hr hc hs hS)) (M.Ends.pos rfl (M.Ends.bind (right7 (rRank7_arg hl hr hc ht hT)) ?_))))
   refine M.Ends.succ (fun k => by rw [recouplaw07_MatroidSums.j0]) ?_
   exact M.Ends.pos rfl (M.Ends.bind anch7 (M.Ends.pos rfl (M.Ends.pos rfl (M.Ends.const rfl))))
 ·have hy7 : ∃ k0, M.Ends (fun k => matroid_Rank.f k (r : Int) (c : Int) l (t : Int)) k0 := by
   by_cases hT : Val r t
   ·exact ⟨_, Rank7 hbl hl hr hc ht hT⟩
   ·exact ⟨_, Rank7_arg hl hr hc ht hT⟩
  obtain ⟨k0, hk0⟩ := hy7
  refine M.Ends.bind (Rank7_arg hl hr hc hs hS) (M.Ends.bind hk0 (M.Ends.bind (right7 (rRank7_arg hl hr hc hs hS)) (M.Ends.neg (by decide) ?_)))
  refine M.Ends.succ (fun k => by rw [recouplaw07_MatroidSums.j0]) ?_
  exact M.Ends.pos rfl (M.Ends.bind anch7 (M.Ends.pos rfl (M.Ends.neg (by decide) (M.Ends.const rfl))))
end Go.Proofs.YthjncmdlhmppiaaDoor.Pure
