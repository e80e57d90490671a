import Derived.Test.YthjncmdlhmppiaaDoorBMatroidCloses
import Derived.Test.YthjncmdlhmppiaaDoorQx110
import Derived.Test.YthjncmdlhmppiaaDoorQx147
import Derived.Test.YthjncmdlhmppiaaDoorQx168
namespace Go.Proofs.YthjncmdlhmppiaaDoor.M
open Go.RowKit Go.Proofs.YthjncmdlhmppiaaDoorW.PrintWords Go.Proofs.YthjncmdlhmppiaaDoor.Q
set_option linter.unusedVariables false
section
variable {r c s : Nat} {l : List Int}
theorem bit_none (i : Nat) : ¬ Bit 0 i := fun h0 => by unfold Bit at h0; rw [Nat.zero_testBit] at h0; cases h0
theorem wo_none {s t : Nat} (hs : s < 2 ^ 64) (ht : t < 2 ^ 64) (h : ∀ i, Bit s i → Bit t i) : wo s t = 0 := bit_ext fun j => by
 rw [bit_wo hs ht]
 exact ⟨fun e => absurd (h j e.1) e.2, fun e => absurd e (bit_none j)⟩
theorem not_none {s t : Nat} (hs : s < 2 ^ 64) (ht : t < 2 ^ 64) (h : ∀ i, Bit s i → Bit t i) : Go.bits .andNot .u64 (s : Int) (t : Int) = 0 := by
 rw [bandNot hs ht]
 show ((wo s t : Nat) : Int) = 0
 rw [wo_none hs ht h]
 rfl
/-- Sets that combine to the same have the same span. -/
theorem spn_same {t : Nat} (hb : bytesB l = true) (hl : l.length = r * c) (hr : r ≤ 64) (hc : c ≤ 64) (hs : s < 2 ^ 64) (h : Val r s) (ht : t < 2 ^ 64) (h' : Val r t) (e : ∀ v, Sp (mv (rowsOf c r l) c) r (Bit t) v ↔ Sp (mv (rowsOf c r l) c) r (Bit s) v) : spn r c l t = spn r c l s := bit_ext fun i => by
 rw [spn_bit hb hl hr hc hs h, spn_bit hb hl hr hc ht h', e]
end
end Go.Proofs.YthjncmdlhmppiaaDoor.M
namespace Go.Proofs.YthjncmdlhmppiaaDoor.Pure
open Go.RowKit Go.Proofs.YthjncmdlhmppiaaDoor.M Go.Proofs.YthjncmdlhmppiaaDoor.Q
set_option linter.unusedVariables false
/-- A span has the rank of its set and is its own span; a basis is free and has the same span. -/
theorem MatroidCloses : ∀ x0 : Q.S24, ((Lit.int .i64 x0.f0).wf = true ∧ ((Lit.int .i64 x0.f1).wf = true ∧ (x0.f2.length ≤ maxLen ∧ x0.f2.length * 1 ≤ 140737488351232 ∧ ∀ x5 ∈ x0.f2, (Lit.int .u8 x5).wf = true))) → ∀ x1 : Int, (Lit.int .u64 x1).wf = true → ∃ k, Q.recouplaw07_MatroidCloses.f k x0.f0 x0.f1 x0.f2 x1 = some true := by
 rintro ⟨a, b, l⟩ ⟨ha, hb, _, _, hl⟩ x hx
 have hbl : bytesB l = true := bytesB_wf hl
 clear hl
 show ∃ k, Q.recouplaw07_MatroidCloses.f k a b l x = some true
 refine M.Ends.exists ?_
 unfold Q.recouplaw07_MatroidCloses.f
 rcases args7 (b := b) (l := l) ha hx with ⟨h1, h2⟩ | ⟨r, c, s, rfl, rfl, rfl, hr, hc, hl, hs⟩
 ·exact M.Ends.bind (Span7_bad h2) (M.Ends.bind (right7 (rRank7_bad h1)) (M.Ends.neg (by decide) (M.Ends.bind anch7 (M.Ends.pos rfl (M.Ends.const rfl)))))
 ·by_cases h : Val r s
  ·have sl : spn r c l s < 2 ^ 64 := spn_lt hr
   have sv : Val r (spn r c l s) := spn_val hr
   have bl := bas_lt hbl hl hr hc hs h
   have bv := bas_val hbl hl hr hc hs h
   have e1 : spn r c l (spn r c l s) = spn r c l s := spn_same hbl hl hr hc hs h sl sv (spn_sp hbl hl hr hc hs h)
   have e2 : spn r c l (bas c l s) = spn r c l s := spn_same hbl hl hr hc hs h bl bv (bas_sp hbl hl hr hc hs h)
   have e3 : rho c l (spn r c l s) = rho c l s := by
    rw [rho_rk hbl hl hr hc sl sv, rho_rk hbl hl hr hc hs h]
    exact rkS_span (spn_sp hbl hl hr hc hs h)
   have hF := Free7 bl rfl (Rank7 hbl hl hr hc bl bv)
   rw [if_pos rfl] at hF
   have hF2 : ((rho c l (bas c l s) : Int) == ((setL (bas c l s)).length : Int)) = true := by rw [bas_free hbl hl hr hc hs h]; exact beq_self_eq_true _
   have n1 := not_none hs sl fun i hi => (spn_bit hbl hl hr hc hs h i).2 ⟨(val_bit hs).1 h i hi, sp_row ((val_bit hs).1 h i hi) hi⟩
   have n2 := not_none bl hs fun i hi => bas_sub hbl hl hr hc hs h hi
   have hS2 := Span7 hbl hl hr hc sl sv
   rw [e1] at hS2
   have hS3 := Span7 hbl hl hr hc bl bv
   rw [e2] at hS3
   have hR2 := Rank7 hbl hl hr hc sl sv
   rw [e3] at hR2
   refine M.Ends.bind (Span7 hbl hl hr hc hs h) (M.Ends.bind (right7 (rRank7 hbl hl hr hc hs h)) (M.Ends.pos rfl (M.Ends.bind hS2 (M.Ends.bind (Basis7 hbl hl hr hc hs h) (M.Ends.bind hS3 (M.Ends.bind (Rank7 hbl hl hr hc hs h) (M.Ends.bind hR2 (M.Ends.bind hF (M.Ends.bind anch7 (M.Ends.pos rfl ?_))))))))))
   refine M.Ends.pos rfl (M.Ends.pos rfl (M.Ends.pos rfl (M.Ends.pos rfl (M.Ends.pos rfl (M.Ends.pos rfl (M.Ends.pos rfl ?_))))))
   refine M.Ends.pos n1 (M.Ends.pos rfl (M.Ends.pos rfl (M.Ends.pos rfl (M.Ends.pos hF2 ?_))))
   refine M.Ends.bind (refList_eq bl) (M.Ends.pos (by rw [ints_length, bas_card hbl hl hr hc hs h]) (M.Ends.const ?_))
   rw [n2]
   rfl
  ·exact M.Ends.bind (Span7_arg hl hr hc hs h) (M.Ends.bind (right7 (rRank7_arg hl hr hc hs h)) (M.Ends.neg (by decide) (M.Ends.bind anch7 (M.Ends.pos rfl (M.Ends.const rfl)))))
end Go.Proofs.YthjncmdlhmppiaaDoor.Pure
