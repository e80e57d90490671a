import Derived.Test.YthjncmdlhmppiaaDoorBMatroidNeeds
import Derived.Test.YthjncmdlhmppiaaDoorQx109
import Derived.Test.YthjncmdlhmppiaaDoorQx147
import Derived.Test.YthjncmdlhmppiaaDoorQx168
namespace Go.Proofs.YthjncmdlhmppiaaDoor.M
open Go.RowKit Go.Proofs.YthjncmdlhmppiaaDoorW.PrintWords Go.Proofs.YthjncmdlhmppiaaDoor.Q
set_option linter.unusedVariables false
theorem needs_l0 {r c s : Nat} {l : List Int} (hb : bytesB l = true) (hl : l.length = r * c) (hr : r ≤ 64) (hc : c ≤ 64) (hs : s < 2 ^ 64) (h : Val r s) : ∀ d i : Nat, i + d = (setL s).length →
  Ends (fun k => recouplaw07_MatroidNeeds.l0 k (s : Int) (ndd r c l s : Int) 0 (ints (setL s)) (i : Int) (r : Int) (c : Int) l) true := by
 have h64 := setL_length s
 have hn : ndd r c l s < 2 ^ 64 := sel_lt _ hr
 intro d
 induction d with
 | zero =>
  intro i hi
  obtain rfl : i = (setL s).length := by omega
  refine Ends.succ (fun k => by rw [recouplaw07_MatroidNeeds.l0]) ?_
  refine Ends.neg (by rw [ints_length]; omega) ?_
  refine Ends.bind anch7 (Ends.pos rfl (Ends.pos rfl (Ends.const ?_)))
  rw [bandNot hn hs]
  have : wo (ndd r c l s) s = 0 := bit_ext fun j => by
   rw [bit_wo hn hs, ndd_bit hb hl hr hc hs h]
   constructor
   ·rintro ⟨⟨h1, _⟩, h2⟩
    exact absurd h1 h2
   ·intro h0; unfold Bit at h0; rw [Nat.zero_testBit] at h0; cases h0
  show some (((wo (ndd r c l s) s : Nat) : Int) == 0) = some true
  rw [this]
  rfl
 | succ d ih =>
  intro i hi
  have ihn := ih (i + 1) (by omega)
  rw [← wstep (by omega)] at ihn
  have hi' : i < (setL s).length := by omega
  have hm := setL_at s hi'
  have hL := (mem_setL.1 hm).1
  have hB := (mem_setL' hs).1 hm
  refine Ends.succ (fun k => by rw [recouplaw07_MatroidNeeds.l0]) ?_
  refine Ends.pos (by rw [ints_length]; omega) ?_
  refine Ends.pos (by omega) ?_
  rw [rd_setL s hi']
  have hr' := h _ hm
  generalize (setL s).getD i 0 = x at *
  rw [wu64 (by omega) (by omega)]
  refine Ends.pos (by omega) ?_
  rw [shl_one hL, not_one hs hL]
  have hw := val_wo hs (pow_lt hL) h
  refine Ends.bind (Span7 hb hl hr hc (wo_lt hs) hw) (Ends.pos rfl ?_)
  refine Ends.bind1 (has_eq (spn_lt hr) _) (Ends.bind1 (has_eq hn _) ?_)
  rw [Int.toNat_natCast]
  refine Ends.neg ?_ ihn
  have e1 := spn_bit hb hl hr hc (wo_lt hs (t := 2 ^ x)) hw x
  have e2 := ndd_bit hb hl hr hc hs h x
  unfold Bit at e1 e2
  intro he
  have he : (spn r c l (wo s (2 ^ x))).testBit x = (ndd r c l s).testBit x := by simpa using he
  rw [he, e2] at e1
  have hB' : s.testBit x = true := hB
  by_cases q : Sp (mv (rowsOf c r l) c) r (Bit (wo s (2 ^ x))) (mv (rowsOf c r l) c x)
  ·exact (e1.2 ⟨hr', q⟩).2 q
  ·exact q (e1.1 ⟨hB', q⟩).2
end Go.Proofs.YthjncmdlhmppiaaDoor.M
namespace Go.Proofs.YthjncmdlhmppiaaDoor.Pure
open Go.RowKit Go.Proofs.YthjncmdlhmppiaaDoor.M Go.Proofs.YthjncmdlhmppiaaDoor.Q
set_option linter.unusedVariables false
/-- A row is needed just if it is not in the span of the others. -/
theorem MatroidNeeds : ∀ x0 : Q.S24, ((Lit.int .i64 x0.f0).wf = true ∧ ((Lit.int .i64 x0.f1).wf = true ∧ (x0.f2.length ≤ maxLen ∧ x0.f2.length * 1 ≤ 140737488351232 ∧ ∀ x5 ∈ x0.f2, (Lit.int .u8 x5).wf = true))) → ∀ x1 : Int, (Lit.int .u64 x1).wf = true → ∃ k, Q.recouplaw07_MatroidNeeds.f k x0.f0 x0.f1 x0.f2 x1 = some true := by
 rintro ⟨a, b, l⟩ ⟨ha, hb, _, _, hl⟩ x hx
 have hbl : bytesB l = true := bytesB_wf hl
 clear hl
 show ∃ k, Q.recouplaw07_MatroidNeeds.f k a b l x = some true
 refine M.Ends.exists ?_
 unfold Q.recouplaw07_MatroidNeeds.f
 rcases args7 (b := b) (l := l) ha hx with ⟨h1, h2⟩ | ⟨r, c, s, rfl, rfl, rfl, hr, hc, hl, hs⟩
 ·exact M.Ends.bind (Needed7_bad h2) (M.Ends.bind (right7 (rRank7_bad h1)) (M.Ends.neg (by decide) (M.Ends.bind anch7 (M.Ends.pos rfl (M.Ends.const rfl)))))
 ·by_cases h : Val r s
  ·exact M.Ends.bind (Needed7 hbl hl hr hc hs h) (M.Ends.bind (right7 (rRank7 hbl hl hr hc hs h)) (M.Ends.pos rfl (M.Ends.bind (refList_eq hs) (needs_l0 hbl hl hr hc hs h _ 0 (Nat.zero_add _)))))
  ·exact M.Ends.bind (Needed7_arg hl hr hc hs h) (M.Ends.bind (right7 (rRank7_arg hl hr hc hs h)) (M.Ends.neg (by decide) (M.Ends.bind anch7 (M.Ends.pos rfl (M.Ends.const rfl)))))
end Go.Proofs.YthjncmdlhmppiaaDoor.Pure
