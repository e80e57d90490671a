import Derived.Test.YtkagobkedifhkaaDoorBVerdictFewer
import Derived.Test.YtkagobkedifhkaaDoorQx105
import Derived.Test.YtkagobkedifhkaaDoorQx109
import Derived.Test.YtkagobkedifhkaaDoorQx126
import Derived.Test.YtkagobkedifhkaaDoorQx193
namespace Go.Proofs.YtkagobkedifhkaaDoor.M
open Go.RowKit Go.Proofs.YtkagobkedifhkaaDoorW.PrintWords Go.Proofs.YtkagobkedifhkaaDoor.Q
set_option linter.unusedVariables false
section
variable {r c s t : Nat} {l : List Int}
theorem Rec18_eq (hb : bytesB l = true) (hl : l.length = r * c) (hr : r ≤ 64) (hc : c ≤ 64) (hs : s < 2 ^ 64) (h : Gen r c) (hv : Val r s) : Ends (fun k => verdict_Recovers.f k (r : Int) (c : Int) l (s : Int)) (decide (rho c l (lft r s) = c), 0) := by
 have h1 := rec_eq hb hl hr hc hs h hv
 by_cases e : rho c l (lft r s) = c
 ·rw [if_pos e] at h1
  rw [decide_eq_true e]
  exact Rec18 h1
 ·rw [if_neg e] at h1
  rw [decide_eq_false e]
  exact Rec18 h1
theorem rho_more (hb : bytesB l = true) (hl : l.length = r * c) (hr : r ≤ 64) (hc : c ≤ 64) (hs : s < 2 ^ 64) (ht : t < 2 ^ 64) (h : ∀ i, Bit t i → Bit s i) : rho c l (lft r s) ≤ rho c l (lft r t) := by
 rw [rho_rk hb hl hr hc (lft_lt hr) (lft_val hr hs), rho_rk hb hl hr hc (lft_lt hr) (lft_val hr ht)]
 refine rkS_mono fun i hi hB => ?_
 rw [lft_bit hr ht]
 exact ⟨hi, fun q => ((lft_bit hr hs i).1 hB).2 (h i q)⟩
theorem src_out (hb : bytesB l = true) (hl : l.length = r * c) (hr : r ≤ 64) (hc : c ≤ 64) (hs : s < 2 ^ 64) : Go.bits .and .u64 ((src r c l s : Nat) : Int) (s : Int) = 0 := by
 have hx := lft_lt (s := s) hr
 have hxv := lft_val hr hs
 rw [band (a := src r c l s) (bas_lt hb hl hr hc hx hxv) hs]
 have : src r c l s &&& s = 0 := bit_ext fun i => by
  rw [bit_and]
  constructor
  ·rintro ⟨h1, h2⟩
   exact absurd h2 ((lft_bit hr hs i).1 (bas_sub hb hl hr hc hx hxv h1)).2
  ·intro h0; unfold Bit at h0; rw [Nat.zero_testBit] at h0; cases h0
 show ((src r c l s &&& s : Nat) : Int) = 0
 rw [this]
 rfl
end
end Go.Proofs.YtkagobkedifhkaaDoor.M
namespace Go.Proofs.YtkagobkedifhkaaDoor.Pure
open Go.RowKit Go.Proofs.YtkagobkedifhkaaDoor.M Go.Proofs.YtkagobkedifhkaaDoor.Q
set_option linter.unusedVariables false
/-- With fewer lost it is recovered, too; there are as many sources as columns, none of them lost. -/
theorem VerdictFewer : ∀ x0 : Q.S24, ((Lit.int .i64 x0.f0).wf = true ∧ ((Lit.int .i64 x0.f1).wf = true ∧ (x0.f2.length ≤ maxLen ∧ x0.f2.length * 1 ≤ 140737488351232 ∧ ∀ x5 ∈ x0.f2, (Lit.int .u8 x5).wf = true))) → ∀ x1 : Int, (Lit.int .u64 x1).wf = true → ∀ x2 : Int, (Lit.int .u64 x2).wf = true → ∃ k, Q.recouplaw18_VerdictFewer.f k x0.f0 x0.f1 x0.f2 x1 x2 = some true := by
 rintro ⟨a, b, l⟩ ⟨ha, hb, _, _, hl⟩ x hx y hy
 have hbl : bytesB l = true := bytesB_wf hl
 clear hl
 show ∃ k, Q.recouplaw18_VerdictFewer.f k a b l x y = some true
 refine M.Ends.exists ?_
 unfold Q.recouplaw18_VerdictFewer.f
 obtain ⟨u, rfl, hu⟩ := u64_nat hy
 rcases args18 hbl ha hx (b := b) with ⟨e, he, h1, h2⟩ | ⟨r, c, s, rfl, rfl, rfl, hr, hc, hl, hs, hg, hv⟩
 ·refine M.Ends.bind (Rec18 h1) (M.Ends.bind (gen18_no he h2) (M.Ends.neg (by decide) (M.Ends.bind anch18 (M.Ends.pos rfl (M.Ends.const ?_)))))
  show some (e != 0) = some true
  rw [bne_iff_ne.mpr he]
 ·have hR := Rec18_eq hbl hl hr hc hs hg hv
  have ht : s &&& u < 2 ^ 64 := lt_and hs
  have hsub : ∀ i, Bit (s &&& u) i → Bit s i := fun i hi => ((bit_and s u i).1 hi).1
  have hR2 := Rec18_eq hbl hl hr hc ht hg (val_sub hs ht hv hsub)
  have hle := rho_more hbl hl hr hc hs ht hsub
  have hle2 := rho_le hbl hl hc (lft_val hr ht)
  have h1 := rec_eq hbl hl hr hc hs hg hv
  have hout := src_out hbl hl hr hc hs
  rw [← band hs hu] at hR2
  by_cases e : rho c l (lft r s) = c
  ·rw [if_pos e] at h1
   rw [decide_eq_true e] at hR
   rw [decide_eq_true (show rho c l (lft r (s &&& u)) = c by omega)] at hR2
   have hS := Src18 h1
   have hlen : M.Ends (fun k => recoupref06_List.f k ((src r c l s : Nat) : Int)) (ints (setL (src r c l s))) := refList_eq (bas_lt hbl hl hr hc (lft_lt hr) (lft_val hr hs))
   refine M.Ends.bind hR (M.Ends.bind (gen18_eq hbl hl hr hc hs hg hv) (M.Ends.pos rfl (M.Ends.bind hR2 (M.Ends.bind hS (M.Ends.bind anch18 (M.Ends.pos rfl (M.Ends.pos rfl (M.Ends.pos rfl (M.Ends.pos rfl ?_)))))))))
   refine M.Ends.pos rfl (M.Ends.pos rfl (M.Ends.pos rfl (M.Ends.pos hout (M.Ends.pos rfl (M.Ends.bind hlen (M.Ends.const ?_))))))
   rw [ints_length, show (setL (src r c l s)).length = rho c l (lft r s) from bas_card hbl hl hr hc (lft_lt hr) (lft_val hr hs), e]
   simp
  ·rw [if_neg e] at h1
   rw [decide_eq_false e] at hR
   have hS := Src18 h1
   refine M.Ends.bind hR (M.Ends.bind (gen18_eq hbl hl hr hc hs hg hv) (M.Ends.pos rfl (M.Ends.bind hR2 (M.Ends.bind hS (M.Ends.bind anch18 (M.Ends.pos rfl (M.Ends.pos rfl (M.Ends.pos rfl (M.Ends.pos rfl ?_)))))))))
   refine M.Ends.neg (by decide) (M.Ends.pos rfl (M.Ends.pos ?_ (M.Ends.neg (by decide) (M.Ends.pos rfl (M.Ends.const rfl)))))
   show Go.bits .and .u64 0 (s : Int) = 0
   have := band (a := 0) (by decide) hs
   rw [Nat.zero_and] at this
   exact this
end Go.Proofs.YtkagobkedifhkaaDoor.Pure
