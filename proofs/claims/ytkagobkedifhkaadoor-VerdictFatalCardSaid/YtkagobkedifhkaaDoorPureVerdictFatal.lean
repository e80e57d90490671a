import Derived.Test.YtkagobkedifhkaaDoorBVerdictFatal
import Derived.Test.YtkagobkedifhkaaDoorQx104
import Derived.Test.YtkagobkedifhkaaDoorQx109
import Derived.Test.YtkagobkedifhkaaDoorQx126
import Derived.Test.YtkagobkedifhkaaDoorQx193
namespace Go.Proofs.YtkagobkedifhkaaDoor.Pure
open Go.RowKit Go.Proofs.YtkagobkedifhkaaDoor.M Go.Proofs.YtkagobkedifhkaaDoor.Q
set_option linter.unusedVariables false
/-- It is recovered just where the rows that are left send nothing but nothing to nothing. -/
theorem VerdictFatal : ∀ x0 : Q.S24, ((Lit.int .i64 x0.f0).wf = true ∧ ((Lit.int .i64 x0.f1).wf = true ∧ (x0.f2.length ≤ maxLen ∧ x0.f2.length * 1 ≤ 140737488351232 ∧ ∀ x5 ∈ x0.f2, (Lit.int .u8 x5).wf = true))) → ∀ x1 : Int, (Lit.int .u64 x1).wf = true → ∃ k, Q.recouplaw18_VerdictFatal.f k x0.f0 x0.f1 x0.f2 x1 = some true := by
 rintro ⟨a, b, l⟩ ⟨ha, hb, _, _, hl⟩ x hx
 have hbl : bytesB l = true := bytesB_wf hl
 clear hl
 show ∃ k, Q.recouplaw18_VerdictFatal.f k a b l x = some true
 refine M.Ends.exists ?_
 unfold Q.recouplaw18_VerdictFatal.f
 rcases args18 hbl ha hx (b := b) with ⟨e, he, h1, h2⟩ | ⟨r, c, s, rfl, rfl, rfl, hr, hc, hl, hs, hg, hv⟩
 ·refine M.Ends.bind (Rec18 h1) (M.Ends.bind (gen18_no he h2) (M.Ends.neg (by decide) (M.Ends.bind anch18 (M.Ends.pos rfl (M.Ends.const ?_)))))
  show some (e != 0) = some true
  rw [bne_iff_ne.mpr he]
 ·have h1 := rec_eq hbl hl hr hc hs hg hv
  have hR : M.Ends (fun k => verdict_Recovers.f k (r : Int) (c : Int) l (s : Int)) (decide (rho c l (lft r s) = c), 0) := by
   by_cases e : rho c l (lft r s) = c
   ·rw [if_pos e] at h1
    rw [decide_eq_true e]
    exact Rec18 h1
   ·rw [if_neg e] at h1
    rw [decide_eq_false e]
    exact Rec18 h1
  have hx := lft_lt (s := s) hr
  have hxv := lft_val hr hs
  have hin := val_in hxv
  have hpk := rPick_ends hl hr hc hin (by rw [ints_length]; exact setL_length _)
  rw [ints_length] at hpk
  have hker := rKernel_ends (setL_length (lft r s)) hc (pk_len hl hxv) (pick_bytes hbl _)
  have hlen := kerL_len (l := pk c l (lft r s)) (pick_bytes hbl _) (pk_len hl hxv) (setL_length (lft r s)) hc
  have hrho : rho c l (lft r s) = (redL (setL (lft r s)).length c (pk c l (lft r s))).2.length := rfl
  have hf : M.Ends (fun k => recoupref06_List.f k (Go.bits .andNot .u64 ((2 ^ r - 1 : Nat) : Int) (s : Int))) (ints (setL (lft r s))) := by
   rw [show Go.bits .andNot .u64 ((2 ^ r - 1 : Nat) : Int) (s : Int) = ((lft r s : Nat) : Int) from bandNot (low18 hr) hs]
   exact refList_eq hx
  refine M.Ends.bind hR (M.Ends.bind (gen18_eq hbl hl hr hc hs hg hv) (M.Ends.pos rfl (M.Ends.bind (rFull18 hr) (M.Ends.bind hf (M.Ends.bind hpk (M.Ends.bind hker (M.Ends.bind anch18 (M.Ends.pos rfl (M.Ends.pos rfl ?_)))))))))
  refine M.Ends.pos ?_ (M.Ends.bind1 (gen_eq hl hr hc) (M.Ends.const (congrArg some (gen_true hg))))
  show (decide (rho c l (lft r s) = c) == (((kerL (setL (lft r s)).length c (pk c l (lft r s))).length : Int) == 0)) = true
  rw [beq_iff_eq, Bool.eq_iff_iff, decide_eq_true_eq, beq_iff_eq]
  omega
end Go.Proofs.YtkagobkedifhkaaDoor.Pure
