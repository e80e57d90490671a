import Derived.Test.YtccfbhnhedoggaaBGaussSends
import Derived.Test.YtccfbhnhedoggaaQx109
import Derived.Test.YtccfbhnhedoggaaQx114
import Derived.Test.YtccfbhnhedoggaaQx121
import Derived.Test.YtccfbhnhedoggaaQx130
import Derived.Test.YtccfbhnhedoggaaQx155
import Derived.Test.YtccfbhnhedoggaaQx159
namespace Go.Proofs.Ytccfbhnhedoggaa.Pure
open Go.RowKit Go.Proofs.Ytccfbhnhedoggaa.M Go.Proofs.Ytccfbhnhedoggaa.Q
set_option linter.unusedVariables false
theorem sends_l0 {r c : Nat} {l x8 x15 : List Int} (hb : bytesB l = true) (hl : l.length = r * c) (hr : r ≤ 64) (hc : c ≤ 64) {K : List (List Int)} (hK : K.length ≤ 64) (hU : U K c) (hz : ∀ z ∈ K, bytesB z = true ∧ ∀ i, i < r → dot c (mv (rowsOf c r l) c i) (vv z) = 0) (he : x15 = x8) :
  ∀ n i : Nat, i + n = K.length → M.Ends (fun k => recouplaw04_GaussSends.l0 k x8 x15 (i : Int) (r : Int) (c : Int) l (K.length : Int) (c : Int) K.flatten) true
 | 0, i, hi => by
  refine Ends.succ (fun k => by rw [recouplaw04_GaussSends.l0]) ?_
  refine Ends.neg (by omega) (Ends.bind1 anchored_ok (Ends.pos rfl ?_))
  rw [he]
  exact Ends.bind1 (Same_self _) (Ends.const rfl)
 | n + 1, i, hi => by
  have hiK : i < K.length := by omega
  have hi4 : i ≤ 4096 := by omega
  have hmem : K.getD i [] ∈ K := by rw [List.getD_eq_getElem?_getD, List.getElem?_eq_getElem hiK]; exact List.getElem_mem hiK
  obtain ⟨z1, z2⟩ := hz _ hmem
  have hlen := hU _ hmem
  refine Ends.succ (fun k => by rw [recouplaw04_GaussSends.l0]) ?_
  refine Ends.pos (by omega) ?_
  refine Ends.bind (Row_ends hU hK hc hiK) ?_
  refine Ends.bind (Apply_ends hb hl hr hc hlen z1) ?_
  refine Ends.pos (by omega) (Ends.pos (by rw [Int.toNat_natCast]; omega) ?_)
  have e : appL r c l (K.getD i []) = List.replicate ((r : Int)).toNat 0 := by
   rw [Int.toNat_natCast]
   refine bytes_ext (by rw [appL_len, List.length_replicate]) (appL_bytes _ _ _ _) ?_ fun j hj => ?_
   ·unfold bytesB; rw [List.all_eq_true]; intro x hx; rw [List.eq_of_mem_replicate hx]; rfl
   ·rw [appL_len] at hj
    rw [appL_at hlen hj, z2 j hj]
    unfold vv
    rw [List.getD_eq_getElem?_getD, List.getElem?_replicate_of_lt hj]
    rfl
  refine Ends.bind1 (by rw [e]; exact Same_self _) (Ends.pos rfl ?_)
  rw [i64_succ hi4]
  exact sends_l0 hb hl hr hc hK hU hz he n (i + 1) (by omega)
/-- What Solve answers is sent to b; it answers for all that something is sent to; Kernel's rows are sent to nothing. -/
theorem GaussSends : ∀ x0 : Q.S24, ((Lit.int .i64 x0.f0).wf = true ∧ ((Lit.int .i64 x0.f1).wf = true ∧ (x0.f2.length ≤ maxLen ∧ x0.f2.length * 1 ≤ 140737488351232 ∧ ∀ x5 ∈ x0.f2, (Lit.int .u8 x5).wf = true))) → ∀ x1 : List Int, (x1.length ≤ maxLen ∧ x1.length * 1 ≤ 140737488351232 ∧ ∀ x2 ∈ x1, (Lit.int .u8 x2).wf = true) → ∃ k, Q.recouplaw04_GaussSends.f k x0.f0 x0.f1 x0.f2 x1 = some true := by
 rintro ⟨a, b, l⟩ ⟨ha, hb, _, _, hl⟩ x ⟨_, _, hx⟩
 have hbl : bytesB l = true := bytesB_wf hl
 clear hl
 have hbx : bytesB x = true := bytesB_wf hx
 clear hx
 have hR : recoupref03_Right.f a b l = matrix_Right.f a b l := Right_eq (wf_i64 ha)
 show ∃ k, Q.recouplaw04_GaussSends.f k a b l x = some true
 refine Ends.exists ?_
 have bad : ∀ z, z = true → M.Ends (fun k => recouplaw04_GaussSends.j0 k x z a b l) true := fun z hz => by
  subst hz
  refine Ends.succ (fun k => by rw [recouplaw04_GaussSends.j0]) ?_
  refine Ends.pos rfl ?_
  have h1 : gauss_Solve.f 1 0 [] [] = some ([], false, 3) := gSolve_bad (.inr ⟨(right_of (r := 1) (c := 0) (l := []) (by decide) (by decide) rfl).1, by decide⟩)
  exact Ends.bind1 h1 (Ends.bind1 anchored_ok (Ends.pos rfl (Ends.const rfl)))
 unfold Q.recouplaw04_GaussSends.f
 rcases Right_cases a b l with h | h
 ·obtain ⟨r, c, rfl, rfl, hr, hc, hlen, _⟩ := right_nat (hR ▸ h)
  refine Ends.bind1 h (Ends.pos rfl ?_)
  by_cases e : x.length = c
  ·refine Ends.succ (fun k => by rw [recouplaw04_GaussSends.j0]) ?_
   refine Ends.neg (by simp [e]) ?_
   refine Ends.bind (Apply_ends hbl hlen hr hc e hbx) ?_
   have hby := appL_bytes r c l x
   have hly := appL_len r c l x
   have hay : ∀ i, i < r → dot c (mv (rowsOf c r l) c i) (vv x) = vv (appL r c l x) i := fun i hi => (appL_at e hi).symm
   have hok := solR_complete hbl hlen hr hc hly hby hay
   have hsl := solR_len r c l (appL r c l x) hok
   have hsound := solR_sound hbl hlen hr hc hly hby hok
   have herr := solR_err r c l (appL r c l x)
   refine Ends.bind1 (gSolve_eq (hR ▸ h) hbl hly hby) ?_
   refine Ends.bind (gKernel_ends (hR ▸ h) hr hc hlen hbl) ?_
   have hkl := kerL_len hbl hlen hr hc
   have hKU : U (kerL r c l) c := kSt_U _ _ _ _
   have hk64 : (kerL r c l).length ≤ 64 := Nat.le_trans (Nat.le_add_left _ _) (Nat.le_trans (Nat.le_of_eq hkl) hc)
   have hKr := right_of (r := (kerL r c l).length) (c := c) (l := (kerL r c l).flatten) hk64 hc (flat_len hKU)
   have hsb := solR_bytes hbl hlen hr hc hly hby hok
   refine Ends.pos herr (Ends.pos rfl (Ends.pos hok (Ends.pos (by rw [hsl]) ?_)))
   refine Ends.bind1 hKr.2 (Ends.pos rfl ?_)
   refine Ends.succ (fun k => by rw [recouplaw04_GaussSends.j1]) ?_
   refine Ends.neg (by simp) ?_
   refine Ends.bind (Apply_ends hbl hlen hr hc hsl hsb) ?_
   refine sends_l0 hbl hlen hr hc hk64 hKU (fun z hz => ⟨(kerL_zero hbl hlen hr hc hz).2.1, (kerL_zero hbl hlen hr hc hz).2.2⟩) ?_ (kerL r c l).length 0 (by omega)
   refine bytes_ext (by rw [appL_len, hly]) (appL_bytes _ _ _ _) hby fun j hj => ?_
   rw [appL_len] at hj
   rw [appL_at hsl hj]
   exact hsound j hj
  ·exact bad _ (by rw [bne_iff_ne]; intro e2; exact e (by exact_mod_cast e2))
 ·exact Ends.bind1 h (Ends.neg (by decide) (bad _ rfl))
end Go.Proofs.Ytccfbhnhedoggaa.Pure
