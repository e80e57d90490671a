import Derived.Test.YthjncmdlhmppiaaDoorBMatroidGrows
import Derived.Test.YthjncmdlhmppiaaDoorQx108
import Derived.Test.YthjncmdlhmppiaaDoorQx137
import Derived.Test.YthjncmdlhmppiaaDoorQx147
import Derived.Test.YthjncmdlhmppiaaDoorQx168
namespace Go.Proofs.YthjncmdlhmppiaaDoor.M
open Go.RowKit Go.Proofs.YthjncmdlhmppiaaDoorW.PrintWords Go.Proofs.YthjncmdlhmppiaaDoor.Q
set_option linter.unusedVariables false
section
variable {r c s t : Nat} {l : List Int}
theorem free_one (hb : bytesB l = true) (hl : l.length = r * c) (hr : r ≤ 64) (hc : c ≤ 64) (hs : s < 2 ^ 64) (h : Val r s) {x : Nat} (hx : x < r) : Ends (fun k => matroid_Free.f k (r : Int) (c : Int) l ((s ||| 2 ^ x : Nat) : Int)) (((rho c l (s ||| 2 ^ x) : Int) == ((setL (s ||| 2 ^ x)).length : Int)), 0) := by
 have hF := Free7 (lt_one hs (show x < 64 by omega)) rfl (Rank7 hb hl hr hc (lt_one hs (by omega)) (val_one hr hs h hx))
 rwa [if_pos rfl] at hF
/-- Of two free sets the smaller one can be added a row of the greater one. -/
theorem grow (hb : bytesB l = true) (hl : l.length = r * c) (hr : r ≤ 64) (hc : c ≤ 64) (hs : s < 2 ^ 64) (h : Val r s) (ht : t < 2 ^ 64) (h' : Val r t) (fs : rho c l s = (setL s).length) (ft : rho c l t = (setL t).length) (hlt : (setL s).length < (setL t).length) :
  ∃ q, q < (setL (wo t s)).length ∧ rho c l (s ||| 2 ^ (setL (wo t s)).getD q 0) = (setL (s ||| 2 ^ (setL (wo t s)).getD q 0)).length := by
 apply Classical.byContradiction
 intro hno
 have hin : ∀ x, x < r → Bit t x → Sp (mv (rowsOf c r l) c) r (Bit s) (mv (rowsOf c r l) c x) := fun x hx hBt => by
  by_cases hBs : Bit s x
  ·exact sp_row hx hBs
  obtain ⟨q, hq, e⟩ := setL_find (wo_lt ht (t := s)) ((bit_wo ht hs x).2 ⟨hBt, hBs⟩)
  apply Classical.byContradiction
  intro hn
  refine hno ⟨q, hq, ?_⟩
  rw [e, card_in hs (by omega) hBs, ← fs, rho_rk hb hl hr hc hs h, rho_rk hb hl hr hc (lt_one hs (by omega)) (val_one hr hs h hx), rkS_or1]
  have h1 := (rkS_lt hx).2 hn
  have h2 := rkS_succ (b := mv (rowsOf c r l) c) (A := Bit s) hx
  omega
 have h3 := dim_le (rkS_dim (mv (rowsOf c r l) c) r (Bit t)) (rkS_dim (mv (rowsOf c r l) c) r (Bit s)) fun v hv => sp_sub hin hv
 rw [← rho_rk hb hl hr hc hs h, ← rho_rk hb hl hr hc ht h'] at h3
 omega
theorem grows_l0 (hb : bytesB l = true) (hl : l.length = r * c) (hr : r ≤ 64) (hc : c ≤ 64) (hs : s < 2 ^ 64) (h : Val r s) (ht : t < 2 ^ 64) (h' : Val r t) : ∀ d i : Nat, i + d = (setL t).length → (∃ q, i ≤ q ∧ q < (setL t).length ∧ rho c l (s ||| 2 ^ (setL t).getD q 0) = (setL (s ||| 2 ^ (setL t).getD q 0)).length) →
  Ends (fun k => recouplaw07_MatroidGrows.l0 k (s : Int) (ints (setL t)) (i : Int) (r : Int) (c : Int) l) true := by
 have h64 := setL_length t
 intro d
 induction d with
 | zero =>
  rintro i hi ⟨q, h1, h2, _⟩
  omega
 | succ d ih =>
  rintro i hi ⟨q, h1, h2, h3⟩
  have ihn := ih (i + 1) (by omega)
  rw [← wstep (by omega)] at ihn
  have hi' : i < (setL t).length := by omega
  have hm := setL_at t hi'
  have hL := (mem_setL.1 hm).1
  have hr' := h' _ hm
  refine Ends.succ (fun k => by rw [recouplaw07_MatroidGrows.l0]) ?_
  refine Ends.pos (by rw [ints_length]; omega) ?_
  refine Ends.pos (by omega) ?_
  rw [rd_setL t hi', wu64 (by omega) (by omega)]
  refine Ends.pos (by omega) ?_
  rw [shl_one hL, or_one hs hL]
  refine Ends.bind (free_one hb hl hr hc hs h hr') ?_
  by_cases e : rho c l (s ||| 2 ^ (setL t).getD i 0) = (setL (s ||| 2 ^ (setL t).getD i 0)).length
  ·exact Ends.pos (by rw [e]; exact beq_self_eq_true _) (Ends.pos rfl (Ends.bind anch7 (Ends.const rfl)))
  ·refine Ends.neg (fun z => e (by have := beq_iff_eq.1 z; omega)) (ihn ⟨q, ?_, h2, h3⟩)
   rcases Nat.lt_or_eq_of_le h1 with h4 | h4
   ·omega
   ·subst h4
    exact absurd h3 e
theorem grows_bad (a b x y : Int) : Ends (fun k => recouplaw07_MatroidGrows.j0 k x y true a b l) true := by
 have hF := free_one (r := 1) (c := 0) (s := 0) (l := []) (by decide) rfl (by decide) (by decide) (by decide) (fun i hi => by rw [setL_zero] at hi; cases hi) (x := 0) (by decide)
 have hF' : Ends (fun k => matroid_Free.f k 1 0 [] 1) (((rho 0 [] (0 ||| 2 ^ 0) : Int) == ((setL (0 ||| 2 ^ 0)).length : Int)), 0) := hF
 refine Ends.succ (fun k => by rw [recouplaw07_MatroidGrows.j0]) ?_
 exact Ends.pos rfl (Ends.bind hF' (Ends.bind anch7 (Ends.pos rfl (Ends.const rfl))))
end
end Go.Proofs.YthjncmdlhmppiaaDoor.M
namespace Go.Proofs.YthjncmdlhmppiaaDoor.Pure
open Go.RowKit Go.Proofs.YthjncmdlhmppiaaDoor.M Go.Proofs.YthjncmdlhmppiaaDoor.Q
set_option linter.unusedVariables false
/-- Of two free sets the smaller one can be added a row of the greater one. -/
theorem MatroidGrows : ∀ x0 : Q.S24, ((Lit.int .i64 x0.f0).wf = true ∧ ((Lit.int .i64 x0.f1).wf = true ∧ (x0.f2.length ≤ maxLen ∧ x0.f2.length * 1 ≤ 140737488351232 ∧ ∀ x5 ∈ x0.f2, (Lit.int .u8 x5).wf = true))) → ∀ x1 : Int, (Lit.int .u64 x1).wf = true → ∀ x2 : Int, (Lit.int .u64 x2).wf = true → ∃ k, Q.recouplaw07_MatroidGrows.f k x0.f0 x0.f1 x0.f2 x1 x2 = some true := by
 rintro ⟨a, b, l⟩ ⟨ha, hb, _, _, hl⟩ x hx y hy
 have hbl : bytesB l = true := bytesB_wf hl
 clear hl
 show ∃ k, Q.recouplaw07_MatroidGrows.f k a b l x y = some true
 obtain ⟨t, rfl, ht⟩ := u64_nat hy
 refine M.Ends.exists ?_
 unfold Q.recouplaw07_MatroidGrows.f
 rcases args7 (b := b) (l := l) ha hx with ⟨h1, h2⟩ | ⟨r, c, s, rfl, rfl, rfl, hr, hc, hl, hs⟩
 ·exact M.Ends.bind (right7 (rRank7_bad h1)) (M.Ends.neg (by decide) (grows_bad ..))
 by_cases hS : Val r s
 ·by_cases hT : Val r t
  ·refine M.Ends.bind (right7 (rRank7 hbl hl hr hc hs hS)) (M.Ends.pos rfl (M.Ends.bind (right7 (rRank7 hbl hl hr hc ht hT)) ?_))
   refine M.Ends.succ (fun k => by rw [recouplaw07_MatroidGrows.j0]) ?_
   refine M.Ends.neg (by show ¬ (!((0 : Int) == 0)) = true; decide) ?_
   refine M.Ends.bind (Basis7 hbl hl hr hc hs hS) (M.Ends.bind (Basis7 hbl hl hr hc ht hT) (M.Ends.pos rfl ?_))
   have al := bas_lt hbl hl hr hc hs hS
   have av := bas_val hbl hl hr hc hs hS
   have bl := bas_lt hbl hl hr hc ht hT
   have bv := bas_val hbl hl hr hc ht hT
   refine M.Ends.succ (fun k => by rw [recouplaw07_MatroidGrows.j1]) ?_
   refine M.Ends.neg (by show ¬ ((0 : Int) != 0) = true; decide) ?_
   refine M.Ends.bind (refList_eq al) (M.Ends.bind (refList_eq bl) ?_)
   rw [ints_length, ints_length]
   by_cases e : ((setL (bas c l s)).length : Int) ≥ ((setL (bas c l t)).length : Int)
   ·exact M.Ends.pos e (M.Ends.bind anch7 (M.Ends.const rfl))
   ·refine M.Ends.neg e ?_
    rw [show Go.bits .andNot .u64 ((bas c l t : Nat) : Int) ((bas c l s : Nat) : Int) = ((wo (bas c l t) (bas c l s) : Nat) : Int) from bandNot bl al]
    have wl : wo (bas c l t) (bas c l s) < 2 ^ 64 := wo_lt bl
    refine M.Ends.bind (refList_eq wl) ?_
    obtain ⟨q, h1, h2⟩ := grow hbl hl hr hc al av bl bv (bas_free hbl hl hr hc hs hS) (bas_free hbl hl hr hc ht hT) (by omega)
    exact grows_l0 hbl hl hr hc al av wl (val_wo bl al bv) _ 0 (Nat.zero_add _) ⟨q, Nat.zero_le _, h1, h2⟩
  ·exact M.Ends.bind (right7 (rRank7 hbl hl hr hc hs hS)) (M.Ends.pos rfl (M.Ends.bind (right7 (rRank7_arg hl hr hc ht hT)) (grows_bad ..)))
 ·exact M.Ends.bind (right7 (rRank7_arg hl hr hc hs hS)) (M.Ends.neg (by decide) (grows_bad ..))
end Go.Proofs.YthjncmdlhmppiaaDoor.Pure
