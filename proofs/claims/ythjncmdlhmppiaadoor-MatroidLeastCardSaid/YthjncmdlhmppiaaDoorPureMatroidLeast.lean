import Derived.Test.YthjncmdlhmppiaaDoorBMatroidLeast
import Derived.Test.YthjncmdlhmppiaaDoorQx107
import Derived.Test.YthjncmdlhmppiaaDoorQx147
import Derived.Test.YthjncmdlhmppiaaDoorQx168
namespace Go.Proofs.YthjncmdlhmppiaaDoor.M
open Go.RowKit Go.Proofs.YthjncmdlhmppiaaDoorW.PrintWords Go.Proofs.YthjncmdlhmppiaaDoor.Q
set_option linter.unusedVariables false
section
variable {r c s : Nat} {l : List Int}
theorem cir_least (hb : bytesB l = true) (hl : l.length = r * c) (hr : r ≤ 64) (hc : c ≤ 64) (hs : s < 2 ^ 64) (h : Val r s) {b : Nat} (hbr : b < r) (hn : ¬ Bit s b) (hf : rho c l s = (setL s).length) (hsp : Sp (mv (rowsOf c r l) c) r (Bit s) (mv (rowsOf c r l) c b)) :
  rho c l (cir r c l s b) ≠ (setL (cir r c l s b)).length ∧ ∀ x, Bit (cir r c l s b) x → rho c l (wo (cir r c l s b) (2 ^ x)) = (setL (wo (cir r c l s b) (2 ^ x))).length := by
 have hC := cir_bit hb hl hr hc hs h hbr
 have hCl : cir r c l s b < 2 ^ 64 := cir_lt hr hbr
 have hCv : Val r (cir r c l s b) := cir_val hr hbr
 have hb64 : b < 64 := by omega
 have hB : Bit (cir r c l s b) b := (hC b).2 (.inl rfl)
 generalize cir r c l s b = C at *
 have h0l := wo_lt hCl (t := 2 ^ b)
 have h0v := val_wo hCl (pow_lt hb64) hCv
 have hC0 : ∀ j, Bit (wo C (2 ^ b)) j ↔ Bit s j ∧ ¬ Sp (mv (rowsOf c r l) c) r (Bit (wo s (2 ^ j))) (mv (rowsOf c r l) c b) := fun j => by
  rw [bit_wo_one hCl hb64, hC]
  constructor
  ·rintro ⟨h1 | h1, h2⟩
   ·exact absurd h1 h2
   ·exact h1
  ·intro h1
   exact ⟨.inr h1, fun e => hn (e ▸ h1.1)⟩
 have hsub : ∀ j, Bit (wo C (2 ^ b)) j → Bit s j := fun j hj => ((hC0 j).1 hj).1
 have hfr : rkS (mv (rowsOf c r l) c) r (Bit s) = (setL s).length := by rw [← rho_rk hb hl hr hc hs h]; exact hf
 have hin : Sp (mv (rowsOf c r l) c) r (Bit (wo C (2 ^ b))) (mv (rowsOf c r l) c b) := by
  obtain ⟨x, hx⟩ := (sp_list (list_val hs h) ((val_bit hs).1 h) _).2 hsp
  rw [hx]
  refine lc_some fun i hi hne => ?_
  have hm := setL_at s hi
  refine sp_row (h _ hm) ((hC0 _).2 ⟨(mem_setL' hs).1 hm, fun q => hne ?_⟩)
  exact (coef_zero _ hs h hfr hx.symm hi).2 q
 constructor
 ·rw [rho_rk hb hl hr hc hCl hCv]
  have e := (rkS_in hbr).2 hin
  rw [wo_back hCl hb64 hB] at e
  have h1 := setL_len_rk h0l h0v (mv (rowsOf c r l) c)
  have h2 := card_out hCl hb64 hB
  omega
 ·intro x hx
  have hxr := (val_bit hCl).1 hCv x hx
  rw [rho_rk hb hl hr hc (wo_lt hCl) (val_wo hCl (pow_lt (by omega)) hCv)]
  by_cases e : x = b
  ·subst e
   exact free_sub _ h0l hs h hsub hfr
  ·have hx0 : Bit (wo C (2 ^ b)) x := (bit_wo_one hCl hb64 x).2 ⟨hx, e⟩
   have hDl := wo_lt h0l (t := 2 ^ x)
   have hDb : ∀ j, Bit (wo (wo C (2 ^ b)) (2 ^ x)) j ↔ (Bit C j ∧ j ≠ b) ∧ j ≠ x := fun j => by
    rw [bit_wo_one h0l (by omega), bit_wo_one hCl hb64]
   have hD : rkS (mv (rowsOf c r l) c) r (Bit (wo (wo C (2 ^ b)) (2 ^ x))) = (setL (wo (wo C (2 ^ b)) (2 ^ x))).length := free_sub _ hDl hs h (fun j hj => hsub j (((bit_wo_one h0l (by omega) j).1 hj).1)) hfr
   have hnD : ¬ Sp (mv (rowsOf c r l) c) r (Bit (wo (wo C (2 ^ b)) (2 ^ x))) (mv (rowsOf c r l) c b) := fun q => ((hC0 x).1 hx0).2 (sp_mono (fun j _ hj => by
    have hj := (bit_wo_one h0l (show x < 64 by omega) j).1 hj
    exact (bit_wo_one hs (by omega) j).2 ⟨hsub j hj.1, hj.2⟩) q)
   have hE : wo C (2 ^ x) = wo (wo C (2 ^ b)) (2 ^ x) ||| 2 ^ b := bit_ext fun j => by
    rw [bit_or_one, hDb, bit_wo_one hCl (by omega)]
    constructor
    ·rintro ⟨h1, h2⟩
     by_cases e3 : j = b
     ·exact .inr e3
     ·exact .inl ⟨⟨h1, e3⟩, h2⟩
    ·rintro (⟨⟨h1, h2⟩, h3⟩ | rfl)
     ·exact ⟨h1, h3⟩
     ·exact ⟨hB, fun e3 => e e3.symm⟩
   have hDn : ¬ Bit (wo (wo C (2 ^ b)) (2 ^ x)) b := fun q => ((hDb b).1 q).1.2 rfl
   rw [hE, card_in hDl hb64 hDn, rkS_or1, ← hD]
   have h1 := (rkS_lt hbr).2 hnD
   have h2 := rkS_succ (b := mv (rowsOf c r l) c) (A := Bit (wo (wo C (2 ^ b)) (2 ^ x))) hbr
   omega
theorem least_l0 (hb : bytesB l = true) (hl : l.length = r * c) (hr : r ≤ 64) (hc : c ≤ 64) (hs : s < 2 ^ 64) (h : Val r s) (hf : ∀ x, Bit s x → rho c l (wo s (2 ^ x)) = (setL (wo s (2 ^ x))).length) : ∀ d i : Nat, i + d = (setL s).length →
  Ends (fun k => recouplaw07_MatroidLeast.l0 k (s : Int) (ints (setL s)) (i : Int) (r : Int) (c : Int) l) true := by
 have h64 := setL_length s
 intro d
 induction d with
 | zero =>
  intro i hi
  refine Ends.succ (fun k => by rw [recouplaw07_MatroidLeast.l0]) ?_
  exact Ends.neg (by rw [ints_length]; omega) (Ends.bind anch7 (Ends.const rfl))
 | succ d ih =>
  intro i hi
  have ihn := ih (i + 1) (by omega)
  rw [← wstep (by omega)] at ihn
  have hi' : i < (setL s).length := by omega
  have hm := setL_at s hi'
  have hL := (mem_setL.1 hm).1
  refine Ends.succ (fun k => by rw [recouplaw07_MatroidLeast.l0]) ?_
  refine Ends.pos (by rw [ints_length]; omega) ?_
  refine Ends.pos (by omega) ?_
  rw [rd_setL s hi', wu64 (by omega) (by omega)]
  refine Ends.pos (by omega) ?_
  rw [shl_one hL, not_one hs hL]
  have hF := Free7 (wo_lt hs (t := 2 ^ (setL s).getD i 0)) rfl (Rank7 hb hl hr hc (wo_lt hs) (val_wo hs (pow_lt hL) h))
  rw [if_pos rfl, hf _ ((mem_setL' hs).1 hm)] at hF
  exact Ends.bind hF (Ends.pos (beq_self_eq_true _) (Ends.pos rfl ihn))
theorem least_bad (a b x y : Int) : Ends (fun k => recouplaw07_MatroidLeast.j0 k x y true a b l) true := by
 refine Ends.succ (fun k => by rw [recouplaw07_MatroidLeast.j0]) ?_
 exact Ends.pos rfl (Ends.bind anch7 (Ends.const rfl))
end
end Go.Proofs.YthjncmdlhmppiaaDoor.M
namespace Go.Proofs.YthjncmdlhmppiaaDoor.Pure
open Go.RowKit Go.Proofs.YthjncmdlhmppiaaDoor.M Go.Proofs.YthjncmdlhmppiaaDoor.Q
set_option linter.unusedVariables false
/-- A circuit is not free, and is without any one of its rows. -/
theorem MatroidLeast : ∀ x0 : Q.S24, ((Lit.int .i64 x0.f0).wf = true ∧ ((Lit.int .i64 x0.f1).wf = true ∧ (x0.f2.length ≤ maxLen ∧ x0.f2.length * 1 ≤ 140737488351232 ∧ ∀ x5 ∈ x0.f2, (Lit.int .u8 x5).wf = true))) → ∀ x1 : Int, (Lit.int .u8 x1).wf = true → ∀ x2 : Int, (Lit.int .u64 x2).wf = true → ∃ k, Q.recouplaw07_MatroidLeast.f k x0.f0 x0.f1 x0.f2 x1 x2 = some true := by
 rintro ⟨a, b, l⟩ ⟨ha, hb, _, _, hl⟩ n hn x hx
 have hbl : bytesB l = true := bytesB_wf hl
 clear hl
 show ∃ k, Q.recouplaw07_MatroidLeast.f k a b l n x = some true
 refine M.Ends.exists ?_
 unfold Q.recouplaw07_MatroidLeast.f
 rcases args7 (b := b) (l := l) ha hx with ⟨h1, h2⟩ | ⟨r, c, t, rfl, rfl, rfl, hr, hc, hl, ht⟩
 ·exact M.Ends.bind (right7 (rRank7_bad h1)) (M.Ends.neg (by decide) (least_bad ..))
 by_cases hT : Val r t
 case neg => exact M.Ends.bind (right7 (rRank7_arg hl hr hc ht hT)) (M.Ends.neg (by decide) (least_bad ..))
 refine M.Ends.bind (right7 (rRank7 hbl hl hr hc ht hT)) (M.Ends.pos rfl ?_)
 have hn8 := wf_u8 hn
 obtain ⟨n, rfl⟩ := Int.eq_ofNat_of_zero_le hn8.1
 rw [w64 (by omega) (by omega)]
 by_cases hnr : r ≤ n
 ·rw [show decide ((n : Int) ≥ (r : Int)) = true from decide_eq_true (by omega)]
  exact least_bad ..
 rw [show decide ((n : Int) ≥ (r : Int)) = false from decide_eq_false (by omega)]
 have hn64 : n < 64 := by omega
 have hnr : n < r := by omega
 refine M.Ends.succ (fun k => by rw [recouplaw07_MatroidLeast.j0]) ?_
 refine M.Ends.neg (by decide) (M.Ends.pos (by omega) ?_)
 rw [shl_one hn64, not_one ht hn64, w64 (show (-9223372036854775808 : Int) ≤ (n : Int) by omega) (by omega)]
 have wl := wo_lt ht (t := 2 ^ n)
 have wv := val_wo ht (pow_lt hn64) hT
 have hB := rBasis7 hbl hl hr hc wl wv
 rw [← bas_grd hbl hl hr hc wl wv] at hB
 have sl := bas_lt hbl hl hr hc wl wv
 have sv := bas_val hbl hl hr hc wl wv
 have sf := bas_free hbl hl hr hc wl wv
 have sn : ¬ Bit (bas c l (wo t (2 ^ n))) n := fun q => ((bit_wo_one ht hn64 n).1 (bas_sub hbl hl hr hc wl wv q)).2 rfl
 generalize bas c l (wo t (2 ^ n)) = s at *
 have hs := sl
 refine M.Ends.bind hB (M.Ends.bind (Circuit7 hbl hl hr hc sl sv (n : Int)) (M.Ends.bind (rSpan7 hbl hl hr hc sl sv) ?_))
 have hrk : rho c l (s ||| 2 ^ n) > rho c l s ↔ ¬ Sp (mv (rowsOf c r l) c) r (Bit s) (mv (rowsOf c r l) c n) := by
  rw [rho_rk hbl hl hr hc sl sv, rho_rk hbl hl hr hc (lt_one sl hn64) (val_one hr sl sv hnr)]
  exact or_new _ hnr
 have hhas := has_eq (spn_lt hr (c := c) (l := l) (s := s)) (n : Int)
 rw [Int.toNat_natCast] at hhas
 have hbit := spn_bit hbl hl hr hc sl sv n
 unfold cirR
 rw [Int.toNat_natCast, if_pos ⟨⟨by omega, by omega⟩, sn, sf⟩]
 by_cases q : Sp (mv (rowsOf c r l) c) r (Bit s) (mv (rowsOf c r l) c n)
 ·rw [if_neg (fun e => hrk.1 e q)]
  have hb1 : (spn r c l s).testBit n = true := hbit.2 ⟨hnr, q⟩
  obtain ⟨f1, f2⟩ := cir_least hbl hl hr hc sl sv hnr sn sf q
  have cl : cir r c l s n < 2 ^ 64 := cir_lt hr hnr
  have cv : Val r (cir r c l s n) := cir_val hr hnr
  have cb := cir_bit hbl hl hr hc sl sv hnr
  refine M.Ends.pos rfl (M.Ends.bind1 hhas ?_)
  rw [hb1, show (decide ((0 : Int) ≤ (n : Int)) && true) = true from by simp]
  refine M.Ends.succ (fun k => by rw [recouplaw07_MatroidLeast.j1]) ?_
  refine M.Ends.neg (by show ¬ (true != true) = true; decide) (M.Ends.pos rfl ?_)
  have hF := Free7 cl rfl (Rank7 hbl hl hr hc cl cv)
  rw [if_pos rfl] at hF
  refine M.Ends.bind hF (M.Ends.neg (by simp; omega) (M.Ends.pos rfl ?_))
  have hhas2 := has_eq cl (n : Int)
  have hb2 : (cir r c l s n).testBit n = true := (cb n).2 (.inl rfl)
  rw [Int.toNat_natCast, hb2, show (decide ((0 : Int) ≤ (n : Int)) && true) = true from by simp] at hhas2
  rw [w64 (show (-9223372036854775808 : Int) ≤ (n : Int) by omega) (by omega)]
  refine M.Ends.bind1 hhas2 (M.Ends.pos rfl (M.Ends.pos (by omega) ?_))
  rw [shl_one hn64, or_one sl hn64, show Go.bits .andNot .u64 ((cir r c l s n : Nat) : Int) ((s ||| 2 ^ n : Nat) : Int) = ((wo (cir r c l s n) (s ||| 2 ^ n) : Nat) : Int) from bandNot cl (lt_one sl hn64)]
  have hz : wo (cir r c l s n) (s ||| 2 ^ n) = 0 := bit_ext fun j => by
   rw [bit_wo cl (lt_one sl hn64), cb, bit_or_one]
   constructor
   ·rintro ⟨h1 | h1, h2⟩
    ·exact absurd (.inr h1) h2
    ·exact absurd (.inl h1.1) h2
   ·intro h0; unfold Bit at h0; rw [Nat.zero_testBit] at h0; cases h0
  rw [hz]
  refine M.Ends.succ (fun k => by rw [recouplaw07_MatroidLeast.j2]) ?_
  refine M.Ends.neg (by decide) (M.Ends.bind (refList_eq cl) ?_)
  exact least_l0 hbl hl hr hc cl cv f2 _ 0 (Nat.zero_add _)
 ·rw [if_pos (hrk.2 q)]
  have hb1 : (spn r c l s).testBit n = false := by
   rw [Bool.eq_false_iff]
   exact fun e => q (hbit.1 e).2
  refine M.Ends.pos rfl (M.Ends.bind1 hhas ?_)
  rw [hb1, show (decide ((0 : Int) ≤ (n : Int)) && false) = false from by simp]
  refine M.Ends.succ (fun k => by rw [recouplaw07_MatroidLeast.j1]) ?_
  refine M.Ends.neg (by decide) (M.Ends.neg (by decide) ?_)
  exact M.Ends.bind anch7 (M.Ends.pos rfl (M.Ends.const rfl))
end Go.Proofs.YthjncmdlhmppiaaDoor.Pure
