import Derived.Test.YtccfbhnhedoggaaQx3
import Derived.Test.YtccfbhnhedoggaaQx11
import Derived.Test.YtccfbhnhedoggaaQx6
import Derived.Test.YtccfbhnhedoggaaGMul
namespace Go.Proofs.Ytccfbhnhedoggaa.M
open Go.RowKit Go.Proofs.YtccfbhnhedoggaaW.PrintWords Go.Proofs.YtccfbhnhedoggaaW.PrintLast Go.Proofs.YtccfbhnhedoggaaW.PrintMore Go.Proofs.Ytccfbhnhedoggaa.Q

/-! ### the program's tables -/
theorem exps_ok : (field_build.st 255).1 = (List.range 510).map fun i => ((pw i).toNat : Int) := by decide +kernel
theorem logs_ok : ((List.zip (field_build.st 255).2.1 (List.range 256)).all fun x => x.2 == 0 || (pw x.1.toNat).toNat == x.2) = true := by decide +kernel
theorem exp_el {n : Nat} (h : n < 510) : toE (field_build.exp n) = ⟨pw n⟩ := by
 unfold field_build.exp
 rw [exps_ok, List.getD_eq_getElem?_getD, List.getElem?_map, List.getElem?_range h]
 refine El.eq ?_
 unfold toE
 simp [BitVec.ofInt_natCast]
theorem log_el {a : Int} (h : 0 ≤ a ∧ a < 256) (h0 : a ≠ 0) : (⟨pw (field_build.log a.toNat).toNat⟩ : El) = toE a := by
 obtain ⟨n, rfl⟩ := Int.eq_ofNat_of_zero_le h.1
 have hn : n < 256 := by omega
 have hl : n < (field_build.st 255).2.1.length := by rw [(field_build.st_length 255).2]; exact hn
 have hz : n < (List.zip (field_build.st 255).2.1 (List.range 256)).length := by rw [List.length_zip, List.length_range]; omega
 have := List.all_eq_true.1 logs_ok _ (List.getElem_mem hz)
 rw [List.getElem_zip, List.getElem_range] at this
 simp only [Bool.or_eq_true, beq_iff_eq] at this
 rcases this with e | e
 ·exact absurd (by rw [e]; rfl) h0
 ·refine El.eq ?_
  unfold field_build.log toE
  rw [Int.toNat_natCast, List.getD_eq_getElem?_getD, List.getElem?_eq_getElem hl, Option.getD_some, BitVec.ofInt_natCast]
  refine BitVec.eq_of_toNat_eq ?_
  rw [e, BitVec.toNat_ofNat, Nat.mod_eq_of_lt (by omega)]
theorem toE_zero : toE 0 = 0 := rfl
theorem toE_one : toE 1 = 1 := rfl
theorem toE_ne {a : Int} (h : 0 ≤ a ∧ a < 256) (h0 : a ≠ 0) : toE a ≠ 0 := fun e => h0 (toE_inj h (by omega) (e.trans toE_zero.symm))
theorem mulT_el {a b : Int} (ha : 0 ≤ a ∧ a < 256) (hb : 0 ≤ b ∧ b < 256) : toE (mulT a b) = toE a * toE b := by
 unfold mulT
 by_cases h1 : a = 0
 ·rw [if_pos h1, h1, toE_zero, zero_mul]
 ·rw [if_neg h1]
  by_cases h2 : b = 0
  ·rw [if_pos h2, h2, toE_zero, mul_zero]
  ·rw [if_neg h2]
   obtain ⟨x0, x1⟩ := field_build.log_range (i := a.toNat) (by omega)
   obtain ⟨y0, y1⟩ := field_build.log_range (i := b.toNat) (by omega)
   rw [exp_el (by omega), ← log_el ha h1, ← log_el hb h2, show (field_build.log a.toNat + field_build.log b.toNat).toNat = (field_build.log a.toNat).toNat + (field_build.log b.toNat).toNat from by omega]
   generalize (field_build.log a.toNat).toNat = i
   generalize (field_build.log b.toNat).toNat = j
   exact El.eq (gm_pw_pw i j).symm
theorem exp_range {n : Nat} (h : n < 510) : 0 ≤ field_build.exp n ∧ field_build.exp n < 256 := by
 unfold field_build.exp
 rw [exps_ok, List.getD_eq_getElem?_getD, List.getElem?_map, List.getElem?_range h]
 have := (pw n).isLt
 simp
 omega
theorem mulT_range {a b : Int} (ha : 0 ≤ a ∧ a < 256) (hb : 0 ≤ b ∧ b < 256) : 0 ≤ mulT a b ∧ mulT a b < 256 := by
 unfold mulT
 split
 ·omega
 ·split
  ·omega
  ·obtain ⟨x0, x1⟩ := field_build.log_range (i := a.toNat) (by omega)
   obtain ⟨y0, y1⟩ := field_build.log_range (i := b.toNat) (by omega)
   exact exp_range (by omega)
theorem mulT_ends {a b : Int} (ha : 0 ≤ a ∧ a < 256) (hb : 0 ≤ b ∧ b < 256) : Ends (fun k => recoupref01_Mul.f k a b) (mulT a b) := by
 refine Ends.eq (Mul_ends ha hb) ?_
 rw [← mulT_el ha hb, ofE_toE (mulT_range ha hb)]
theorem pw_255k : ∀ k, pw (255 * k) = 1
 | 0 => rfl
 | k + 1 => by rw [Nat.mul_succ, pw_add_255, pw_255k k]
theorem invT_el {a : Int} (ha : 0 ≤ a ∧ a < 256) (h0 : a ≠ 0) : toE (invT a) = (toE a).inv := by
 have e : field_bounded.f (-1) = some 254 := by kernel_rfl
 have e2 : field_Inv.f a = some (field_build.exp ((field_build.log a.toNat * 254) % 255).toNat, 0) := by
  unfold field_Inv.f field_Pow.f
  rw [if_neg (by omega), if_neg h0, if_pos ha, e]
  simp
 have e3 : invT a = field_build.exp ((field_build.log a.toNat * 254) % 255).toNat := by unfold invT; rw [e2, Option.getD_some]
 rw [e3]
 obtain ⟨x0, x1⟩ := field_build.log_range (i := a.toNat) (by omega)
 rw [exp_el (by omega), ← log_el ha h0]
 obtain ⟨n, hn⟩ := Int.eq_ofNat_of_zero_le x0
 rw [hn, Int.toNat_natCast]
 refine inv_unique (El.eq ?_)
 show gm (pw n) (pw _) = 1
 rw [gm_pw_pw]
 have : n + (((n : Int) * 254) % 255).toNat = 255 * ((n + (((n : Int) * 254) % 255).toNat) / 255) := by omega
 rw [this]
 exact pw_255k _
theorem invT_range {a : Int} (ha : 0 ≤ a ∧ a < 256) (h0 : a ≠ 0) : 0 ≤ invT a ∧ invT a < 256 := (inv_some ha h0).2
/-- The reference's inverse: the first element with which the product is 1. -/
theorem Inv_from {a : Int} (ha : 0 ≤ a ∧ a < 256) (h0 : a ≠ 0) : ∀ n x : Nat, x + n = (invT a).toNat → 1 ≤ x → Ends (fun k => recoupref01_Inv.l0 k a (x : Int)) (invT a, 0)
 | n, x, h, hx => by
  obtain ⟨r0, r1⟩ := invT_range ha h0
  have hlt : x < 256 := by omega
  refine Ends.succ (fun k => by rw [recoupref01_Inv.l0]) (Ends.pos (by omega) ?_)
  have e1 : (x : Int) % 256 = (x : Int) := by omega
  rw [e1]
  refine Ends.bind (mulT_ends ha (b := (x : Int)) (by omega)) ?_
  cases n with
  | zero =>
   have hxi : (x : Int) = invT a := by omega
   refine Ends.pos ?_ (Ends.const (by rw [hxi]))
   rw [hxi]
   refine toE_inj (mulT_range ha ⟨r0, r1⟩) (by omega) ?_
   rw [mulT_el ha ⟨r0, r1⟩, invT_el ha h0, mul_inv (toE_ne ha h0)]
   rfl
  | succ n =>
   refine Ends.neg ?_ ?_
   ·intro e
    have hb : 0 ≤ (x : Int) ∧ (x : Int) < 256 := by omega
    have := mulT_el ha hb
    rw [e] at this
    have h2 := inv_unique this.symm
    rw [← invT_el ha h0] at h2
    have := toE_inj hb ⟨r0, r1⟩ h2
    omega
   ·have e2 : wrap64 ((x : Int) + 1) = ((x + 1 : Nat) : Int) := by rw [w64 (by omega) (by omega)]; omega
    rw [e2]
    exact Inv_from ha h0 n (x + 1) (by omega) (by omega)
theorem Inv_ends {a : Int} (ha : 0 ≤ a ∧ a < 256) (h0 : a ≠ 0) : Ends (fun k => recoupref01_Inv.f k a) (invT a, 0) := by
 have hr := invT_range ha h0
 have hn : invT a ≠ 0 := by
  intro e
  have := invT_el ha h0
  rw [e, toE_zero] at this
  exact inv_ne (toE_ne ha h0) this.symm
 have := Inv_from ha h0 ((invT a).toNat - 1) 1 (by omega) (Nat.le_refl _)
 exact this
/-- The reference's Scale. -/
theorem Scale_l0 {c : Int} (hc : 0 ≤ c ∧ c < 256) {l : List Int} (hl : bytesB l = true) (hm : l.length ≤ 4096) : ∀ n i : Nat, i + n = l.length → Ends (fun k => recoupref01_Scale.l0 k c l ((l.take i).map (mulT c)) (i : Int)) (l.map (mulT c))
 | 0, i, h => by
  obtain rfl : i = l.length := by omega
  exact Ends.succ (fun k => by rw [recoupref01_Scale.l0]) (Ends.neg (by omega) (Ends.const (by simp)))
 | n + 1, i, h => by
  have hi : i < l.length := by omega
  refine Ends.succ (fun k => by rw [recoupref01_Scale.l0]) (Ends.pos (by omega) (Ends.pos (Int.natCast_nonneg _) ?_))
  have hb := bytesB_at hl hi
  rw [rd_nat]
  refine Ends.bind (mulT_ends hc hb) (Ends.pos (by simp; omega) ?_)
  have e2 : wrap64 ((i : Int) + 1) = ((i + 1 : Nat) : Int) := by rw [w64 (by omega) (by omega)]; omega
  have e3 : (l.take i).map (mulT c) ++ [mulT c (l.getD i 0)] = (l.take (i + 1)).map (mulT c) := by
   rw [List.take_succ_eq_append_getElem hi, List.map_append, List.getD_eq_getElem?_getD, List.getElem?_eq_getElem hi]
   rfl
  rw [e2, e3]
  exact Scale_l0 hc hl hm n (i + 1) (by omega)
theorem Scale_ends {c : Int} (hc : 0 ≤ c ∧ c < 256) {l : List Int} (hl : bytesB l = true) (hm : l.length ≤ 4096) : Ends (fun k => recoupref01_Scale.f k c l) (l.map (mulT c)) := by
 have := Scale_l0 hc hl hm l.length 0 (by omega)
 unfold recoupref01_Scale.f
 simpa using this
end Go.Proofs.Ytccfbhnhedoggaa.M
