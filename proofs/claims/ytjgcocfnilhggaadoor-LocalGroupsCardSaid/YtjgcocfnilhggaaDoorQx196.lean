/- Written by drive.py (a program of this repo, over the kit's print): each Go function named here answers what the Lean function beside it answers, wherever that one answers, in every world that meets the stated premises. -/
import Derived.Test.YtjgcocfnilhggaaDoorQx0
import Derived.Test.YtjgcocfnilhggaaDoorQx118
import Derived.Test.YtjgcocfnilhggaaDoorQx121
import Derived.Test.YtjgcocfnilhggaaDoorQx143
import Derived.Test.YtjgcocfnilhggaaDoorQx151
import Derived.Test.YtjgcocfnilhggaaDoorQx178
import Derived.Test.YtjgcocfnilhggaaDoorQx213
namespace Go.Proofs.YtjgcocfnilhggaaDoor.Q
open Go.RowKit Go.Proofs.YtjgcocfnilhggaaDoorW.PrintWords Go.Proofs.YtjgcocfnilhggaaDoorW.PrintLast Go.Proofs.YtjgcocfnilhggaaDoorW.PrintMore
attribute [local go_sem] max2_int min2_int max_two min_two max_three min_three max_four min_four   -- for this text's walks alone
set_option linter.unusedVariables false
set_option linter.unusedSimpArgs false

def copyL (l : List Int) (i : Int) (s : List Int) : List Int := splice l i.toNat (s.take (l.length - i.toNat))
theorem copyL_cur {w : World} {base : Nat} {ok : Nat → Prop} {g n c : Nat} {L : List Int} (h : Kd.R (Kd.int .u8) 5 w base ok (.slice (some ⟨g, 0, none⟩) n c) L) : ∃ cur : List Value, w.heap[g]? = some (.cells cur.toArray 5 (0, 0)) ∧ cur.length = c ∧ n ≤ c ∧ n = L.length ∧ base ≤ g ∧ cur.take n = nums .u8 L ∧ c ≤ maxLen := by
  have ho := Kd.own_of_R h
  rcases ho.2 with ⟨h', _⟩ | ⟨g', cap', cur, h', hg1, hh, hle, hm, hsz, htk⟩
  · cases h'
  · injection h' with h1 h2 h3
    injection h1 with h1
    injection h1 with h1
    subst h1 h2 h3
    refine ⟨cur.toList, by simpa using hh, by simpa using hsz, hle, rfl, hg1, ?_, hm⟩
    simpa [nums, encs] using htk
theorem copyL_splice {w w1 : World} {base : Nat} {ok : Nat → Prop} {g n c off : Nat} {L seg : List Int} {cur : List Value} (h : Kd.R (Kd.int .u8) 5 w base ok (.slice (some ⟨g, 0, none⟩) n c) L) (hg : w.heap[g]? = some (.cells cur.toArray 5 (0, 0))) (hfit : off + seg.length ≤ L.length)
    (h1 : w1.heap[g]? = some (.cells (splice cur off (nums .u8 seg)).toArray 5 (0, 0))) : Kd.R (Kd.int .u8) 5 w1 base ok (.slice (some ⟨g, 0, none⟩) n c) (splice L off seg) := by
  obtain ⟨cur', hc1, hc2, hc3, hc4, hc5, hc6, hc7⟩ := copyL_cur h
  rw [hg] at hc1
  injection hc1 with hc1
  injection hc1 with hc1
  have hce : cur = cur' := by simpa using congrArg Array.toList hc1
  subst hce
  have hls : (splice L off seg).length = n := by rw [length_splice _ _ _ hfit, hc4]
  have hlc : (splice cur off (nums .u8 seg)).length = c := by rw [length_splice _ _ _ (by simp [nums]; omega), hc2]
  refine Kd.R_of_own ⟨by simp [encs], .inr ⟨g, c, (splice cur off (nums .u8 seg)).toArray, by rw [hls], hc5, h1, by omega, hc7, by simpa using hlc, ?_⟩⟩ h.1
  rw [hls, Nat.mul_one]
  show (splice cur off (nums .u8 seg)).take n = (splice L off seg).map _
  unfold splice
  rw [List.take_append, List.take_append, List.map_append, List.map_append]
  have e1 : (nums .u8 seg).length = seg.length := by simp [nums]
  rw [List.take_take, Nat.min_eq_right (by omega), List.length_take, Nat.min_eq_left (by omega), List.take_of_length_le (l := nums .u8 seg) (by omega), e1, List.take_drop]
  have e2 : off + seg.length + (n - off - seg.length) = n := by omega
  rw [e2]
  have e3 : cur.take off = (L.take off).map (fun x => Value.int .u8 x) := by
    have : (cur.take n).take off = (nums .u8 L).take off := by rw [hc6]
    rw [List.take_take, Nat.min_eq_left (by omega)] at this
    rw [this, nums, List.map_take]
  have e4 : (cur.take n).drop (off + seg.length) = (L.drop (off + seg.length)).map (fun x => Value.int .u8 x) := by
    rw [hc6, nums, List.map_drop]
  rw [e3, e4]
  rfl
theorem copyL_event {P : Program} {ops : Array Oper} {rest : List Oper} {o : Oper} {a : Act} {Q : Exit → Act → World → Prop} {W : World} {base : Nat} {ok : Nat → Prop} {g n c : Nat} {L S : List Int} {sp dp : Option Addr} {sc dLen dCap : Nat} {d s : Operand} {dT sT : TypeId} (hgd : o.guard = none)
    (ho : o.op = .call { callee := .builtin .copy, args := #[d, s], argTypes := #[dT, sT] }) (hu : P.underlying dT = some (.slice 5)) (hsz : (P.info? 5).map (·.size) = some 1)
    (h : Kd.R (Kd.int .u8) 5 W base ok (.slice (some ⟨g, 0, none⟩) n c) L) (hS : Kd.C (Kd.int .u8) W sp S.length S) (i : Int) (h0 : 0 ≤ i) (hi : i < (L.length : Int))
    (hd : a.eval d = .slice dp dLen dCap) (hs : a.eval s = .slice sp S.length sc) (hdp : dp = some ⟨g, i.toNat, none⟩) (hdl : dLen = L.length - i.toNat)
    (hk : ∀ w' m, W.grownBy w' (some g) → Kd.R (Kd.int .u8) 5 w' base ok (.slice (some ⟨g, 0, none⟩) n c) (copyL L i S) → wpList P ops Q rest (a.put o.dst (goInt m)) w') : wpList P ops Q (o :: rest) a W := by
  obtain ⟨cur, hg, hcl, hnc, hnL, hbg, htk, hcm⟩ := copyL_cur h
  have hseg : (S.take (L.length - i.toNat)).length = Nat.min S.length dLen := by rw [List.length_take, hdl, Nat.min_comm]
  refine wpList_plain hgd fun K hK => ?_
  rcases Nat.eq_zero_or_pos (Nat.min S.length dLen) with e | e
  · have hrun := run_copy_none (P := P) W dT sT o.type 5 dp sp dLen dCap S.length sc hu hsz e
    have hz : copyL L i S = L := by
      have : S.take (L.length - i.toNat) = [] := List.length_eq_zero_iff.1 (hseg.trans e)
      unfold copyL splice
      rw [this]
      simp
    unfold Oper.wp
    simp [execOp, ho, resolve, invoke, builtin, hd, hs, hrun, Result.andThen]
    exact hK _ _ (hk W 0 ⟨rfl, rfl, rfl, Nat.le_refl _, fun _ _ _ => rfl⟩ (by rw [hz]; exact h))
  · have hSp : 0 < S.length := Nat.lt_of_lt_of_le e (Nat.min_le_left _ _)
    obtain ⟨ad, rfl, hc⟩ := hS.2.2 hSp
    subst hdp
    have hsrc : ∀ j v, (nums .u8 (S.take (L.length - i.toNat)))[j]? = some v → W.cell? (ad.add j) = some v := by
      intro j v hv
      unfold nums at hv
      rw [List.getElem?_map, Option.map_eq_some_iff] at hv
      obtain ⟨x, hx, rfl⟩ := hv
      rw [List.getElem?_take] at hx
      split at hx
      · obtain ⟨c1, _, rfl, hcell⟩ := hc j x hx
        have := hcell 0 _ rfl
        rwa [show (Kd.int .u8).sz = 1 from rfl, Nat.mul_one, Nat.add_zero] at this
      · cases hx
    have hfit : i.toNat + (nums .u8 (S.take (L.length - i.toNat))).length ≤ cur.length := by
      have : (nums .u8 (S.take (L.length - i.toNat))).length = Nat.min S.length dLen := by rw [← hseg]; simp [nums]
      have h2 : Nat.min S.length dLen ≤ dLen := Nat.min_le_right _ _
      omega
    have hlen : (nums .u8 (S.take (L.length - i.toNat))).length = Nat.min S.length dLen := by rw [← hseg]; simp [nums]
    have hrun := run_copy_row (P := P) W dT sT o.type 5 g i.toNat dLen dCap ad S.length sc cur.toArray 5 (nums .u8 (S.take (L.length - i.toNat))) hu hsz hg hlen hsrc (by simpa using hfit) (fun v hv => by
      unfold nums at hv
      obtain ⟨x, _, rfl⟩ := List.mem_map.1 hv
      rfl)
    unfold Oper.wp
    simp [execOp, ho, resolve, invoke, builtin, hd, hs, hrun, Result.andThen]
    refine hK _ _ (hk _ _ ⟨rfl, rfl, rfl, by simp [World.setRow], fun k _ hk => setRow_other W g k _ (fun e => hk (by rw [e]))⟩ ?_)
    refine copyL_splice h hg (by rw [hseg]; have : Nat.min S.length dLen ≤ dLen := Nat.min_le_right _ _; omega) ?_
    simpa [splice] using setRow_heap W g _ _ 5 _ hg

/-! ### recoupref04_Reduce: function 96 -/
mutual
def recoupref04_Reduce.l0 : Nat → List Int → Int → Int → Int → List Int → Option (Int × Int × List Int × List Int × Int)
  | 0, _, _, _, _, _ => none
  | k + 1, x6, x7, x161000, x161001, x161002 => if x7 < x161001 then (recoupref04_Reduce.j1 k x6 x7 (decide ((x6.length : Int) < x161000)) x161000 x161001 x161002) else (recoupref04_Reduce.j1 k x6 x7 false x161000 x161001 x161002)
def recoupref04_Reduce.j1 : Nat → List Int → Int → Bool → Int → Int → List Int → Option (Int × Int × List Int × List Int × Int)
  | 0, _, _, _, _, _, _ => none
  | k + 1, x6, x7, x35, x161000, x161001, x161002 => if x35 = true then (recoupref04_Reduce.l1 k x6 x7 (x6.length : Int) (x6.length : Int) x161000 x161001 x161002) else (some (x161000, x161001, x161002, x6, 0))
def recoupref04_Reduce.j3 : Nat → List Int → Int → Int → Int → Int → Int → List Int → Option (Int × Int × List Int × List Int × Int)
  | 0, _, _, _, _, _, _, _ => none
  | k + 1, x6, x7, x8, x9, x161000, x161001, x161002 => if x9 = x161000 then (recoupref04_Reduce.l0 k x6 (wrap64 (x7 + 1)) x161000 x161001 x161002) else (if 0 ≤ x161000 then (if (x161000 : Int).toNat ≤ 35184372088832 then (recoupref04_Reduce.l2 k x6 x7 x8 x9 (List.replicate (x161000 : Int).toNat 0) 0 x161000 x161001 x161002) else (none)) else (none))
def recoupref04_Reduce.l2 : Nat → List Int → Int → Int → Int → List Int → Int → Int → Int → List Int → Option (Int × Int × List Int × List Int × Int)
  | 0, _, _, _, _, _, _, _, _, _ => none
  | k + 1, x6, x7, x8, x9, x10, x11, x161000, x161001, x161002 => if x11 < x161000 then (if 0 ≤ x11 then (if x11 < (x10.length : Int) then (recoupref04_Reduce.l2 k x6 x7 x8 x9 (x10.set (x11 : Int).toNat x11) (wrap64 (x11 + 1)) x161000 x161001 x161002) else (none)) else (none)) else (if 0 ≤ x8 then (if x8 < (x10.length : Int) then (if 0 ≤ x9 then (if x9 < (x10.length : Int) then ((recoupref03_Pick.f k x161000 x161001 x161002 ((x10.set (x8 : Int).toNat x9).set (x9 : Int).toNat x8)).bind fun bt168 => ((recoupref03_At.f bt168.1 bt168.2.1 bt168.2.2.1 x8 x7).bind fun t174 => ((recoupref01_Inv.f k t174).bind fun bt175 => ((recoupref03_Row.f k bt168.1 bt168.2.1 bt168.2.2.1 x8).bind fun bt177 => ((recoupref01_Scale.f k bt175.1 bt177.1).bind fun t181 => (if 0 ≤ (wrap64 (x8 * bt168.2.1)) then (if (wrap64 (x8 * bt168.2.1)) < (bt168.2.2.1.length : Int) then (recoupref04_Reduce.l3 k x6 x7 x8 t181 0 bt168.1 bt168.2.1 (copyL bt168.2.2.1 (wrap64 (x8 * bt168.2.1)) t181)) else (none)) else (none))))))) else (none)) else (none)) else (none)) else (none))
def recoupref04_Reduce.l3 : Nat → List Int → Int → Int → List Int → Int → Int → Int → List Int → Option (Int × Int × List Int × List Int × Int)
  | 0, _, _, _, _, _, _, _, _ => none
  | k + 1, x6, x7, x8, x14, x16, x161000, x161001, x161002 => if x16 < x161000 then (if x16 = x8 then (recoupref04_Reduce.l3 k x6 x7 x8 x14 (wrap64 (x16 + 1)) x161000 x161001 x161002) else ((recoupref03_At.f x161000 x161001 x161002 x16 x7).bind fun t188 => (recoupref04_Reduce.l4 k x6 x7 x8 x14 x16 t188 0 x161000 x161001 x161002))) else (if x6.length < 17592186044416 then (recoupref04_Reduce.l0 k (x6 ++ [x7]) (wrap64 (x7 + 1)) x161000 x161001 x161002) else (none))
def recoupref04_Reduce.l4 : Nat → List Int → Int → Int → List Int → Int → Int → Int → Int → Int → List Int → Option (Int × Int × List Int × List Int × Int)
  | 0, _, _, _, _, _, _, _, _, _, _ => none
  | k + 1, x6, x7, x8, x14, x16, x17, x18, x161000, x161001, x161002 => if x18 < x161001 then (if 0 ≤ (wrap64 ((wrap64 (x16 * x161001)) + x18)) then (if (wrap64 ((wrap64 (x16 * x161001)) + x18)) < (x161002.length : Int) then (if 0 ≤ x18 then (if x18 < (x14.length : Int) then ((recoupref01_Mul.f k x17 (rd x14 x18)).bind fun t191 => (recoupref04_Reduce.l4 k x6 x7 x8 x14 x16 x17 (wrap64 (x18 + 1)) x161000 x161001 (x161002.set ((wrap64 ((wrap64 (x16 * x161001)) + x18)) : Int).toNat (Go.bits .xor .u8 (rd x161002 (wrap64 ((wrap64 (x16 * x161001)) + x18))) t191)))) else (none)) else (none)) else (none)) else (none)) else (recoupref04_Reduce.l3 k x6 x7 x8 x14 (wrap64 (x16 + 1)) x161000 x161001 x161002)
def recoupref04_Reduce.l1 : Nat → List Int → Int → Int → Int → Int → Int → List Int → Option (Int × Int × List Int × List Int × Int)
  | 0, _, _, _, _, _, _, _ => none
  | k + 1, x6, x7, x8, x9, x161000, x161001, x161002 => if x9 < x161000 then ((recoupref03_At.f x161000 x161001 x161002 x9 x7).bind fun t161 => (if t161 = 0 then (recoupref04_Reduce.l1 k x6 x7 x8 (wrap64 (x9 + 1)) x161000 x161001 x161002) else (recoupref04_Reduce.j3 k x6 x7 x8 x9 x161000 x161001 x161002))) else (recoupref04_Reduce.j3 k x6 x7 x8 x9 x161000 x161001 x161002)
end
def recoupref04_Reduce.f (k : Nat) (a0_0 : Int) (a0_1 : Int) (l0_2 : List Int) : Option (Int × Int × List Int × List Int × Int) := (recoupref03_Right.f a0_0 a0_1 l0_2).bind fun t154 => (if t154 = true then ((recoupref03_Copy.f a0_0 a0_1 l0_2).bind fun bt155 => (recoupref04_Reduce.l0 k ([] : List Int) 0 bt155.1 bt155.2.1 bt155.2.2)) else (some (0, 0, ([] : List Int), ([] : List Int), 3)))
theorem recoupref04_Reduce.mono_l : ∀ k, (∀ y0 y1 y2 y3 y4, LeO (recoupref04_Reduce.l0 k y0 y1 y2 y3 y4) (recoupref04_Reduce.l0 (k + 1) y0 y1 y2 y3 y4)) ∧ (∀ y0 y1 y2 y3 y4 y5, LeO (recoupref04_Reduce.j1 k y0 y1 y2 y3 y4 y5) (recoupref04_Reduce.j1 (k + 1) y0 y1 y2 y3 y4 y5)) ∧ (∀ y0 y1 y2 y3 y4 y5 y6, LeO (recoupref04_Reduce.j3 k y0 y1 y2 y3 y4 y5 y6) (recoupref04_Reduce.j3 (k + 1) y0 y1 y2 y3 y4 y5 y6)) ∧ (∀ y0 y1 y2 y3 y4 y5 y6 y7 y8, LeO (recoupref04_Reduce.l2 k y0 y1 y2 y3 y4 y5 y6 y7 y8) (recoupref04_Reduce.l2 (k + 1) y0 y1 y2 y3 y4 y5 y6 y7 y8)) ∧ (∀ y0 y1 y2 y3 y4 y5 y6 y7, LeO (recoupref04_Reduce.l3 k y0 y1 y2 y3 y4 y5 y6 y7) (recoupref04_Reduce.l3 (k + 1) y0 y1 y2 y3 y4 y5 y6 y7)) ∧ (∀ y0 y1 y2 y3 y4 y5 y6 y7 y8 y9, LeO (recoupref04_Reduce.l4 k y0 y1 y2 y3 y4 y5 y6 y7 y8 y9) (recoupref04_Reduce.l4 (k + 1) y0 y1 y2 y3 y4 y5 y6 y7 y8 y9)) ∧ (∀ y0 y1 y2 y3 y4 y5 y6, LeO (recoupref04_Reduce.l1 k y0 y1 y2 y3 y4 y5 y6) (recoupref04_Reduce.l1 (k + 1) y0 y1 y2 y3 y4 y5 y6))
  | 0 => ⟨fun _ _ _ _ _ r h => by simp [recoupref04_Reduce.l0] at h, fun _ _ _ _ _ _ r h => by simp [recoupref04_Reduce.j1] at h, fun _ _ _ _ _ _ _ r h => by simp [recoupref04_Reduce.j3] at h, fun _ _ _ _ _ _ _ _ _ r h => by simp [recoupref04_Reduce.l2] at h, fun _ _ _ _ _ _ _ _ r h => by simp [recoupref04_Reduce.l3] at h, fun _ _ _ _ _ _ _ _ _ _ r h => by simp [recoupref04_Reduce.l4] at h, fun _ _ _ _ _ _ _ r h => by simp [recoupref04_Reduce.l1] at h⟩
  | k + 1 => by
    obtain ⟨ih0, ih1, ih2, ih3, ih4, ih5, ih6⟩ := recoupref04_Reduce.mono_l k
    refine ⟨?_, ?_, ?_, ?_, ?_, ?_, ?_⟩
    all_goals (intros; first | unfold recoupref04_Reduce.l0 | unfold recoupref04_Reduce.j1 | unfold recoupref04_Reduce.j3 | unfold recoupref04_Reduce.l2 | unfold recoupref04_Reduce.l3 | unfold recoupref04_Reduce.l4 | unfold recoupref04_Reduce.l1)
    all_goals repeat' first | (with_reducible exact ih0 _ _ _ _ _) | (with_reducible exact ih1 _ _ _ _ _ _) | (with_reducible exact ih2 _ _ _ _ _ _ _) | (with_reducible exact ih3 _ _ _ _ _ _ _ _ _) | (with_reducible exact ih4 _ _ _ _ _ _ _ _) | (with_reducible exact ih5 _ _ _ _ _ _ _ _ _ _) | (with_reducible exact ih6 _ _ _ _ _ _ _) | (with_reducible exact recoupref01_Inv.mono _ _) | (with_reducible exact recoupref01_Mul.mono _ _ _) | (with_reducible exact recoupref01_Scale.mono _ _ _) | (with_reducible exact recoupref03_Pick.mono _ _ _ _ _) | (with_reducible exact recoupref03_Row.mono _ _ _ _ _) | (with_reducible exact LeO.refl _) | (with_reducible exact LeO.none _) | (with_reducible refine LeO.ite ?_ ?_) | (with_reducible refine LeO.bind ?_ (fun _ => ?_)) | exact ih0 _ _ _ _ _ | exact ih1 _ _ _ _ _ _ | exact ih2 _ _ _ _ _ _ _ | exact ih3 _ _ _ _ _ _ _ _ _ | exact ih4 _ _ _ _ _ _ _ _ | exact ih5 _ _ _ _ _ _ _ _ _ _ | exact ih6 _ _ _ _ _ _ _ | exact recoupref01_Inv.mono _ _ | exact recoupref01_Mul.mono _ _ _ | exact recoupref01_Scale.mono _ _ _ | exact recoupref03_Pick.mono _ _ _ _ _ | exact recoupref03_Row.mono _ _ _ _ _ | exact LeO.none _ | refine LeO.ite ?_ ?_ | refine LeO.bind ?_ (fun _ => ?_)
theorem recoupref04_Reduce.mono : ∀ a0 a1 a2 k, LeO (recoupref04_Reduce.f k a0 a1 a2) (recoupref04_Reduce.f (k + 1) a0 a1 a2) := by
  intro a0 a1 a2 k
  obtain ⟨ih0, ih1, ih2, ih3, ih4, ih5, ih6⟩ := recoupref04_Reduce.mono_l k
  unfold recoupref04_Reduce.f
  repeat' first
      | (with_reducible exact ih0 _ _ _ _ _)
      | (with_reducible exact ih1 _ _ _ _ _ _)
      | (with_reducible exact ih2 _ _ _ _ _ _ _)
      | (with_reducible exact ih3 _ _ _ _ _ _ _ _ _)
      | (with_reducible exact ih4 _ _ _ _ _ _ _ _)
      | (with_reducible exact ih5 _ _ _ _ _ _ _ _ _ _)
      | (with_reducible exact ih6 _ _ _ _ _ _ _)
      | (with_reducible exact recoupref01_Inv.mono _ _)
      | (with_reducible exact recoupref01_Mul.mono _ _ _)
      | (with_reducible exact recoupref01_Scale.mono _ _ _)
      | (with_reducible exact recoupref03_Pick.mono _ _ _ _ _)
      | (with_reducible exact recoupref03_Row.mono _ _ _ _ _)
      | (with_reducible exact LeO.refl _)
      | (with_reducible exact LeO.none _)
      | (with_reducible refine LeO.ite ?_ ?_)
      | (with_reducible refine LeO.bind ?_ (fun _ => ?_))
      | exact ih0 _ _ _ _ _
      | exact ih1 _ _ _ _ _ _
      | exact ih2 _ _ _ _ _ _ _
      | exact ih3 _ _ _ _ _ _ _ _ _
      | exact ih4 _ _ _ _ _ _ _ _
      | exact ih5 _ _ _ _ _ _ _ _ _ _
      | exact ih6 _ _ _ _ _ _ _
      | exact recoupref01_Inv.mono _ _
      | exact recoupref01_Mul.mono _ _ _
      | exact recoupref01_Scale.mono _ _ _
      | exact recoupref03_Pick.mono _ _ _ _ _
      | exact recoupref03_Row.mono _ _ _ _ _
      | exact LeO.none _
      | refine LeO.ite ?_ ?_
      | refine LeO.bind ?_ (fun _ => ?_)
def recoupref04_Reduce.T32 : Bool × List (List Nat × List Nat) := (true, [([], []), ([0], [0]), ([], []), ([], []), ([3], [3]), ([2, 4], [2, 4]), ([], []), ([5, 6], [5, 6]), ([1, 7], [1, 7]), ([8], [8]), ([], []), ([], []), ([], []), ([11, 12], [11, 12]), ([13], [13]), ([10, 14], [10, 14]), ([9, 15], [9, 15]), ([1, 7, 0, 1, 2, 3, 4, 5, 6, 7, 8, 9, 10, 11, 12, 13, 14, 15, 16], [1, 7]), ([17, 16, 15, 0, 1, 2, 3, 4, 5, 6, 7, 8, 9, 10, 11, 12, 13, 14, 15, 16], [16, 17])])
def recoupref04_Reduce.B32 : List Nat := [0, 1, 0, 0, 8, 28, 0, 124, 255, 511, 0, 0, 0, 6144, 14336, 31744, 65535, 131071, 262143]
theorem recoupref04_Reduce.tab32 : rtab .any (opsOf Tryd.f96 32) = recoupref04_Reduce.T32 := by kernel_rfl
theorem recoupref04_Reduce.bits32 : waitsOk recoupref04_Reduce.T32.2 recoupref04_Reduce.B32 = true := by kernel_rfl
set_option maxHeartbeats 8000000 in
set_option maxRecDepth 100000 in
theorem recoupref04_Reduce.calls (k : Nat) (a0_0 : Int) (a0_1 : Int) (A0_2 : Option Addr) (c0_2 : Nat) (l0_2 : List Int) (r1 : Int) (r2 : Int) (r3 : List Int) (r4 : List Int) (r5 : Int) (w : World) (hr0_2 : Kd.C (Kd.int .u8) w A0_2 l0_2.length l0_2) (hc0_2 : l0_2.length ≤ c0_2) (h : recoupref04_Reduce.f k a0_0 a0_1 l0_2 = some (r1, r2, r3, r4, r5)) :
    Calls Tryd.prog 96 #[.agg #[.int .i64 a0_0, .int .i64 a0_1, .slice A0_2 l0_2.length c0_2]] w fun e w' => ∃ v2_ v3_ : Value, e = .returned (.tuple #[.agg #[.int .i64 r1, .int .i64 r2, v2_], v3_, .int .i64 r5]) ∧ Kd.R (Kd.int .u8) 5 w' w.heap.size (fun _ => True) v2_ r3 ∧ Kd.R (Kd.int .i64) 3 w' w.heap.size (fun _ => True) v3_ r4 ∧ Below w.heap.size w w' := by
  have hu24 := Tryd.underlying24
  have HR0_2 := Aside0.mk hr0_2
  have HC0_2 := Aside0.mk hc0_2
  clear hr0_2 hc0_2
  have HB := Aside0.mk (Below.refl w.heap.size w)
  have H : ((recoupref03_Right.f a0_0 a0_1 l0_2).bind fun t154 => (if t154 = true then ((recoupref03_Copy.f a0_0 a0_1 l0_2).bind fun bt155 => (recoupref04_Reduce.l0 k ([] : List Int) 0 bt155.1 bt155.2.1 bt155.2.2)) else (some (0, 0, ([] : List Int), ([] : List Int), 3)))) = some (r1, r2, r3, r4, r5) := h
  clear h
  obtain ⟨t154, A2, H⟩ := bindO H
  (try dsimp only at H)
  by_cases c3 : t154 = true
  · subst c3
    rw [if_pos rfl] at H
    obtain ⟨⟨t155, t156, t157⟩, A4, H⟩ := bindO H
    (try dsimp only at H)
    have H' := Aside0.mk H
    clear H
    go_enter Tryd.func96, Tryd.ntmps96
    go_wp2_with (first | ((with_reducible refine gD 1 rfl ?_); (try (refine gate_guard (by rfl) ?_; dsimp only)); refine bE 1 #[.int .i64 a0_0, .int .i64 a0_1, .slice A0_2 l0_2.length c0_2] 24 ?_; intro gb152 hg w5 hbox hb; have BK152 := Aside0.mk (hbox); have GW152 := hbS HB hg; have GE152 := hbS HB hg; replace HB := hbB HB hb; clear hb hbox hg) | ((with_reducible refine gD 2 rfl ?_); (try (refine gate_guard (by rfl) ?_; dsimp only)); refine bE 2 #[.int .i64 0, .int .i64 0, .slice none 0 0] 24 ?_; intro gb153 hg w6 hbox hb; have BK153 := Aside0.mk (hbox); have GW153 := hbS HB hg; have GE153 := hbS HB hg; replace HB := hbB HB hb; have NB152_153 := neL BK152 hg; have NB153_152 := neG BK152 hg; replace BK152 := bkB BK152 hb; clear hb hbox hg; have hnb7 := NB152_153.out; have hnc7 := NB153_152.out; obtain ⟨hcz8_0, hcz8_1, hcz8_2, hfz8_0, hfz8_1, hfz8_2⟩ := cell3 BK152) | ((with_reducible refine gC 45 rfl ?_); refine cG (some 20) Tryd.func45 #[.agg #[.int .i64 a0_0, .int .i64 a0_1, .slice A0_2 l0_2.length c0_2]] ?_; (with_reducible refine (recoupref03_Right.calls a0_0 a0_1 _ _ l0_2 true _ ?side1 ?side2 A2.out).mono ?_); (case side1 => exact kcB HR0_2 HB); (case side2 => exact HC0_2.out); rintro e w9 ⟨rfl, hb⟩; refine ⟨_, rfl, ?_⟩; replace BK152 := bkB BK152 hb; replace BK153 := bkB BK153 hb; replace HB := hbB HB hb; (try clear hb); (try clear hb2); (try clear hk); (try clear hi); obtain ⟨hcz10_0, hcz10_1, hcz10_2, hfz10_0, hfz10_1, hfz10_2⟩ := cell3 BK152) | ((with_reducible refine gC 24 rfl ?_); refine cG (some 24) Tryd.func24 #[.agg #[.int .i64 a0_0, .int .i64 a0_1, .slice A0_2 l0_2.length c0_2]] ?_; (with_reducible refine (recoupref03_Copy.calls a0_0 a0_1 _ _ l0_2 t155 t156 t157 _ ?side1 ?side2 A4.out).mono ?_); (case side1 => exact kcB HR0_2 HB); (case side2 => exact HC0_2.out); rintro e w11 ⟨v158, rfl, ho0, hb⟩; refine ⟨_, rfl, ?_⟩; have HO159 := Aside0.mk (Kd.R_lower ho0 (below_size (hbA HB.out))); replace BK152 := bkB BK152 hb; replace BK153 := bkB BK153 hb; replace HB := hbB HB hb; (try clear hb); (try clear hb2); (try clear hk); (try clear hi); (try clear ho0)) | ((with_reducible refine gD 5 rfl ?_); (try (refine gate_guard (by rfl) ?_; dsimp only)); refine bE 5 #[.int .i64 0, .int .i64 0, .slice none 0 0] 24 ?_; intro gb160 hg w12 hbox hb; replace HO159 := kdB HO159 hb; have BK160 := Aside0.mk (hbox); have GW160 := hbS HB hg; have GE160 := hbS HB hg; replace HB := hbB HB hb; have NB152_160 := neL BK152 hg; have NB160_152 := neG BK152 hg; replace BK152 := bkB BK152 hb; have NB153_160 := neL BK153 hg; have NB160_153 := neG BK153 hg; replace BK153 := bkB BK153 hb; clear hb hbox hg; have hnb13 := NB160_152.out; have hnc13 := NB152_160.out; have hnb14 := NB160_153.out; have hnc14 := NB153_160.out; obtain ⟨hcz15_0, hcz15_1, hcz15_2, hfz15_0, hfz15_1, hfz15_2⟩ := cell3 BK160; obtain ⟨Ao16, co16, eo16⟩ := Kd.R_slice HO159.out; subst eo16))
    go_loopg [6, 7] k (fun kq v6 v7 w' => ∃ (x6_1 : List Int) (x7_1 : Int) (x161000_1 : Int) (x161001_1 : Int) (x161002_1 : List Int) (u161002 : Value), v7 = .int .i64 x7_1 ∧ Aside0 (recoupref04_Reduce.l0 kq x6_1 x7_1 x161000_1 x161001_1 x161002_1 = some (r1, r2, r3, r4, r5)) ∧ Aside0 (kq ≤ k) ∧ Aside0 (Kd.R (Kd.int .i64) 3 w' w.heap.size (fun _ => True) v6 x6_1) ∧ Aside0 (Kd.R (Kd.int .u8) 5 w' w.heap.size (fun _ => True) u161002 x161002_1) ∧ Aside0 (w'.heap[gb152]? = some (.cells #[.int .i64 a0_0, .int .i64 a0_1, (.slice A0_2 l0_2.length c0_2)] 24 (0, 0))) ∧ Aside0 (w'.heap[gb153]? = some (.cells #[.int .i64 0, .int .i64 0, (.slice none 0 0)] 24 (0, 0))) ∧ Aside0 (w'.heap[gb160]? = some (.cells #[.int .i64 x161000_1, .int .i64 x161001_1, u161002] 24 (0, 0))) ∧ Aside0 (Below w.heap.size w w'))
    case atStart => exact ⟨(([] : List Int)), (0), (t155), (t156), (t157), (.slice Ao16 t157.length co16), rsE, H', ⟨Nat.le_refl _⟩, ⟨nilE⟩, ⟨by (with_reducible repeat (first | apply Kd.R_alloc | apply Kd.R_drewN | apply Kd.R_drew)); exact Kd.R_mono (Kd.R_far (p := ⟨gb160, 2, none⟩) (Kd.R_far (p := ⟨gb160, 1, none⟩) (Kd.R_far (p := ⟨gb160, 0, none⟩) (Kd.R_types HO159.out BK160.out (by decide)) (fun _ hk => hk.2) (.int .i64 t155)) (fun _ hk => hk.2) (.int .i64 t156)) (fun _ hk => hk.2) (.slice Ao16 t157.length co16)) (fun _ hk => trivial)⟩, ⟨by refine bkR ?_; refine blk_far ?_ NB152_160.out _; refine bkR ?_; refine blk_far ?_ NB152_160.out _; refine bkR ?_; refine blk_far ?_ NB152_160.out _; refine bkR ?_; exact BK152.out⟩, ⟨by refine bkR ?_; refine blk_far ?_ NB153_160.out _; refine bkR ?_; refine blk_far ?_ NB153_160.out _; refine bkR ?_; refine blk_far ?_ NB153_160.out _; refine bkR ?_; exact BK153.out⟩, ⟨by refine bkR ?_; refine blk_put (cs := #[.int .i64 t155, .int .i64 t156, .slice none 0 0]) ?_ 2 _ rfl; refine bkR ?_; refine blk_put (cs := #[.int .i64 t155, .int .i64 0, .slice none 0 0]) ?_ 1 _ rfl; refine bkR ?_; refine blk_put (cs := #[.int .i64 0, .int .i64 0, .slice none 0 0]) ?_ 0 _ rfl; refine bkR ?_; exact BK160.out⟩, ⟨hbA HB.out⟩⟩
    case round =>
      clear H'
      (try clear c1); (try clear c2); (try clear p2); (try clear c3); (try clear c4); (try clear c7); (try clear c9); (try clear c13); (try clear c14); (try clear hcz10_0 hcz10_1 hcz10_2 hfz10_0 hfz10_1 hfz10_2); (try clear hcz15_0 hcz15_1 hcz15_2 hfz15_0 hfz15_1 hfz15_2); (try clear hcz8_0 hcz8_1 hcz8_2 hfz8_0 hfz8_1 hfz8_2)
      obtain ⟨x6_1, x7_1, x161000_1, x161001_1, x161002_1, u161002, rfl, HA, HK1, HO_6, HO_161002, BK152, BK153, BK160, HB⟩ := hrel
      cases gk with
      | zero => exact absurd HA.out (by simp [recoupref04_Reduce.l0])
      | succ k1 =>
        have H := HA.out
        clear HA
        simp only [recoupref04_Reduce.l0] at H
        have HC17 := Aside0.mk H
        clear H
        go_upto_region 6 with (fail)
        go_cut [35] (fun v35 wc => ∃ (kq : Nat) (x35_16 : Bool), v35 = .bool x35_16 ∧ Aside0 (recoupref04_Reduce.j1 kq x6_1 x7_1 x35_16 x161000_1 x161001_1 x161002_1 = some (r1, r2, r3, r4, r5)) ∧ Aside0 (kq ≤ k1) ∧ Aside0 (Kd.R (Kd.int .i64) 3 wc w.heap.size (fun _ => True) u6 x6_1) ∧ Aside0 (Kd.R (Kd.int .u8) 5 wc w.heap.size (fun _ => True) u161002 x161002_1) ∧ Aside0 (wc.heap[gb152]? = some (.cells #[.int .i64 a0_0, .int .i64 a0_1, (.slice A0_2 l0_2.length c0_2)] 24 (0, 0))) ∧ Aside0 (wc.heap[gb153]? = some (.cells #[.int .i64 0, .int .i64 0, (.slice none 0 0)] 24 (0, 0))) ∧ Aside0 (wc.heap[gb160]? = some (.cells #[.int .i64 x161000_1, .int .i64 x161001_1, u161002] 24 (0, 0))) ∧ Aside0 (Below w.heap.size w wc))
        case first =>
          have H := HC17.out
          clear HC17
          by_cases c18 : x7_1 < x161001_1
          · rw [if_pos c18] at H
            have c18b0 : decide (x7_1 < x161001_1) = true := decide_eq_true c18
            clear c18
            (first | rw [c18b0] | (simp only [i64_w, i32_w]; rw [c18b0]) | skip)
            have H' := Aside0.mk H
            clear H
            have hnb19 := NB160_152.out
            have hnc19 := NB152_160.out
            have hnb20 := NB160_153.out
            have hnc20 := NB153_160.out
            obtain ⟨hcz21_0, hcz21_1, hcz21_2, hfz21_0, hfz21_1, hfz21_2⟩ := cell3 BK160
            obtain ⟨Ao22, co22, eo22⟩ := Kd.R_slice HO_6.out
            subst eo22
            go_wp2
            go_meet
            case rel => exact ⟨_, (decide ((x6_1.length : Int) < x161000_1)), rsE, H', ⟨by have := HK1.out; first | omega | exact Nat.le_refl _⟩, ⟨kdA HO_6.out⟩, ⟨kdA HO_161002.out⟩, ⟨bkA BK152.out⟩, ⟨bkA BK153.out⟩, ⟨bkA BK160.out⟩, ⟨hbA HB.out⟩⟩
          · rw [if_neg c18] at H
            have c18b0 : decide (x7_1 < x161001_1) = false := decide_eq_false c18
            clear c18
            (first | rw [c18b0] | (simp only [i64_w, i32_w]; rw [c18b0]) | skip)
            have H' := Aside0.mk H
            clear H
            have hnb23 := NB160_152.out
            have hnc23 := NB152_160.out
            have hnb24 := NB160_153.out
            have hnc24 := NB153_160.out
            obtain ⟨hcz25_0, hcz25_1, hcz25_2, hfz25_0, hfz25_1, hfz25_2⟩ := cell3 BK160
            go_wp2
            go_meet
            case rel => exact ⟨_, (false), rsE, H', ⟨by have := HK1.out; first | omega | exact Nat.le_refl _⟩, ⟨kdA HO_6.out⟩, ⟨kdA HO_161002.out⟩, ⟨bkA BK152.out⟩, ⟨bkA BK153.out⟩, ⟨bkA BK160.out⟩, ⟨hbA HB.out⟩⟩
        case rest =>
          clear HC17
          (try clear c1); (try clear c2); (try clear p2 p2); (try clear c3); (try clear c4); (try clear c7); (try clear c9); (try clear c13); (try clear c14); (try clear c18); (try clear c18b0); (try clear c19); (try clear c20); (try clear c23); (try clear c24); (try clear hcz10_0 hcz10_1 hcz10_2 hfz10_0 hfz10_1 hfz10_2); (try clear hcz15_0 hcz15_1 hcz15_2 hfz15_0 hfz15_1 hfz15_2); (try clear hcz21_0 hcz21_1 hcz21_2 hfz21_0 hfz21_1 hfz21_2); (try clear hcz25_0 hcz25_1 hcz25_2 hfz25_0 hfz25_1 hfz25_2); (try clear hcz8_0 hcz8_1 hcz8_2 hfz8_0 hfz8_1 hfz8_2)
          obtain ⟨kq, x35_16, rfl, HA, HJ16, HO_6, HO_161002, BK152, BK153, BK160, HB⟩ := hcut
          cases kq with
          | zero => exact absurd HA.out (by simp [recoupref04_Reduce.j1])
          | succ kj16 =>
            have H := HA.out
            clear HA
            simp only [recoupref04_Reduce.j1] at H
            by_cases c26 : x35_16 = true
            · subst c26
              rw [if_pos rfl] at H
              have HC27 := Aside0.mk H
              clear H
              obtain ⟨Ao28, co28, eo28⟩ := Kd.R_slice HO_6.out
              subst eo28
              go_upto_block 2 with (fail)
              go_cut [9] (fun v9 wc => ∃ (kq : Nat) (x9_26 : Int), v9 = .int .i64 x9_26 ∧ Aside0 (recoupref04_Reduce.j3 kq x6_1 x7_1 (x6_1.length : Int) x9_26 x161000_1 x161001_1 x161002_1 = some (r1, r2, r3, r4, r5)) ∧ Aside0 (kq ≤ kj16) ∧ Aside0 (Kd.R (Kd.int .i64) 3 wc w.heap.size (fun _ => True) (.slice Ao28 x6_1.length co28) x6_1) ∧ Aside0 (Kd.R (Kd.int .u8) 5 wc w.heap.size (fun _ => True) u161002 x161002_1) ∧ Aside0 (wc.heap[gb152]? = some (.cells #[.int .i64 a0_0, .int .i64 a0_1, (.slice A0_2 l0_2.length c0_2)] 24 (0, 0))) ∧ Aside0 (wc.heap[gb153]? = some (.cells #[.int .i64 0, .int .i64 0, (.slice none 0 0)] 24 (0, 0))) ∧ Aside0 (wc.heap[gb160]? = some (.cells #[.int .i64 x161000_1, .int .i64 x161001_1, u161002] 24 (0, 0))) ∧ Aside0 (Below w.heap.size w wc))
              case first =>
                have H := HC27.out
                clear HC27
                have H' := Aside0.mk H
                clear H
                go_wp2
                go_loopg [9] kj16 (fun kq v9 w' => ∃ (x9_3 : Int), v9 = .int .i64 x9_3 ∧ Aside0 (recoupref04_Reduce.l1 kq x6_1 x7_1 (x6_1.length : Int) x9_3 x161000_1 x161001_1 x161002_1 = some (r1, r2, r3, r4, r5)) ∧ Aside0 (kq ≤ kj16) ∧ Aside0 (Kd.R (Kd.int .i64) 3 w' w.heap.size (fun _ => True) (.slice Ao28 x6_1.length co28) x6_1) ∧ Aside0 (Kd.R (Kd.int .u8) 5 w' w.heap.size (fun _ => True) u161002 x161002_1) ∧ Aside0 (w'.heap[gb152]? = some (.cells #[.int .i64 a0_0, .int .i64 a0_1, (.slice A0_2 l0_2.length c0_2)] 24 (0, 0))) ∧ Aside0 (w'.heap[gb153]? = some (.cells #[.int .i64 0, .int .i64 0, (.slice none 0 0)] 24 (0, 0))) ∧ Aside0 (w'.heap[gb160]? = some (.cells #[.int .i64 x161000_1, .int .i64 x161001_1, u161002] 24 (0, 0))) ∧ Aside0 (Below w.heap.size w w'))
                case atStart => exact ⟨((x6_1.length : Int)), rsE, H', ⟨Nat.le_refl _⟩, ⟨kdA HO_6.out⟩, ⟨kdA HO_161002.out⟩, ⟨bkA BK152.out⟩, ⟨bkA BK153.out⟩, ⟨bkA BK160.out⟩, ⟨hbA HB.out⟩⟩
                case round =>
                  clear H'
                  (try clear c1); (try clear c2); (try clear p2 p2); (try clear c3); (try clear c4); (try clear c7); (try clear c9); (try clear c13); (try clear c14); (try clear c18); (try clear c18b0); (try clear c19); (try clear c20); (try clear c23); (try clear c24); (try clear c26); (try clear hcz10_0 hcz10_1 hcz10_2 hfz10_0 hfz10_1 hfz10_2); (try clear hcz15_0 hcz15_1 hcz15_2 hfz15_0 hfz15_1 hfz15_2); (try clear hcz21_0 hcz21_1 hcz21_2 hfz21_0 hfz21_1 hfz21_2); (try clear hcz25_0 hcz25_1 hcz25_2 hfz25_0 hfz25_1 hfz25_2); (try clear hcz8_0 hcz8_1 hcz8_2 hfz8_0 hfz8_1 hfz8_2)
                  obtain ⟨x9_3, rfl, HA, HK3, HO_6, HO_161002, BK152, BK153, BK160, HB⟩ := hrel
                  cases gk with
                  | zero => exact absurd HA.out (by simp [recoupref04_Reduce.l1])
                  | succ k3 =>
                    have H := HA.out
                    clear HA
                    simp only [recoupref04_Reduce.l1] at H
                    by_cases c29 : x9_3 < x161000_1
                    · rw [if_pos c29] at H
                      have c29b0 : decide (x9_3 < x161000_1) = true := decide_eq_true c29
                      clear c29
                      (first | rw [c29b0] | (simp only [i64_w, i32_w]; rw [c29b0]) | skip)
                      obtain ⟨t161, A30, H⟩ := bindO H
                      (try dsimp only at H)
                      by_cases c31 : t161 = 0
                      · rw [if_pos c31] at H
                        have c31b0 : (t161 == 0) = true := beq_iff_eq.mpr c31
                        have c31b1 : (t161 != 0) = false := bne_eq_false_iff_eq.mpr c31
                        clear c31
                        have H' := Aside0.mk H
                        clear H
                        have hnb32 := NB160_152.out
                        have hnc32 := NB152_160.out
                        have hnb33 := NB160_153.out
                        have hnc33 := NB153_160.out
                        obtain ⟨hcz34_0, hcz34_1, hcz34_2, hfz34_0, hfz34_1, hfz34_2⟩ := cell3 BK160
                        obtain ⟨Ao35, co35, eo35⟩ := Kd.R_slice HO_161002.out
                        subst eo35
                        go_wp2_with (first | (go_at_call 49; (with_reducible refine (recoupref03_At.calls x161000_1 x161001_1 _ _ x161002_1 x9_3 x7_1 t161 _ ?side1 ?side2 A30.out).mono ?_); (case side1 => exact kcA (Kd.R_reads' HO_161002.out).2.2); (case side2 => exact (Kd.R_reads' HO_161002.out).2.1); rintro e w36 ⟨rfl, hb⟩; replace HO_6 := kdB HO_6 hb; replace HO_161002 := kdB HO_161002 hb; replace BK152 := bkB BK152 hb; replace BK153 := bkB BK153 hb; replace BK160 := bkB BK160 hb; replace HB := hbB HB hb; (try clear hb); (try clear hb2); (try clear hk); (try clear hi)))
                        go_roundg k3
                        case measure => have := HK1.out; have := HJ16.out; have := HK3.out; omega
                        case rel => exact ⟨(wrap64 (x9_3 + 1)), rsE, H', ⟨by have := HK1.out; have := HJ16.out; have := HK3.out; omega⟩, ⟨kdA HO_6.out⟩, ⟨kdA HO_161002.out⟩, ⟨bkA BK152.out⟩, ⟨bkA BK153.out⟩, ⟨bkA BK160.out⟩, ⟨hbA HB.out⟩⟩
                      · rw [if_neg c31] at H
                        have c31b0 : (t161 == 0) = false := beq_eq_false_iff_ne.mpr c31
                        have c31b1 : (t161 != 0) = true := bne_iff_ne.mpr c31
                        have H' := Aside0.mk H
                        clear H
                        have hnb37 := NB160_152.out
                        have hnc37 := NB152_160.out
                        have hnb38 := NB160_153.out
                        have hnc38 := NB153_160.out
                        obtain ⟨hcz39_0, hcz39_1, hcz39_2, hfz39_0, hfz39_1, hfz39_2⟩ := cell3 BK160
                        obtain ⟨Ao40, co40, eo40⟩ := Kd.R_slice HO_161002.out
                        subst eo40
                        go_wp2_with (first | (go_at_call 49; (with_reducible refine (recoupref03_At.calls x161000_1 x161001_1 _ _ x161002_1 x9_3 x7_1 t161 _ ?side1 ?side2 A30.out).mono ?_); (case side1 => exact kcA (Kd.R_reads' HO_161002.out).2.2); (case side2 => exact (Kd.R_reads' HO_161002.out).2.1); rintro e w41 ⟨rfl, hb⟩; replace HO_6 := kdB HO_6 hb; replace HO_161002 := kdB HO_161002 hb; replace BK152 := bkB BK152 hb; replace BK153 := bkB BK153 hb; replace BK160 := bkB BK160 hb; replace HB := hbB HB hb; (try clear hb); (try clear hb2); (try clear hk); (try clear hi)))
                        go_meet
                        case rel => exact ⟨_, (x9_3), rsE, H', ⟨by have := HK1.out; have := HJ16.out; have := HK3.out; first | omega | exact Nat.le_refl _⟩, ⟨kdA HO_6.out⟩, ⟨kdA HO_161002.out⟩, ⟨bkA BK152.out⟩, ⟨bkA BK153.out⟩, ⟨bkA BK160.out⟩, ⟨hbA HB.out⟩⟩
                    · rw [if_neg c29] at H
                      have c29b0 : decide (x9_3 < x161000_1) = false := decide_eq_false c29
                      clear c29
                      (first | rw [c29b0] | (simp only [i64_w, i32_w]; rw [c29b0]) | skip)
                      have H' := Aside0.mk H
                      clear H
                      have hnb42 := NB160_152.out
                      have hnc42 := NB152_160.out
                      have hnb43 := NB160_153.out
                      have hnc43 := NB153_160.out
                      obtain ⟨hcz44_0, hcz44_1, hcz44_2, hfz44_0, hfz44_1, hfz44_2⟩ := cell3 BK160
                      go_wp2
                      go_meet
                      case rel => exact ⟨_, (x9_3), rsE, H', ⟨by have := HK1.out; have := HJ16.out; have := HK3.out; first | omega | exact Nat.le_refl _⟩, ⟨kdA HO_6.out⟩, ⟨kdA HO_161002.out⟩, ⟨bkA BK152.out⟩, ⟨bkA BK153.out⟩, ⟨bkA BK160.out⟩, ⟨hbA HB.out⟩⟩
              case rest =>
                clear HC27
                (try clear c1); (try clear c2); (try clear p2 p2); (try clear c3); (try clear c4); (try clear p6); (try clear c7); (try clear c9); (try clear c13); (try clear c14); (try clear c18); (try clear c18b0); (try clear c19); (try clear c20); (try clear c23); (try clear c24); (try clear c26); (try clear c29); (try clear c29b0); (try clear c31); (try clear c31b0); (try clear c31b1); (try clear c32); (try clear c33); (try clear c37); (try clear c38); (try clear c42); (try clear c43); (try clear hcz10_0 hcz10_1 hcz10_2 hfz10_0 hfz10_1 hfz10_2); (try clear hcz15_0 hcz15_1 hcz15_2 hfz15_0 hfz15_1 hfz15_2); (try clear hcz21_0 hcz21_1 hcz21_2 hfz21_0 hfz21_1 hfz21_2); (try clear hcz25_0 hcz25_1 hcz25_2 hfz25_0 hfz25_1 hfz25_2); (try clear hcz34_0 hcz34_1 hcz34_2 hfz34_0 hfz34_1 hfz34_2); (try clear hcz39_0 hcz39_1 hcz39_2 hfz39_0 hfz39_1 hfz39_2); (try clear hcz44_0 hcz44_1 hcz44_2 hfz44_0 hfz44_1 hfz44_2); (try clear hcz8_0 hcz8_1 hcz8_2 hfz8_0 hfz8_1 hfz8_2)
                obtain ⟨kq, x9_26, rfl, HA, HJ26, HO_6, HO_161002, BK152, BK153, BK160, HB⟩ := hcut
                cases kq with
                | zero => exact absurd HA.out (by simp [recoupref04_Reduce.j3])
                | succ kj26 =>
                  have H := HA.out
                  clear HA
                  simp only [recoupref04_Reduce.j3] at H
                  by_cases c45 : x9_26 = x161000_1
                  · rw [if_pos c45] at H
                    have c45b0 : (x9_26 == x161000_1) = true := beq_iff_eq.mpr c45
                    have c45b1 : (x9_26 != x161000_1) = false := bne_eq_false_iff_eq.mpr c45
                    clear c45
                    have H' := Aside0.mk H
                    clear H
                    have hnb46 := NB160_152.out
                    have hnc46 := NB152_160.out
                    have hnb47 := NB160_153.out
                    have hnc47 := NB153_160.out
                    obtain ⟨hcz48_0, hcz48_1, hcz48_2, hfz48_0, hfz48_1, hfz48_2⟩ := cell3 BK160
                    go_wp2
                    go_roundg kj26
                    case measure => have := HK1.out; have := HJ16.out; have := HJ26.out; omega
                    case rel => exact ⟨(x6_1), (wrap64 (x7_1 + 1)), (x161000_1), (x161001_1), (x161002_1), (u161002), rsE, H', ⟨by have := HK1.out; have := HJ16.out; have := HJ26.out; omega⟩, ⟨kdA HO_6.out⟩, ⟨kdA HO_161002.out⟩, ⟨bkA BK152.out⟩, ⟨bkA BK153.out⟩, ⟨bkA BK160.out⟩, ⟨hbA HB.out⟩⟩
                  · rw [if_neg c45] at H
                    have c45b0 : (x9_26 == x161000_1) = false := beq_eq_false_iff_ne.mpr c45
                    have c45b1 : (x9_26 != x161000_1) = true := bne_iff_ne.mpr c45
                    by_cases c49 : 0 ≤ x161000_1
                    · rw [if_pos c49] at H
                      have c49b0 := eq_true c49
                      have c49b1 : decide (0 ≤ x161000_1) = true := decide_eq_true c49
                      clear c49
                      by_cases c50 : (x161000_1 : Int).toNat ≤ 35184372088832
                      · rw [if_pos c50] at H
                        have c50b0 := eq_true c50
                        have c50b1 : decide ((x161000_1 : Int).toNat ≤ 35184372088832) = true := decide_eq_true c50
                        clear c50
                        obtain ⟨y162, hy162⟩ : ∃ y_ : List Int, y_ = (List.replicate (x161000_1 : Int).toNat 0) := ⟨_, rfl⟩
                        replace H : (recoupref04_Reduce.l2 kj26 x6_1 x7_1 (x6_1.length : Int) x9_26 y162 0 x161000_1 x161001_1 x161002_1) = some (r1, r2, r3, r4, r5) := by first | (rw [hy162]; with_reducible exact H) | (have H2_ := (Option.bind_some _ _).symm.trans H; rw [hy162]; with_reducible exact H2_) | (have H2_ := (Option.bind_some _ _).symm.trans H; with_reducible exact H2_) | with_reducible exact H | (rw [hy162]; exact H) | exact H
                        have Ny162 := Aside0.mk hy162
                        clear hy162
                        have H' := Aside0.mk H
                        clear H
                        have hnb51 := NB160_152.out
                        have hnc51 := NB152_160.out
                        have hnb52 := NB160_153.out
                        have hnc52 := NB153_160.out
                        obtain ⟨hcz53_0, hcz53_1, hcz53_2, hfz53_0, hfz53_1, hfz53_2⟩ := cell3 BK160
                        go_wp2_with (first | ((with_reducible refine gate_dst (N := 60) rfl ?_); (try (refine gate_guard (by rfl) ?_; dsimp only)); refine Kd.R_make (Kd.int .i64) _ 3 rfl (N := 60) rfl 56 _ _ rfl x161000_1 rfl rfl Tryd.underlying56 (.int .i64 0) 8 info3 rfl (by decide) (by omega) 0 (ok := fun _ => True) (okp := fun _ => True) rfl (fun _ hk => hk) trivial (of_decide_eq_true asE) (Nat.le_trans (Nat.mul_le_mul_right _ (of_decide_eq_true asE : x161000_1.toNat ≤ 35184372088832)) (by omega)) (Below.refl _ _) (Nat.le_refl _) ?_; intro v163 w54 ho55 hb hg_ hnew_; clear hg_ hnew_; (first | rw [← Ny162.out] at ho55 | (simp only [Int.reduceToNat] at ho55; rw [← Ny162.out] at ho55)); replace HO_161002 := kdB HO_161002 hb; have HO164 := Aside0.mk (Kd.R_lower (Kd.R_new' ho55 (Kd.R_lt (kdA HO_6.out))) (below_size (hbA HB.out))); replace HO_6 := Aside0.mk (Kd.R_elder' (kdA HO_6.out) (Kd.R_base ho55) hb); replace BK152 := bkB BK152 hb; replace BK153 := bkB BK153 hb; replace BK160 := bkB BK160 hb; replace HB := hbB HB hb; clear hb ho55))
                        go_loopg [11] kj26 (fun kq v11 w' => ∃ (x10_4 : List Int) (x11_4 : Int), v11 = .int .i64 x11_4 ∧ Aside0 (recoupref04_Reduce.l2 kq x6_1 x7_1 (x6_1.length : Int) x9_26 x10_4 x11_4 x161000_1 x161001_1 x161002_1 = some (r1, r2, r3, r4, r5)) ∧ Aside0 (kq ≤ kj26) ∧ Aside0 (Kd.R (Kd.int .i64) 3 w' w.heap.size (fun k_ => some k_ ≠ (v163 : Value).ownBlock) (.slice Ao28 x6_1.length co28) x6_1) ∧ Aside0 (Kd.R (Kd.int .i64) 3 w' w.heap.size (fun k_ => some k_ ≠ ((.slice Ao28 x6_1.length co28) : Value).ownBlock) v163 x10_4) ∧ Aside0 (Kd.R (Kd.int .u8) 5 w' w.heap.size (fun _ => True) u161002 x161002_1) ∧ Aside0 (w'.heap[gb152]? = some (.cells #[.int .i64 a0_0, .int .i64 a0_1, (.slice A0_2 l0_2.length c0_2)] 24 (0, 0))) ∧ Aside0 (w'.heap[gb153]? = some (.cells #[.int .i64 0, .int .i64 0, (.slice none 0 0)] 24 (0, 0))) ∧ Aside0 (w'.heap[gb160]? = some (.cells #[.int .i64 x161000_1, .int .i64 x161001_1, u161002] 24 (0, 0))) ∧ Aside0 (Below w.heap.size w w'))
                        case atStart => exact ⟨(y162), (0), rsE, H', ⟨Nat.le_refl _⟩, ⟨by (with_reducible repeat (first | apply Kd.R_alloc | apply Kd.R_drewN | apply Kd.R_drew)); exact Kd.R_mono HO_6.out (fun _ hk => hk.2)⟩, ⟨by (with_reducible repeat (first | apply Kd.R_alloc | apply Kd.R_drewN | apply Kd.R_drew)); exact Kd.R_mono HO164.out (fun _ hk => hk.2)⟩, ⟨kdA HO_161002.out⟩, ⟨bkA BK152.out⟩, ⟨bkA BK153.out⟩, ⟨bkA BK160.out⟩, ⟨hbA HB.out⟩⟩
                        case round =>
                          clear H'
                          (try clear c1); (try clear c2); (try clear p2 p2); (try clear c3); (try clear c4); (try clear c5); (try clear p6 p6); (try clear c7); (try clear c9); (try clear c13); (try clear c14); (try clear c18); (try clear c18b0); (try clear c19); (try clear c20); (try clear c23); (try clear c24); (try clear c26); (try clear c29); (try clear c29b0); (try clear c31); (try clear c31b0); (try clear c31b1); (try clear c32); (try clear c33); (try clear c37); (try clear c38); (try clear c42); (try clear c43); (try clear c45); (try clear c45b0); (try clear c45b1); (try clear c46); (try clear c47); (try clear c49); (try clear c49b0); (try clear c49b1); (try clear c50); (try clear c50b0); (try clear c50b1); (try clear c51); (try clear c52); (try clear hcz10_0 hcz10_1 hcz10_2 hfz10_0 hfz10_1 hfz10_2); (try clear hcz15_0 hcz15_1 hcz15_2 hfz15_0 hfz15_1 hfz15_2); (try clear hcz21_0 hcz21_1 hcz21_2 hfz21_0 hfz21_1 hfz21_2); (try clear hcz25_0 hcz25_1 hcz25_2 hfz25_0 hfz25_1 hfz25_2); (try clear hcz34_0 hcz34_1 hcz34_2 hfz34_0 hfz34_1 hfz34_2); (try clear hcz39_0 hcz39_1 hcz39_2 hfz39_0 hfz39_1 hfz39_2); (try clear hcz44_0 hcz44_1 hcz44_2 hfz44_0 hfz44_1 hfz44_2); (try clear hcz48_0 hcz48_1 hcz48_2 hfz48_0 hfz48_1 hfz48_2); (try clear hcz53_0 hcz53_1 hcz53_2 hfz53_0 hfz53_1 hfz53_2); (try clear hcz8_0 hcz8_1 hcz8_2 hfz8_0 hfz8_1 hfz8_2)
                          obtain ⟨x10_4, x11_4, rfl, HA, HK4, HO_6, HO_10, HO_161002, BK152, BK153, BK160, HB⟩ := hrel
                          cases gk with
                          | zero => exact absurd HA.out (by simp [recoupref04_Reduce.l2])
                          | succ k4 =>
                            have H := HA.out
                            clear HA
                            simp only [recoupref04_Reduce.l2] at H
                            by_cases c56 : x11_4 < x161000_1
                            · rw [if_pos c56] at H
                              have c56b0 : decide (x11_4 < x161000_1) = true := decide_eq_true c56
                              clear c56
                              by_cases c57 : 0 ≤ x11_4
                              · rw [if_pos c57] at H
                                have c57b0 : decide (0 ≤ x11_4) = true := decide_eq_true c57
                                clear c57
                                by_cases c58 : x11_4 < (x10_4.length : Int)
                                · rw [if_pos c58] at H
                                  have c58b0 : decide (x11_4 < (x10_4.length : Int)) = true := decide_eq_true c58
                                  clear c58
                                  obtain ⟨y165, hy165⟩ : ∃ y_ : List Int, y_ = (x10_4.set (x11_4 : Int).toNat x11_4) := ⟨_, rfl⟩
                                  replace H : (recoupref04_Reduce.l2 k4 x6_1 x7_1 (x6_1.length : Int) x9_26 y165 (wrap64 (x11_4 + 1)) x161000_1 x161001_1 x161002_1) = some (r1, r2, r3, r4, r5) := by first | (rw [hy165]; with_reducible exact H) | (have H2_ := (Option.bind_some _ _).symm.trans H; rw [hy165]; with_reducible exact H2_) | (have H2_ := (Option.bind_some _ _).symm.trans H; with_reducible exact H2_) | with_reducible exact H | (rw [hy165]; exact H) | exact H
                                  have Ny165 := Aside0.mk hy165
                                  clear hy165
                                  have H' := Aside0.mk H
                                  clear H
                                  have hnb60 := NB160_152.out
                                  have hnc60 := NB152_160.out
                                  have hnb61 := NB160_153.out
                                  have hnc61 := NB153_160.out
                                  obtain ⟨hcz62_0, hcz62_1, hcz62_2, hfz62_0, hfz62_1, hfz62_2⟩ := cell3 BK160
                                  have p59 : 0 ≤ (x11_4 : Int) := of_decide_eq_true asE
                                  have q59 : (x11_4 : Int) < ((x10_4.length : Int) : Int) := of_decide_eq_true asE
                                  obtain ⟨go59, co59, eo59, gb59, gl59, cl59, HG59⟩ := Kd.R_form HO_10.out (by omega)
                                  (first | cases eo59 | (injection eo59 with ea_ en_ ec_; (first | subst ea_ | (injection ea_ with ea_; subst ea_)); subst ec_; clear en_))
                                  have GB59 := Aside0.mk gb59
                                  have GG59 := Aside0.mk HG59
                                  clear gb59 gl59 HG59
                                  obtain ⟨hx59_0, hf59_0⟩ := Kd.R_celln 0 HO_10.out (x11_4 : Int) p59 q59
                                  replace p59 := eq_true p59
                                  replace q59 := eq_true q59
                                  have HP63 := Kd.R_putg HO_10.out (x11_4 : Int) x11_4
                                  go_wp2_with (first | ((with_reducible refine gate_store (t := 3) (p := 70) rfl ?_); refine store_event (t := 3) (p := 70) (v := ?vo_w64) (w1 := (wr.setCell ⟨go59, (x11_4 : Int).toNat, none⟩ (.int .i64 x11_4))) ?hg ?ho ?hn ?hr ?_; (case ho => rfl); (case hg => rfl); (case hn => rfl); (case hr => first | (go_simp; done) | (go_simp; rfl)); intro w64 hw; have hg : wr.grownBy w64 (some go59) := (by rw [hw]; exact HP63.2); have hp_ : Kd.R (Kd.int .i64) 3 w64 w.heap.size (fun k_ => some k_ ≠ (.slice Ao28 x6_1.length co28 : Value).ownBlock) (.slice (some ⟨go59, 0, none⟩) x10_4.length co59) y165 := (by rw [hw, Ny165.out]; exact HP63.1); clear HP63; replace HO_6 := Aside0.mk (Kd.R_after (v := (.slice (some ⟨go59, 0, none⟩) x10_4.length co59)) (v1 := (.slice (some ⟨go59, 0, none⟩) x10_4.length co59)) (ok := (fun _ => True)) (by (with_reducible repeat (first | apply Kd.R_alloc | apply Kd.R_drewN | apply Kd.R_drew)); exact Kd.R_mono HO_6.out (fun _ hk => ⟨trivial, hk⟩)) hg (.inl rfl)); replace HO_161002 := Aside0.mk (Kd.R_over' (v := (.slice (some ⟨go59, 0, none⟩) x10_4.length co59)) (kdA HO_161002.out) (Kd.R_typed HO_10.out) (by decide) hg); replace BK152 := bkG BK152 hg (Kd.R_ne HO_10.out BK152.out (by decide)); replace BK153 := bkG BK153 hg (Kd.R_ne HO_10.out BK153.out (by decide)); replace BK160 := bkG BK160 hg (Kd.R_ne HO_10.out BK160.out (by decide)); replace HO_10 := Aside0.mk (hp_); replace HB := Aside0.mk ((by rw [hw]; exact below_set (HB.out) GB59.out : Below w.heap.size w w64)); clear hg hw hp_))
                                  go_roundg k4
                                  case measure => have := HK1.out; have := HJ16.out; have := HJ26.out; have := HK4.out; omega
                                  case rel => exact ⟨(y165), (wrap64 (x11_4 + 1)), rsE, H', ⟨by have := HK1.out; have := HJ16.out; have := HJ26.out; have := HK4.out; omega⟩, ⟨by (with_reducible repeat (first | apply Kd.R_alloc | apply Kd.R_drewN | apply Kd.R_drew)); exact Kd.R_mono HO_6.out (fun _ hk => hk.2)⟩, ⟨kdA HO_10.out⟩, ⟨kdA HO_161002.out⟩, ⟨bkA BK152.out⟩, ⟨bkA BK153.out⟩, ⟨bkA BK160.out⟩, ⟨hbA HB.out⟩⟩
                                · rw [if_neg c58] at H
                                  exact absurd H (by simp)
                              · rw [if_neg c57] at H
                                exact absurd H (by simp)
                            · rw [if_neg c56] at H
                              have c56b0 : decide (x11_4 < x161000_1) = false := decide_eq_false c56
                              clear c56
                              by_cases c65 : 0 ≤ (x6_1.length : Int)
                              · rw [if_pos c65] at H
                                have c65b0 : decide (0 ≤ (x6_1.length : Int)) = true := decide_eq_true c65
                                have c65b1 : decide (0 ≤ x6_1.length) = true := decide_eq_true (by omega)
                                clear c65
                                by_cases c66 : (x6_1.length : Int) < (x10_4.length : Int)
                                · rw [if_pos c66] at H
                                  have c66b0 : decide ((x6_1.length : Int) < (x10_4.length : Int)) = true := decide_eq_true c66
                                  have c66b1 : decide (x6_1.length < x10_4.length) = true := decide_eq_true (Int.ofNat_lt.mp c66)
                                  clear c66
                                  obtain ⟨y166, hy166⟩ : ∃ y_ : List Int, y_ = (x10_4.set ((x6_1.length : Int) : Int).toNat x9_26) := ⟨_, rfl⟩
                                  replace H : (if 0 ≤ x9_26 then (if x9_26 < (x10_4.length : Int) then ((recoupref03_Pick.f k4 x161000_1 x161001_1 x161002_1 (y166.set (x9_26 : Int).toNat (x6_1.length : Int))).bind fun bt168 => ((recoupref03_At.f bt168.1 bt168.2.1 bt168.2.2.1 (x6_1.length : Int) x7_1).bind fun t174 => ((recoupref01_Inv.f k4 t174).bind fun bt175 => ((recoupref03_Row.f k4 bt168.1 bt168.2.1 bt168.2.2.1 (x6_1.length : Int)).bind fun bt177 => ((recoupref01_Scale.f k4 bt175.1 bt177.1).bind fun t181 => (if 0 ≤ (wrap64 ((x6_1.length : Int) * bt168.2.1)) then (if (wrap64 ((x6_1.length : Int) * bt168.2.1)) < (bt168.2.2.1.length : Int) then (recoupref04_Reduce.l3 k4 x6_1 x7_1 (x6_1.length : Int) t181 0 bt168.1 bt168.2.1 (copyL bt168.2.2.1 (wrap64 ((x6_1.length : Int) * bt168.2.1)) t181)) else (none)) else (none))))))) else (none)) else (none)) = some (r1, r2, r3, r4, r5) := by first | (rw [hy166]; with_reducible exact H) | (have H2_ := (Option.bind_some _ _).symm.trans H; rw [hy166]; with_reducible exact H2_) | (have H2_ := (Option.bind_some _ _).symm.trans H; with_reducible exact H2_) | with_reducible exact H | (rw [hy166]; exact H) | exact H
                                  have Ny166 := Aside0.mk hy166
                                  clear hy166
                                  by_cases c68 : 0 ≤ x9_26
                                  · rw [if_pos c68] at H
                                    have c68b0 : decide (0 ≤ x9_26) = true := decide_eq_true c68
                                    clear c68
                                    by_cases c69 : x9_26 < (x10_4.length : Int)
                                    · rw [if_pos c69] at H
                                      have c69b0 : decide (x9_26 < (x10_4.length : Int)) = true := decide_eq_true c69
                                      clear c69
                                      obtain ⟨y167, hy167⟩ : ∃ y_ : List Int, y_ = (y166.set (x9_26 : Int).toNat (x6_1.length : Int)) := ⟨_, rfl⟩
                                      replace H : ((recoupref03_Pick.f k4 x161000_1 x161001_1 x161002_1 y167).bind fun bt168 => ((recoupref03_At.f bt168.1 bt168.2.1 bt168.2.2.1 (x6_1.length : Int) x7_1).bind fun t174 => ((recoupref01_Inv.f k4 t174).bind fun bt175 => ((recoupref03_Row.f k4 bt168.1 bt168.2.1 bt168.2.2.1 (x6_1.length : Int)).bind fun bt177 => ((recoupref01_Scale.f k4 bt175.1 bt177.1).bind fun t181 => (if 0 ≤ (wrap64 ((x6_1.length : Int) * bt168.2.1)) then (if (wrap64 ((x6_1.length : Int) * bt168.2.1)) < (bt168.2.2.1.length : Int) then (recoupref04_Reduce.l3 k4 x6_1 x7_1 (x6_1.length : Int) t181 0 bt168.1 bt168.2.1 (copyL bt168.2.2.1 (wrap64 ((x6_1.length : Int) * bt168.2.1)) t181)) else (none)) else (none))))))) = some (r1, r2, r3, r4, r5) := by first | (rw [hy167]; with_reducible exact H) | (have H2_ := (Option.bind_some _ _).symm.trans H; rw [hy167]; with_reducible exact H2_) | (have H2_ := (Option.bind_some _ _).symm.trans H; with_reducible exact H2_) | with_reducible exact H | (rw [hy167]; exact H) | exact H
                                      have Ny167 := Aside0.mk hy167
                                      clear hy167
                                      obtain ⟨⟨t168, t169, t170, t173⟩, A71, H⟩ := bindO H
                                      (try dsimp only at H)
                                      obtain ⟨t174, A72, H⟩ := bindO H
                                      (try dsimp only at H)
                                      obtain ⟨⟨t175, t176⟩, A73, H⟩ := bindO H
                                      (try dsimp only at H)
                                      obtain ⟨⟨t177, t180⟩, A74, H⟩ := bindO H
                                      (try dsimp only at H)
                                      obtain ⟨t181, A75, H⟩ := bindO H
                                      (try dsimp only at H)
                                      obtain ⟨ji76, hji76⟩ : ∃ j_ : Int, (wrap64 ((x6_1.length : Int) * t169)) = j_ := ⟨_, rfl⟩
                                      replace H : (if 0 ≤ (ji76) then (if (ji76) < (t170.length : Int) then (recoupref04_Reduce.l3 k4 x6_1 x7_1 (x6_1.length : Int) t181 0 t168 t169 (copyL t170 (ji76) t181)) else (none)) else (none)) = some (r1, r2, r3, r4, r5) := by first | (rw [hji76] at H; exact H) | (simp only [hji76] at H ⊢; exact H)
                                      (try rw [hji76] at A71)
                                      (try rw [hji76] at A72)
                                      (try rw [hji76] at A73)
                                      (try rw [hji76] at A74)
                                      (try rw [hji76] at A75)
                                      have hji76w : (IntKind.i64.wrap ((x6_1.length : Int) * t169)) = ji76 := (i64_w _).trans hji76
                                      by_cases c77 : 0 ≤ (ji76)
                                      · rw [if_pos c77] at H
                                        have c77b0 : decide (0 ≤ (ji76)) = true := decide_eq_true c77
                                        clear c77
                                        by_cases c78 : (ji76) < (t170.length : Int)
                                        · rw [if_pos c78] at H
                                          have c78b0 : decide ((ji76) < (t170.length : Int)) = true := decide_eq_true c78
                                          clear c78
                                          obtain ⟨y184, hy184⟩ : ∃ y_ : List Int, y_ = (copyL t170 (ji76) t181) := ⟨_, rfl⟩
                                          replace H : (recoupref04_Reduce.l3 k4 x6_1 x7_1 (x6_1.length : Int) t181 0 t168 t169 y184) = some (r1, r2, r3, r4, r5) := by first | (rw [hy184]; with_reducible exact H) | (have H2_ := (Option.bind_some _ _).symm.trans H; rw [hy184]; with_reducible exact H2_) | (have H2_ := (Option.bind_some _ _).symm.trans H; with_reducible exact H2_) | with_reducible exact H | (rw [hy184]; exact H) | exact H
                                          have Ny184 := Aside0.mk hy184
                                          clear hy184
                                          have H' := Aside0.mk H
                                          clear H
                                          have hnb80 := NB160_152.out
                                          have hnc80 := NB152_160.out
                                          have hnb81 := NB160_153.out
                                          have hnc81 := NB153_160.out
                                          obtain ⟨hcz82_0, hcz82_1, hcz82_2, hfz82_0, hfz82_1, hfz82_2⟩ := cell3 BK160
                                          have p67 : 0 ≤ ((x6_1.length : Int) : Int) := of_decide_eq_true asE
                                          have q67 : ((x6_1.length : Int) : Int) < ((x10_4.length : Int) : Int) := of_decide_eq_true asE
                                          obtain ⟨go67, co67, eo67, gb67, gl67, cl67, HG67⟩ := Kd.R_form HO_10.out (by omega)
                                          (first | cases eo67 | (injection eo67 with ea_ en_ ec_; (first | subst ea_ | (injection ea_ with ea_; subst ea_)); subst ec_; clear en_))
                                          have GB67 := Aside0.mk gb67
                                          have GG67 := Aside0.mk HG67
                                          clear gb67 gl67 HG67
                                          obtain ⟨hx67_0, hf67_0⟩ := Kd.R_celln 0 HO_10.out ((x6_1.length : Int) : Int) p67 q67
                                          replace p67 := eq_true p67
                                          replace q67 := eq_true q67
                                          have hxx67 := hx67_0
                                          have hff67 := hf67_0
                                          simp only [Int.toNat_natCast] at hxx67 hff67
                                          have HP83 := Kd.R_putg HO_10.out ((x6_1.length : Int) : Int) x9_26
                                          go_wp2_with (first | ((with_reducible refine gate_store (t := 3) (p := 77) rfl ?_); refine store_event (t := 3) (p := 77) (v := ?vo_w84) (w1 := (wr.setCell ⟨go67, ((x6_1.length : Int) : Int).toNat, none⟩ (.int .i64 x9_26))) ?hg ?ho ?hn ?hr ?_; (case ho => rfl); (case hg => rfl); (case hn => rfl); (case hr => first | (go_simp; done) | (go_simp; rfl)); intro w84 hw; have hg : wr.grownBy w84 (some go67) := (by rw [hw]; exact HP83.2); have hp_ : Kd.R (Kd.int .i64) 3 w84 w.heap.size (fun k_ => some k_ ≠ (.slice Ao28 x6_1.length co28 : Value).ownBlock) (.slice (some ⟨go67, 0, none⟩) x10_4.length co67) y166 := (by rw [hw, Ny166.out]; exact HP83.1); clear HP83; replace HO_6 := Aside0.mk (Kd.R_after (v := (.slice (some ⟨go67, 0, none⟩) x10_4.length co67)) (v1 := (.slice (some ⟨go67, 0, none⟩) x10_4.length co67)) (ok := (fun _ => True)) (by (with_reducible repeat (first | apply Kd.R_alloc | apply Kd.R_drewN | apply Kd.R_drew)); exact Kd.R_mono HO_6.out (fun _ hk => ⟨trivial, hk⟩)) hg (.inl rfl)); replace HO_161002 := Aside0.mk (Kd.R_over' (v := (.slice (some ⟨go67, 0, none⟩) x10_4.length co67)) (kdA HO_161002.out) (Kd.R_typed HO_10.out) (by decide) hg); replace BK152 := bkG BK152 hg (Kd.R_ne HO_10.out BK152.out (by decide)); replace BK153 := bkG BK153 hg (Kd.R_ne HO_10.out BK153.out (by decide)); replace BK160 := bkG BK160 hg (Kd.R_ne HO_10.out BK160.out (by decide)); replace HO_10 := Aside0.mk (hp_); replace HB := Aside0.mk ((by rw [hw]; exact below_set (HB.out) GB67.out : Below w.heap.size w w84)); clear hg hw hp_; have p70 : 0 ≤ (x9_26 : Int) := of_decide_eq_true asE; have q70 : (x9_26 : Int) < ((x10_4.length : Int) : Int) := of_decide_eq_true asE; obtain ⟨hx70_0, hf70_0⟩ := Kd.R_celln 0 HO_10.out (x9_26 : Int) p70 q70; replace p70 := eq_true p70; replace q70 := eq_true q70; obtain ⟨hy85_, hz85_⟩ := Kd.R_celln 0 HO_10.out (x9_26 : Int) (of_decide_eq_true asE) (of_decide_eq_true asE); have HP85 := Kd.R_putg HO_10.out (x9_26 : Int) (x6_1.length : Int)) | ((with_reducible refine gate_store (t := 3) (p := 78) rfl ?_); refine store_event (t := 3) (p := 78) (v := ?vo_w86) (w1 := (w84.setCell ⟨go67, (x9_26 : Int).toNat, none⟩ (.int .i64 (x6_1.length : Int)))) ?hg ?ho ?hn ?hr ?_; (case ho => rfl); (case hg => rfl); (case hn => rfl); (case hr => first | (go_simp; done) | (go_simp; rfl)); intro w86 hw; have hg : w84.grownBy w86 (some go67) := (by rw [hw]; exact HP85.2); have hp_ : Kd.R (Kd.int .i64) 3 w86 w.heap.size (fun k_ => some k_ ≠ (.slice Ao28 x6_1.length co28 : Value).ownBlock) (.slice (some ⟨go67, 0, none⟩) x10_4.length co67) y167 := (by rw [hw, Ny167.out]; exact HP85.1); clear HP85; replace HO_6 := Aside0.mk (Kd.R_after (v := (.slice (some ⟨go67, 0, none⟩) x10_4.length co67)) (v1 := (.slice (some ⟨go67, 0, none⟩) x10_4.length co67)) (ok := (fun _ => True)) (kdA HO_6.out) hg (.inl rfl)); replace HO_161002 := Aside0.mk (Kd.R_over' (v := (.slice (some ⟨go67, 0, none⟩) x10_4.length co67)) (kdA HO_161002.out) (Kd.R_typed HO_10.out) (by decide) hg); replace BK152 := bkG BK152 hg (Kd.R_ne HO_10.out BK152.out (by decide)); replace BK153 := bkG BK153 hg (Kd.R_ne HO_10.out BK153.out (by decide)); replace BK160 := bkG BK160 hg (Kd.R_ne HO_10.out BK160.out (by decide)); replace HO_10 := Aside0.mk (hp_); replace HB := Aside0.mk ((by rw [hw]; exact below_set (HB.out) GB67.out : Below w.heap.size w w86)); clear hg hw hp_; obtain ⟨hcz87_0, hcz87_1, hcz87_2, hfz87_0, hfz87_1, hfz87_2⟩ := cell3 BK160; obtain ⟨Ao88, co88, eo88⟩ := Kd.R_slice HO_161002.out; subst eo88) | ((with_reducible refine gC 43 rfl ?_); refine goesL_ (some 82) rfl rfl Tryd.func43 (by kernel_rfl) rfl #[.agg #[.int .i64 x161000_1, .int .i64 x161001_1, .slice Ao88 x161002_1.length co88], .slice (some ⟨go67, 0, none⟩) y167.length co67] rfl (by (try simp only [List.map_toArray, List.map_cons, List.map_nil]); first | done | (rw [show y167.length = x10_4.length from (Kd.R_reads' HO_10.out).1.symm] <;> rfl) | rfl | (simp only [List.length_drop, List.length_take]; rfl)) ?_; (with_reducible refine (recoupref03_Pick.calls k4 x161000_1 x161001_1 _ _ x161002_1 _ _ y167 t168 t169 t170 t173 _ ?side1 ?side2 ?side3 ?side4 A71.out).mono ?_); (case side1 => exact kcA (Kd.R_reads' HO_161002.out).2.2); (case side2 => exact (Kd.R_reads' HO_161002.out).2.1); (case side3 => exact kcA (Kd.R_reads' HO_10.out).2.2); (case side4 => rw [show y167.length = x10_4.length from (Kd.R_reads' HO_10.out).1.symm]; exact (Kd.R_reads' HO_10.out).2.1); rintro e w89 ⟨v171, rfl, ho0, hb⟩; refine ⟨_, rfl, ?_⟩; replace HO_6 := kdB HO_6 hb; replace HO_10 := kdB HO_10 hb; have HO172 := Aside0.mk (Kd.R_lower (Kd.R_new' ho0 (Kd.R_lt (kdA HO_161002.out))) (below_size (hbA HB.out))); replace HO_161002 := Aside0.mk (Kd.R_elder' (kdA HO_161002.out) (Kd.R_base ho0) hb); replace BK152 := bkB BK152 hb; replace BK153 := bkB BK153 hb; replace BK160 := bkB BK160 hb; replace HB := hbB HB hb; (try clear hb); (try clear hb2); (try clear hk); (try clear hi); (try clear ho0); obtain ⟨hcz90_0, hcz90_1, hcz90_2, hfz90_0, hfz90_1, hfz90_2⟩ := cell3 BK160; obtain ⟨Ao91, co91, eo91⟩ := Kd.R_slice HO172.out; subst eo91) | ((with_reducible refine gC 49 rfl ?_); refine cG (some 89) Tryd.func49 #[.agg #[.int .i64 t168, .int .i64 t169, .slice Ao91 t170.length co91], .int .i64 (x6_1.length : Int), .int .i64 x7_1] ?_; (with_reducible refine (recoupref03_At.calls t168 t169 _ _ t170 (x6_1.length : Int) x7_1 t174 _ ?side1 ?side2 A72.out).mono ?_); (case side1 => refine (Kd.R_reads' (e := 5) (base := w.heap.size) (ok := fun k_ => (True ∧ some k_ ≠ (.slice Ao88 x161002_1.length co88 : Value).ownBlock)) (n := t170.length) (c := co91) ?_).2.2; exact (by (with_reducible repeat (first | apply Kd.R_alloc | apply Kd.R_drewN | apply Kd.R_drew)); exact (Kd.R_mono (Kd.R_far (p := ⟨gb160, 2, none⟩) (Kd.R_far (p := ⟨gb160, 1, none⟩) (Kd.R_far (p := ⟨gb160, 0, none⟩) (Kd.R_types HO172.out BK160.out (by decide)) (fun _ hk => hk.2) (.int .i64 t168)) (fun _ hk => hk.2) (.int .i64 t169)) (fun _ hk => hk.2) (.slice Ao91 t170.length co91)) (fun _ h_ => h_.1)))); (case side2 => exact (Kd.R_reads' HO172.out).2.1); rintro e w92 ⟨rfl, hb⟩; refine ⟨_, rfl, ?_⟩; replace HO_6 := Aside0.mk (Kd.R_below (by (with_reducible repeat (first | apply Kd.R_alloc | apply Kd.R_drewN | apply Kd.R_drew)); exact (Kd.R_mono (Kd.R_far (p := ⟨gb160, 2, none⟩) (Kd.R_far (p := ⟨gb160, 1, none⟩) (Kd.R_far (p := ⟨gb160, 0, none⟩) (Kd.R_types HO_6.out BK160.out (by decide)) (fun _ hk => hk.2) (.int .i64 t168)) (fun _ hk => hk.2) (.int .i64 t169)) (fun _ hk => hk.2) (.slice Ao91 t170.length co91)) (fun _ h_ => h_.1))) hb); replace HO_10 := Aside0.mk (Kd.R_below (by (with_reducible repeat (first | apply Kd.R_alloc | apply Kd.R_drewN | apply Kd.R_drew)); exact (Kd.R_mono (Kd.R_far (p := ⟨gb160, 2, none⟩) (Kd.R_far (p := ⟨gb160, 1, none⟩) (Kd.R_far (p := ⟨gb160, 0, none⟩) (Kd.R_types HO_10.out BK160.out (by decide)) (fun _ hk => hk.2) (.int .i64 t168)) (fun _ hk => hk.2) (.int .i64 t169)) (fun _ hk => hk.2) (.slice Ao91 t170.length co91)) (fun _ h_ => h_.1))) hb); replace HO_161002 := Aside0.mk (Kd.R_below (by (with_reducible repeat (first | apply Kd.R_alloc | apply Kd.R_drewN | apply Kd.R_drew)); exact (Kd.R_mono (Kd.R_far (p := ⟨gb160, 2, none⟩) (Kd.R_far (p := ⟨gb160, 1, none⟩) (Kd.R_far (p := ⟨gb160, 0, none⟩) (Kd.R_types HO_161002.out BK160.out (by decide)) (fun _ hk => hk.2) (.int .i64 t168)) (fun _ hk => hk.2) (.int .i64 t169)) (fun _ hk => hk.2) (.slice Ao91 t170.length co91)) (fun _ h_ => h_.1))) hb); replace HO172 := Aside0.mk (Kd.R_below (by (with_reducible repeat (first | apply Kd.R_alloc | apply Kd.R_drewN | apply Kd.R_drew)); exact (Kd.R_mono (Kd.R_far (p := ⟨gb160, 2, none⟩) (Kd.R_far (p := ⟨gb160, 1, none⟩) (Kd.R_far (p := ⟨gb160, 0, none⟩) (Kd.R_types HO172.out BK160.out (by decide)) (fun _ hk => hk.2) (.int .i64 t168)) (fun _ hk => hk.2) (.int .i64 t169)) (fun _ hk => hk.2) (.slice Ao91 t170.length co91)) (fun _ h_ => h_.1))) hb); replace BK152 := Aside0.mk (blk_below (g := gb152) (o := .cells #[.int .i64 a0_0, .int .i64 a0_1, .slice A0_2 l0_2.length c0_2] 24 (0, 0)) (by refine bkR ?_; refine blk_far ?_ NB152_160.out _; refine bkR ?_; refine blk_far ?_ NB152_160.out _; refine bkR ?_; refine blk_far ?_ NB152_160.out _; refine bkR ?_; exact BK152.out) hb); replace BK153 := Aside0.mk (blk_below (g := gb153) (o := .cells #[.int .i64 0, .int .i64 0, .slice none 0 0] 24 (0, 0)) (by refine bkR ?_; refine blk_far ?_ NB153_160.out _; refine bkR ?_; refine blk_far ?_ NB153_160.out _; refine bkR ?_; refine blk_far ?_ NB153_160.out _; refine bkR ?_; exact BK153.out) hb); replace BK160 := Aside0.mk (blk_below (g := gb160) (o := .cells #[.int .i64 t168, .int .i64 t169, .slice Ao91 t170.length co91] 24 (0, 0)) (by refine bkR ?_; refine blk_put (cs := #[.int .i64 t168, .int .i64 t169, .slice Ao88 x161002_1.length co88]) ?_ 2 _ rfl; refine bkR ?_; refine blk_put (cs := #[.int .i64 t168, .int .i64 x161001_1, .slice Ao88 x161002_1.length co88]) ?_ 1 _ rfl; refine bkR ?_; refine blk_put (cs := #[.int .i64 x161000_1, .int .i64 x161001_1, .slice Ao88 x161002_1.length co88]) ?_ 0 _ rfl; refine bkR ?_; exact BK160.out) hb); replace HB := hbB HB hb; (try clear hb); (try clear hb2); (try clear hk); (try clear hi)) | ((with_reducible refine gC 113 rfl ?_); refine cG (some 90) Tryd.func113 #[.int .u8 t174] ?_; (with_reducible refine (recoupref01_Inv.calls k4 t174 t175 t176 _ A73.out).mono ?_); rintro e w' ⟨rfl, ⟨nd, rfl⟩⟩; refine ⟨_, rfl, ?_⟩; (try (rw [drewN_self w92]; generalize hq_ : World.drewN w92 _ = w92; have n0_ : Aside0 (Kd.R (Kd.int .u8) 5 w92 w.heap.size (fun k_ => some k_ ≠ (.slice Ao88 x161002_1.length co88 : Value).ownBlock) (.slice Ao91 t170.length co91) t170) := ⟨by rw [← hq_]; exact (by (with_reducible repeat (first | apply Kd.R_alloc | apply Kd.R_drewN | apply Kd.R_drew)); exact Kd.R_mono HO172.out (fun _ hk => hk.2))⟩; have n1_ : Aside0 (Kd.R (Kd.int .i64) 3 w92 w.heap.size (fun k_ => some k_ ≠ (.slice Ao28 x6_1.length co28 : Value).ownBlock) (.slice (some ⟨go67, 0, none⟩) x10_4.length co67) y167) := ⟨by rw [← hq_]; exact (kdA HO_10.out)⟩; have n2_ : Aside0 (Kd.R (Kd.int .u8) 5 w92 w.heap.size (fun k_ => some k_ ≠ (.slice Ao91 t170.length co91 : Value).ownBlock) (.slice Ao88 x161002_1.length co88) x161002_1) := ⟨by rw [← hq_]; exact (by (with_reducible repeat (first | apply Kd.R_alloc | apply Kd.R_drewN | apply Kd.R_drew)); exact Kd.R_mono HO_161002.out (fun _ hk => hk.2))⟩; have n3_ : Aside0 (Kd.R (Kd.int .i64) 3 w92 w.heap.size (fun k_ => some k_ ≠ (.slice (some ⟨go67, 0, none⟩) x10_4.length co67 : Value).ownBlock) (.slice Ao28 x6_1.length co28) x6_1) := ⟨by rw [← hq_]; exact (by (with_reducible repeat (first | apply Kd.R_alloc | apply Kd.R_drewN | apply Kd.R_drew)); exact Kd.R_mono HO_6.out (fun _ hk => hk.2))⟩; have n4_ : Aside0 (w92.heap[gb152]? = some (.cells #[.int .i64 a0_0, .int .i64 a0_1, .slice A0_2 l0_2.length c0_2] 24 (0, 0))) := ⟨by rw [← hq_]; exact (bkA BK152.out)⟩; have n5_ : Aside0 (w92.heap[gb153]? = some (.cells #[.int .i64 0, .int .i64 0, .slice none 0 0] 24 (0, 0))) := ⟨by rw [← hq_]; exact (bkA BK153.out)⟩; have n6_ : Aside0 (w92.heap[gb160]? = some (.cells #[.int .i64 t168, .int .i64 t169, .slice Ao91 t170.length co91] 24 (0, 0))) := ⟨by rw [← hq_]; exact (bkA BK160.out)⟩; have n7_ : Aside0 (Below w.heap.size w w92) := ⟨by rw [← hq_]; exact (hbA HB.out)⟩; clear HO172 HO_10 HO_161002 HO_6 BK152 BK153 BK160 HB hq_; have HO172 := n0_; have HO_10 := n1_; have HO_161002 := n2_; have HO_6 := n3_; have BK152 := n4_; have BK153 := n5_; have BK160 := n6_; have HB := n7_; clear n0_ n1_ n2_ n3_ n4_ n5_ n6_ n7_)); obtain ⟨hcz93_0, hcz93_1, hcz93_2, hfz93_0, hfz93_1, hfz93_2⟩ := cell3 BK160) | ((with_reducible refine gC 21 rfl ?_); refine cG (some 96) Tryd.func21 #[.agg #[.int .i64 t168, .int .i64 t169, .slice Ao91 t170.length co91], .int .i64 (x6_1.length : Int)] ?_; (with_reducible refine (recoupref03_Row.calls k4 t168 t169 _ _ t170 (x6_1.length : Int) t177 t180 _ ?side1 ?side2 A74.out).mono ?_); (case side1 => exact kcA (Kd.R_reads' HO172.out).2.2); (case side2 => exact (Kd.R_reads' HO172.out).2.1); rintro e w94 ⟨v178, rfl, ho0, hb⟩; refine ⟨_, rfl, ?_⟩; replace HO_6 := kdB HO_6 hb; replace HO_10 := kdB HO_10 hb; have HO179 := Aside0.mk (Kd.R_lower (Kd.R_new' (Kd.R_new' ho0 (Kd.R_lt (kdA HO_161002.out))) (Kd.R_lt (kdA HO172.out))) (below_size (hbA HB.out))); replace HO_161002 := Aside0.mk (Kd.R_elder' (kdA HO_161002.out) (Kd.R_base ho0) hb); replace HO172 := Aside0.mk (Kd.R_elder' (kdA HO172.out) (Kd.R_base ho0) hb); replace BK152 := bkB BK152 hb; replace BK153 := bkB BK153 hb; replace BK160 := bkB BK160 hb; replace HB := hbB HB hb; (try clear hb); (try clear hb2); (try clear hk); (try clear hi); (try clear ho0); obtain ⟨Ao95, co95, eo95⟩ := Kd.R_slice HO179.out; subst eo95) | ((with_reducible refine gC 114 rfl ?_); refine cG (some 101) Tryd.func114 #[.int .u8 t175, .slice Ao95 t177.length co95] ?_; (with_reducible refine (recoupref01_Scale.calls k4 t175 _ _ t177 t181 _ ?side1 ?side2 A75.out).mono ?_); (case side1 => exact kcA (Kd.R_reads' HO179.out).2.2); (case side2 => exact (Kd.R_reads' HO179.out).2.1); rintro e w96 ⟨v182, rfl, ho0, hb⟩; refine ⟨_, rfl, ?_⟩; replace HO_6 := kdB HO_6 hb; replace HO_10 := kdB HO_10 hb; have HO183 := Aside0.mk (Kd.R_lower (Kd.R_new' (Kd.R_new' (Kd.R_new' ho0 (Kd.R_lt (kdA HO_161002.out))) (Kd.R_lt (kdA HO172.out))) (Kd.R_lt (kdA HO179.out))) (below_size (hbA HB.out))); replace HO_161002 := Aside0.mk (Kd.R_elder' (kdA HO_161002.out) (Kd.R_base ho0) hb); replace HO172 := Aside0.mk (Kd.R_elder' (kdA HO172.out) (Kd.R_base ho0) hb); replace HO179 := Aside0.mk (Kd.R_elder' (kdA HO179.out) (Kd.R_base ho0) hb); replace BK152 := bkB BK152 hb; replace BK153 := bkB BK153 hb; replace BK160 := bkB BK160 hb; replace HB := hbB HB hb; (try clear hb); (try clear hb2); (try clear hk); (try clear hi); (try clear ho0); obtain ⟨hcz97_0, hcz97_1, hcz97_2, hfz97_0, hfz97_1, hfz97_2⟩ := cell3 BK160; have p79 : 0 ≤ ((ji76) : Int) := of_decide_eq_true asE; have q79 : ((ji76) : Int) < ((t170.length : Int) : Int) := of_decide_eq_true asE; obtain ⟨go79, co79, eo79, gb79, gl79, cl79, HG79⟩ := Kd.R_form HO172.out (by omega); (first | cases eo79 | (injection eo79 with ea_ en_ ec_; (first | subst ea_ | (injection ea_ with ea_; subst ea_)); subst ec_; clear en_)); have GB79 := Aside0.mk gb79; have GG79 := Aside0.mk HG79; clear gb79 gl79 HG79; obtain ⟨hx79_0, hf79_0⟩ := Kd.R_celln 0 HO172.out ((ji76) : Int) p79 q79; replace p79 := eq_true p79; replace q79 := eq_true q79; have n_ := Aside0.mk (Kd.R_mono (ok' := (fun k_ => some k_ ≠ (.slice Ao88 x161002_1.length co88 : Value).ownBlock ∧ some k_ ≠ (.slice Ao95 t177.length co95 : Value).ownBlock ∧ some k_ ≠ (v182 : Value).ownBlock)) HO172.out (by first | exact fun k_ hk => ⟨hk.1.1.2, ⟨hk.1.2, hk.2⟩⟩ | exact fun k_ hk => ⟨hk.1.1, ⟨hk.1.2, hk.2⟩⟩)); clear HO172; have HO172 := n_; clear n_; have jc1 := of_decide_eq_true c77b0; have jc2 := of_decide_eq_true c78b0; obtain ⟨jn, rfl⟩ := Int.eq_ofNat_of_zero_le jc1; have jl1 := (Kd.R_reads' HO172.out).2.1; have jl3 : jn < t170.length := Int.ofNat_lt.1 jc2; have jl2 : jn ≤ t170.length := Nat.le_of_lt jl3) | ((with_reducible refine gate_builtin (b := .copy) (xs := #[.tmp 108, .tmp 109]) rfl ?_); obtain ⟨sA, sc, eS, _, hS⟩ := Kd.R_reads HO183.out; refine copyL_event (d := .tmp 108) (s := .tmp 109) (dT := 22) (sT := 22) rfl rfl Tryd.underlying22 (by kernel_rfl) HO172.out hS (jn : Int) (Int.natCast_nonneg jn) jc2 rfl eS rfl rfl ?_; intro w99 jm hg hp0; clear eS hS; have hg : w96.grownBy w99 (some go79) := hg; have hp_ : Kd.R (Kd.int .u8) 5 w99 w.heap.size (fun k_ => some k_ ≠ (.slice Ao88 x161002_1.length co88 : Value).ownBlock ∧ some k_ ≠ (.slice Ao95 t177.length co95 : Value).ownBlock ∧ some k_ ≠ (v182 : Value).ownBlock) (.slice (some ⟨go79, 0, none⟩) t170.length co91) y184 := (by rw [Ny184.out]; exact hp0); replace HO_6 := Aside0.mk (Kd.R_over' (v := (.slice (some ⟨go79, 0, none⟩) t170.length co91)) (kdA HO_6.out) (Kd.R_typed HO172.out) (by decide) hg); replace HO_10 := Aside0.mk (Kd.R_over' (v := (.slice (some ⟨go79, 0, none⟩) t170.length co91)) (kdA HO_10.out) (Kd.R_typed HO172.out) (by decide) hg); replace HO_161002 := Aside0.mk (Kd.R_after (v := (.slice (some ⟨go79, 0, none⟩) t170.length co91)) (v1 := (.slice (some ⟨go79, 0, none⟩) t170.length co91)) (ok := (fun k_ => some k_ ≠ (.slice Ao95 t177.length co95 : Value).ownBlock ∧ some k_ ≠ (v182 : Value).ownBlock)) (by (with_reducible repeat (first | apply Kd.R_alloc | apply Kd.R_drewN | apply Kd.R_drew)); exact Kd.R_mono HO_161002.out (by first | exact fun _ hk => ⟨⟨hk.1.2, hk.2⟩, hk.1.1.2⟩ | exact fun _ hk => ⟨⟨hk.1.2, hk.2⟩, hk.1.1⟩)) hg (.inl rfl)); replace BK152 := bkG BK152 hg (Kd.R_ne HO172.out BK152.out (by decide)); replace BK153 := bkG BK153 hg (Kd.R_ne HO172.out BK153.out (by decide)); replace BK160 := bkG BK160 hg (Kd.R_ne HO172.out BK160.out (by decide)); replace HO172 := Aside0.mk (hp_); replace HO179 := Aside0.mk (Kd.R_after (v := (.slice (some ⟨go79, 0, none⟩) t170.length co91)) (v1 := (.slice (some ⟨go79, 0, none⟩) t170.length co91)) (ok := (fun k_ => some k_ ≠ (.slice Ao88 x161002_1.length co88 : Value).ownBlock ∧ some k_ ≠ (v182 : Value).ownBlock)) (by (with_reducible repeat (first | apply Kd.R_alloc | apply Kd.R_drewN | apply Kd.R_drew)); exact Kd.R_mono HO179.out (fun _ hk => ⟨⟨hk.1.1.2, hk.2⟩, hk.1.2⟩)) hg (.inl rfl)); replace HO183 := Aside0.mk (Kd.R_after (v := (.slice (some ⟨go79, 0, none⟩) t170.length co91)) (v1 := (.slice (some ⟨go79, 0, none⟩) t170.length co91)) (ok := (fun k_ => some k_ ≠ (.slice Ao88 x161002_1.length co88 : Value).ownBlock ∧ some k_ ≠ (.slice Ao95 t177.length co95 : Value).ownBlock)) (by (with_reducible repeat (first | apply Kd.R_alloc | apply Kd.R_drewN | apply Kd.R_drew)); exact Kd.R_mono HO183.out (fun _ hk => ⟨⟨hk.1.1.2, hk.2⟩, hk.1.2⟩)) hg (.inl rfl)); replace HB := Aside0.mk ((HB.out.grown hg HB.out.size (fun k_ hk_ => by injection hk_ with hk_; rw [← hk_]; exact GB79.out) : Below w.heap.size w w99)); clear hg hp0 hp_))
                                          go_loopg [16] k4 (fun kq v16 w' => ∃ (x14_5 : List Int) (x16_5 : Int) (x161002_5 : List Int) (u161002 : Value), v16 = .int .i64 x16_5 ∧ Aside0 (recoupref04_Reduce.l3 kq x6_1 x7_1 (x6_1.length : Int) x14_5 x16_5 t168 t169 x161002_5 = some (r1, r2, r3, r4, r5)) ∧ Aside0 (kq ≤ k4) ∧ Aside0 (Kd.R (Kd.int .i64) 3 w' w.heap.size (fun _ => True) (.slice Ao28 x6_1.length co28) x6_1) ∧ Aside0 (Kd.R (Kd.int .u8) 5 w' w.heap.size (fun k_ => some k_ ≠ (u161002 : Value).ownBlock) v182 x14_5) ∧ Aside0 (Kd.R (Kd.int .u8) 5 w' w.heap.size (fun k_ => some k_ ≠ (v182 : Value).ownBlock) u161002 x161002_5) ∧ Aside0 (w'.heap[gb152]? = some (.cells #[.int .i64 a0_0, .int .i64 a0_1, (.slice A0_2 l0_2.length c0_2)] 24 (0, 0))) ∧ Aside0 (w'.heap[gb153]? = some (.cells #[.int .i64 0, .int .i64 0, (.slice none 0 0)] 24 (0, 0))) ∧ Aside0 (w'.heap[gb160]? = some (.cells #[.int .i64 t168, .int .i64 t169, u161002] 24 (0, 0))) ∧ Aside0 (Below w.heap.size w w'))
                                          case atStart => exact ⟨(t181), (0), (y184), (.slice (some ⟨go79, 0, none⟩) t170.length co91), rsE, H', ⟨Nat.le_refl _⟩, ⟨by (with_reducible repeat (first | apply Kd.R_alloc | apply Kd.R_drewN | apply Kd.R_drew)); exact Kd.R_mono HO_6.out (fun _ hk => trivial)⟩, ⟨by (with_reducible repeat (first | apply Kd.R_alloc | apply Kd.R_drewN | apply Kd.R_drew)); exact Kd.R_mono HO183.out (fun _ hk => hk.2)⟩, ⟨by (with_reducible repeat (first | apply Kd.R_alloc | apply Kd.R_drewN | apply Kd.R_drew)); exact Kd.R_mono HO172.out (fun _ hk => hk.2.2)⟩, ⟨bkA BK152.out⟩, ⟨bkA BK153.out⟩, ⟨bkA BK160.out⟩, ⟨hbA HB.out⟩⟩
                                          case round =>
                                            clear H'
                                            (try clear c1); (try clear c2); (try clear p2 p2); (try clear c3); (try clear c4); (try clear c5); (try clear p5); (try clear q5); (try clear hx5); (try clear hf5); (try clear c6); (try clear p6 p6); (try clear q6); (try clear hx6); (try clear hf6); (try clear c7); (try clear p7); (try clear q7); (try clear hx7); (try clear hf7); (try clear c8); (try clear c9); (try clear c11); (try clear c13); (try clear c14); (try clear c18); (try clear c18b0); (try clear c19); (try clear c20); (try clear c21); (try clear c23); (try clear c24); (try clear c26); (try clear c29); (try clear c29b0); (try clear c31); (try clear c31b0); (try clear c31b1); (try clear c32); (try clear c33); (try clear c37); (try clear c38); (try clear c42); (try clear c43); (try clear c45); (try clear c45b0); (try clear c45b1); (try clear c46); (try clear c47); (try clear c49); (try clear c49b0); (try clear c49b1); (try clear c50); (try clear c50b0); (try clear c50b1); (try clear c51); (try clear c52); (try clear c56); (try clear c56b0); (try clear c57); (try clear c57b0); (try clear c58); (try clear c58b0); (try clear p59 p59); (try clear q59 q59); (try clear hx59); (try clear hf59); (try clear c60); (try clear c61); (try clear p64); (try clear c65); (try clear c65b0); (try clear c65b1); (try clear c66); (try clear c66b0); (try clear c66b1); (try clear p67 p67); (try clear q67 q67); (try clear hx67); (try clear hf67); (try clear c68); (try clear c68b0); (try clear c69); (try clear c69b0); (try clear p70 p70); (try clear q70 q70); (try clear hx70); (try clear hf70); (try clear c77); (try clear c77b0); (try clear c78); (try clear c78b0); (try clear p79 p79); (try clear q79 q79); (try clear hx79); (try clear hf79); (try clear c80); (try clear c81); (try clear hcz10_0 hcz10_1 hcz10_2 hfz10_0 hfz10_1 hfz10_2); (try clear hcz15_0 hcz15_1 hcz15_2 hfz15_0 hfz15_1 hfz15_2); (try clear hcz21_0 hcz21_1 hcz21_2 hfz21_0 hfz21_1 hfz21_2); (try clear hcz25_0 hcz25_1 hcz25_2 hfz25_0 hfz25_1 hfz25_2); (try clear hcz34_0 hcz34_1 hcz34_2 hfz34_0 hfz34_1 hfz34_2); (try clear hcz39_0 hcz39_1 hcz39_2 hfz39_0 hfz39_1 hfz39_2); (try clear hcz44_0 hcz44_1 hcz44_2 hfz44_0 hfz44_1 hfz44_2); (try clear hcz48_0 hcz48_1 hcz48_2 hfz48_0 hfz48_1 hfz48_2); (try clear hcz53_0 hcz53_1 hcz53_2 hfz53_0 hfz53_1 hfz53_2); (try clear hcz62_0 hcz62_1 hcz62_2 hfz62_0 hfz62_1 hfz62_2); (try clear hcz82_0 hcz82_1 hcz82_2 hfz82_0 hfz82_1 hfz82_2); (try clear hcz87_0 hcz87_1 hcz87_2 hfz87_0 hfz87_1 hfz87_2); (try clear hcz8_0 hcz8_1 hcz8_2 hfz8_0 hfz8_1 hfz8_2); (try clear hcz90_0 hcz90_1 hcz90_2 hfz90_0 hfz90_1 hfz90_2); (try clear hcz93_0 hcz93_1 hcz93_2 hfz93_0 hfz93_1 hfz93_2); (try clear hcz97_0 hcz97_1 hcz97_2 hfz97_0 hfz97_1 hfz97_2); (try clear hx59_0); (try clear hx67_0); (try clear hx70_0); (try clear hx79_0)
                                            obtain ⟨x14_5, x16_5, x161002_5, u161002, rfl, HA, HK5, HO_6, HO_14, HO_161002, BK152, BK153, BK160, HB⟩ := hrel
                                            cases gk with
                                            | zero => exact absurd HA.out (by simp [recoupref04_Reduce.l3])
                                            | succ k5 =>
                                              have H := HA.out
                                              clear HA
                                              simp only [recoupref04_Reduce.l3] at H
                                              by_cases c100 : x16_5 < t168
                                              · rw [if_pos c100] at H
                                                have c100b0 : decide (x16_5 < t168) = true := decide_eq_true c100
                                                clear c100
                                                by_cases c101 : x16_5 = (x6_1.length : Int)
                                                · rw [if_pos c101] at H
                                                  have c101b0 : (x16_5 == (x6_1.length : Int)) = true := beq_iff_eq.mpr c101
                                                  have c101b1 : (x16_5 != (x6_1.length : Int)) = false := bne_eq_false_iff_eq.mpr c101
                                                  clear c101
                                                  have H' := Aside0.mk H
                                                  clear H
                                                  have hnb102 := NB160_152.out
                                                  have hnc102 := NB152_160.out
                                                  have hnb103 := NB160_153.out
                                                  have hnc103 := NB153_160.out
                                                  obtain ⟨hcz104_0, hcz104_1, hcz104_2, hfz104_0, hfz104_1, hfz104_2⟩ := cell3 BK160
                                                  go_wp2
                                                  go_roundg k5
                                                  case measure => have := HK1.out; have := HJ16.out; have := HJ26.out; have := HK4.out; have := HK5.out; omega
                                                  case rel => exact ⟨(x14_5), (wrap64 (x16_5 + 1)), (x161002_5), (u161002), rsE, H', ⟨by have := HK1.out; have := HJ16.out; have := HJ26.out; have := HK4.out; have := HK5.out; omega⟩, ⟨kdA HO_6.out⟩, ⟨kdA HO_14.out⟩, ⟨kdA HO_161002.out⟩, ⟨bkA BK152.out⟩, ⟨bkA BK153.out⟩, ⟨bkA BK160.out⟩, ⟨hbA HB.out⟩⟩
                                                · rw [if_neg c101] at H
                                                  have c101b0 : (x16_5 == (x6_1.length : Int)) = false := beq_eq_false_iff_ne.mpr c101
                                                  have c101b1 : (x16_5 != (x6_1.length : Int)) = true := bne_iff_ne.mpr c101
                                                  obtain ⟨t188, A105, H⟩ := bindO H
                                                  (try dsimp only at H)
                                                  have H' := Aside0.mk H
                                                  clear H
                                                  have hnb106 := NB160_152.out
                                                  have hnc106 := NB152_160.out
                                                  have hnb107 := NB160_153.out
                                                  have hnc107 := NB153_160.out
                                                  obtain ⟨hcz108_0, hcz108_1, hcz108_2, hfz108_0, hfz108_1, hfz108_2⟩ := cell3 BK160
                                                  obtain ⟨Ao109, co109, eo109⟩ := Kd.R_slice HO_161002.out
                                                  subst eo109
                                                  go_wp2_with (first | ((with_reducible refine gC 49 rfl ?_); refine cG (some 123) Tryd.func49 #[.agg #[.int .i64 t168, .int .i64 t169, .slice Ao109 x161002_5.length co109], .int .i64 x16_5, .int .i64 x7_1] ?_; (with_reducible refine (recoupref03_At.calls t168 t169 _ _ x161002_5 x16_5 x7_1 t188 _ ?side1 ?side2 A105.out).mono ?_); (case side1 => exact kcA (Kd.R_reads' HO_161002.out).2.2); (case side2 => exact (Kd.R_reads' HO_161002.out).2.1); rintro e w110 ⟨rfl, hb⟩; refine ⟨_, rfl, ?_⟩; replace HO_6 := kdB HO_6 hb; replace HO_14 := kdB HO_14 hb; replace HO_161002 := kdB HO_161002 hb; replace BK152 := bkB BK152 hb; replace BK153 := bkB BK153 hb; replace BK160 := bkB BK160 hb; replace HB := hbB HB hb; (try clear hb); (try clear hb2); (try clear hk); (try clear hi)))
                                                  go_loopg [18] k5 (fun kq v18 w' => ∃ (x14_6 : List Int) (x18_6 : Int) (x161002_6 : List Int) (u161002 : Value), v18 = .int .i64 x18_6 ∧ Aside0 (recoupref04_Reduce.l4 kq x6_1 x7_1 (x6_1.length : Int) x14_6 x16_5 t188 x18_6 t168 t169 x161002_6 = some (r1, r2, r3, r4, r5)) ∧ Aside0 (kq ≤ k5) ∧ Aside0 (Kd.R (Kd.int .i64) 3 w' w.heap.size (fun _ => True) (.slice Ao28 x6_1.length co28) x6_1) ∧ Aside0 (Kd.R (Kd.int .u8) 5 w' w.heap.size (fun k_ => some k_ ≠ (u161002 : Value).ownBlock) v182 x14_6) ∧ Aside0 (Kd.R (Kd.int .u8) 5 w' w.heap.size (fun k_ => some k_ ≠ (v182 : Value).ownBlock) u161002 x161002_6) ∧ Aside0 (w'.heap[gb152]? = some (.cells #[.int .i64 a0_0, .int .i64 a0_1, (.slice A0_2 l0_2.length c0_2)] 24 (0, 0))) ∧ Aside0 (w'.heap[gb153]? = some (.cells #[.int .i64 0, .int .i64 0, (.slice none 0 0)] 24 (0, 0))) ∧ Aside0 (w'.heap[gb160]? = some (.cells #[.int .i64 t168, .int .i64 t169, u161002] 24 (0, 0))) ∧ Aside0 (Below w.heap.size w w'))
                                                  case atStart => exact ⟨(x14_5), (0), (x161002_5), (.slice Ao109 x161002_5.length co109), rsE, H', ⟨Nat.le_refl _⟩, ⟨kdA HO_6.out⟩, ⟨kdA HO_14.out⟩, ⟨kdA HO_161002.out⟩, ⟨bkA BK152.out⟩, ⟨bkA BK153.out⟩, ⟨bkA BK160.out⟩, ⟨hbA HB.out⟩⟩
                                                  case round =>
                                                    clear H'
                                                    (try clear c1); (try clear c2); (try clear p2 p2); (try clear c3); (try clear c4); (try clear c5); (try clear p5 p5); (try clear q5 q5); (try clear hx5); (try clear hf5); (try clear c6); (try clear p6 p6); (try clear q6 q6); (try clear hx6); (try clear hf6); (try clear c7); (try clear p7 p7); (try clear q7 q7); (try clear hx7); (try clear hf7); (try clear c8); (try clear c9); (try clear c10); (try clear c11); (try clear c13); (try clear c14); (try clear c18); (try clear c18b0); (try clear c19); (try clear c20); (try clear c21); (try clear c23); (try clear c24); (try clear c26); (try clear c29); (try clear c29b0); (try clear c31); (try clear c31b0); (try clear c31b1); (try clear c32); (try clear c33); (try clear c37); (try clear c38); (try clear c42); (try clear c43); (try clear c45); (try clear c45b0); (try clear c45b1); (try clear c46); (try clear c47); (try clear c49); (try clear c49b0); (try clear c49b1); (try clear c50); (try clear c50b0); (try clear c50b1); (try clear c51); (try clear c52); (try clear c56); (try clear c56b0); (try clear c57); (try clear c57b0); (try clear c58); (try clear c58b0); (try clear p59 p59); (try clear q59 q59); (try clear hx59); (try clear hf59); (try clear c60); (try clear c61); (try clear p64 p64); (try clear c65); (try clear c65b0); (try clear c65b1); (try clear c66); (try clear c66b0); (try clear c66b1); (try clear p67 p67); (try clear q67 q67); (try clear hx67); (try clear hf67); (try clear c68); (try clear c68b0); (try clear c69); (try clear c69b0); (try clear p70 p70); (try clear q70 q70); (try clear hx70); (try clear hf70); (try clear c77); (try clear c77b0); (try clear c78); (try clear c78b0); (try clear p79 p79); (try clear q79 q79); (try clear hx79); (try clear hf79); (try clear c80); (try clear c81); (try clear c100); (try clear c100b0); (try clear c101); (try clear c101b0); (try clear c101b1); (try clear c102); (try clear c103); (try clear c106); (try clear c107); (try clear hcz104_0 hcz104_1 hcz104_2 hfz104_0 hfz104_1 hfz104_2); (try clear hcz108_0 hcz108_1 hcz108_2 hfz108_0 hfz108_1 hfz108_2); (try clear hcz10_0 hcz10_1 hcz10_2 hfz10_0 hfz10_1 hfz10_2); (try clear hcz15_0 hcz15_1 hcz15_2 hfz15_0 hfz15_1 hfz15_2); (try clear hcz21_0 hcz21_1 hcz21_2 hfz21_0 hfz21_1 hfz21_2); (try clear hcz25_0 hcz25_1 hcz25_2 hfz25_0 hfz25_1 hfz25_2); (try clear hcz34_0 hcz34_1 hcz34_2 hfz34_0 hfz34_1 hfz34_2); (try clear hcz39_0 hcz39_1 hcz39_2 hfz39_0 hfz39_1 hfz39_2); (try clear hcz44_0 hcz44_1 hcz44_2 hfz44_0 hfz44_1 hfz44_2); (try clear hcz48_0 hcz48_1 hcz48_2 hfz48_0 hfz48_1 hfz48_2); (try clear hcz53_0 hcz53_1 hcz53_2 hfz53_0 hfz53_1 hfz53_2); (try clear hcz62_0 hcz62_1 hcz62_2 hfz62_0 hfz62_1 hfz62_2); (try clear hcz82_0 hcz82_1 hcz82_2 hfz82_0 hfz82_1 hfz82_2); (try clear hcz87_0 hcz87_1 hcz87_2 hfz87_0 hfz87_1 hfz87_2); (try clear hcz8_0 hcz8_1 hcz8_2 hfz8_0 hfz8_1 hfz8_2); (try clear hcz90_0 hcz90_1 hcz90_2 hfz90_0 hfz90_1 hfz90_2); (try clear hcz93_0 hcz93_1 hcz93_2 hfz93_0 hfz93_1 hfz93_2); (try clear hcz97_0 hcz97_1 hcz97_2 hfz97_0 hfz97_1 hfz97_2); (try clear hx59_0); (try clear hx67_0); (try clear hx70_0); (try clear hx79_0)
                                                    obtain ⟨x14_6, x18_6, x161002_6, u161002, rfl, HA, HK6, HO_6, HO_14, HO_161002, BK152, BK153, BK160, HB⟩ := hrel
                                                    cases gk with
                                                    | zero => exact absurd HA.out (by simp [recoupref04_Reduce.l4])
                                                    | succ k6 =>
                                                      have H := HA.out
                                                      clear HA
                                                      simp only [recoupref04_Reduce.l4] at H
                                                      by_cases c111 : x18_6 < t169
                                                      · rw [if_pos c111] at H
                                                        have c111b0 : decide (x18_6 < t169) = true := decide_eq_true c111
                                                        clear c111
                                                        obtain ⟨ji112, hji112⟩ : ∃ j_ : Int, (wrap64 ((wrap64 (x16_5 * t169)) + x18_6)) = j_ := ⟨_, rfl⟩
                                                        replace H : (if 0 ≤ (ji112) then (if (ji112) < (x161002_6.length : Int) then (if 0 ≤ x18_6 then (if x18_6 < (x14_6.length : Int) then ((recoupref01_Mul.f k6 t188 (rd x14_6 x18_6)).bind fun t191 => (recoupref04_Reduce.l4 k6 x6_1 x7_1 (x6_1.length : Int) x14_6 x16_5 t188 (wrap64 (x18_6 + 1)) t168 t169 (x161002_6.set ((ji112) : Int).toNat (Go.bits .xor .u8 (rd x161002_6 (ji112)) t191)))) else (none)) else (none)) else (none)) else (none)) = some (r1, r2, r3, r4, r5) := by first | (rw [hji112] at H; exact H) | (simp only [hji112] at H ⊢; exact H)
                                                        have hji112w : (IntKind.i64.wrap ((wrap64 (x16_5 * t169)) + x18_6)) = ji112 := (i64_w _).trans hji112
                                                        by_cases c113 : 0 ≤ (ji112)
                                                        · rw [if_pos c113] at H
                                                          have c113b0 : decide (0 ≤ (ji112)) = true := decide_eq_true c113
                                                          clear c113
                                                          by_cases c114 : (ji112) < (x161002_6.length : Int)
                                                          · rw [if_pos c114] at H
                                                            have c114b0 : decide ((ji112) < (x161002_6.length : Int)) = true := decide_eq_true c114
                                                            clear c114
                                                            by_cases c115 : 0 ≤ x18_6
                                                            · rw [if_pos c115] at H
                                                              have c115b0 : decide (0 ≤ x18_6) = true := decide_eq_true c115
                                                              clear c115
                                                              by_cases c116 : x18_6 < (x14_6.length : Int)
                                                              · rw [if_pos c116] at H
                                                                have c116b0 : decide (x18_6 < (x14_6.length : Int)) = true := decide_eq_true c116
                                                                clear c116
                                                                obtain ⟨t191, A117, H⟩ := bindO H
                                                                (try dsimp only at H)
                                                                obtain ⟨y192, hy192⟩ : ∃ y_ : List Int, y_ = (x161002_6.set ((ji112) : Int).toNat (Go.bits .xor .u8 (rd x161002_6 (ji112)) t191)) := ⟨_, rfl⟩
                                                                replace H : (recoupref04_Reduce.l4 k6 x6_1 x7_1 (x6_1.length : Int) x14_6 x16_5 t188 (wrap64 (x18_6 + 1)) t168 t169 y192) = some (r1, r2, r3, r4, r5) := by first | (rw [hy192]; with_reducible exact H) | (have H2_ := (Option.bind_some _ _).symm.trans H; rw [hy192]; with_reducible exact H2_) | (have H2_ := (Option.bind_some _ _).symm.trans H; with_reducible exact H2_) | with_reducible exact H | (rw [hy192]; exact H) | exact H
                                                                have Ny192 := Aside0.mk hy192
                                                                clear hy192
                                                                have H' := Aside0.mk H
                                                                clear H
                                                                have hnb119 := NB160_152.out
                                                                have hnc119 := NB152_160.out
                                                                have hnb120 := NB160_153.out
                                                                have hnc120 := NB153_160.out
                                                                obtain ⟨hcz121_0, hcz121_1, hcz121_2, hfz121_0, hfz121_1, hfz121_2⟩ := cell3 BK160
                                                                try go_wp2
                                                                replace HO_6 := Aside0.mk (Kd.R_drew HO_6.out)
                                                                replace HO_14 := Aside0.mk (Kd.R_drew HO_14.out)
                                                                replace HO_161002 := Aside0.mk (Kd.R_drew HO_161002.out)
                                                                replace BK152 := Aside0.mk (blk_drew BK152.out)
                                                                replace BK153 := Aside0.mk (blk_drew BK153.out)
                                                                replace BK160 := Aside0.mk (blk_drew BK160.out)
                                                                replace HB := Aside0.mk (below_drew1 HB.out)
                                                                obtain ⟨Ao123, co123, eo123⟩ := Kd.R_slice HO_161002.out
                                                                (first | subst eo123 | (injection eo123 with f1_ f2_ f3_; have f4_ := f1_.symm; have f5_ := f3_.symm; clear f1_ f2_ f3_; subst f4_; subst f5_))
                                                                have p189 : 0 ≤ ((ji112) : Int) := of_decide_eq_true asE
                                                                have q189 : (ji112) < (x161002_6.length : Int) := of_decide_eq_true asE
                                                                obtain ⟨ad189, e189, hx189_0⟩ := Kd.at_int (Kd.R_reads' HO_161002.out).2.2 (ji112) p189 q189
                                                                cases e189
                                                                replace p189 := eq_true p189
                                                                replace q189 := eq_true q189
                                                                obtain ⟨Ao124, co124, eo124⟩ := Kd.R_slice HO_14.out
                                                                (first | subst eo124 | (injection eo124 with f1_ f2_ f3_; have f4_ := f1_.symm; have f5_ := f3_.symm; clear f1_ f2_ f3_; subst f4_; subst f5_))
                                                                have p190 : 0 ≤ (x18_6 : Int) := of_decide_eq_true asE
                                                                have q190 : x18_6 < (x14_6.length : Int) := of_decide_eq_true asE
                                                                obtain ⟨ad190, e190, hx190_0⟩ := Kd.at_int (Kd.R_reads' HO_14.out).2.2 x18_6 p190 q190
                                                                cases e190
                                                                replace p190 := eq_true p190
                                                                replace q190 := eq_true q190
                                                                refine start_ (n := 19) (S := fun w' => w'.cell? ⟨gb160, 0, none⟩ = some (.int .i64 t168) ∧ w'.cell? ⟨gb160, 1, none⟩ = some (.int .i64 t169) ∧ w'.cell? ⟨gb160, 2, none⟩ = some (.slice (some ad189) x161002_6.length co123) ∧ w'.cell? (ad189.add ((ji112)).toNat) = some (.int .u8 (rd x161002_6 (ji112))) ∧ w'.cell? (ad190.add (x18_6).toNat) = some (.int .u8 (rd x14_6 x18_6))) (ds := [18]) (.replicate 19 false) (by kernel_rfl) rfl rfl ⟨(blk_cell BK160.out 0).trans rfl, (blk_cell BK160.out 1).trans rfl, (blk_cell BK160.out 2).trans rfl, hx189_0, hx190_0⟩ (fun hHeld => ?_); refine with_tabW recoupref04_Reduce.tab32 recoupref04_Reduce.bits32 (fun HT_ HW_ => ?_)
                                                                generalize wr.drew = w122 at HO_6 HO_14 HO_161002 BK152 BK153 BK160 HB hx189_0 hx190_0 hHeld ⊢
                                                                refine pu 0 (some 130) (mB 19 1) HT_ ?_
                                                                refine pu 2 (some 132) (mB 19 5) HT_ ?_
                                                                refine pu 3 (some 133) (mB 19 13) HT_ ?_
                                                                refine pu 6 (some 136) (mB 19 77) HT_ ?_
                                                                refine pu 10 (some 140) (mB 19 1101) HT_ ?_
                                                                refine pu 11 (some 141) (mB 19 3149) HT_ ?_
                                                                refine pu 12 (some 142) (mB 19 7245) HT_ ?_
                                                                refine pu 13 (some 143) (mB 19 15437) HT_ ?_
                                                                refine tk5 1 (some 131) (mB 19 15439) HT_ HW_ hHeld ?_
                                                                refine tk5 4 (some 134) (mB 19 15455) HT_ HW_ hHeld ?_
                                                                refine pu 5 (some 135) (mB 19 15487) HT_ ?_
                                                                refine pu 7 (some 137) (mB 19 15615) HT_ ?_
                                                                refine pu 8 (some 138) (mB 19 15871) HT_ ?_
                                                                refine tk5 9 (some 139) (mB 19 16383) HT_ HW_ hHeld ?_
                                                                refine tk5 14 (some 144) (mB 19 32767) HT_ HW_ hHeld ?_
                                                                refine one_ (i := 15) (N := some 145) (mB 19 65535) rfl rfl (one_of HT_.out (by kernel_rfl)) (by decide) (fun K hK => ?_)
                                                                refine goes_ Tryd.func78 (by kernel_rfl) rfl #[.int .u8 t188, .int .u8 (rd x14_6 x18_6)] (by rfl) rfl rfl (by (try simp only [List.map_toArray, List.map_cons, List.map_nil]); first | done | rfl | (simp only [List.length_drop, List.length_take]; rfl)) ?_
                                                                with_reducible refine (recoupref01_Mul.calls k6 t188 (rd x14_6 x18_6) t191 _ A117.out).mono ?_
                                                                rintro e w' ⟨rfl, ⟨nd, rfl⟩⟩
                                                                refine ⟨_, rfl, ?_⟩
                                                                have p118 : 0 ≤ ((ji112) : Int) := of_decide_eq_true asE
                                                                have q118 : ((ji112) : Int) < ((x161002_6.length : Int) : Int) := of_decide_eq_true asE
                                                                obtain ⟨go118, co118, eo118, gb118, gl118, cl118, HG118⟩ := Kd.R_form HO_161002.out (by omega)
                                                                (first | cases eo118 | (injection eo118 with ea_ en_ ec_; (first | subst ea_ | (injection ea_ with ea_; subst ea_)); subst ec_; clear en_))
                                                                have GB118 := Aside0.mk gb118
                                                                have GG118 := Aside0.mk HG118
                                                                clear gb118 gl118 HG118
                                                                (first | simp only [add_plain] at hx189_0 | skip)
                                                                obtain ⟨hx118_0, hf118_0⟩ := Kd.R_celln 0 HO_161002.out ((ji112) : Int) p118 q118
                                                                replace p118 := eq_true p118
                                                                replace q118 := eq_true q118
                                                                have HP125 := Kd.R_putn HO_161002.out ((ji112) : Int) (Go.bits .xor .u8 (rd x161002_6 (ji112)) t191)
                                                                rw [← Ny192.out] at HP125
                                                                have HQ125 := Aside0.mk HP125
                                                                clear HP125
                                                                refine hK.out _ _ ⟨(blk_cell BK160.out 0).trans rfl, (blk_cell BK160.out 1).trans rfl, (blk_cell BK160.out 2).trans rfl, hHeld.2.2.2.1, hHeld.2.2.2.2⟩ (fun hHeld => ?_)
                                                                clear hK K
                                                                refine norm_ (a' := ?_) ?_ ?_
                                                                rotate_left
                                                                · show Act.put _ (some 145) _ = _
                                                                  simp only [Act.put, List.setIfInBounds_toArray, List.set_cons_zero, List.set_cons_succ, i64_w, i32_w]
                                                                  rfl
                                                                refine pu 16 (some 146) (mB 19 131071) HT_ ?_
                                                                refine pu 17 (some 147) (mB 19 262143) HT_ ?_
                                                                refine last_ (i := 18) (N := none) (mB 19 524287) rfl rfl (one_of HT_.out (by kernel_rfl)) (by decide) (fun K hK => ?_)
                                                                refine skip_ (w1 := ?_) (by rfl) rfl ?_ ?_
                                                                rotate_left
                                                                · go_simp
                                                                  rfl
                                                                refine hK.out _ _ ?_
                                                                clear hK K
                                                                refine done_ (done_of HT_.out (by kernel_rfl)) ?_
                                                                try go_wp2
                                                                go_roundg k6
                                                                case measure => have := HK1.out; have := HJ16.out; have := HJ26.out; have := HK4.out; have := HK5.out; have := HK6.out; omega
                                                                case rel => exact ⟨(x14_6), (wrap64 (x18_6 + 1)), (y192), (.slice (some ⟨go118, 0, none⟩) x161002_6.length co123), rsE, H', ⟨by have := HK1.out; have := HJ16.out; have := HJ26.out; have := HK4.out; have := HK5.out; have := HK6.out; omega⟩, ⟨by (with_reducible repeat (first | apply Kd.R_alloc | apply Kd.R_drewN | apply Kd.R_drew)); exact Kd.R_mono (Kd.R_far (p := ⟨go118, ((ji112) : Int).toNat, none⟩) (Kd.R_types HO_6.out GG118.out (by decide)) (fun _ hk => hk.2) (.int .u8 (Go.bits .xor .u8 (rd x161002_6 (ji112)) t191))) (fun _ hk => trivial)⟩, ⟨by (with_reducible repeat (first | apply Kd.R_alloc | apply Kd.R_drewN | apply Kd.R_drew)); exact Kd.R_mono (Kd.R_far (p := ⟨go118, ((ji112) : Int).toNat, none⟩) (Kd.R_mono HO_14.out (fun k_ hk => (⟨hk, fun e_ => hk (by rw [e_]; rfl)⟩ : _ ∧ k_ ≠ go118))) (fun _ hk => hk.2) (.int .u8 (Go.bits .xor .u8 (rd x161002_6 (ji112)) t191))) (fun _ hk => hk.1)⟩, ⟨kdA HQ125.out⟩, ⟨by refine bkR ?_; refine blk_far ?_ (by have h_ := Kd.R_ne HO_161002.out BK152.out (by decide); intro e_; exact h_ (by rw [e_]; rfl)) _; refine bkR ?_; exact BK152.out⟩, ⟨by refine bkR ?_; refine blk_far ?_ (by have h_ := Kd.R_ne HO_161002.out BK153.out (by decide); intro e_; exact h_ (by rw [e_]; rfl)) _; refine bkR ?_; exact BK153.out⟩, ⟨by refine bkR ?_; refine blk_far ?_ (by have h_ := Kd.R_ne HO_161002.out BK160.out (by decide); intro e_; exact h_ (by rw [e_]; rfl)) _; refine bkR ?_; exact BK160.out⟩, ⟨hbA HB.out⟩⟩
                                                              · rw [if_neg c116] at H
                                                                exact absurd H (by simp)
                                                            · rw [if_neg c115] at H
                                                              exact absurd H (by simp)
                                                          · rw [if_neg c114] at H
                                                            exact absurd H (by simp)
                                                        · rw [if_neg c113] at H
                                                          exact absurd H (by simp)
                                                      · rw [if_neg c111] at H
                                                        have c111b0 : decide (x18_6 < t169) = false := decide_eq_false c111
                                                        clear c111
                                                        have H' := Aside0.mk H
                                                        clear H
                                                        have hnb126 := NB160_152.out
                                                        have hnc126 := NB152_160.out
                                                        have hnb127 := NB160_153.out
                                                        have hnc127 := NB153_160.out
                                                        obtain ⟨hcz128_0, hcz128_1, hcz128_2, hfz128_0, hfz128_1, hfz128_2⟩ := cell3 BK160
                                                        go_wp2
                                                        go_roundg k6
                                                        case measure => have := HK1.out; have := HJ16.out; have := HJ26.out; have := HK4.out; have := HK5.out; have := HK6.out; omega
                                                        case rel => exact ⟨(x14_6), (wrap64 (x16_5 + 1)), (x161002_6), (u161002), rsE, H', ⟨by have := HK1.out; have := HJ16.out; have := HJ26.out; have := HK4.out; have := HK5.out; have := HK6.out; omega⟩, ⟨kdA HO_6.out⟩, ⟨kdA HO_14.out⟩, ⟨kdA HO_161002.out⟩, ⟨bkA BK152.out⟩, ⟨bkA BK153.out⟩, ⟨bkA BK160.out⟩, ⟨hbA HB.out⟩⟩
                                              · rw [if_neg c100] at H
                                                have c100b0 : decide (x16_5 < t168) = false := decide_eq_false c100
                                                clear c100
                                                by_cases c129 : x6_1.length < 17592186044416
                                                · rw [if_pos c129] at H
                                                  have LMc129 := Aside0.mk c129
                                                  clear c129
                                                  obtain ⟨y185, hy185⟩ : ∃ y_ : List Int, y_ = (x6_1 ++ [x7_1]) := ⟨_, rfl⟩
                                                  replace H : (recoupref04_Reduce.l0 k5 y185 (wrap64 (x7_1 + 1)) t168 t169 x161002_5) = some (r1, r2, r3, r4, r5) := by first | (rw [hy185]; with_reducible exact H) | (have H2_ := (Option.bind_some _ _).symm.trans H; rw [hy185]; with_reducible exact H2_) | (have H2_ := (Option.bind_some _ _).symm.trans H; with_reducible exact H2_) | with_reducible exact H | (rw [hy185]; exact H) | exact H
                                                  have Ny185 := Aside0.mk hy185
                                                  clear hy185
                                                  have H' := Aside0.mk H
                                                  clear H
                                                  have hnb130 := NB160_152.out
                                                  have hnc130 := NB152_160.out
                                                  have hnb131 := NB160_153.out
                                                  have hnc131 := NB153_160.out
                                                  obtain ⟨hcz132_0, hcz132_1, hcz132_2, hfz132_0, hfz132_1, hfz132_2⟩ := cell3 BK160
                                                  go_wp2_with (first | ((with_reducible refine gate_builtin (b := .append) (xs := #[.tmp 148, .tmp 150]) rfl ?_); (try (refine gate_guard (by rfl) ?_; dsimp only)); at_builtin; refine Kd.R_append (Kd.int .i64) (w0 := w) w.heap.size rfl (.tmp 148) (.tmp 150) 56 3 (.int .i64 0) 8 rfl Tryd.underlying56 info3 rfl (by decide) (by omega) (.slice Ao28 x6_1.length co28) x6_1 x7_1 [.int .i64 x7_1] (fun _ => True) (fun _ => False) rfl rfl ?aP (fun _ hk => hk.elim) ?aF ?aO ?aB ?aS ?aL ?_; (case aP => exact rfl); (case aB => exact (hbA HB.out)); (case aF => exact (fun _ _ => trivial)); (case aO => exact (kdA HO_6.out)); (case aS => exact (below_size (hbA HB.out))); (case aL => have := LMc129.out; omega); intro v186 w133 ho hb hg hat; rw [← Ny185.out] at ho; have n0_ := Aside0.mk (Kd.R_over' (kdA HO_14.out) (Kd.R_typed (kdA HO_6.out)) (by decide) hg); have n1_ := Aside0.mk (Kd.R_over' (kdA HO_161002.out) (Kd.R_typed (kdA HO_6.out)) (by decide) hg); have n2_ := Aside0.mk (blk_grown (g := gb152) (o := .cells #[.int .i64 a0_0, .int .i64 a0_1, .slice A0_2 l0_2.length c0_2] 24 (0, 0)) (bkA BK152.out) hg (Kd.R_ne HO_6.out BK152.out (by decide))); have n3_ := Aside0.mk (blk_grown (g := gb153) (o := .cells #[.int .i64 0, .int .i64 0, .slice none 0 0] 24 (0, 0)) (bkA BK153.out) hg (Kd.R_ne HO_6.out BK153.out (by decide))); have n4_ := Aside0.mk (blk_grown (g := gb160) (o := .cells #[.int .i64 t168, .int .i64 t169, u161002] 24 (0, 0)) (bkA BK160.out) hg (Kd.R_ne HO_6.out BK160.out (by decide))); have n5_ := Aside0.mk (hb); have n6_ := Aside0.mk (ho); clear HO_14; clear HO_161002; clear BK152; clear BK153; clear BK160; clear HB; clear HO_6; have HO_14 := n0_; have HO_161002 := n1_; have BK152 := n2_; have BK153 := n3_; have BK160 := n4_; have HB := n5_; have HO187 := n6_; clear n0_ n1_ n2_ n3_ n4_ n5_ n6_; clear ho hb hg hat))
                                                  go_roundg k5
                                                  case measure => have := HK1.out; have := HJ16.out; have := HJ26.out; have := HK4.out; have := HK5.out; omega
                                                  case rel => exact ⟨(y185), (wrap64 (x7_1 + 1)), (t168), (t169), (x161002_5), (u161002), rsE, H', ⟨by have := HK1.out; have := HJ16.out; have := HJ26.out; have := HK4.out; have := HK5.out; omega⟩, ⟨kdA HO187.out⟩, ⟨by (with_reducible repeat (first | apply Kd.R_alloc | apply Kd.R_drewN | apply Kd.R_drew)); exact Kd.R_mono HO_161002.out (fun _ hk => trivial)⟩, ⟨bkA BK152.out⟩, ⟨bkA BK153.out⟩, ⟨bkA BK160.out⟩, ⟨hbA HB.out⟩⟩
                                                · rw [if_neg c129] at H
                                                  exact absurd H (by simp)
                                        · rw [if_neg c78] at H
                                          exact absurd H (by simp)
                                      · rw [if_neg c77] at H
                                        exact absurd H (by simp)
                                    · rw [if_neg c69] at H
                                      exact absurd H (by simp)
                                  · rw [if_neg c68] at H
                                    exact absurd H (by simp)
                                · rw [if_neg c66] at H
                                  exact absurd H (by simp)
                              · rw [if_neg c65] at H
                                exact absurd H (by simp)
                      · rw [if_neg c50] at H
                        exact absurd H (by simp)
                    · rw [if_neg c49] at H
                      exact absurd H (by simp)
            · replace c26 := Bool.eq_false_iff.mpr c26
              subst c26
              rw [if_neg nofT] at H
              simp only [Option.some.injEq, Prod.mk.injEq] at H
              obtain ⟨rfl, rfl, rfl, rfl, rfl⟩ := H
              have hnb134 := NB160_152.out
              have hnc134 := NB152_160.out
              have hnb135 := NB160_153.out
              have hnc135 := NB153_160.out
              obtain ⟨hcz136_0, hcz136_1, hcz136_2, hfz136_0, hfz136_1, hfz136_2⟩ := cell3 BK160
              have hnb137 := NB153_152.out
              have hnc137 := NB152_153.out
              obtain ⟨hcz138_0, hcz138_1, hcz138_2, hfz138_0, hfz138_1, hfz138_2⟩ := cell3 BK153
              obtain ⟨Ao139, co139, eo139⟩ := Kd.R_slice HO_161002.out
              subst eo139
              go_wp2
              refine bodyPost_ret (results_ctt rfl _ _ gb153 24 #[.int .i64 x161000_1, .int .i64 x161001_1, .slice Ao139 x161002_1.length co139] (0, 0) _ rfl (by refine bkR ?_; refine blk_put (cs := #[.int .i64 x161000_1, .int .i64 x161001_1, .slice none 0 0]) ?_ 2 _ rfl; refine bkR ?_; refine blk_put (cs := #[.int .i64 x161000_1, .int .i64 0, .slice none 0 0]) ?_ 1 _ rfl; refine bkR ?_; refine blk_put (cs := #[.int .i64 0, .int .i64 0, .slice none 0 0]) ?_ 0 _ rfl; refine bkR ?_; exact BK153.out) Tryd.underlying24 rfl (by kernel_rfl)) rfl ?_
              exact ⟨_, _, rfE, by (with_reducible repeat (first | apply Kd.R_alloc | apply Kd.R_drewN | apply Kd.R_drew)); exact Kd.R_mono (Kd.R_far (p := ⟨gb153, 2, none⟩) (Kd.R_far (p := ⟨gb153, 1, none⟩) (Kd.R_far (p := ⟨gb153, 0, none⟩) (Kd.R_types HO_161002.out BK153.out (by decide)) (fun _ hk => hk.2) (.int .i64 x161000_1)) (fun _ hk => hk.2) (.int .i64 x161001_1)) (fun _ hk => hk.2) (.slice Ao139 x161002_1.length co139)) (fun _ hk => trivial), by (with_reducible repeat (first | apply Kd.R_alloc | apply Kd.R_drewN | apply Kd.R_drew)); exact Kd.R_mono (Kd.R_far (p := ⟨gb153, 2, none⟩) (Kd.R_far (p := ⟨gb153, 1, none⟩) (Kd.R_far (p := ⟨gb153, 0, none⟩) (Kd.R_types HO_6.out BK153.out (by decide)) (fun _ hk => hk.2) (.int .i64 x161000_1)) (fun _ hk => hk.2) (.int .i64 x161001_1)) (fun _ hk => hk.2) (.slice Ao139 x161002_1.length co139)) (fun _ hk => trivial), hbA HB.out⟩
  · replace c3 := Bool.eq_false_iff.mpr c3
    subst c3
    rw [if_neg nofT] at H
    simp only [Option.some.injEq, Prod.mk.injEq] at H
    obtain ⟨rfl, rfl, rfl, rfl, rfl⟩ := H
    go_enter Tryd.func96, Tryd.ntmps96
    go_wp2_with (first | ((with_reducible refine gD 1 rfl ?_); (try (refine gate_guard (by rfl) ?_; dsimp only)); refine bE 1 #[.int .i64 a0_0, .int .i64 a0_1, .slice A0_2 l0_2.length c0_2] 24 ?_; intro gb152 hg w140 hbox hb; have BK152 := Aside0.mk (hbox); have GW152 := hbS HB hg; have GE152 := hbS HB hg; replace HB := hbB HB hb; clear hb hbox hg) | ((with_reducible refine gD 2 rfl ?_); (try (refine gate_guard (by rfl) ?_; dsimp only)); refine bE 2 #[.int .i64 0, .int .i64 0, .slice none 0 0] 24 ?_; intro gb153 hg w141 hbox hb; have BK153 := Aside0.mk (hbox); have GW153 := hbS HB hg; have GE153 := hbS HB hg; replace HB := hbB HB hb; have NB152_153 := neL BK152 hg; have NB153_152 := neG BK152 hg; replace BK152 := bkB BK152 hb; clear hb hbox hg; have hnb142 := NB152_153.out; have hnc142 := NB153_152.out; obtain ⟨hcz143_0, hcz143_1, hcz143_2, hfz143_0, hfz143_1, hfz143_2⟩ := cell3 BK152) | ((with_reducible refine gC 45 rfl ?_); refine cG (some 20) Tryd.func45 #[.agg #[.int .i64 a0_0, .int .i64 a0_1, .slice A0_2 l0_2.length c0_2]] ?_; (with_reducible refine (recoupref03_Right.calls a0_0 a0_1 _ _ l0_2 false _ ?side1 ?side2 A2.out).mono ?_); (case side1 => exact kcB HR0_2 HB); (case side2 => exact HC0_2.out); rintro e w144 ⟨rfl, hb⟩; refine ⟨_, rfl, ?_⟩; replace BK152 := bkB BK152 hb; replace BK153 := bkB BK153 hb; replace HB := hbB HB hb; (try clear hb); (try clear hb2); (try clear hk); (try clear hi); obtain ⟨hcz145_0, hcz145_1, hcz145_2, hfz145_0, hfz145_1, hfz145_2⟩ := cell3 BK153))
    refine bodyPost_ret (results_ctt rfl _ _ gb153 24 #[.int .i64 0, .int .i64 0, .slice none 0 0] (0, 0) _ rfl (by refine bkR ?_; refine blk_put (cs := #[.int .i64 0, .int .i64 0, .slice none 0 0]) ?_ 2 _ rfl; refine bkR ?_; refine blk_put (cs := #[.int .i64 0, .int .i64 0, .slice none 0 0]) ?_ 1 _ rfl; refine bkR ?_; refine blk_put (cs := #[.int .i64 0, .int .i64 0, .slice none 0 0]) ?_ 0 _ rfl; refine bkR ?_; exact BK153.out) Tryd.underlying24 rfl (by kernel_rfl)) rfl ?_
    exact ⟨_, _, rfE, nilE, nilE, hbA HB.out⟩

end Go.Proofs.YtjgcocfnilhggaaDoor.Q
