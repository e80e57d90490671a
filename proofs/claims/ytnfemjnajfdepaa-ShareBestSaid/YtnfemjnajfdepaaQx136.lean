/- Written by drive.py (a program of this repo, over the kit's print): each Go function named here answers what the Lean function beside it answers, wherever that one answers, in every world that meets the stated premises. -/
import Derived.Test.YtnfemjnajfdepaaQx0
import Derived.Shelf.Abstract
import Derived.Test.YtnfemjnajfdepaaSq
namespace Go.Proofs.Ytnfemjnajfdepaa.Q
open Go.RowKit Go.Proofs.YtnfemjnajfdepaaW.PrintWords Go.Proofs.YtnfemjnajfdepaaW.PrintLast Go.Proofs.YtnfemjnajfdepaaW.PrintMore
attribute [local go_sem] max2_int min2_int max_two min_two max_three min_three max_four min_four   -- for this text's walks alone
set_option linter.unusedVariables false
set_option linter.unusedSimpArgs false

/-! ### slices_ContainsFunc_int_int: function 36 -/
/-- The place of the first element of which p holds; -1: of none. -/
def idxP (p : Int → Bool) : List Int → Int → Int
 | [], _ => -1
 | x :: r, i => if p x = true then i else idxP p r (i + 1)
theorem idxP_any (p : Int → Bool) : ∀ (l : List Int) (i : Int), 0 ≤ i → decide (idxP p l i ≥ 0) = l.any p
 | [], i, _ => rfl
 | x :: r, i, hi => by
  unfold idxP
  cases h : p x
  ·rw [if_neg (by simp), List.any_cons, h, Bool.false_or]
   exact idxP_any p r (i + 1) (by omega)
  ·rw [if_pos rfl, List.any_cons, h, Bool.true_or]
   exact decide_eq_true hi
set_option maxHeartbeats 2000000 in
set_option maxRecDepth 100000 in
/-- slices.IndexFunc, over any closure that answers p and leaves what is there. -/
theorem idxf.calls (l : List Int) (A : Option Addr) (c : Nat) (p : Int → Bool) (tf : Nat) (caps : Array Value) (w : World) (hr : Kd.C (Kd.int .i64) w A l.length l) (hlen : l.length ≤ 140737488355328)
  (het : ∀ args W, (callFunc tf args).run Try.prog W = .ok (.enter tf args) W)
  (hp : ∀ x ∈ l, ∀ W, Below w.heap.size w W → Calls Try.prog tf (#[.int .i64 x] ++ caps) W fun e W' => e = .returned (.bool (p x)) ∧ Below W.heap.size W W') :
  Calls Try.prog 50 #[.slice A l.length c, .func (.func tf) #[] caps] w fun e w' => e = .returned (.int .i64 (idxP p l 0)) ∧ Below w.heap.size w w' := by
 have HC := Aside0.mk hr
 have HP := Aside0.mk hp
 clear hr hp
 obtain ⟨len, hl⟩ : ∃ n, n = l.length := ⟨_, rfl⟩
 rw [← hl] at hlen ⊢
 have HL := Aside0.mk hl
 clear hl
 go_enter Try.func50, Try.ntmps50
 go_wp2
 go_loopw [8] (fun v wr => ∃ i : Nat, i ≤ len ∧ v = .int .i64 i ∧ Aside0 (idxP p (l.drop i) i = idxP p l 0) ∧ Aside0 (Below w.heap.size w wr)) (fun v _ => len - (intOf v).toNat)
 case atStart => exact ⟨0, by omega, rfl, ⟨rfl⟩, ⟨Below.refl _ _⟩⟩
 case round =>
  obtain ⟨i, hi, rfl, HI, HB⟩ := hrel
  by_cases hlt : i < len
  ·obtain ⟨ad, eA, hx0⟩ := Kd.at_int HC.out (i : Int) (by omega) (by have := HL.out; omega)
   subst eA
   have hx1 := pw_cell_below HB.out hx0
   have hil : i < l.length := by have := HL.out; omega
   have hx : wr.cell? (ad.add i) = some (.int .i64 l[i]) := by
    rw [show l[i] = rd l (i : Int) from by simp [rd, hil]]
    simpa using hx1
   have HM := Aside0.mk (List.getElem_mem hil)
   have HI2 := Aside0.mk (show (if p l[i] = true then (i : Int) else idxP p (l.drop (i + 1)) ((i : Int) + 1)) = idxP p l 0 by
    have := HI.out
    rw [List.drop_eq_getElem_cons hil] at this
    exact this)
   obtain ⟨x, ex⟩ : ∃ x : Int, x = l[i] := ⟨_, rfl⟩
   rw [← ex] at hx HM HI2
   clear ex hx0 hx1 HI hil
   have HCall := Aside0.mk (fun W hW => HP.out x HM.out W hW)
   cases hpx : p x
   ·rw [hpx] at HCall HI2
    go_wp2
    refine (HCall.out _ HB.out).mono ?_
    rintro e w' ⟨rfl, hb⟩
    replace HB := Aside0.mk (HB.out.trans (hb.mono HB.out.size))
    go_wp2
    go_roundw
    case rel =>
     refine ⟨i + 1, by omega, by go_num, ⟨?_⟩, HB⟩
     have := HI2.out
     rw [if_neg (by simp)] at this
     simpa using this
    case measure =>
     simp [intOf]
     omega
   ·rw [hpx] at HCall HI2
    go_wp2
    refine (HCall.out _ HB.out).mono ?_
    rintro e w' ⟨rfl, hb⟩
    replace HB := Aside0.mk (HB.out.trans (hb.mono HB.out.size))
    go_wp2
    go_ret
    have := HI2.out
    rw [if_pos trivial] at this
    exact ⟨by rw [← this]; rfl, HB.out⟩
  ·go_wp2
   go_ret
   have := HI.out
   rw [List.drop_eq_nil_of_le (by have := HL.out; omega)] at this
   exact ⟨by rw [← this]; rfl, HB.out⟩
set_option maxHeartbeats 2000000 in
set_option maxRecDepth 100000 in
theorem contf.calls (l : List Int) (A : Option Addr) (c : Nat) (p : Int → Bool) (tf : Nat) (caps : Array Value) (w : World) (hr : Kd.C (Kd.int .i64) w A l.length l) (hlen : l.length ≤ 140737488355328)
  (het : ∀ args W, (callFunc tf args).run Try.prog W = .ok (.enter tf args) W)
  (hp : ∀ x ∈ l, ∀ W, Below w.heap.size w W → Calls Try.prog tf (#[.int .i64 x] ++ caps) W fun e W' => e = .returned (.bool (p x)) ∧ Below W.heap.size W W') :
  Calls Try.prog 36 #[.slice A l.length c, .func (.func tf) #[] caps] w fun e w' => e = .returned (.bool (l.any p)) ∧ Below w.heap.size w w' := by
 have HA := Aside0.mk (idxP_any p l 0 (Int.le_refl 0))
 have HI := Aside0.mk (idxf.calls l A c p tf caps w hr hlen het hp)
 clear hp hr
 go_enter Try.func36, Try.ntmps36
 go_wp2_with (go_at_call 50; refine HI.out.mono ?_; rintro e w' ⟨rfl, hb⟩)
 go_ret
 exact ⟨by rw [← HA.out]; rfl, hb⟩

def slices_ContainsFunc_int_int.f (l : List Int) (n : Int) : Option Bool := if l.length ≤ 140737488355328 then some (l.any fun v => decide (v < 0) || decide (n ≤ v)) else none
theorem flow_fn1.calls (x : Int) (g : Nat) (A0 A1 : Option Addr) (n0 c0 n1 c1 : Nat) (v2 : Value) (w : World) (hb : w.heap[g]? = some (.cells #[.slice A0 n0 c0, .slice A1 n1 c1, v2] 25 (0, 0))) :
  Calls Try.prog 37 #[.int .i64 x, .pointer (some ⟨g, 0, none⟩)] w fun e w' => e = .returned (.bool (decide (x < 0) || decide (wrap64 ((n0 : Int) + (n1 : Int)) ≤ x))) ∧ Below w.heap.size w w' := by
 have hu := Try.underlying25
 have BK := Aside0.mk hb
 obtain ⟨hcz_0, hcz_1, hcz_2, hfz_0, hfz_1, hfz_2⟩ := cell3 BK
 clear hb
 by_cases h0 : x < 0
 ·have c0 : decide (x < 0) = true := decide_eq_true h0
  rw [c0, Bool.true_or]
  clear h0
  go_enter Try.func37, Try.ntmps37
  go_wp2
  go_ret
  exact ⟨rfl, Below.refl _ _⟩
 ·have c0 : decide (x < 0) = false := decide_eq_false h0
  rw [c0, Bool.false_or]
  clear h0
  go_enter Try.func37, Try.ntmps37
  go_wp2
  go_ret
  exact ⟨rfl, Below.refl _ _⟩
theorem slices_ContainsFunc_int_int.calls (g : Nat) (A0 A1 : Option Addr) (n0 c0 n1 c1 : Nat) (v2 : Value) (A : Option Addr) (c : Nat) (l : List Int) (r : Bool) (w : World) (hb : w.heap[g]? = some (.cells #[.slice A0 n0 c0, .slice A1 n1 c1, v2] 25 (0, 0))) (hr : Kd.C (Kd.int .i64) w A l.length l) (hc : l.length ≤ c)
  (h : slices_ContainsFunc_int_int.f l (wrap64 ((n0 : Int) + (n1 : Int))) = some r) :
  Calls Try.prog 36 #[.slice A l.length c, .func (.func 37) #[] #[.pointer (some ⟨g, 0, none⟩)]] w fun e w' => e = .returned (.bool r) ∧ Below w.heap.size w w' := by
 unfold slices_ContainsFunc_int_int.f at h
 by_cases hl : l.length ≤ 140737488355328
 ·rw [if_pos hl] at h
  obtain rfl := Option.some.inj h
  have hlt : g < w.heap.size := (Array.getElem?_eq_some_iff.1 hb).1
  exact contf.calls l A c (fun v => decide (v < 0) || decide (wrap64 ((n0 : Int) + (n1 : Int)) ≤ v)) 37 #[.pointer (some ⟨g, 0, none⟩)] w hr hl (enters_of Try.func37 (by kernel_rfl) rfl)
   (fun x _ W hW => flow_fn1.calls x g A0 A1 n0 c0 n1 c1 v2 W ((hW.block _ hlt).trans hb))
 ·rw [if_neg hl] at h
  cases h


end Go.Proofs.Ytnfemjnajfdepaa.Q
