/- Written by drive.py (a program of this repo, over the kit's print): each Go function named here answers what the Lean function beside it answers, wherever that one answers, in every world that meets the stated premises. -/
import Derived.Test.YtjgcocfnilhggaaDoorQx0
import Derived.Test.YtjgcocfnilhggaaDoorQx161
import Derived.Test.YtjgcocfnilhggaaDoorQx164
import Derived.Shelf.Abstract
import Derived.Test.YtjgcocfnilhggaaDoorSq
namespace Go.Proofs.YtjgcocfnilhggaaDoor.Q
open Go.RowKit Go.Proofs.YtjgcocfnilhggaaDoorW.PrintWords Go.Proofs.YtjgcocfnilhggaaDoorW.PrintLast Go.Proofs.YtjgcocfnilhggaaDoorW.PrintMore
attribute [local go_sem] max2_int min2_int max_two min_two max_three min_three max_four min_four   -- for this text's walks alone
set_option linter.unusedVariables false
set_option linter.unusedSimpArgs false

/-! ### api_Set: function 59 -/
/-- The place of the first element of which p holds; -1: of none. -/
def idxP (p : Int → Bool) : List Int → Int → Int
 | [], _ => -1
 | x :: r, i => if p x = true then i else idxP p r (i + 1)
theorem idxP_any (p : Int → Bool) : ∀ (l : List Int) (i : Int), 0 ≤ i → decide (idxP p l i ≥ 0) = l.any p
 | [], i, _ => rfl
 | x :: r, i, hi => by
  unfold idxP
  cases h : p x
  ·rw [if_neg (by simp), List.any_cons, h, Bool.false_or]
   exact idxP_any p r (i + 1) (by omega)
  ·rw [if_pos rfl, List.any_cons, h, Bool.true_or]
   exact decide_eq_true hi
set_option maxHeartbeats 2000000 in
set_option maxRecDepth 100000 in
/-- slices.IndexFunc, over any closure that answers p and leaves what is there. -/
theorem idxf.calls (l : List Int) (A : Option Addr) (c : Nat) (p : Int → Bool) (tf : Nat) (caps : Array Value) (w : World) (hr : Kd.C (Kd.int .u64) w A l.length l) (hlen : l.length ≤ 140737488355328)
  (het : ∀ args W, (callFunc tf args).run Tryd.prog W = .ok (.enter tf args) W)
  (hp : ∀ x ∈ l, ∀ W, Below w.heap.size w W → Calls Tryd.prog tf (#[.int .u64 x] ++ caps) W fun e W' => e = .returned (.bool (p x)) ∧ Below W.heap.size W W') :
  Calls Tryd.prog 86 #[.slice A l.length c, .func (.func tf) #[] caps] w fun e w' => e = .returned (.int .i64 (idxP p l 0)) ∧ Below w.heap.size w w' := by
 have HC := Aside0.mk hr
 have HP := Aside0.mk hp
 clear hr hp
 obtain ⟨len, hl⟩ : ∃ n, n = l.length := ⟨_, rfl⟩
 rw [← hl] at hlen ⊢
 have HL := Aside0.mk hl
 clear hl
 go_enter Tryd.func86, Tryd.ntmps86
 go_wp2
 go_loopw [8] (fun v wr => ∃ i : Nat, i ≤ len ∧ v = .int .i64 i ∧ Aside0 (idxP p (l.drop i) i = idxP p l 0) ∧ Aside0 (Below w.heap.size w wr)) (fun v _ => len - (intOf v).toNat)
 case atStart => exact ⟨0, by omega, rfl, ⟨rfl⟩, ⟨Below.refl _ _⟩⟩
 case round =>
  obtain ⟨i, hi, rfl, HI, HB⟩ := hrel
  by_cases hlt : i < len
  ·obtain ⟨ad, eA, hx0⟩ := Kd.at_int HC.out (i : Int) (by omega) (by have := HL.out; omega)
   subst eA
   have hx1 := pw_cell_below HB.out hx0
   have hil : i < l.length := by have := HL.out; omega
   have hx : wr.cell? (ad.add i) = some (.int .u64 l[i]) := by
    rw [show l[i] = rd l (i : Int) from by simp [rd, hil]]
    simpa using hx1
   have HM := Aside0.mk (List.getElem_mem hil)
   have HI2 := Aside0.mk (show (if p l[i] = true then (i : Int) else idxP p (l.drop (i + 1)) ((i : Int) + 1)) = idxP p l 0 by
    have := HI.out
    rw [List.drop_eq_getElem_cons hil] at this
    exact this)
   obtain ⟨x, ex⟩ : ∃ x : Int, x = l[i] := ⟨_, rfl⟩
   rw [← ex] at hx HM HI2
   clear ex hx0 hx1 HI hil
   have HCall := Aside0.mk (fun W hW => HP.out x HM.out W hW)
   cases hpx : p x
   ·rw [hpx] at HCall HI2
    go_wp2
    refine (HCall.out _ HB.out).mono ?_
    rintro e w' ⟨rfl, hb⟩
    replace HB := Aside0.mk (HB.out.trans (hb.mono HB.out.size))
    go_wp2
    go_roundw
    case rel =>
     refine ⟨i + 1, by omega, by go_num, ⟨?_⟩, HB⟩
     have := HI2.out
     rw [if_neg (by simp)] at this
     simpa using this
    case measure =>
     simp [intOf]
     omega
   ·rw [hpx] at HCall HI2
    go_wp2
    refine (HCall.out _ HB.out).mono ?_
    rintro e w' ⟨rfl, hb⟩
    replace HB := Aside0.mk (HB.out.trans (hb.mono HB.out.size))
    go_wp2
    go_ret
    have := HI2.out
    rw [if_pos trivial] at this
    exact ⟨by rw [← this]; rfl, HB.out⟩
  ·go_wp2
   go_ret
   have := HI.out
   rw [List.drop_eq_nil_of_le (by have := HL.out; omega)] at this
   exact ⟨by rw [← this]; rfl, HB.out⟩
set_option maxHeartbeats 2000000 in
set_option maxRecDepth 100000 in
theorem contf.calls (l : List Int) (A : Option Addr) (c : Nat) (p : Int → Bool) (tf : Nat) (caps : Array Value) (w : World) (hr : Kd.C (Kd.int .u64) w A l.length l) (hlen : l.length ≤ 140737488355328)
  (het : ∀ args W, (callFunc tf args).run Tryd.prog W = .ok (.enter tf args) W)
  (hp : ∀ x ∈ l, ∀ W, Below w.heap.size w W → Calls Tryd.prog tf (#[.int .u64 x] ++ caps) W fun e W' => e = .returned (.bool (p x)) ∧ Below W.heap.size W W') :
  Calls Tryd.prog 59 #[.slice A l.length c, .func (.func tf) #[] caps] w fun e w' => e = .returned (.bool (l.any p)) ∧ Below w.heap.size w w' := by
 have HA := Aside0.mk (idxP_any p l 0 (Int.le_refl 0))
 have HI := Aside0.mk (idxf.calls l A c p tf caps w hr hlen het hp)
 clear hp hr
 go_enter Tryd.func59, Tryd.ntmps59
 go_wp2_with (go_at_call 86; refine HI.out.mono ?_; rintro e w' ⟨rfl, hb⟩)
 go_ret
 exact ⟨by rw [← HA.out]; rfl, hb⟩

/-! the closure of shape.May, and slices.ContainsFunc over it -/
/-- Whether something of a list is told false; where all is told. -/
def anyNo (p : Int → Option Bool) : List Int → Option Bool
 | [] => some false
 | x :: r => (p x).bind fun t => (anyNo p r).bind fun u => some (!t || u)
theorem anyNo_some (p : Int → Option Bool) : ∀ (l : List Int) (v : Bool), anyNo p l = some v → (∀ x ∈ l, ∃ t, p x = some t) ∧ v = l.any (fun x => p x == some false)
 | [], v, h => by
  have : v = false := (Option.some.inj h).symm
  subst this
  exact ⟨fun x hx => (by cases hx), rfl⟩
 | x :: r, v, h => by
  unfold anyNo at h
  obtain ⟨t, h1, h⟩ := Option.bind_eq_some_iff.mp h
  obtain ⟨u, h2, h⟩ := Option.bind_eq_some_iff.mp h
  obtain ⟨h3, h4⟩ := anyNo_some p r u h2
  have h5 := Option.some.inj h
  refine ⟨fun y hy => ?_, ?_⟩
  ·rcases List.mem_cons.1 hy with rfl | hy
   ·exact ⟨t, h1⟩
   ·exact h3 y hy
  ·rw [List.any_cons, h1, ← h4, ← h5]
   cases t <;> rfl
theorem anyNo_mono {p q : Int → Option Bool} (h : ∀ x, LeO (p x) (q x)) : ∀ l, LeO (anyNo p l) (anyNo q l)
 | [] => LeO.refl _
 | x :: r => by
  unfold anyNo
  exact LeO.bind (h x) fun _ => LeO.bind (anyNo_mono h r) fun _ => LeO.refl _
set_option maxHeartbeats 2000000 in
set_option maxRecDepth 100000 in
theorem shape_fn60.calls (k : Nat) (a b : Int) (A0 A1 : Option Addr) (c0 n1 c1 : Nat) (l : List Int) (x : Int) (r : Bool) (g : Nat) (w : World) (hb : w.heap[g]? = some (.cells #[.int .i64 a, .int .i64 b, .slice A0 l.length c0, .slice A1 n1 c1] 27 (0, 0)))
  (hr : Kd.C (Kd.int .u8) w A0 l.length l) (hc : l.length ≤ c0) (h : shape_rows_group.f k a b l x = some r) (hT : TabAt 0 Lib.deBruijn64tab w) :
  Calls Tryd.prog 60 #[.int .u64 x, .pointer (some ⟨g, 0, none⟩)] w fun e w' => e = .returned (.bool (!r)) ∧ Below w.heap.size w w' := by
 have hu27 := Tryd.underlying27
 have hu24 := Tryd.underlying24
 have hu99 := Tryd.underlying99
 have HR := Aside0.mk hr
 have HC := Aside0.mk hc
 have HH := Aside0.mk h
 have HT := Aside0.mk hT
 have BK := Aside0.mk hb
 have HB := Aside0.mk (Below.refl w.heap.size w)
 obtain ⟨hcz_0, hcz_1, hcz_2, hcz_3, hfz_0, hfz_1, hfz_2, hfz_3⟩ := cell4 BK
 clear hb hr hc h hT
 go_enter Tryd.func60, Tryd.ntmps60
 go_wp2_with (go_at_call 61; refine (shape_rows_group.calls k a b A0 c0 l x r _ (kcB HR HB) HC.out HH.out (tab_below HT.out (hbA HB.out))).mono ?_; rintro e w1 ⟨rfl, hb⟩; replace HB := hbB HB hb)
 go_ret
 exact ⟨rfl, hbA HB.out⟩
def api_Set.f (k : Nat) (l : List Int) (a b : Int) (lg : List Int) : Option Bool := if l.length ≤ 140737488355328 then anyNo (fun x => shape_rows_group.f k a b lg x) l else none
theorem api_Set.mono : ∀ l a b lg k, LeO (api_Set.f k l a b lg) (api_Set.f (k + 1) l a b lg) := by
 intro l a b lg k
 unfold api_Set.f
 split
 ·exact anyNo_mono (fun x => shape_rows_group.mono _ _ _ _ k) l
 ·exact LeO.none _
theorem api_Set.calls (g : Nat) (k : Nat) (A : Option Addr) (c : Nat) (l : List Int) (a b : Int) (A0 : Option Addr) (c0 : Nat) (lg : List Int) (r : Bool) (w : World) (A1 : Option Addr) (n1 c1 : Nat) (hb : w.heap[g]? = some (.cells #[.int .i64 a, .int .i64 b, .slice A0 lg.length c0, .slice A1 n1 c1] 27 (0, 0)))
  (hr : Kd.C (Kd.int .u64) w A l.length l) (hc : l.length ≤ c) (hrg : Kd.C (Kd.int .u8) w A0 lg.length lg) (hcg : lg.length ≤ c0) (h : api_Set.f k l a b lg = some r) (hT : TabAt 0 Lib.deBruijn64tab w) :
  Calls Tryd.prog 59 #[.slice A l.length c, .func (.func 60) #[] #[.pointer (some ⟨g, 0, none⟩)]] w fun e w' => e = .returned (.bool r) ∧ Below w.heap.size w w' := by
 unfold api_Set.f at h
 by_cases hl : l.length ≤ 140737488355328
 ·rw [if_pos hl] at h
  obtain ⟨h1, h2⟩ := anyNo_some _ l r h
  have hlt : g < w.heap.size := (Array.getElem?_eq_some_iff.1 hb).1
  rw [h2]
  refine contf.calls l A c (fun x => shape_rows_group.f k a b lg x == some false) 60 #[.pointer (some ⟨g, 0, none⟩)] w hr hl (enters_of Tryd.func60 (by kernel_rfl) rfl) fun x hx W hW => ?_
  obtain ⟨t, ht⟩ := h1 x hx
  rw [show (shape_rows_group.f k a b lg x == some false) = !t from by rw [ht]; cases t <;> rfl]
  exact shape_fn60.calls k a b A0 A1 c0 n1 c1 lg x t g W ((hW.block _ hlt).trans hb) (Kd.C_below hrg hW) hcg ht (tab_below hT hW)
 ·rw [if_neg hl] at h
  cases h


/-! ### shape_May: function 30 -/
def shape_May.f (k : Nat) (a0_0 : Int) (a0_1 : Int) (l0_2 : List Int) (l0_3 : List Int) : Option (Bool) := (shape_tall.f a0_0 a0_1 l0_2).bind fun t197 => (if t197 = true then ((api_Set.f k l0_3 a0_0 a0_1 l0_2).bind fun t198 => (some (!t198))) else (some false))
theorem shape_May.mono : ∀ a0 a1 a2 a3 k, LeO (shape_May.f k a0 a1 a2 a3) (shape_May.f (k + 1) a0 a1 a2 a3) := by
 intro a0 a1 a2 a3 k
 unfold shape_May.f
 repeat' first
   | (with_reducible exact api_Set.mono _ _ _ _ _)
   | (with_reducible exact LeO.refl _)
   | (with_reducible exact LeO.none _)
   | (with_reducible refine LeO.ite ?_ ?_)
   | (with_reducible refine LeO.bind ?_ (fun _ => ?_))
   | exact api_Set.mono _ _ _ _ _
   | exact LeO.none _
   | refine LeO.ite ?_ ?_
   | refine LeO.bind ?_ (fun _ => ?_)
set_option maxHeartbeats 8000000 in
set_option maxRecDepth 100000 in
theorem shape_May.calls (k : Nat) (a0_0 : Int) (a0_1 : Int) (A0_2 : Option Addr) (c0_2 : Nat) (l0_2 : List Int) (A0_3 : Option Addr) (c0_3 : Nat) (l0_3 : List Int) (r : Bool) (w : World) (hr0_2 : Kd.C (Kd.int .u8) w A0_2 l0_2.length l0_2) (hc0_2 : l0_2.length ≤ c0_2) (hr0_3 : Kd.C (Kd.int .u64) w A0_3 l0_3.length l0_3) (hc0_3 : l0_3.length ≤ c0_3) (h : shape_May.f k a0_0 a0_1 l0_2 l0_3 = some r) (hT : TabAt 0 Lib.deBruijn64tab w) :
  Calls Tryd.prog 30 #[.agg #[.int .i64 a0_0, .int .i64 a0_1, .slice A0_2 l0_2.length c0_2, .slice A0_3 l0_3.length c0_3]] w fun e w' => e = .returned (.bool r) ∧ Below w.heap.size w w' := by
 have HT := Aside0.mk hT
 clear hT
 have hu27 := Tryd.underlying27
 have hu24 := Tryd.underlying24
 have HR0_2 := Aside0.mk hr0_2
 have HC0_2 := Aside0.mk hc0_2
 clear hr0_2 hc0_2
 have HR0_3 := Aside0.mk hr0_3
 have HC0_3 := Aside0.mk hc0_3
 clear hr0_3 hc0_3
 have HB := Aside0.mk (Below.refl w.heap.size w)
 have H : ((shape_tall.f a0_0 a0_1 l0_2).bind fun t197 => (if t197 = true then ((api_Set.f k l0_3 a0_0 a0_1 l0_2).bind fun t198 => (some (!t198))) else (some false))) = some r := h
 clear h
 obtain ⟨t197, A2, H⟩ := bindO H
 (try dsimp only at H)
 by_cases c3 : t197 = true
 ·subst c3
  rw [if_pos rfl] at H
  obtain ⟨t198, A4, H⟩ := bindO H
  (try dsimp only at H)
  obtain rfl := Option.some.inj H
  go_enter Tryd.func30, Tryd.ntmps30
  go_wp2_with (first | ((with_reducible refine gD 1 rfl ?_); refine bE 1 #[.int .i64 a0_0, .int .i64 a0_1, .slice A0_2 l0_2.length c0_2, .slice A0_3 l0_3.length c0_3] 27 ?_; intro gb196 hg w5 hbox hb; have BK196 := Aside0.mk (hbox); have GW196 := hbS HB hg; have GE196 := hbS HB hg; replace HB := hbB HB hb; clear hb hbox hg; obtain ⟨hcz6_0, hcz6_1, hcz6_2, hcz6_3, hfz6_0, hfz6_1, hfz6_2, hfz6_3⟩ := cell4 BK196) | ((with_reducible refine gC 58 rfl ?_); refine cG (some 5) Tryd.func58 #[.agg #[.int .i64 a0_0, .int .i64 a0_1, .slice A0_2 l0_2.length c0_2]] ?_; (with_reducible refine (shape_tall.calls a0_0 a0_1 _ _ l0_2 true _ ?side1 ?side2 A2.out).mono ?_); (case side1 => exact kcB HR0_2 HB); (case side2 => exact HC0_2.out); rintro e w7 ⟨rfl, hb⟩; refine ⟨_, rfl, ?_⟩; replace BK196 := bkB BK196 hb; replace HB := hbB HB hb; (try clear hb); (try clear hb2); (try clear hk); (try clear hi); obtain ⟨hcz8_0, hcz8_1, hcz8_2, hcz8_3, hfz8_0, hfz8_1, hfz8_2, hfz8_3⟩ := cell4 BK196) | (go_at_call 59; (with_reducible refine (api_Set.calls gb196 k _ _ l0_3 a0_0 a0_1 _ _ l0_2 t198 _ _ _ _ (bkA BK196.out) ?side1 ?side2 ?side3 ?side4 A4.out (tab_below HT.out (by repeat (first | (with_reducible first | exact HB.out | apply below_alloc | apply pw_below_drewN | apply below_drew1) | exact HB.out | exact Below.refl _ _)))).mono ?_); (case side1 => exact kcB HR0_3 HB); (case side2 => exact HC0_3.out); (case side3 => exact kcB HR0_2 HB); (case side4 => exact HC0_2.out); rintro e w9 ⟨rfl, hb⟩; replace BK196 := bkB BK196 hb; replace HB := hbB HB hb; (try clear hb); (try clear hb2); (try clear hk); (try clear hi)))
  go_ret
  exact ⟨rfE, hbA HB.out⟩
 ·replace c3 := Bool.eq_false_iff.mpr c3
  subst c3
  rw [if_neg nofT] at H
  obtain rfl := Option.some.inj H
  go_enter Tryd.func30, Tryd.ntmps30
  go_wp2_with (first | ((with_reducible refine gD 1 rfl ?_); refine bE 1 #[.int .i64 a0_0, .int .i64 a0_1, .slice A0_2 l0_2.length c0_2, .slice A0_3 l0_3.length c0_3] 27 ?_; intro gb196 hg w10 hbox hb; have BK196 := Aside0.mk (hbox); have GW196 := hbS HB hg; have GE196 := hbS HB hg; replace HB := hbB HB hb; clear hb hbox hg; obtain ⟨hcz11_0, hcz11_1, hcz11_2, hcz11_3, hfz11_0, hfz11_1, hfz11_2, hfz11_3⟩ := cell4 BK196) | ((with_reducible refine gC 58 rfl ?_); refine cG (some 5) Tryd.func58 #[.agg #[.int .i64 a0_0, .int .i64 a0_1, .slice A0_2 l0_2.length c0_2]] ?_; (with_reducible refine (shape_tall.calls a0_0 a0_1 _ _ l0_2 false _ ?side1 ?side2 A2.out).mono ?_); (case side1 => exact kcB HR0_2 HB); (case side2 => exact HC0_2.out); rintro e w12 ⟨rfl, hb⟩; refine ⟨_, rfl, ?_⟩; replace BK196 := bkB BK196 hb; replace HB := hbB HB hb; (try clear hb); (try clear hb2); (try clear hk); (try clear hi)))
  go_ret
  exact ⟨rfE, hbA HB.out⟩

/-! ### subset_Has: function 31 -/
def subset_Has.f (a0 : Int) (a1 : Int) : Option (Bool) := if a1 ≥ 0 then (if a1 < 64 then (if 0 ≤ a1 then (some ((Go.bits .and .u64 (shr .u64 a0 a1) 1) == 1)) else (none)) else (some false)) else (some false)
set_option maxHeartbeats 8000000 in
set_option maxRecDepth 100000 in
theorem subset_Has.calls (a0 : Int) (a1 : Int) (r : Bool) (w : World) (h : subset_Has.f a0 a1 = some r) :
  Calls Tryd.prog 31 #[.int .u64 a0, .int .i64 a1] w fun e w' => e = .returned (.bool r) ∧ Drawn0 w w' := by
 have H : (if a1 ≥ 0 then (if a1 < 64 then (if 0 ≤ a1 then (some ((Go.bits .and .u64 (shr .u64 a0 a1) 1) == 1)) else (none)) else (some false)) else (some false)) = some r := h
 clear h
 by_cases c3 : a1 ≥ 0
 ·rw [if_pos c3] at H
  have c3b0 : decide (0 ≤ a1) = true := decide_eq_true c3
  clear c3
  by_cases c4 : a1 < 64
  ·rw [if_pos c4] at H
   have c4b0 : decide (a1 < 64) = true := decide_eq_true c4
   clear c4
   by_cases c5 : 0 ≤ a1
   ·rw [if_pos c5] at H
    have c5b0 := eq_true c5
    have c5b1 : decide (0 ≤ a1) = true := decide_eq_true c5
    clear c5
    obtain ⟨ji6, hji6⟩ : ∃ j_ : Int, (shr .u64 a0 a1) = j_ := ⟨_, rfl⟩
    replace H : (some ((Go.bits .and .u64 (ji6) 1) == 1)) = some r := by first | (rw [hji6] at H; exact H) | (simp only [hji6] at H ⊢; exact H)
    have hji6_ : (a0 / 2 ^ min a1.toNat 64) = ji6 := hji6
    have hji6z : a1 ≤ 64 → (a0 / 2 ^ a1.toNat) = ji6 := shr_small hji6
    obtain rfl := Option.some.inj H
    go_enter Tryd.func31, Tryd.ntmps31
    go_wp2
    go_ret
    exact ⟨by first | rfl | (simp; done) | (simp only [← hji6] <;> (first | rfl | simp)) | (simp [*]; done), by repeat (first | exact Drawn0.refl _ | apply Drawn0.step)⟩
   ·rw [if_neg c5] at H
    exact absurd H (by simp)
  ·rw [if_neg c4] at H
   have c4b0 : decide (a1 < 64) = false := decide_eq_false c4
   clear c4
   obtain rfl := Option.some.inj H
   go_enter Tryd.func31, Tryd.ntmps31
   go_wp2
   go_ret
   exact ⟨by first | rfl | (simp; done) | (simp [*]; done), by repeat (first | exact Drawn0.refl _ | apply Drawn0.step)⟩
 ·rw [if_neg c3] at H
  have c3b0 : decide (0 ≤ a1) = false := decide_eq_false c3
  clear c3
  obtain rfl := Option.some.inj H
  go_enter Tryd.func31, Tryd.ntmps31
  go_wp2
  go_ret
  exact ⟨by first | rfl | (simp; done) | (simp [*]; done), by repeat (first | exact Drawn0.refl _ | apply Drawn0.step)⟩

end Go.Proofs.YtjgcocfnilhggaaDoor.Q
