/- Written by drive.py (a program of this repo, over the kit's print): each Go function named here answers what the Lean function beside it answers, wherever that one answers, in every world that meets the stated premises. -/
import Derived.Test.YtkagobkedifhkaaDoorQx0
import Derived.Test.YtkagobkedifhkaaDoorQx109
import Derived.Test.YtkagobkedifhkaaDoorQx142
namespace Go.Proofs.YtkagobkedifhkaaDoor.Q
open Go.RowKit Go.Proofs.YtkagobkedifhkaaDoorW.PrintWords Go.Proofs.YtkagobkedifhkaaDoorW.PrintLast Go.Proofs.YtkagobkedifhkaaDoorW.PrintMore
attribute [local go_sem] max2_int min2_int max_two min_two max_three min_three max_four min_four   -- for this text's walks alone
set_option linter.unusedVariables false
set_option linter.unusedSimpArgs false

/-! ### verdict_Decode: function 20 -/
def verdict_Decode.f (k : Nat) (a0_0 : Int) (a0_1 : Int) (l0_2 : List Int) (a1 : Int) : Option (Int × Int × List Int × Bool × Int) :=
 (verdict_rec.f k a0_0 a0_1 l0_2 a1).bind fun p => if p.2.1 = true then ((verdict_decode.f k a0_0 a0_1 l0_2 p.1).bind fun q => some (q.1, q.2.1, q.2.2.1, q.2.2.2 == 0, q.2.2.2)) else some (0, 0, [], false, p.2.2)
theorem verdict_Decode.mono : ∀ a0 a1 a2 a3 k, LeO (verdict_Decode.f k a0 a1 a2 a3) (verdict_Decode.f (k + 1) a0 a1 a2 a3) := fun a0 a1 a2 a3 k => by
 unfold verdict_Decode.f
 refine LeO.bind (verdict_rec.mono k a0 a1 a2 a3) fun p => ?_
 split
 ·exact LeO.bind (verdict_decode.mono _ _ _ _ _) fun q => LeO.refl _
 ·exact LeO.refl _
/-- What a call that stores a matrix into the box bd leaves. -/
structure Stored18 (w w' : World) (bd : Nat) (r1 r2 : Int) (r3 : List Int) : Prop where
 box : ∃ v : Value, w'.heap[bd]? = some (.cells #[.int .i64 r1, .int .i64 r2, v] 24 (0, 0)) ∧ Kd.R (Kd.int .u8) 5 w' w.heap.size (fun _ => True) v r3
 below : Below bd w w'
 same : ∀ k, k < w.heap.size → k ≠ bd → w'.heap[k]? = w.heap[k]?
set_option maxHeartbeats 4000000 in
set_option maxRecDepth 100000 in
theorem verdict_fn41.calls (k : Nat) (a b : Int) (A : Option Addr) (c : Nat) (l : List Int) (s r1 r2 : Int) (r3 : List Int) (r4 : Int) (bg bd : Nat) (w : World)
  (hg : w.heap[bg]? = some (.cells #[.int .i64 a, .int .i64 b, .slice A l.length c] 24 (0, 0))) (hd : w.heap[bd]? = some (.cells #[.int .i64 0, .int .i64 0, .slice none 0 0] 24 (0, 0)))
  (hr : Kd.C (Kd.int .u8) w A l.length l) (hc : l.length ≤ c) (h : verdict_decode.f k a b l s = some (r1, r2, r3, r4)) (hT : TabAt 0 Lib.deBruijn64tab w) :
  Calls Tryd.prog 41 #[.int .u64 s, .pointer (some ⟨bg, 0, none⟩), .pointer (some ⟨bd, 0, none⟩)] w fun e w' => e = .returned (.int .i64 r4) ∧ Stored18 w w' bd r1 r2 r3 := by
 have hu24 := Tryd.underlying24
 have HR := Aside0.mk hr
 have HC := Aside0.mk hc
 have HT := Aside0.mk hT
 have HH := Aside0.mk h
 have HB := Aside0.mk (Below.refl w.heap.size w)
 have HD := Aside0.mk hd
 have BK := Aside0.mk hg
 have hbd : bd < w.heap.size := (Array.getElem?_eq_some_iff.1 hd).1
 clear hr hc hT h hd hg
 obtain ⟨hcx_0, hcx_1, hcx_2, hfx_0, hfx_1, hfx_2⟩ := cell3 BK
 go_enter Tryd.func41, Tryd.ntmps41
 go_wp2_with (go_at_call 42; refine (verdict_decode.calls k a b A c l s r1 r2 r3 r4 _ HR.out HC.out HH.out HT.out).mono ?_; rintro e w1 ⟨v, rfl, ho, hb⟩; obtain ⟨Av, cv, ev⟩ := Kd.R_slice ho; subst ev; have HD1 := Aside0.mk (blk_below HD.out hb); obtain ⟨hcy_0, hcy_1, hcy_2, hfy_0, hfy_1, hfy_2⟩ := cell3 HD1)
 go_ret
 have b0 := blk_put (cs := #[.int .i64 0, .int .i64 0, .slice none 0 0]) HD1.out 0 (.int .i64 r1) rfl
 have b1 := blk_put (cs := #[.int .i64 r1, .int .i64 0, .slice none 0 0]) b0 1 (.int .i64 r2) rfl
 have b2 := blk_put (cs := #[.int .i64 r1, .int .i64 r2, .slice none 0 0]) b1 2 (.slice Av r3.length cv) rfl
 have ho' : Kd.R (Kd.int .u8) 5 w1 w.heap.size (fun k => True ∧ k ≠ bd) (.slice Av r3.length cv) r3 := Kd.R_types ho HD1.out (by decide)
 have o2 := Kd.R_far (p := ⟨bd, 2, none⟩) (Kd.R_far (p := ⟨bd, 1, none⟩) (Kd.R_far (p := ⟨bd, 0, none⟩) ho' (fun _ hk => hk.2) (.int .i64 r1)) (fun _ hk => hk.2) (.int .i64 r2)) (fun _ hk => hk.2) (.slice Av r3.length cv)
 have hw : Below bd w w1 := hb.mono (by omega)
 refine ⟨rfl, ⟨⟨_, b2, Kd.R_mono o2 fun _ _ => trivial⟩, ((hw.setCell (p := ⟨bd, 0, none⟩) (Nat.le_refl _) _).setCell (p := ⟨bd, 1, none⟩) (Nat.le_refl _) _).setCell (p := ⟨bd, 2, none⟩) (Nat.le_refl _) _, fun k hk hne => ?_⟩⟩
 rw [Below.heap_setCell _ _ _ k hne, Below.heap_setCell _ _ _ k hne, Below.heap_setCell _ _ _ k hne]
 exact hb.block k hk
/-- The box of a matrix, behind the turn of a mark. -/
theorem Stored18.mark {w W W2 : World} {bd D : Nat} {r1 r2 : Int} {r3 : List Int} (h : Stored18 W W2 bd r1 r2 r3) (hw : w.heap.size ≤ W.heap.size) (hbd : bd ≤ w.heap.size) (hD : w.heap.size ≤ D) (hK : W2.heap[D]? = some (.deferred (some []))) (hB : Below bd w W) :
  (∃ v : Value, (W2.putObj D (.deferred none)).heap[bd]? = some (.cells #[.int .i64 r1, .int .i64 r2, v] 24 (0, 0)) ∧ Kd.R (Kd.int .u8) 5 (W2.putObj D (.deferred none)) w.heap.size (fun _ => True) v r3) ∧ Below bd w (W2.putObj D (.deferred none)) := by
 obtain ⟨v, h1, h2⟩ := h.box
 have ne : ∀ k, (∃ (cells : Array Value) (t : TypeId), W2.heap[k]? = some (Obj.cells cells t ((0, 0) : Nat × Nat))) → (W2.putObj D (.deferred none)).heap[k]? = W2.heap[k]? := fun k hx => by
  obtain ⟨cells, t, hk⟩ := hx
  refine World.putObj_heap_other ?_
  intro e
  first
  | rw [e, hK] at hk; cases hk
  | rw [← e, hK] at hk; cases hk
 refine ⟨⟨v, (ne bd ⟨_, _, h1⟩).trans h1, ?_⟩, ?_⟩
 ·refine Kd.R_mono (Kd.R_step (Kd.R_bound (Kd.R_lower h2 hw)) fun k hk _ => ?_) fun _ _ => trivial
  obtain ⟨_, _, _, q, _, cells, hc⟩ := hk
  exact ne k ⟨cells, q, hc⟩
 ·have h3 := hB.trans h.below
  have hsz : D < W2.heap.size := (Array.getElem?_eq_some_iff.1 hK).1
  exact h3.grown (grownBy_putObj' W2 D (.deferred none)) (by have h4 := (Array.getElem?_eq_some_iff.1 h1).1; omega) (fun k e => by cases e; omega)
theorem verdict_recovered41.calls (k : Nat) (a b : Int) (A : Option Addr) (c : Nat) (l : List Int) (x : Int) (r1 r2 : Int) (r3 : List Int) (r4 : Bool) (r5 : Int) (bg bd : Nat) (w : World)
  (hr : Kd.C (Kd.int .u8) w A l.length l) (hc : l.length ≤ c) (h : verdict_Decode.f k a b l x = some (r1, r2, r3, r4, r5)) (hT : TabAt 0 Lib.deBruijn64tab w)
  (hg : w.heap[bg]? = some (.cells #[.int .i64 a, .int .i64 b, .slice A l.length c] 24 (0, 0))) (hd : w.heap[bd]? = some (.cells #[.int .i64 0, .int .i64 0, .slice none 0 0] 24 (0, 0))) :
  Calls Tryd.prog 30 #[.agg #[.int .i64 a, .int .i64 b, .slice A l.length c], .int .u64 x, .func (.func 41) #[] #[.pointer (some ⟨bg, 0, none⟩), .pointer (some ⟨bd, 0, none⟩)]] w fun e w' =>
   e = .returned (.tuple #[.bool r4, .int .i64 r5]) ∧ (∃ v : Value, w'.heap[bd]? = some (.cells #[.int .i64 r1, .int .i64 r2, v] 24 (0, 0)) ∧ Kd.R (Kd.int .u8) 5 w' w.heap.size (fun _ => True) v r3) ∧ Below bd w w' := by
 unfold verdict_Decode.f at h
 obtain ⟨⟨s, ok, er⟩, h1, h2⟩ := Option.bind_eq_some_iff.mp h
 have hlt : bd < w.heap.size := (Array.getElem?_eq_some_iff.1 hd).1
 cases ok with
 | false =>
  rw [if_neg (show ¬ (false = true) by decide)] at h2
  injection h2 with h2
  injection h2 with e1 h2
  injection h2 with e2 h2
  injection h2 with e3 h2
  injection h2 with e4 e5
  refine verdict_recovered.goes k a b A c l x s false er 41 _ w (fun W er2 W2 => True) _ hr hc h1 hT (enters_of Tryd.func41 (by kernel_rfl) rfl) (fun e => by cases e) (fun _ w' hB => ?_) (fun e => by cases e)
  rw [← e1, ← e2, ← e3, ← e4, ← e5]
  exact ⟨rfl, ⟨_, (hB.block _ hlt).trans hd, Kd.R_nil _ _ _ _ _⟩, hB.mono (Nat.le_of_lt hlt)⟩
 | true =>
  rw [if_pos rfl] at h2
  obtain ⟨⟨q1, q2, q3, q4⟩, h3, h2⟩ := Option.bind_eq_some_iff.mp h2
  injection h2 with h2
  injection h2 with e1 h2
  injection h2 with e2 h2
  injection h2 with e3 h2
  injection h2 with e4 e5
  dsimp only at e1 e2 e3 e4 e5
  subst e1 e2 e3 e5
  refine verdict_recovered.goes k a b A c l x s true er 41 #[.pointer (some ⟨bg, 0, none⟩), .pointer (some ⟨bd, 0, none⟩)] w (fun W er2 W2 => er2 = q4 ∧ Stored18 W W2 bd q1 q2 q3) _ hr hc h1 hT (enters_of Tryd.func41 (by kernel_rfl) rfl) (fun _ W hB => ?_) (fun e => by cases e) (fun _ W er2 W2 D hB hD1 hD2 hT2 hK => ?_)
  ·have hgW := (hB.block _ (Array.getElem?_eq_some_iff.1 hg).1).trans hg
   have hdW := (hB.block _ hlt).trans hd
   refine (verdict_fn41.calls k a b A c l s q1 q2 q3 q4 bg bd W hgW hdW (Kd.C_below hr hB) hc h3 (tab_below hT hB)).mono ?_
   rintro e W' ⟨rfl, hS⟩
   refine ⟨q4, rfl, ⟨rfl, hS⟩, fun D hD => ?_⟩
   refine (hS.same D (Array.getElem?_eq_some_iff.1 hD).1 ?_).trans hD
   intro e
   rw [e, hdW] at hD
   cases hD
  ·obtain ⟨rfl, hS⟩ := hT2
   have hm := hS.mark hB.size (Nat.le_of_lt hlt) hD1 hK (hB.mono (Nat.le_of_lt hlt))
   rw [← e4]
   exact ⟨rfl, hm.1, hm.2⟩
set_option maxHeartbeats 4000000 in
set_option maxRecDepth 100000 in
theorem verdict_Decode.calls (k : Nat) (a0_0 : Int) (a0_1 : Int) (A0_2 : Option Addr) (c0_2 : Nat) (l0_2 : List Int) (a1 : Int) (r1 : Int) (r2 : Int) (r3 : List Int) (r4 : Bool) (r5 : Int) (w : World) (hr0_2 : Kd.C (Kd.int .u8) w A0_2 l0_2.length l0_2) (hc0_2 : l0_2.length ≤ c0_2) (h : verdict_Decode.f k a0_0 a0_1 l0_2 a1 = some (r1, r2, r3, r4, r5)) (hT : TabAt 0 Lib.deBruijn64tab w) :
  Calls Tryd.prog 20 #[.agg #[.int .i64 a0_0, .int .i64 a0_1, .slice A0_2 l0_2.length c0_2], .int .u64 a1] w fun e w' => ∃ v2_ : Value, e = .returned (.tuple #[.agg #[.int .i64 r1, .int .i64 r2, v2_], .bool r4, .int .i64 r5]) ∧ Kd.R (Kd.int .u8) 5 w' w.heap.size (fun _ => True) v2_ r3 ∧ Below w.heap.size w w' := by
 have hu24 := Tryd.underlying24
 have HR := Aside0.mk hr0_2
 have HC := Aside0.mk hc0_2
 have HT := Aside0.mk hT
 have HH := Aside0.mk h
 have HB := Aside0.mk (Below.refl w.heap.size w)
 clear hr0_2 hc0_2 hT h
 have bk0 := World.alloc_heap_new w (.cells #[.int .i64 a0_0, .int .i64 a0_1, .slice A0_2 l0_2.length c0_2] 24)
 have BK := Aside0.mk ((Below.heap_alloc (w.alloc (.cells #[.int .i64 a0_0, .int .i64 a0_1, .slice A0_2 l0_2.length c0_2] 24)) (.cells #[.int .i64 0, .int .i64 0, .slice none 0 0] 24) _ (by simp)).trans bk0)
 have bd0 := World.alloc_heap_new (w.alloc (.cells #[.int .i64 a0_0, .int .i64 a0_1, .slice A0_2 l0_2.length c0_2] 24)) (.cells #[.int .i64 0, .int .i64 0, .slice none 0 0] 24)
 rw [World.size_alloc] at bd0
 have BD := Aside0.mk bd0
 obtain ⟨hcx_0, hcx_1, hcx_2, hfx_0, hfx_1, hfx_2⟩ := cell3 BK
 clear bk0 bd0
 go_enter Tryd.func20, Tryd.ntmps20
 go_wp2_with (go_at_call 30; refine (verdict_recovered41.calls k a0_0 a0_1 A0_2 c0_2 l0_2 a1 r1 r2 r3 r4 r5 w.heap.size (w.heap.size + 1) _ (kcB HR HB) HC.out HH.out (tab_below HT.out (hbA HB.out)) BK.out BD.out).mono ?_; rintro e w1 ⟨rfl, ⟨v, hv, ho⟩, hb⟩; obtain ⟨Av, cv, ev⟩ := Kd.R_slice ho; subst ev; have HV := Aside0.mk hv; clear hv; obtain ⟨hcy_0, hcy_1, hcy_2, hfy_0, hfy_1, hfy_2⟩ := cell3 HV)
 have b0 := blk_put (cs := #[.int .i64 r1, .int .i64 r2, .slice Av r3.length cv]) HV.out 0 (.int .i64 r1) rfl
 have b1 := blk_put (cs := #[.int .i64 r1, .int .i64 r2, .slice Av r3.length cv]) b0 1 (.int .i64 r2) rfl
 have b2 := blk_put (cs := #[.int .i64 r1, .int .i64 r2, .slice Av r3.length cv]) b1 2 (.slice Av r3.length cv) rfl
 have ho' := Kd.R_types ho HV.out (by decide)
 have o2 := Kd.R_far (p := ⟨w.heap.size + 1, 2, none⟩) (Kd.R_far (p := ⟨w.heap.size + 1, 1, none⟩) (Kd.R_far (p := ⟨w.heap.size + 1, 0, none⟩) ho' (fun _ hk => hk.2) (.int .i64 r1)) (fun _ hk => hk.2) (.int .i64 r2)) (fun _ hk => hk.2) (.slice Av r3.length cv)
 obtain ⟨hcz_0, hcz_1, hcz_2, hfz_0, hfz_1, hfz_2⟩ := cell3 (Aside0.mk b2)
 have h0 : Below w.heap.size w ((w.alloc (.cells #[.int .i64 a0_0, .int .i64 a0_1, .slice A0_2 l0_2.length c0_2] 24)).alloc (.cells #[.int .i64 0, .int .i64 0, .slice none 0 0] 24)) := hbA HB.out
 have hw := h0.trans (hb.mono (by omega))
 refine ⟨rfl, .tuple #[.agg #[.int .i64 r1, .int .i64 r2, .slice Av r3.length cv], .bool r4, .int .i64 r5], ?_, .slice Av r3.length cv, rfl, Kd.R_mono (Kd.R_lower o2 h0.size) fun _ _ => trivial, ?_⟩
 ·simp [results, show Tryd.f20.results = #[ResultVar.cell 4 24, ResultVar.tmp 5, ResultVar.tmp 6] from rfl, go_sem, hu24, hcz_0, hcz_1, hcz_2]
 ·exact ((hw.setCell (p := ⟨w.heap.size + 1, 0, none⟩) (by simp) _).setCell (p := ⟨w.heap.size + 1, 1, none⟩) (by simp) _).setCell (p := ⟨w.heap.size + 1, 2, none⟩) (by simp) _


end Go.Proofs.YtkagobkedifhkaaDoor.Q
