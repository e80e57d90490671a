/- Written by drive.py (a program of this repo, over the kit's print): each Go function named here answers what the Lean function beside it answers, wherever that one answers, in every world that meets the stated premises. -/
import Derived.Test.YtkagobkedifhkaaDoorQx0
import Derived.Test.YtkagobkedifhkaaDoorQx109
namespace Go.Proofs.YtkagobkedifhkaaDoor.Q
open Go.RowKit Go.Proofs.YtkagobkedifhkaaDoorW.PrintWords Go.Proofs.YtkagobkedifhkaaDoorW.PrintLast Go.Proofs.YtkagobkedifhkaaDoorW.PrintMore
attribute [local go_sem] max2_int min2_int max_two min_two max_three min_three max_four min_four   -- for this text's walks alone
set_option linter.unusedVariables false
set_option linter.unusedSimpArgs false
def verdict_Sources.f (k : Nat) (a0_0 : Int) (a0_1 : Int) (l0_2 : List Int) (a1 : Int) : Option (Int × Bool × Int) := (verdict_rec.f k a0_0 a0_1 l0_2 a1).bind fun p => some (if p.2.1 = true then p.1 else 0, p.2.1, if p.2.1 = true then 0 else p.2.2)
theorem verdict_fn34.calls (x v : Int) (bs : Nat) (w : World) (hb : Boxed w bs 26 (.int .u64 v)) : Calls Tryd.prog 34 #[.int .u64 x, .pointer (some ⟨bs, 0, none⟩)] w fun e w' => e = .returned (.int .i64 0) ∧ w' = w.setCell ⟨bs, 0, none⟩ (.int .u64 x) := by
 have c := hb.cell
 have f := hb.frozen
 go_enter Tryd.func34, Tryd.ntmps34
 go_wp2
 go_ret
 exact ⟨rfl, rfl⟩
theorem setCell_deferred {W : World} {bs D : Nat} {t : TypeId} {v v' : Value} (hb : Boxed W bs t v) (h : W.heap[D]? = some (.deferred (some []))) : (W.setCell ⟨bs, 0, none⟩ v').heap[D]? = some (.deferred (some [])) := by
 refine (Below.heap_setCell W ⟨bs, 0, none⟩ v' D ?_).trans h
 intro e
 have hb2 : W.heap[bs]? = some (.cells #[v] t (0, 0)) := hb
 have e : D = bs := e
 rw [← e, h] at hb2
 cases hb2
theorem boxed_mark {W : World} {bs D : Nat} {t : TypeId} {v : Value} (hb : Boxed W bs t v) (h : W.heap[D]? = some (.deferred (some []))) : Boxed (W.putObj D (.deferred none)) bs t v := by
 refine (World.putObj_heap_other ?_).trans hb
 intro e
 have hb2 : W.heap[bs]? = some (.cells #[v] t (0, 0)) := hb
 first
 | rw [e, h] at hb2; cases hb2
 | rw [← e, h] at hb2; cases hb2
theorem verdict_recovered34.calls (k : Nat) (a b : Int) (A : Option Addr) (c : Nat) (l : List Int) (x : Int) (r1 : Int) (r2 : Bool) (r3 : Int) (bs : Nat) (w : World)
  (hr : Kd.C (Kd.int .u8) w A l.length l) (hc : l.length ≤ c) (h : verdict_Sources.f k a b l x = some (r1, r2, r3)) (hT : TabAt 0 Lib.deBruijn64tab w) (hb : Boxed w bs 26 (.int .u64 0)) :
  Calls Tryd.prog 30 #[.agg #[.int .i64 a, .int .i64 b, .slice A l.length c], .int .u64 x, .func (.func 34) #[] #[.pointer (some ⟨bs, 0, none⟩)]] w fun e w' =>
   e = .returned (.tuple #[.bool r2, .int .i64 r3]) ∧ Boxed w' bs 26 (.int .u64 r1) ∧ Below bs w w' := by
 unfold verdict_Sources.f at h
 obtain ⟨⟨s, ok, er⟩, h1, h2⟩ := Option.bind_eq_some_iff.mp h
 injection h2 with h2
 injection h2 with e1 h2
 injection h2 with e2 e3
 have hlt := hb.lt
 refine verdict_recovered.goes k a b A c l x s ok er 34 #[.pointer (some ⟨bs, 0, none⟩)] w (fun W er2 W2 => er2 = 0 ∧ W2 = W.setCell ⟨bs, 0, none⟩ (.int .u64 s)) _ hr hc h1 hT (enters_of Tryd.func34 (by kernel_rfl) rfl) (fun _ W hB => ?_) (fun hok w' hB => ?_) (fun hok W er2 W2 D hB hD1 hD2 hT2 hK => ?_)
 ·have hbW : Boxed W bs 26 (.int .u64 0) := (hB.block _ hlt).trans hb
  refine (verdict_fn34.calls s 0 bs W hbW).mono ?_
  rintro e W' ⟨rfl, rfl⟩
  exact ⟨0, rfl, ⟨rfl, rfl⟩, fun D h => setCell_deferred hbW h⟩
 ·rw [← e1, ← e2, ← e3, hok]
  exact ⟨rfl, (hB.block _ hlt).trans hb, hB.mono (Nat.le_of_lt hlt)⟩
 ·obtain ⟨rfl, rfl⟩ := hT2
  have hbW : Boxed W bs 26 (.int .u64 0) := (hB.block _ hlt).trans hb
  rw [← e1, ← e2, ← e3, hok]
  refine ⟨rfl, boxed_mark (hbW.set _) hK, ?_⟩
  have h3 : Below bs w (W.setCell ⟨bs, 0, none⟩ (.int .u64 s)) := (hB.mono (Nat.le_of_lt hlt)).setCell (p := ⟨bs, 0, none⟩) (Nat.le_refl _) _
  exact h3.grown (grownBy_putObj' _ D (.deferred none)) (by have := h3.size; have := hbW.lt; omega) (fun k e => by cases e; omega)
set_option maxHeartbeats 4000000 in
set_option maxRecDepth 100000 in
theorem verdict_Sources.calls (k : Nat) (a0_0 : Int) (a0_1 : Int) (A0_2 : Option Addr) (c0_2 : Nat) (l0_2 : List Int) (a1 : Int) (r1 : Int) (r2 : Bool) (r3 : Int) (w : World) (hr0_2 : Kd.C (Kd.int .u8) w A0_2 l0_2.length l0_2) (hc0_2 : l0_2.length ≤ c0_2) (h : verdict_Sources.f k a0_0 a0_1 l0_2 a1 = some (r1, r2, r3)) (hT : TabAt 0 Lib.deBruijn64tab w) :
  Calls Tryd.prog 11 #[.agg #[.int .i64 a0_0, .int .i64 a0_1, .slice A0_2 l0_2.length c0_2], .int .u64 a1] w fun e w' => e = .returned (.tuple #[.int .u64 r1, .bool r2, .int .i64 r3]) ∧ Below w.heap.size w w' := by
 have hu24 := Tryd.underlying24
 have HR := Aside0.mk hr0_2
 have HC := Aside0.mk hc0_2
 have HT := Aside0.mk hT
 have HH := Aside0.mk h
 have HB := Aside0.mk (Below.refl w.heap.size w)
 clear hr0_2 hc0_2 hT h
 have bk0 := World.alloc_heap_new w (.cells #[.int .i64 a0_0, .int .i64 a0_1, .slice A0_2 l0_2.length c0_2] 24)
 have BK := Aside0.mk ((Below.heap_alloc (w.alloc (.cells #[.int .i64 a0_0, .int .i64 a0_1, .slice A0_2 l0_2.length c0_2] 24)) (.cells #[.int .u64 0] 26) _ (by simp)).trans bk0)
 have BS := Boxed.new (w.alloc (.cells #[.int .i64 a0_0, .int .i64 a0_1, .slice A0_2 l0_2.length c0_2] 24)) 26 (.int .u64 0)
 rw [World.size_alloc] at BS
 obtain ⟨hcx_0, hcx_1, hcx_2, hfx_0, hfx_1, hfx_2⟩ := cell3 BK
 clear bk0
 go_enter Tryd.func11, Tryd.ntmps11
 go_wp2_with (go_at_call 30; refine (verdict_recovered34.calls k a0_0 a0_1 A0_2 c0_2 l0_2 a1 r1 r2 r3 (w.heap.size + 1) _ (kcB HR HB) HC.out HH.out (tab_below HT.out (hbA HB.out)) BS).mono ?_; rintro e w1 ⟨rfl, hbs, hb⟩; have hcs := hbs.cell; have hfs := hbs.frozen)
 have hb2 := (hbs.set (.int .u64 r1)).cell
 refine ⟨rfl, .tuple #[.int .u64 r1, .bool r2, .int .i64 r3], ?_, rfl, ?_⟩
 ·simp [results, show Tryd.f11.results = #[ResultVar.cell 4 26, ResultVar.tmp 5, ResultVar.tmp 6] from rfl, go_sem, hb2]
 ·have h0 : Below w.heap.size w ((w.alloc (.cells #[.int .i64 a0_0, .int .i64 a0_1, .slice A0_2 l0_2.length c0_2] 24)).alloc (.cells #[.int .u64 0] 26)) := hbA HB.out
  exact (h0.trans (hb.mono (by omega))).setCell (p := ⟨w.heap.size + 1, 0, none⟩) (by simp) _
end Go.Proofs.YtkagobkedifhkaaDoor.Q
