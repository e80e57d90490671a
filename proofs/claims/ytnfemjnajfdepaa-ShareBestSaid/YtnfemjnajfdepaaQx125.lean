/- Written by drive.py (a program of this repo, over the kit's print): each Go function named here answers what the Lean function beside it answers, wherever that one answers, in every world that meets the stated premises. -/
import Derived.Test.YtnfemjnajfdepaaQx0
import Derived.Test.YtnfemjnajfdepaaQx138
import Derived.Test.YtnfemjnajfdepaaQx151
import Derived.Test.YtnfemjnajfdepaaQx152
import Derived.Maps.OwnIn
import Derived.Maps.RangeWalk
import Derived.Maps.OwnOps
import Derived.WideKeyEntry
import Derived.DeepKeys4
import Derived.Carry
import Derived.Test.YtnfemjnajfdepaaSq
namespace Go.Proofs.Ytnfemjnajfdepaa.Q
open Go.RowKit Go.Proofs.YtnfemjnajfdepaaW.PrintWords Go.Proofs.YtnfemjnajfdepaaW.PrintLast Go.Proofs.YtnfemjnajfdepaaW.PrintMore
attribute [local go_sem] max2_int min2_int max_two min_two max_three min_three max_four min_four   -- for this text's walks alone
set_option linter.unusedVariables false
set_option linter.unusedSimpArgs false

/-! ### share_best: function 25 -/
/-! ### a map from pairs to how often they came -/
open Go.Maps (Keyed IsMap has_put_same has_put_other atKey_put_same atKey_put_other isMap_empty)
abbrev Key := Int × Int × Int
def kval (q : Key) : Value := .agg #[.int .i64 q.1, .int .i64 q.2.1, .int .u8 q.2.2, .int .i64 0]
structure OkKey (q : Key) : Prop where
 a : (Lit.int .i64 q.1).wf = true
 b : (Lit.int .i64 q.2.1).wf = true
 c : (Lit.int .u8 q.2.2).wf = true
theorem tal_laid : laidOutB Try.prog = true := by kernel_rfl
theorem tal_row : (27 : TypeId) < Try.prog.types.size := of_decide_eq_true (by kernel_rfl)
theorem tal_at : Try.prog.keyTypeAt 2 27 = true := by kernel_rfl
theorem tal_law : WideMaps.KeyLaw Try.prog 27 := deep_law_laid tal_laid (m := 2) (by omega) tal_row tal_at (by rw [Try.underlying27])
theorem tal_keyed : Keyed Try.prog 27 := Keyed.of_law tal_law
theorem tal_kt : Try.prog.keyType 27 = true := by kernel_rfl
theorem tal_size : ∃ m, Try.prog.types.size + 1 = m + 3 := ⟨Try.prog.types.size - 2, by kernel_rfl⟩
def klit (q : Key) : Lit := .string (keyBytes [.int .i64 q.1, .int .i64 q.2.1, .int .u8 q.2.2, .int .i64 0])
theorem key_lit {q : Key} (h : OkKey q) : keyOf Try.prog 27 (kval q) = some (klit q) := by
 obtain ⟨m, hm⟩ := tal_size
 have c27 : Try.prog.cellsOf 27 = 4 := by kernel_rfl
 have c3 : Try.prog.cellsOf 3 = 1 := by kernel_rfl
 have c5 : Try.prog.cellsOf 5 = 1 := by kernel_rfl
 have h1 := h.a
 have h2 := h.b
 have h3 := h.c
 have h4 : (Lit.int .i64 0).wf = true := by decide
 have hf : (kval q).formed Try.prog 27 = true := by
  simp [kval, Value.formed, Try.underlying27, c27]
 have hl : Try.prog.keyLits (m + 3) 27 (kval q).cells.toList = some [.int .i64 q.1, .int .i64 q.2.1, .int .u8 q.2.2, .int .i64 0] := by
  simp [kval, Program.keyLits, Value.cells, Try.underlying27, Try.underlying3, Try.underlying5, c27, c3, c5, h1, h2, h3, h4]
 unfold keyOf
 rw [Try.underlying27]
 dsimp only
 rw [tal_kt, hf, hm, hl]
 rfl
theorem kval_inj {p q : Key} (h : kval p = kval q) : p = q := by
 obtain ⟨p1, p2, p3⟩ := p
 obtain ⟨q1, q2, q3⟩ := q
 simp only [kval, Value.agg.injEq, Array.mk.injEq, List.cons.injEq, Value.int.injEq] at h
 obtain ⟨⟨_, h1⟩, ⟨_, h2⟩, ⟨_, h3⟩, _⟩ := h
 rw [h1, h2, h3]
theorem klit_inj {p q : Key} (hp : OkKey p) (hq : OkKey q) (h : klit p = klit q) : p = q := by
 refine kval_inj (tal_keyed.inj (key_lit hp) ?_)
 rw [h]
 exact key_lit hq
abbrev z0 : DataW Unit := .lit (.int .i64 0)
/-- Block b is a map that tells how often each pair stands in ks. -/
structure Tal (w : World) (b : Nat) (ks : List Key) (D : DataW Unit) : Prop where
 ok : ∀ q ∈ ks, OkKey q
 own : w.ownsMap Try.prog 27 (plainElem (H := Unit) Try.prog 3) b ks.length D
 map : IsMap D
 cnt : ∀ q, OkKey q → D.atKey (klit q) z0 = .lit (.int .i64 (ks.count q : Int))
 has : ∀ kl, Maps.has D kl = true ↔ ∃ q ∈ ks, kl = klit q
theorem Tal.made (w : World) : Tal (w.alloc (.map #[] 0)) w.heap.size [] (.map []) :=
 ⟨fun _ h => by simp at h, World.ownsMap_made _ _ _ _, isMap_empty, fun q _ => rfl, fun kl => by simp [Maps.has]⟩
theorem Tal.kept {w w' : World} {b : Nat} {ks : List Key} {D : DataW Unit} (h : Tal w b ks D) {row : Option Nat} (hg : w.grownBy w' row) (hne : some b ≠ row) : Tal w' b ks D :=
 ⟨h.ok, h.own.kept hg hne, h.map, h.cnt, h.has⟩
/-- A pair more. -/
theorem Tal.put {w : World} {b : Nat} {ks : List Key} {D : DataW Unit} (h : Tal w b ks D) {q : Key} (hq : OkKey q) (hl : ks.length < 1000000) (w' : World) (hown : w'.ownsMap Try.prog 27 (plainElem (H := Unit) Try.prog 3) b (ks.length + 1) (D.put (klit q) (.lit (.int .i64 ((ks.count q : Int) + 1))))) :
  Tal w' b (ks ++ [q]) (D.put (klit q) (.lit (.int .i64 ((ks.count q : Int) + 1)))) := by
 have hkey := tal_keyed.key (key_lit hq)
 refine ⟨fun p hp => ?_, by rw [List.length_append]; exact hown, h.map.put _ _, fun p hp => ?_, fun kl => ?_⟩
 ·rcases List.mem_append.1 hp with hp | hp
  ·exact h.ok p hp
  ·rw [List.mem_singleton.1 hp]
   exact hq
 ·by_cases e : p = q
  ·subst e
   rw [atKey_put_same h.map hkey]
   simp [List.count_append]
  ·rw [atKey_put_other (fun e2 => e (klit_inj hp hq e2)), h.cnt p hp]
   rw [List.count_append, List.count_cons_of_ne (fun e2 => e e2.symm)]
   simp
 ·by_cases e : kl = klit q
  ·subst e
   rw [has_put_same h.map hkey]
   exact ⟨fun _ => ⟨q, by simp, rfl⟩, fun _ => rfl⟩
  ·rw [has_put_other e, h.has kl]
   constructor
   ·rintro ⟨p, hp, rfl⟩
    exact ⟨p, by simp [hp], rfl⟩
   ·rintro ⟨p, hp, rfl⟩
    rcases List.mem_append.1 hp with hp | hp
    ·exact ⟨p, hp, rfl⟩
    ·rw [List.mem_singleton.1 hp] at e
     exact absurd rfl e
theorem tal_zero (u : World) : (zeroValue 3).run Try.prog u = .ok (.int .i64 0) u := by kernel_rfl
/-- What the look-up, the entry and the store do. -/
theorem Tal.entry {w : World} {b : Nat} {ks : List Key} {D : DataW Unit} (h : Tal w b ks D) {q : Key} (hq : OkKey q) (hl : ks.length < 1000000) :
  ∃ (v0 : Value) (st : Nat) (w1 : World), (Instr.mapEntry 78 (.map (some b)) (kval q)).run Try.prog w = .ok (.tuple #[v0, goInt st]) w1 ∧ w.grownBy w1 (some b) ∧
   (Instr.lookup 78 (.map (some b)) (kval q) false).run Try.prog w = .ok (.int .i64 (ks.count q)) w ∧
   (Instr.lookup 78 (.map (some b)) (kval q) false).run Try.prog w1 = .ok (.int .i64 (ks.count q)) w1 ∧
   ∀ w2 : World, w2.heap[b]? = w1.heap[b]? → ∃ w3, (Instr.entryStore 78 (.map (some b)) (goInt st) (.int .i64 ((ks.count q : Int) + 1))).run Try.prog w2 = .ok () w3 ∧ w2.grownBy w3 (some b) ∧
    Tal w3 b (ks ++ [q]) (D.put (klit q) (.lit (.int .i64 ((ks.count q : Int) + 1)))) := by
 obtain ⟨es, clock, hb, F, hs, rfl⟩ := h.own
 have hown : w.ownsMap Try.prog 27 (plainElem (H := Unit) Try.prog 3) b ks.length (.map ((es.toList.map (WideElems.rg Try.prog 27 (plainElem (H := Unit) Try.prog 3))).foldr DataW.insert [])) := ⟨es, clock, hb, F, hs, rfl⟩
 obtain ⟨c, hlk, hat, hwc⟩ := hown.lookup_int (t := 78) (q := .i64) tal_keyed Try.underlying78 Try.underlying3 (tal_zero w) (key_lit hq)
 have hc : c = (ks.count q : Int) := by
  have h1 := h.cnt q hq
  rw [hat] at h1
  simpa using h1
 subst hc
 obtain ⟨v0, st, es1, clock1, hrun, _, hst⟩ := WideElems.entry_then_store (t := 78) tal_law Try.underlying78 tal_zero hb F (key_lit hq)
 have hw0 : (Lit.int .i64 0).wf = true := by decide
 have hlt : b < w.heap.size := hown.lt
 have hback : ∀ (val : Int) (w1 : World), (Lit.int .i64 val).wf = true → (Instr.mapUpdate 78 (.map (some b)) (kval q) (.int .i64 val)).run Try.prog w = .ok () w1 → w1.ownsMap Try.prog 27 (plainElem (H := Unit) Try.prog 3) b (ks.length + 1) ((DataW.map ((es.toList.map (WideElems.rg Try.prog 27 (plainElem (H := Unit) Try.prog 3))).foldr DataW.insert [])).put (klit q) (.lit (.int .i64 val))) ∧ w.grownBy w1 (some b) := fun val w1 hv hr => by
  obtain ⟨w', hr', ho', hg'⟩ := hown.update tal_keyed (t := 78) Try.underlying78 (show ks.length < maxLen by unfold maxLen; omega) (key_lit hq) (plainElem_int Try.underlying3 hv)
  rw [hr] at hr'
  injection hr' with _ e
  subst e
  exact ⟨ho', hg'⟩
 have hlook : ∀ (w1 : World), w1.ownsMap Try.prog 27 (plainElem (H := Unit) Try.prog 3) b (ks.length + 1) ((DataW.map ((es.toList.map (WideElems.rg Try.prog 27 (plainElem (H := Unit) Try.prog 3))).foldr DataW.insert [])).put (klit q) (.lit (.int .i64 (ks.count q)))) → (Instr.lookup 78 (.map (some b)) (kval q) false).run Try.prog w1 = .ok (.int .i64 (ks.count q)) w1 := fun w1 ho => by
  obtain ⟨c', hlk', hat', _⟩ := ho.lookup_int (t := 78) (q := .i64) tal_keyed Try.underlying78 Try.underlying3 (tal_zero w1) (key_lit hq)
  rw [atKey_put_same h.map (tal_keyed.key (key_lit hq))] at hat'
  have : (ks.count q : Int) = c' := by simpa using hat'
  rw [hlk', this]
 have hst3 : ∀ w2 : World, w2.heap[b]? = some (.map es1 clock1) → ∃ w3, (Instr.entryStore 78 (.map (some b)) (goInt st) (.int .i64 ((ks.count q : Int) + 1))).run Try.prog w2 = .ok () w3 ∧ w2.grownBy w3 (some b) ∧ Tal w3 b (ks ++ [q]) ((DataW.map ((es.toList.map (WideElems.rg Try.prog 27 (plainElem (H := Unit) Try.prog 3))).foldr DataW.insert [])).put (klit q) (.lit (.int .i64 ((ks.count q : Int) + 1)))) := fun w2 hw2 => by
  obtain ⟨es', clock', hr1, hr2⟩ := hst w2 (.int .i64 ((ks.count q : Int) + 1)) hw2
  have hcw : (Lit.int .i64 ((ks.count q : Int) + 1)).wf = true := WalkArith.wf_i64 (by have := List.count_le_length (a := q) (l := ks); omega)
  obtain ⟨ho', hg'⟩ := hback _ _ hcw hr2
  have hg2 : w2.grownBy (ChangeMaps.setBlock w2 b (.map es' clock')) (some b) := ⟨rfl, rfl, rfl, by simp [ChangeMaps.setBlock], fun i _ hi => ChangeMaps.heap_setBlock_other hw2 _ (fun e => hi (by rw [e]))⟩
  refine ⟨_, hr1, hg2, h.put hq hl _ ?_⟩
  obtain ⟨es2, clock2, hb2, F2, hs2, hD2⟩ := ho'
  refine ⟨es2, clock2, ?_, F2, hs2, hD2⟩
  rw [ChangeMaps.heap_setBlock_same hw2]
  rw [ChangeMaps.heap_setBlock_same hb] at hb2
  exact hb2
 rcases tal_law.find w (key_lit hq) es.toList F.keys with ⟨h1, h2⟩ | ⟨j, e0, h1, h2, h3⟩
 ·have e1 : (Instr.mapEntry 78 (.map (some b)) (kval q)).run Try.prog w = .ok (.tuple #[.int .i64 0, goInt clock]) (ChangeMaps.setBlock w b (.map (es.push ⟨kval q, .int .i64 0, clock⟩) (clock + 1))) := by
   simp [Instr.mapEntry, run_underlying Try.underlying78, MapKept.run_getObj_map hb, tal_law.check w false (key_lit hq), h1, tal_zero, MapKept.run_setObj_map _ hb, Result.andThen, ChangeMaps.setBlock]
  have e2 : (Instr.mapUpdate 78 (.map (some b)) (kval q) (.int .i64 0)).run Try.prog w = .ok () (ChangeMaps.setBlock w b (.map (es.push ⟨kval q, .int .i64 0, clock⟩) (clock + 1))) := by
   simp [Instr.mapUpdate, run_underlying Try.underlying78, MapKept.run_getObj_map hb, tal_law.check w false (key_lit hq), h1, MapKept.run_setObj_map _ hb, Result.andThen, ChangeMaps.setBlock]
  have hz : ks.count q = 0 := by
   have e3 : (Instr.lookup 78 (.map (some b)) (kval q) false).run Try.prog w = .ok (.int .i64 0) w := by
    simp [Instr.lookup, run_underlying Try.underlying78, MapKept.run_getObj_map hb, tal_law.check w _ (key_lit hq), h1, tal_zero, Result.andThen]
   have e6 := hlk.symm.trans e3
   simp only [Result.ok.injEq, Value.int.injEq, and_true, true_and] at e6
   omega
  obtain ⟨ho', hg'⟩ := hback 0 _ hw0 e2
  have hl1 : (Instr.lookup 78 (.map (some b)) (kval q) false).run Try.prog (ChangeMaps.setBlock w b (.map (es.push ⟨kval q, .int .i64 0, clock⟩) (clock + 1))) = .ok (.int .i64 (ks.count q)) (ChangeMaps.setBlock w b (.map (es.push ⟨kval q, .int .i64 0, clock⟩) (clock + 1))) := hlook _ (by rw [hz]; exact ho')
  rw [hrun] at e1
  injection e1 with e4 e5
  rw [← e5] at hl1 hg'
  exact ⟨v0, st, _, hrun, hg', hlk, hl1, fun w2 hw2 => hst3 w2 (hw2.trans (ChangeMaps.heap_setBlock_same hb _))⟩
 ·have hj : es[j]? = some e0 := by simpa using h2
  have hsame : es.modify j (fun e => { e with key := kval q }) = es := by
   refine Array.ext (by simp) fun i h4 h5 => ?_
   rw [Array.getElem_modify]
   split
   ·rename_i e
    subst e
    have h6 : es[j] = e0 := by
     rw [Array.getElem?_eq_getElem h5] at hj
     exact Option.some.inj hj
    rw [h6, ← h3]
   ·rfl
  have hsb : ChangeMaps.setBlock w b (.map es clock) = w := by
   have hbs : b < w.heap.size := hlt
   have h7 : w.heap[b] = .map es clock := by
    rw [Array.getElem?_eq_getElem hbs] at hb
    exact Option.some.inj hb
   unfold ChangeMaps.setBlock
   rw [show w.heap.setIfInBounds b (.map es clock) = w.heap from by
    refine Array.ext (by simp) fun i h4 h5 => ?_
    rw [Array.getElem_setIfInBounds]
    split
    ·rename_i e
     subst e
     exact h7.symm
    ·rfl]
  have e1 : (Instr.mapEntry 78 (.map (some b)) (kval q)).run Try.prog w = .ok (.tuple #[e0.val, goInt e0.born]) (ChangeMaps.setBlock w b (.map es clock)) := by
   simp [Instr.mapEntry, run_underlying Try.underlying78, MapKept.run_getObj_map hb, tal_law.check w false (key_lit hq), h1, hj, h3, tal_law.stays w (key_lit hq), hsame, MapKept.run_setObj_map _ hb, Result.andThen, ChangeMaps.setBlock]
  rw [hsb] at e1
  have e2 := hrun.symm.trans e1
  injection e2 with e4 e5
  rw [e5] at hrun
  have hg0 : w.grownBy w (some b) := ⟨rfl, rfl, rfl, Nat.le_refl _, fun _ _ _ => rfl⟩
  exact ⟨v0, st, w, hrun, hg0, hlk, hlk, fun w2 hw2 => hst3 w2 (hw2.trans (by rw [← e5]; exact ChangeMaps.heap_setBlock_same hb _))⟩

/-! ### the pairs of a flow -/
theorem xor8 (a b : Int) : 0 ≤ Go.bits .xor .u8 a b ∧ Go.bits .xor .u8 a b < 256 := by
 show 0 ≤ IntKind.u8.wrap _ ∧ IntKind.u8.wrap _ < 256
 rw [IntKind.wrap_u8]
 omega
def mulB (a b : Int) : Int := (field_Mul.f 9 a b).getD 0
theorem mul_ends : ∀ (k : Nat) (a b p : Int), 0 ≤ b → b < 2 ^ k → 0 ≤ p → p < 256 → ∃ r, field_Mul.l0 (k + 1) a b p = some r ∧ 0 ≤ r ∧ r < 256
 | 0, a, b, p, h0, h1, p0, p1 => by
  have : b = 0 := by omega
  subst this
  exact ⟨p, by simp [field_Mul.l0], p0, p1⟩
 | k + 1, a, b, p, h0, h1, p0, p1 => by
  have h2 : b / 2 < 2 ^ k := by
   rw [Int.pow_succ] at h1
   omega
  unfold field_Mul.l0
  by_cases e : b = 0
  ·rw [if_pos e]
   exact ⟨p, rfl, p0, p1⟩
  ·rw [if_neg e, field_build.dbl_call, Option.bind_some, Option.bind_some]
   split
   ·exact mul_ends k _ _ _ (by omega) h2 p0 p1
   ·have hx : 0 ≤ Go.bits .xor .u8 p a ∧ Go.bits .xor .u8 p a < 256 := xor8 _ _
    exact mul_ends k _ _ _ (by omega) h2 hx.1 hx.2
theorem mulB_some {a b : Int} (h : 0 ≤ b ∧ b < 256) : field_Mul.f 9 a b = some (mulB a b) ∧ 0 ≤ mulB a b ∧ mulB a b < 256 := by
 obtain ⟨r, hr, h1, h2⟩ := mul_ends 8 a b 0 h.1 (by omega) (by decide) (by decide)
 have e : field_Mul.f 9 a b = some r := hr
 unfold mulB
 rw [e]
 exact ⟨rfl, h1, h2⟩
def invAt (x : Int) : Int := (invTo 256).getD x.toNat 0
theorem invAt_range (x : Int) : 0 ≤ invAt x ∧ invAt x < 256 := by
 unfold invAt
 by_cases h : x.toNat < 256
 ·rw [List.getD_eq_getElem?_getD, List.getElem?_eq_getElem (by rw [invTo_length]; exact h)]
  show 0 ≤ (invTo 256)[x.toNat]'_ ∧ (invTo 256)[x.toNat]'_ < 256
  rw [invTo_get h]
  split
  ·rename_i h1
   exact (inv_some (by omega) (by omega)).2
  ·decide
 ·rw [List.getD_eq_getElem?_getD, List.getElem?_eq_none (by rw [invTo_length]; omega)]
  decide
def keyQ (t s : S61) : Key := (t.f0, s.f0, mulB s.f1 (invAt t.f1))
def pairsF (t : S61) (l : List S61) : List Key := l.map (keyQ t)
def keysN : List S61 → List Key
 | [] => []
 | t :: r => pairsF t r ++ keysN r
def keysL (L : List (List S61)) : List Key := L.flatMap keysN
/-- How many terms; as the program reckons. -/
def totT (L : List (List S61)) : Nat → Int
 | 0 => 0
 | i + 1 => wrap64 (totT L i + ((rd_L5 L (i : Int)).length : Int))
def okT (t : S61) : Bool := (Lit.int .i64 t.f0).wf && (Lit.int .u8 t.f1).wf
def okB (L : List (List S61)) : Bool := L.all (fun l => l.all okT) && decide ((keysL L).length < 1000000)

def cntQ (ks : List Key) (q : Key) : Int := (ks.count q : Int)
/-- Is a pair, with how often it came, ahead of another one? -/
def aheadQ (p q : Key × Int) : Bool := if p.2 ≠ q.2 then decide (p.2 > q.2) else if p.1.1 ≠ q.1.1 then decide (p.1.1 < q.1.1) else if p.1.2.1 ≠ q.1.2.1 then decide (p.1.2.1 < q.1.2.1) else decide (p.1.2.2 < q.1.2.2)
def stepQ (ks : List Key) (p : Key × Int) (q : Key) : Key × Int := if cntQ ks q > 1 ∧ aheadQ (q, cntQ ks q) p = true then (q, cntQ ks q) else p
def bestQ (ks : List Key) : Key × Int := ks.foldl (stepQ ks) ((0, 0, 0), 0)
def share_best.f (L : List (List S61)) : Option (Int × Int × Int × Int × Bool) :=
 if totT L L.length > 512 ∨ 4096 ≤ L.length then some (0, 0, 0, 0, false)
 else if okB L = true then some ((bestQ (keysL L)).1.1, (bestQ (keysL L)).1.2.1, (bestQ (keysL L)).1.2.2, (bestQ (keysL L)).2, decide ((bestQ (keysL L)).2 > 1)) else none

theorem set4 {W : World} {g t : Nat} {a b c d : Value} (h : W.heap[g]? = some (.cells #[a, b, c, d] t (0, 0))) (a' b' c' d' : Value) : ((((W.setCell ⟨g, 0, none⟩ a').setCell ⟨g, 1, none⟩ b').setCell ⟨g, 2, none⟩ c').setCell ⟨g, 3, none⟩ d').heap[g]? = some (.cells #[a', b', c', d'] t (0, 0)) :=
 blk_put (cs := #[a', b', c', d]) (blk_put (cs := #[a', b', c, d]) (blk_put (cs := #[a', b, c, d]) (blk_put (cs := #[a, b, c, d]) h 0 _ rfl) 1 _ rfl) 2 _ rfl) 3 _ rfl
theorem below4 {w0 W : World} {n g : Nat} (h : Below n w0 W) (hg : n ≤ g) (a' b' c' d' : Value) : Below n w0 ((((W.setCell ⟨g, 0, none⟩ a').setCell ⟨g, 1, none⟩ b').setCell ⟨g, 2, none⟩ c').setCell ⟨g, 3, none⟩ d') :=
 (((h.setCell (p := ⟨g, 0, none⟩) hg _).setCell (p := ⟨g, 1, none⟩) hg _).setCell (p := ⟨g, 2, none⟩) hg _).setCell (p := ⟨g, 3, none⟩) hg _

theorem keysL_step {L : List (List S61)} {i : Nat} (h : i < L.length) : keysL (L.drop i) = keysN (rd_L5 L (i : Int)) ++ keysL (L.drop (i + 1)) := by
 have e : rd_L5 L (i : Int) = L[i] := by simp [rd_L5, List.getD_eq_getElem?_getD, h]
 rw [e, List.drop_eq_getElem_cons h]
 rfl
theorem rd_T61_eq {l : List S61} {j : Nat} (h : j < l.length) : rd_T61 l (j : Int) = l[j] := by simp [rd_T61, List.getD_eq_getElem?_getD, h]
theorem keysN_step {l : List S61} {j : Nat} (h : j < l.length) : keysN (l.drop j) = pairsF (rd_T61 l (j : Int)) (l.drop (j + 1)) ++ keysN (l.drop (j + 1)) := by
 rw [rd_T61_eq h, List.drop_eq_getElem_cons h]
 rfl
theorem pairsF_step {t : S61} {l : List S61} {k : Nat} (h : k < l.length) : pairsF t (l.drop k) = keyQ t (rd_T61 l (k : Int)) :: pairsF t (l.drop (k + 1)) := by
 rw [rd_T61_eq h, List.drop_eq_getElem_cons h]
 rfl
theorem okT_wf {t : S61} (h : okT t = true) : (Lit.int .i64 t.f0).wf = true ∧ 0 ≤ t.f1 ∧ t.f1 < 256 := by
 unfold okT at h
 rw [Bool.and_eq_true] at h
 refine ⟨h.1, ?_⟩
 have h2 := h.2
 have e0 : IntKind.u8.min = 0 := rfl
 have e1 : IntKind.u8.max = 255 := rfl
 simp only [Lit.wf, Bool.and_eq_true, decide_eq_true_eq] at h2
 omega
theorem okT_at {l : List S61} (h : l.all okT = true) {j : Nat} (hj : j < l.length) : okT (rd_T61 l (j : Int)) = true := by
 rw [rd_T61_eq hj]
 exact List.all_eq_true.1 h _ (List.getElem_mem hj)
theorem okN_at {L : List (List S61)} (h : L.all (fun l => l.all okT) = true) {i : Nat} (hi : i < L.length) : (rd_L5 L (i : Int)).all okT = true := by
 have e : rd_L5 L (i : Int) = L[i] := by simp [rd_L5, List.getD_eq_getElem?_getD, hi]
 rw [e]
 exact List.all_eq_true.1 h _ (List.getElem_mem hi)
theorem keyQ_ok {t s : S61} (ht : okT t = true) (hs : okT s = true) : OkKey (keyQ t s) := by
 obtain ⟨t1, t2, t3⟩ := okT_wf ht
 obtain ⟨s1, s2, s3⟩ := okT_wf hs
 obtain ⟨_, m1, m2⟩ := mulB_some (a := s.f1) (invAt_range t.f1)
 refine ⟨t1, s1, ?_⟩
 show (Lit.int .u8 (mulB s.f1 (invAt t.f1))).wf = true
 have e0 : IntKind.u8.min = 0 := rfl
 have e1 : IntKind.u8.max = 255 := rfl
 simp only [Lit.wf, Bool.and_eq_true, decide_eq_true_eq]
 omega
theorem infoT61 : ∃ i, Try.prog.info? 61 = some i ∧ i.size = 2 := by
 have h := info61
 cases e : Try.prog.info? 61 with
 | none => rw [e] at h; cases h
 | some i =>
  rw [e] at h
  refine ⟨i, rfl, ?_⟩
  simp only [Option.map_some, Option.some.injEq, Prod.mk.injEq] at h
  exact h.2.1

theorem grow_none {u v : World} (h : Below u.heap.size u v) : u.grownBy v none := ⟨h.os, h.tape, h.output, h.size, fun k hk _ => h.block k hk⟩
theorem grow_set2 (W : World) (g : Nat) (a b : Value) : W.grownBy ((W.setCell ⟨g, 0, none⟩ a).setCell ⟨g, 1, none⟩ b) (some g) :=
 ⟨rfl, rfl, rfl, by simp, fun k _ hk => (Below.heap_setCell _ _ _ k (fun e => hk (by rw [e]))).trans (Below.heap_setCell _ _ _ k (fun e => hk (by rw [e])))⟩
theorem set2 {W : World} {g t : Nat} {a b : Value} (h : W.heap[g]? = some (.cells #[a, b] t (0, 0))) (a' b' : Value) : ((W.setCell ⟨g, 0, none⟩ a').setCell ⟨g, 1, none⟩ b').heap[g]? = some (.cells #[a', b'] t (0, 0)) :=
 blk_put (cs := #[a', b]) (blk_put (cs := #[a, b]) h 0 _ rfl) 1 _ rfl
theorem far2 {W : World} {g h t : Nat} {cs : Array Value} (k : W.heap[h]? = some (.cells cs t (0, 0))) (hne : h ≠ g) (a' b' : Value) : ((W.setCell ⟨g, 0, none⟩ a').setCell ⟨g, 1, none⟩ b').heap[h]? = some (.cells cs t (0, 0)) :=
 blk_far (blk_far k hne _) hne _
theorem below2 {w0 W : World} {n g : Nat} (h : Below n w0 W) (hg : n ≤ g) (a' b' : Value) : Below n w0 ((W.setCell ⟨g, 0, none⟩ a').setCell ⟨g, 1, none⟩ b') :=
 (h.setCell (p := ⟨g, 0, none⟩) hg _).setCell (p := ⟨g, 1, none⟩) hg _

theorem bcell_same {w w1 : World} {p : Addr} (h : w1.heap[p.block]? = w.heap[p.block]?) : w1.cell? p = w.cell? p := by unfold World.cell?; rw [h]
theorem bwrap_small {n : Int} (h0 : 0 ≤ n) (h1 : n ≤ 1000000000) : wrap64 n = n := by unfold wrap64; omega
theorem biwrap_small {n : Int} (h0 : 0 ≤ n) (h1 : n ≤ 1000000000) : IntKind.i64.wrap n = n := by rw [i64_w, bwrap_small h0 h1]

theorem far4 {W : World} {g h j : Nat} {v : Value} (hne : g ≠ h) (a b c d : Value) (k : W.cell? ⟨h, j, none⟩ = some v) : ((((W.setCell ⟨g, 0, none⟩ a).setCell ⟨g, 1, none⟩ b).setCell ⟨g, 2, none⟩ c).setCell ⟨g, 3, none⟩ d).cell? ⟨h, j, none⟩ = some v := by
 rw [World.cell?_setCell_other _ _ _ _ (by intro e; injection e with e; first | exact hne e | exact hne e.symm), World.cell?_setCell_other _ _ _ _ (by intro e; injection e with e; first | exact hne e | exact hne e.symm), World.cell?_setCell_other _ _ _ _ (by intro e; injection e with e; first | exact hne e | exact hne e.symm), World.cell?_setCell_other _ _ _ _ (by intro e; injection e with e; first | exact hne e | exact hne e.symm)]
 exact k

theorem grow4 (W : World) (g : Nat) (a b c d : Value) : W.grownBy ((((W.setCell ⟨g, 0, none⟩ a).setCell ⟨g, 1, none⟩ b).setCell ⟨g, 2, none⟩ c).setCell ⟨g, 3, none⟩ d) (some g) :=
 ⟨rfl, rfl, rfl, by simp, fun k _ hk => by
  have h : k ≠ g := fun e => hk (by rw [e])
  exact (Below.heap_setCell _ _ _ k h).trans ((Below.heap_setCell _ _ _ k h).trans ((Below.heap_setCell _ _ _ k h).trans (Below.heap_setCell _ _ _ k h)))⟩
theorem bfar4 {W : World} {g h t : Nat} {cs : Array Value} (k : W.heap[h]? = some (.cells cs t (0, 0))) (hne : h ≠ g) (a b c d : Value) : ((((W.setCell ⟨g, 0, none⟩ a).setCell ⟨g, 1, none⟩ b).setCell ⟨g, 2, none⟩ c).setCell ⟨g, 3, none⟩ d).heap[h]? = some (.cells cs t (0, 0)) :=
 blk_far (blk_far (blk_far (blk_far k hne _) hne _) hne _) hne _

/-! ### the best pair, whatever the order -/
theorem aheadQ_iff (p q : Key × Int) : aheadQ p q = true ↔ (p.2 > q.2 ∨ (p.2 = q.2 ∧ (p.1.1 < q.1.1 ∨ (p.1.1 = q.1.1 ∧ (p.1.2.1 < q.1.2.1 ∨ (p.1.2.1 = q.1.2.1 ∧ p.1.2.2 < q.1.2.2)))))) := by
 unfold aheadQ
 split
 ·rw [decide_eq_true_eq]; omega
 ·split
  ·rw [decide_eq_true_eq]; omega
  ·split
   ·rw [decide_eq_true_eq]; omega
   ·rw [decide_eq_true_eq]; omega
theorem ahead_trans {p q r : Key × Int} (h : aheadQ p q = true) (k : aheadQ q r = true) : aheadQ p r = true := by
 rw [aheadQ_iff] at *
 omega
theorem ahead_asymm {p q : Key × Int} (h : aheadQ p q = true) (k : aheadQ q p = true) : False := by
 rw [aheadQ_iff] at *
 omega
theorem ahead_total {p q : Key × Int} (h : ¬ aheadQ p q = true) (hne : p ≠ q) : aheadQ q p = true := by
 rw [aheadQ_iff] at *
 obtain ⟨⟨a, b, c⟩, d⟩ := p
 obtain ⟨⟨a', b', c'⟩, d'⟩ := q
 dsimp only at *
 by_cases e : a = a' ∧ b = b' ∧ c = c' ∧ d = d'
 ·obtain ⟨rfl, rfl, rfl, rfl⟩ := e
  exact absurd rfl hne
 ·omega
def IsBest (V : Key → Prop) (ks : List Key) (P : Key × Int) : Prop :=
 (P = ((0, 0, 0), 0) ∧ ∀ q, V q → cntQ ks q ≤ 1) ∨ (V P.1 ∧ P.2 = cntQ ks P.1 ∧ cntQ ks P.1 > 1 ∧ ∀ q, V q → cntQ ks q > 1 → q = P.1 ∨ aheadQ P (q, cntQ ks q) = true)
theorem IsBest.step {V V' : Key → Prop} {ks : List Key} {P : Key × Int} {q0 : Key} (h : IsBest V ks P) (hV : ∀ q, V' q ↔ V q ∨ q = q0) : IsBest V' ks (stepQ ks P q0) := by
 unfold stepQ
 by_cases hc : cntQ ks q0 > 1 ∧ aheadQ (q0, cntQ ks q0) P = true
 ·rw [if_pos hc]
  refine .inr ⟨(hV q0).2 (.inr rfl), rfl, hc.1, fun q hq h1 => ?_⟩
  by_cases e : q = q0
  ·exact .inl e
  ·have hv : V q := ((hV q).1 hq).resolve_right e
   rcases h with ⟨_, h2⟩ | ⟨_, h2, _, h4⟩
   ·have := h2 q hv
    omega
   ·rcases h4 q hv h1 with e2 | h5
    ·subst e2
     refine .inr ?_
     rw [show ((P.1, cntQ ks P.1) : Key × Int) = P from by rw [← h2]]
     exact hc.2
    ·exact .inr (ahead_trans hc.2 h5)
 ·rw [if_neg hc]
  rcases h with ⟨rfl, h2⟩ | ⟨h1, h2, h3, h4⟩
  ·refine .inl ⟨rfl, fun q hq => ?_⟩
   rcases (hV q).1 hq with hq | rfl
   ·exact h2 q hq
   ·rcases Int.lt_or_le 1 (cntQ ks q) with h5 | h5
    ·refine absurd ⟨h5, ?_⟩ hc
     rw [aheadQ_iff]
     exact .inl (show cntQ ks q > 0 by omega)
    ·exact h5
  ·refine .inr ⟨(hV _).2 (.inl h1), h2, h3, fun q hq h5 => ?_⟩
   rcases (hV q).1 hq with hq | rfl
   ·exact h4 q hq h5
   ·by_cases e : q = P.1
    ·exact .inl e
    ·refine .inr (ahead_total (fun h6 => hc ⟨h5, h6⟩) fun e2 => e ?_)
     rw [← e2]
theorem IsBest.unique {V : Key → Prop} {ks : List Key} {P P' : Key × Int} (h : IsBest V ks P) (h' : IsBest V ks P') : P = P' := by
 rcases h with ⟨rfl, a⟩ | ⟨a1, a2, a3, a4⟩
 ·rcases h' with ⟨rfl, _⟩ | ⟨b1, b2, b3, b4⟩
  ·rfl
  ·have := a _ b1
   omega
 ·rcases h' with ⟨rfl, b⟩ | ⟨b1, b2, b3, b4⟩
  ·have := b _ a1
   omega
  ·have e : P.1 = P'.1 := by
    rcases a4 _ b1 b3 with e | h1
    ·exact e.symm
    ·rcases b4 _ a1 a3 with e | h2
     ·exact e
     ·rw [show ((P'.1, cntQ ks P'.1) : Key × Int) = P' from by rw [← b2]] at h1
      rw [show ((P.1, cntQ ks P.1) : Key × Int) = P from by rw [← a2]] at h2
      exact (ahead_asymm h1 h2).elim
   exact Prod.ext e (by rw [a2, b2, e])
theorem IsBest.congr {V V' : Key → Prop} {ks : List Key} {P : Key × Int} (h : IsBest V ks P) (hV : ∀ q, V q ↔ V' q) : IsBest V' ks P := by
 have e : V = V' := funext fun q => propext (hV q)
 rwa [← e]
theorem bestQ_fold (ks : List Key) : ∀ (l l' : List Key) (P : Key × Int), IsBest (fun q => q ∈ l') ks P → IsBest (fun q => q ∈ l' ++ l) ks (l.foldl (stepQ ks) P)
 | [], l', P, h => by simpa using h
 | x :: l, l', P, h => by
  have h2 := bestQ_fold ks l (l' ++ [x]) (stepQ ks P x) (h.step fun q => by simp)
  rw [List.append_assoc] at h2
  exact h2
theorem bestQ_is (ks : List Key) : IsBest (fun q => q ∈ ks) ks (bestQ ks) :=
 bestQ_fold ks ks [] _ (.inl ⟨rfl, fun q hq => absurd hq (by simp)⟩)
theorem ahead_f (q : Key) (c : Int) (P : Key × Int) : share_ahead.f q.1 q.2.1 q.2.2 c P.1.1 P.1.2.1 P.1.2.2 P.2 = some (aheadQ (q, c) P) := by
 unfold share_ahead.f aheadQ
 by_cases h1 : c = P.2
 ·by_cases h2 : q.1 = P.1.1
  ·by_cases h3 : q.2.1 = P.1.2.1
   ·simp [h1, h2, h3]
   ·simp [h1, h2, h3]
  ·simp [h1, h2]
 ·simp [h1]
theorem rng_has {w : World} {b r n : Nat} {D : DataW Unit} {left : Lit → Bool} {cnt : Nat} {kl : Lit} (h : w.ranges Try.prog 27 (plainElem (H := Unit) Try.prog 3) b r n D left cnt) (hl : left kl = true) : Maps.has D kl = true := by
 obtain ⟨es, clock, since, seen, c0, hb, F, hs, rfl, hr, hold, hc, hl1, hl2, _⟩ := h
 obtain ⟨x, hx, rfl⟩ := hl2 kl hl
 obtain ⟨y, hy⟩ := F.reads x hx
 exact List.any_eq_true.2 ⟨WideElems.rg Try.prog 27 (plainElem (H := Unit) Try.prog 3) x, mem_sorted.2 (List.mem_map.2 ⟨x, hx, rfl⟩), WideAt.sameKey_self (by rw [WideElems.rg_of hy]; exact tal_keyed.key (WideElems.rd_key hy))⟩
/-- The range's step, in the pairs' words. -/
theorem rng_next {w : World} {b r : Nat} {ks : List Key} {D : DataW Unit} {left : Lit → Bool} {cnt : Nat} (hT : ∃ w', Tal w' b ks D) (h : w.ranges Try.prog 27 (plainElem (H := Unit) Try.prog 3) b r ks.length D left cnt) :
  ((∀ kl, left kl = false) ∧ (Instr.next (.pointer (some ⟨r, 0, none⟩)) false 0).run Try.prog w = .ok (.tuple #[.bool false]) w) ∨
  ∃ (q : Key) (w' : World) (cnt' : Nat), q ∈ ks ∧ (Instr.next (.pointer (some ⟨r, 0, none⟩)) false 0).run Try.prog w = .ok (.tuple #[.bool true, kval q, .int .i64 (cntQ ks q)]) w' ∧ w'.ranges Try.prog 27 (plainElem (H := Unit) Try.prog 3) b r ks.length D (fun x => left x && !x.sameKey (klit q)) cnt' ∧ cnt' < cnt ∧ w.grownBy w' (some r) ∧ w'.heap.size = w.heap.size ∧
   (Instr.entry (.pointer (some ⟨r, 0, none⟩))).run Try.prog w' = .ok (.tuple #[kval q, .int .i64 (cntQ ks q)]) w' := by
 obtain ⟨wT, hT⟩ := hT
 rcases h.next tal_keyed 0 with ⟨_, hl, hrun⟩ | ⟨key, v, kl, y, w', cnt', hkey, hlk, hv, hat, hrun, hrg, hlt, hgr, hsz, hen⟩
 ·exact .inl ⟨hl, hrun⟩
 ·obtain ⟨q, hq, rfl⟩ := (hT.has kl).1 (rng_has h hlk)
  obtain rfl : key = kval q := tal_keyed.inj hkey (key_lit (hT.ok q hq))
  obtain ⟨a, rfl, rfl, _⟩ := plainElem_int_inv Try.underlying3 hv
  have e : a = cntQ ks q := by
   have h1 := hat z0
   rw [hT.cnt q (hT.ok q hq)] at h1
   have h2 : (ks.count q : Int) = a := by simpa using h1
   exact h2.symm
  subst e
  exact .inr ⟨q, w', cnt', hq, hrun, hrg, hlt, hgr, hsz, hen⟩
theorem best_more {ks : List Key} {left : Lit → Bool} {P : Key × Int} {q : Key} (hok : ∀ p ∈ ks, OkKey p) (hq : q ∈ ks) (h : IsBest (fun p => p ∈ ks ∧ left (klit p) = false) ks P) :
  IsBest (fun p => p ∈ ks ∧ (left (klit p) && !(klit p).sameKey (klit q)) = false) ks (stepQ ks P q) := by
 refine h.step fun p => ?_
 have hkey := tal_keyed.key (key_lit (hok q hq))
 constructor
 ·rintro ⟨hp, h1⟩
  by_cases e : left (klit p) = true
  ·rw [e, Bool.true_and, Bool.not_eq_false'] at h1
   exact .inr (klit_inj (hok p hp) (hok q hq) (WideAt.sameKey_eq h1))
  ·exact .inl ⟨hp, by simpa using e⟩
 ·rintro (⟨hp, h1⟩ | rfl)
  ·exact ⟨hp, by rw [h1, Bool.false_and]⟩
  ·exact ⟨hq, by rw [WideAt.sameKey_self hkey]; simp⟩
theorem best_start {w : World} {b : Nat} {ks : List Key} {D : DataW Unit} (hT : Tal w b ks D) : IsBest (fun p => p ∈ ks ∧ Maps.has D (klit p) = false) ks ((0, 0, 0), 0) := by
 refine .inl ⟨rfl, fun q hq => ?_⟩
 have := (hT.has (klit q)).2 ⟨q, hq.1, rfl⟩
 have h2 : q ∈ ks ∧ Maps.has D (klit q) = false := hq
 rw [this] at h2
 exact absurd h2.2 (by decide)
theorem best_end {ks : List Key} {left : Lit → Bool} {P : Key × Int} (hl : ∀ kl, left kl = false) (h : IsBest (fun p => p ∈ ks ∧ left (klit p) = false) ks P) : P = bestQ ks :=
 (h.congr fun q => ⟨fun h => h.1, fun h => ⟨h, hl _⟩⟩).unique (bestQ_is ks)


set_option maxHeartbeats 8000000 in
set_option maxRecDepth 100000 in
theorem share_best.calls (A0 A1 A2 : Option Addr) (n0 c0 c1 n2 c2 : Nat) (L : List (List S61)) (g : Nat) (w : World) (hr1 : Kd.C (Kd.slice 61 k61) w A1 L.length L) (hg : w.heap[g]? = some (.cells (invC 256) 54 (0, 0))) (hL : L.length ≤ 140737488355328)
  (r1 r2 r3 r4 : Int) (r5 : Bool) (h : share_best.f L = some (r1, r2, r3, r4, r5)) :
  Calls Try.prog 25 #[.agg #[.slice A0 n0 c0, .slice A1 L.length c1, .slice A2 n2 c2], .pointer (some ⟨g, 0, none⟩)] w fun e w' => e = .returned (.tuple #[.agg #[.int .i64 r1, .int .i64 r2, .int .u8 r3, .int .i64 r4], .bool r5]) ∧ Below w.heap.size w w' := by
 have hu25 := Try.underlying25
 have HR := Aside0.mk hr1
 have HG := Aside0.mk hg
 have HH := Aside0.mk h
 have HLL := Aside0.mk hL
 clear hr1 hg h hL
 have HB := Aside0.mk (Below.refl w.heap.size w)
 go_enter Try.func25, Try.ntmps25
 go_wp2_with (first | ((with_reducible refine gD 2 rfl ?_); (try (refine gate_guard (by rfl) ?_; dsimp only)); refine bE 2 #[.slice A0 n0 c0, .slice A1 L.length c1, .slice A2 n2 c2] 25 ?_; intro gf hgf w2 hbox hb; have BF := Aside0.mk (hbox); have GF := hbS HB hgf; replace HB := hbB HB hb; clear hb hbox hgf; obtain ⟨hcz3_0, hcz3_1, hcz3_2, hfz3_0, hfz3_1, hfz3_2⟩ := cell3 BF) | ((with_reducible refine gD 4 rfl ?_); refine bE 4 #[.int .i64 0, .int .i64 0, .int .u8 0, .int .i64 0] 27 ?_; intro gp hgp w3 hbox hb; have BP := Aside0.mk (hbox); have GP := hbS HB hgp; replace HB := hbB HB hb; have NFP := neL BF hgp; have NPF := neG BF hgp; replace BF := bkB BF hb; clear hb hbox hgp; obtain ⟨hcz4_0, hcz4_1, hcz4_2, hcz4_3, hfz4_0, hfz4_1, hfz4_2, hfz4_3⟩ := cell4 BP; clear hcz3_0 hcz3_1 hcz3_2 hfz3_0 hfz3_1 hfz3_2; obtain ⟨hcz3_0, hcz3_1, hcz3_2, hfz3_0, hfz3_1, hfz3_2⟩ := cell3 BF))
 go_loopw [6, 22] (fun v6 v22 wr => ∃ i : Nat, i ≤ L.length ∧ v6 = .int .i64 (totT L i) ∧ v22 = .int .i64 i ∧ Aside0 (wr.heap[gf]? = some (.cells #[.slice A0 n0 c0, .slice A1 L.length c1, .slice A2 n2 c2] 25 (0, 0))) ∧ Aside0 (wr.heap[gp]? = some (.cells #[.int .i64 0, .int .i64 0, .int .u8 0, .int .i64 0] 27 (0, 0))) ∧ Aside0 (Below w.heap.size w wr)) (fun _ v _ => L.length - (intOf v).toNat)
 case atStart => exact ⟨0, by omega, rfl, rfl, BF, BP, HB⟩
 case round =>
  clear hcz3_0 hcz3_1 hcz3_2 hfz3_0 hfz3_1 hfz3_2 hcz4_0 hcz4_1 hcz4_2 hcz4_3 hfz4_0 hfz4_1 hfz4_2 hfz4_3
  clear BF BP HB
  obtain ⟨i, hi, rfl, rfl, BF, BP, HB⟩ := hrel
  by_cases hlt : i < L.length
  ·obtain ⟨ad, Al, cl, eA, hx, hlc, hC⟩ := at_L5 HR.out (i : Int) (by omega) (by omega)
   subst eA
   replace hx := (HB.out.cell (World.block_lt_of_cell? w _ hx)).trans hx
   rw [Int.toNat_natCast] at hx
   have HT := Aside0.mk (show totT L (i + 1) = wrap64 (totT L i + ((rd_L5 L (i : Int)).length : Int)) from rfl)
   generalize (rd_L5 L (i : Int)).length = m at *
   clear hlc hC
   have hLL := HLL.out
   go_wp2
   go_roundw
   case rel => exact ⟨i + 1, by omega, by rw [HT.out], by go_num, BF, BP, HB⟩
   case measure => simp [intOf]; omega
  ·obtain rfl : i = L.length := by omega
   obtain ⟨hcz3_0, hcz3_1, hcz3_2, hfz3_0, hfz3_1, hfz3_2⟩ := cell3 BF
   obtain ⟨hcz4_0, hcz4_1, hcz4_2, hcz4_3, hfz4_0, hfz4_1, hfz4_2, hfz4_3⟩ := cell4 BP
   have H := HH.out
   unfold share_best.f at H
   clear HH
   by_cases hb1 : totT L L.length > 512
   ·rw [if_pos (.inl hb1)] at H
    obtain ⟨rfl, rfl, rfl, rfl, rfl⟩ : 0 = r1 ∧ 0 = r2 ∧ 0 = r3 ∧ 0 = r4 ∧ false = r5 := by simpa using H
    clear H
    have c1b : decide (512 < totT L L.length) = true := decide_eq_true hb1
    generalize totT L L.length = tt at *
    go_wp2
    exact bodyPost_ret (results_ct rfl _ _ gp 27 #[.int .i64 0, .int .i64 0, .int .u8 0, .int .i64 0] (0, 0) _ rfl (set4 BP.out _ _ _ _) Try.underlying27 rfl (by kernel_rfl)) rfl ⟨rfl, below4 HB.out GP.out _ _ _ _⟩
   ·have c1b : decide (512 < totT L L.length) = false := decide_eq_false hb1
    by_cases hb2 : 4096 ≤ L.length
    ·rw [if_pos (.inr hb2)] at H
     obtain ⟨rfl, rfl, rfl, rfl, rfl⟩ : 0 = r1 ∧ 0 = r2 ∧ 0 = r3 ∧ 0 = r4 ∧ false = r5 := by simpa using H
     clear H
     have c2b : decide (4096 ≤ (L.length : Int)) = true := decide_eq_true (by omega)
     generalize totT L L.length = tt at *
     go_wp2
     exact bodyPost_ret (results_ct rfl _ _ gp 27 #[.int .i64 0, .int .i64 0, .int .u8 0, .int .i64 0] (0, 0) _ rfl (set4 BP.out _ _ _ _) Try.underlying27 rfl (by kernel_rfl)) rfl ⟨rfl, below4 HB.out GP.out _ _ _ _⟩
    ·have c2b : decide (4096 ≤ (L.length : Int)) = false := decide_eq_false (by omega)
     rw [if_neg (fun h => h.elim hb1 hb2)] at H
     by_cases hok : okB L = true
     ·rw [if_pos hok] at H
      have HH := Aside0.mk H
      clear H
      generalize totT L L.length = tt at *
      have hmm := @run_makeMap Try.prog
      have hT0 := Tal.made wr
      have hgfl : gf < wr.heap.size := (Array.getElem?_eq_some_iff.1 BF.out).1
      have hgpl : gp < wr.heap.size := (Array.getElem?_eq_some_iff.1 BP.out).1
      have hwl : w.heap.size ≤ wr.heap.size := HB.out.size
      have BF2 : Aside0 ((wr.alloc (.map #[] 0)).heap[gf]? = some (.cells #[.slice A0 n0 c0, .slice A1 L.length c1, .slice A2 n2 c2] 25 (0, 0))) := ⟨bkA BF.out⟩
      have BP2 : Aside0 ((wr.alloc (.map #[] 0)).heap[gp]? = some (.cells #[.int .i64 0, .int .i64 0, .int .u8 0, .int .i64 0] 27 (0, 0))) := ⟨bkA BP.out⟩
      have HB2 : Aside0 (Below w.heap.size w (wr.alloc (.map #[] 0))) := ⟨hbA HB.out⟩
      have hgl : g < w.heap.size := (Array.getElem?_eq_some_iff.1 HG.out).1
      obtain ⟨_, hcm_1, _, _, _, _⟩ := cell3 BF2
      go_wp2
      clear hcm_1
      generalize wr.heap.size = bm at *
      clear BF BP HB hcz3_0 hcz3_1 hcz3_2 hfz3_0 hfz3_1 hfz3_2 hcz4_0 hcz4_1 hcz4_2 hcz4_3 hfz4_0 hfz4_1 hfz4_2 hfz4_3 c1b c2b hb1 hb2 hmm
      have HNE := Aside0.mk (show bm ≠ gf ∧ bm ≠ gp ∧ bm ≠ g from ⟨by omega, by omega, by omega⟩)
      have HWL := Aside0.mk hwl
      have HGL := Aside0.mk hgl
      clear hgfl hgpl hwl hgl
      have HT0 := Aside0.mk hT0
      clear hT0
      generalize wr.alloc (.map #[] 0) = wm at *
      obtain ⟨hokL, hokl⟩ : L.all (fun l => l.all okT) = true ∧ (keysL L).length < 1000000 := by
       unfold okB at hok
       rw [Bool.and_eq_true] at hok
       exact ⟨hok.1, of_decide_eq_true hok.2⟩
      have HOKL := Aside0.mk hokL
      have HKL := Aside0.mk hokl
      clear hok hokL hokl
      go_loopw [44] (fun v44 wr => ∃ (i : Nat) (ks : List Key) (D : DataW Unit), i ≤ L.length ∧ v44 = .int .i64 i ∧ Aside0 (ks ++ keysL (L.drop i) = keysL L) ∧ Aside0 (Tal wr bm ks D) ∧ Aside0 (wr.heap[gf]? = some (.cells #[.slice A0 n0 c0, .slice A1 L.length c1, .slice A2 n2 c2] 25 (0, 0))) ∧ Aside0 (wr.heap[gp]? = some (.cells #[.int .i64 0, .int .i64 0, .int .u8 0, .int .i64 0] 27 (0, 0))) ∧ Aside0 (Below w.heap.size w wr)) (fun v _ => L.length - (intOf v).toNat)
      case atStart => exact ⟨0, [], _, by omega, rfl, ⟨by simp⟩, HT0, BF2, BP2, HB2⟩
      case round =>
       clear HT0 BF2 BP2 HB2
       obtain ⟨i, ks, D, hi, rfl, HE, HTL, BF, BP, HB⟩ := hrel
       by_cases hlt : i < L.length
       ·obtain ⟨ad, Al, cl, eA, hx, hlc, hC⟩ := at_L5 HR.out (i : Int) (by omega) (by omega)
        subst eA
        replace hx := (HB.out.cell (World.block_lt_of_cell? w _ hx)).trans hx
        rw [Int.toNat_natCast] at hx
        have HON := Aside0.mk (okN_at HOKL.out hlt)
        have HE2 := Aside0.mk (show ks ++ (keysN (rd_L5 L (i : Int)) ++ keysL (L.drop (i + 1))) = keysL L by rw [← keysL_step hlt]; exact HE.out)
        have HCN := Aside0.mk hC
        have HLC := Aside0.mk hlc
        clear HE hC hlc
        obtain ⟨node, hnode⟩ : ∃ x, x = rd_L5 L (i : Int) := ⟨_, rfl⟩
        rw [← hnode] at hx HON HE2 HCN HLC
        obtain ⟨rest, hrest⟩ : ∃ x, x = keysL (L.drop (i + 1)) := ⟨_, rfl⟩
        rw [← hrest] at HE2
        have HRST := Aside0.mk hrest
        clear hrest hnode
        have hLL := HLL.out
        go_wp2
        go_loopw [50] (fun v50 wr => ∃ (j : Nat) (ks : List Key) (D : DataW Unit), j ≤ node.length ∧ v50 = .int .i64 j ∧ Aside0 (ks ++ (keysN (node.drop j) ++ rest) = keysL L) ∧ Aside0 (Tal wr bm ks D) ∧ Aside0 (wr.heap[gf]? = some (.cells #[.slice A0 n0 c0, .slice (some ad) L.length c1, .slice A2 n2 c2] 25 (0, 0))) ∧ Aside0 (wr.heap[gp]? = some (.cells #[.int .i64 0, .int .i64 0, .int .u8 0, .int .i64 0] 27 (0, 0))) ∧ Aside0 (Below w.heap.size w wr)) (fun v _ => node.length - (intOf v).toNat)
        case atStart => exact ⟨0, ks, D, by omega, rfl, ⟨by simpa using HE2.out⟩, HTL, BF, BP, HB⟩
        case round =>
         clear HE2 HTL BF BP HB hx
         obtain ⟨j, ks, D, hj, rfl, HE, HTL, BF, BP, HB⟩ := hrel
         by_cases hjl : j < node.length
         ·obtain ⟨ad2, eA2, hx_0, hx_1⟩ := at_T61 HCN.out (j : Int) (by omega) (by omega)
          subst eA2
          replace hx_0 := (HB.out.cell (World.block_lt_of_cell? w _ hx_0)).trans hx_0
          replace hx_1 := (HB.out.cell (World.block_lt_of_cell? w _ hx_1)).trans hx_1
          rw [Int.toNat_natCast] at hx_0 hx_1
          have HOT := Aside0.mk (okT_at HON.out hjl)
          have HONS := Aside0.mk (show (node.drop (j + 1)).all okT = true from List.all_eq_true.2 fun x hx => List.all_eq_true.1 HON.out x (List.mem_of_mem_drop hx))
          have HE2 := Aside0.mk (show ks ++ (pairsF (rd_T61 node (j : Int)) (node.drop (j + 1)) ++ (keysN (node.drop (j + 1)) ++ rest)) = keysL L by
           have := HE.out
           rw [keysN_step hjl, List.append_assoc] at this
           exact this)
          obtain ⟨i61, hi61, hs61⟩ := infoT61
          have hsl := cut_from (P := Try.prog) 59 61 .i64 Try.underlying59 hi61 2 hs61 (some ad2) node.length cl ((j + 1 : Nat) : Int) (by omega) (by omega)
          have hcs := Kd.C_drop (m := j + 1) HCN.out (by omega) HLC.out
          rw [Int.toNat_natCast] at hsl
          rw [show k61.sz = 2 from rfl] at hcs
          generalize (if cl = j + 1 then some ad2 else (some ad2).map (·.add ((j + 1) * 2))) = As at hsl hcs
          clear HE hi61 hs61
          have hsn : node.length - (j + 1) = (node.drop (j + 1)).length := List.length_drop.symm
          rw [hsn, show ((j + 1 : Nat) : Int) = (j : Int) + 1 from by omega] at hsl
          obtain ⟨seg, hseg⟩ : ∃ x, x = node.drop (j + 1) := ⟨_, rfl⟩
          obtain ⟨tt2, htt⟩ : ∃ x, x = keysN (node.drop (j + 1)) ++ rest := ⟨_, rfl⟩
          rw [← htt] at HE2
          rw [← hseg] at hsl hcs HE2 HONS
          have HSEG := Aside0.mk hseg
          have HTT := Aside0.mk htt
          have HCS := Aside0.mk hcs
          obtain ⟨tj, htj⟩ : ∃ x, x = rd_T61 node (j : Int) := ⟨_, rfl⟩
          rw [← htj] at hx_0 hx_1 HOT HE2
          clear hseg htt hcs htj hsn
          have hsegl : seg.length ≤ node.length := by
           have := HSEG.out
           rw [this, List.length_drop]
           omega
          have hnl : node.length ≤ 9223372036854775807 := HCN.out.2.1
          have hbl := HTL.out.own.lt
          go_wp2_with (first | ((with_reducible refine gD 13 rfl ?_); refine bE 13 #[.int .i64 0, .int .u8 0] 61 ?_; intro gt hgt w7 hbox hb; have BT := Aside0.mk hbox; have GT := hbS HB hgt; have NTF := neL BF hgt; have NTP := neL BP hgt; have NTM := Aside0.mk (show bm ≠ gt by omega); replace HTL := Aside0.mk (HTL.out.kept (grow_none hb) (by simp)); replace HB := hbB HB hb; replace BF := bkB BF hb; replace BP := bkB BP hb; clear hb hbox hgt hbl; obtain ⟨hcz8_0, hcz8_1, hfz8_0, hfz8_1⟩ := cell2 BT))
          have BT2 := Aside0.mk (set2 BT.out (.int .i64 tj.f0) (.int .u8 tj.f1))
          have BF2 := Aside0.mk (far2 BF.out NTF.out (.int .i64 tj.f0) (.int .u8 tj.f1))
          have BP2 := Aside0.mk (far2 BP.out NTP.out (.int .i64 tj.f0) (.int .u8 tj.f1))
          have HTL2 := Aside0.mk (HTL.out.kept (grow_set2 w7 gt (.int .i64 tj.f0) (.int .u8 tj.f1)) (fun e => NTM.out (Option.some.inj e)))
          have HB2 := Aside0.mk (below2 HB.out GT.out (.int .i64 tj.f0) (.int .u8 tj.f1))
          clear BT BF BP HTL HB hcz8_0 hcz8_1 hfz8_0 hfz8_1 hx_0 hx_1
          generalize (w7.setCell ⟨gt, 0, none⟩ (.int .i64 tj.f0)).setCell ⟨gt, 1, none⟩ (.int .u8 tj.f1) = wk at *
          go_loopw [60] (fun v60 wr => ∃ (k : Nat) (ks : List Key) (D : DataW Unit), k ≤ seg.length ∧ v60 = .int .i64 k ∧ Aside0 (ks ++ (pairsF tj (seg.drop k) ++ tt2) = keysL L) ∧ Aside0 (Tal wr bm ks D) ∧ Aside0 (wr.heap[gf]? = some (.cells #[.slice A0 n0 c0, .slice (some ad) L.length c1, .slice A2 n2 c2] 25 (0, 0))) ∧ Aside0 (wr.heap[gp]? = some (.cells #[.int .i64 0, .int .i64 0, .int .u8 0, .int .i64 0] 27 (0, 0))) ∧ Aside0 (wr.heap[gt]? = some (.cells #[.int .i64 tj.f0, .int .u8 tj.f1] 61 (0, 0))) ∧ Aside0 (Below w.heap.size w wr)) (fun v _ => seg.length - (intOf v).toNat)
          case atStart => exact ⟨0, ks, D, by omega, rfl, ⟨by simpa using HE2.out⟩, HTL2, BF2, BP2, BT2, HB2⟩
          case round =>
           clear HE2 HTL2 BF2 BP2 BT2 HB2
           obtain ⟨k, ks, D, hk, rfl, HE, HTL, BF, BP, BT, HB⟩ := hrel
           by_cases hkl : k < seg.length
           ·obtain ⟨ad3, eA3, hy_0, hy_1⟩ := at_T61 HCS.out (k : Int) (by omega) (by omega)
            subst eA3
            replace hy_0 := (HB.out.cell (World.block_lt_of_cell? w _ hy_0)).trans hy_0
            replace hy_1 := (HB.out.cell (World.block_lt_of_cell? w _ hy_1)).trans hy_1
            rw [Int.toNat_natCast] at hy_0 hy_1
            have HE2 := Aside0.mk (show ks ++ ([keyQ tj (rd_T61 seg (k : Int))] ++ (pairsF tj (seg.drop (k + 1)) ++ tt2)) = keysL L by
             have := HE.out
             rw [pairsF_step hkl] at this
             exact this)
            have HOS := Aside0.mk (okT_at HONS.out hkl)
            obtain ⟨sj, hsj⟩ : ∃ x, x = rd_T61 seg (k : Int) := ⟨_, rfl⟩
            rw [← hsj] at hy_0 hy_1 HE2 HOS
            clear hsj HE
            have hkc : ks.length < 1000000 := by
             have h1 := congrArg List.length HE2.out
             have h2 := HKL.out
             rw [List.length_append] at h1
             omega
            have HKC := Aside0.mk hkc
            have HQ := Aside0.mk (keyQ_ok HOT.out HOS.out)
            obtain ⟨t1, t2, t3⟩ := okT_wf HOT.out
            have HMUL := Aside0.mk (mulB_some (a := sj.f1) (invAt_range tj.f1)).1
            have hgb := (HB.out.block g HGL.out).trans HG.out
            have hcg := (blk_cell hgb tj.f1.toNat).trans (invC_at (n := 256) (i := tj.f1.toNat) (by omega))
            rw [show (invTo 256).getD tj.f1.toNat 0 = invAt tj.f1 from rfl] at hcg
            have hgll : g < wr.heap.size := Nat.lt_of_lt_of_le HGL.out HB.out.size
            rw [show keyQ tj sj = (tj.f0, sj.f0, mulB sj.f1 (invAt tj.f1)) from rfl] at HQ HE2
            generalize invAt tj.f1 = iv at *
            generalize mulB sj.f1 iv = mm at *
            clear hkc hgb
            have hbl := HTL.out.own.lt
            go_wp2_with (first | ((with_reducible refine gD 15 rfl ?_); refine bE 15 #[.int .i64 0, .int .u8 0] 61 ?_; intro gs hgs w8 hbox hb; have BS := Aside0.mk hbox; have GS := hbS HB hgs; have NSF := neL BF hgs; have NSP := neL BP hgs; have NST := neL BT hgs; have NSM := Aside0.mk (show bm ≠ gs by omega); have NSG := Aside0.mk (show g ≠ gs by omega); replace HTL := Aside0.mk (HTL.out.kept (grow_none hb) (by simp)); replace HB := hbB HB hb; replace BF := bkB BF hb; replace BP := bkB BP hb; replace BT := bkB BT hb; replace hcg := pw_cell_below hb hcg; clear hb hbox hgs hbl hgll; obtain ⟨hcz9_0, hcz9_1, hfz9_0, hfz9_1⟩ := cell2 BS))
            have BS2 := Aside0.mk (set2 BS.out (.int .i64 sj.f0) (.int .u8 sj.f1))
            have BF2 := Aside0.mk (far2 BF.out NSF.out (.int .i64 sj.f0) (.int .u8 sj.f1))
            have BP2 := Aside0.mk (far2 BP.out NSP.out (.int .i64 sj.f0) (.int .u8 sj.f1))
            have BT2 := Aside0.mk (far2 BT.out NST.out (.int .i64 sj.f0) (.int .u8 sj.f1))
            have HTL2 := Aside0.mk (HTL.out.kept (grow_set2 w8 gs (.int .i64 sj.f0) (.int .u8 sj.f1)) (fun e => NSM.out (Option.some.inj e)))
            have HB2 := Aside0.mk (below2 HB.out GS.out (.int .i64 sj.f0) (.int .u8 sj.f1))
            have hcg2 : ((w8.setCell ⟨gs, 0, none⟩ (.int .i64 sj.f0)).setCell ⟨gs, 1, none⟩ (.int .u8 sj.f1)).cell? ⟨g, tj.f1.toNat, none⟩ = some (.int .u8 iv) := by
             rw [World.cell?_setCell_other _ _ _ _ (by intro e; injection e with e; exact NSG.out e.symm), World.cell?_setCell_other _ _ _ _ (by intro e; injection e with e; exact NSG.out e.symm)]
             exact hcg
            clear BS BF BP BT HTL HB hcz9_0 hcz9_1 hfz9_0 hfz9_1 hy_0 hy_1 hcg
            generalize (w8.setCell ⟨gs, 0, none⟩ (.int .i64 sj.f0)).setCell ⟨gs, 1, none⟩ (.int .u8 sj.f1) = wc at *
            have hct0 : wc.drew.cell? ⟨gt, 0, none⟩ = some (.int .i64 tj.f0) := (blk_cell BT2.out 0).trans rfl
            have hct1 : wc.drew.cell? ⟨gt, 1, none⟩ = some (.int .u8 tj.f1) := (blk_cell BT2.out 1).trans rfl
            have hcs0 : wc.drew.cell? ⟨gs, 0, none⟩ = some (.int .i64 sj.f0) := (blk_cell BS2.out 0).trans rfl
            have hcs1 : wc.drew.cell? ⟨gs, 1, none⟩ = some (.int .u8 sj.f1) := (blk_cell BS2.out 1).trans rfl
            have hcg3 : wc.drew.cell? ⟨g, tj.f1.toNat, none⟩ = some (.int .u8 iv) := hcg2
            have hTD : Tal wc.drew bm ks D := HTL2.out.kept (grow_none (below_drew (Below.refl _ _))) (by simp)
            have hlk0 : (Instr.lookup 78 (.map (some bm)) (.agg #[.int .i64 tj.f0, .int .i64 sj.f0, .int .u8 mm, .int .i64 0]) false).run Try.prog wc.drew = .ok (.int .i64 (ks.count (tj.f0, sj.f0, mm) : Int)) wc.drew := by
             obtain ⟨_, _, _, _, _, h, _⟩ := hTD.entry HQ.out HKC.out
             exact h
            obtain ⟨cc, hcc⟩ : ∃ x : Int, x = (ks.count (tj.f0, sj.f0, mm) : Int) := ⟨_, rfl⟩
            have HCC := Aside0.mk hcc
            have hc0 : 0 ≤ cc := by omega
            have hc1 : cc ≤ 1000000 := by
             have := List.count_le_length (a := (tj.f0, sj.f0, mm)) (l := ks)
             have := HKC.out
             omega
            rw [← hcc] at hlk0
            clear hcc
            have hwa : IntKind.i64.wrap (cc + 1) = cc + 1 := biwrap_small (by omega) (by omega)
            have hwb : wrap64 (cc + 1) = cc + 1 := bwrap_small (by omega) (by omega)
            have hgm : bm < wc.drew.heap.size := hTD.own.lt
            have HGM := Aside0.mk hgm
            have HTD := Aside0.mk hTD
            clear hTD hgm
            refine start_ (n := 20) (S := fun w' => w'.cell? ⟨gt, 0, none⟩ = some (.int .i64 tj.f0) ∧ w'.cell? ⟨gs, 0, none⟩ = some (.int .i64 sj.f0) ∧ w'.cell? ⟨gs, 1, none⟩ = some (.int .u8 sj.f1) ∧ w'.cell? ⟨gt, 1, none⟩ = some (.int .u8 tj.f1) ∧ w'.cell? ⟨g, tj.f1.toNat, none⟩ = some (.int .u8 iv) ∧ (Instr.lookup 78 (.map (some bm)) (.agg #[.int .i64 tj.f0, .int .i64 sj.f0, .int .u8 mm, .int .i64 0]) false).run Try.prog w' = .ok (.int .i64 cc) w') (ds := [19]) #[false, false, false, false, false, false, false, false, false, false, false, false, false, false, false, false, false, false, false, false] (by kernel_rfl) rfl rfl ⟨hct0, hcs0, hcs1, hct1, hcg3, hlk0⟩ (fun hHeld => ?_)
            refine pure_ (i := 0) (N := some 64) (v := ?_) (a' := ?_) #[true, false, false, false, false, false, false, false, false, false, false, false, false, false, false, false, false, false, false, false] rfl rfl (by kernel_rfl) (fun _ _ _ h => h) (Or.inl ⟨by rfl, ?_⟩) ?_ ?_
            rotate_left
            ·intro w'
             go_simp
             with_reducible rfl
            rotate_left
            ·simp only [Act.put, List.setIfInBounds_toArray, List.set_cons_zero, List.set_cons_succ, i64_w, i32_w]
             rfl
            refine pure_ (i := 1) (N := some 65) (v := ?_) (a' := ?_) #[true, true, false, false, false, false, false, false, false, false, false, false, false, false, false, false, false, false, false, false] rfl rfl (by kernel_rfl) (fun _ _ _ h => h) (Or.inl ⟨by rfl, ?_⟩) ?_ ?_
            rotate_left
            ·intro w'
             go_simp
             with_reducible rfl
            rotate_left
            ·simp only [Act.put, List.setIfInBounds_toArray, List.set_cons_zero, List.set_cons_succ, i64_w, i32_w]
             rfl
            refine pure_ (i := 3) (N := some 67) (v := ?_) (a' := ?_) #[true, true, false, true, false, false, false, false, false, false, false, false, false, false, false, false, false, false, false, false] rfl rfl (by kernel_rfl) (fun _ _ _ h => h) (Or.inl ⟨by rfl, ?_⟩) ?_ ?_
            rotate_left
            ·intro w'
             go_simp
             with_reducible rfl
            rotate_left
            ·simp only [Act.put, List.setIfInBounds_toArray, List.set_cons_zero, List.set_cons_succ, i64_w, i32_w]
             rfl
            refine pure_ (i := 5) (N := some 69) (v := ?_) (a' := ?_) #[true, true, false, true, false, true, false, false, false, false, false, false, false, false, false, false, false, false, false, false] rfl rfl (by kernel_rfl) (fun _ _ _ h => h) (Or.inl ⟨by rfl, ?_⟩) ?_ ?_
            rotate_left
            ·intro w'
             go_simp
             with_reducible rfl
            rotate_left
            ·simp only [Act.put, List.setIfInBounds_toArray, List.set_cons_zero, List.set_cons_succ, i64_w, i32_w]
             rfl
            refine pure_ (i := 7) (N := some 71) (v := ?_) (a' := ?_) #[true, true, false, true, false, true, false, true, false, false, false, false, false, false, false, false, false, false, false, false] rfl rfl (by kernel_rfl) (fun _ _ _ h => h) (Or.inl ⟨by rfl, ?_⟩) ?_ ?_
            rotate_left
            ·intro w'
             go_simp
             with_reducible rfl
            rotate_left
            ·simp only [Act.put, List.setIfInBounds_toArray, List.set_cons_zero, List.set_cons_succ, i64_w, i32_w]
             rfl
            refine pure_ (i := 8) (N := some 72) (v := ?_) (a' := ?_) #[true, true, false, true, false, true, false, true, true, false, false, false, false, false, false, false, false, false, false, false] rfl rfl (by kernel_rfl) (fun _ _ _ h => h) (Or.inl ⟨by rfl, ?_⟩) ?_ ?_
            rotate_left
            ·intro w'
             go_simp
             with_reducible rfl
            rotate_left
            ·simp only [Act.put, List.setIfInBounds_toArray, List.set_cons_zero, List.set_cons_succ, i64_w, i32_w]
             rfl
            refine pure_ (i := 10) (N := some 74) (v := ?_) (a' := ?_) #[true, true, false, true, false, true, false, true, true, false, true, false, false, false, false, false, false, false, false, false] rfl rfl (by kernel_rfl) (fun _ _ _ h => h) (Or.inl ⟨by rfl, ?_⟩) ?_ ?_
            rotate_left
            ·intro w'
             go_simp
             with_reducible rfl
            rotate_left
            ·simp only [Act.put, List.setIfInBounds_toArray, List.set_cons_zero, List.set_cons_succ, i64_w, i32_w]
             rfl
            refine take_ (i := 2) (N := some 66) (v := ?_) (a' := ?_) #[true, true, true, true, false, true, false, true, true, false, true, false, false, false, false, false, false, false, false, false] rfl rfl (by kernel_rfl) (fun _ _ _ h => h) (Or.inl ⟨by rfl, ?_⟩) hHeld ?_ ?_
            rotate_left
            ·rintro w' ⟨s0, s1, s2, s3, s4, s5⟩
             go_simp
             with_reducible rfl
            rotate_left
            ·simp only [Act.put, List.setIfInBounds_toArray, List.set_cons_zero, List.set_cons_succ, i64_w, i32_w]
             rfl
            refine take_ (i := 4) (N := some 68) (v := ?_) (a' := ?_) #[true, true, true, true, true, true, false, true, true, false, true, false, false, false, false, false, false, false, false, false] rfl rfl (by kernel_rfl) (fun _ _ _ h => h) (Or.inl ⟨by rfl, ?_⟩) hHeld ?_ ?_
            rotate_left
            ·rintro w' ⟨s0, s1, s2, s3, s4, s5⟩
             go_simp
             with_reducible rfl
            rotate_left
            ·simp only [Act.put, List.setIfInBounds_toArray, List.set_cons_zero, List.set_cons_succ, i64_w, i32_w]
             rfl
            refine take_ (i := 6) (N := some 70) (v := ?_) (a' := ?_) #[true, true, true, true, true, true, true, true, true, false, true, false, false, false, false, false, false, false, false, false] rfl rfl (by kernel_rfl) (fun _ _ _ h => h) (Or.inl ⟨by rfl, ?_⟩) hHeld ?_ ?_
            rotate_left
            ·rintro w' ⟨s0, s1, s2, s3, s4, s5⟩
             go_simp
             with_reducible rfl
            rotate_left
            ·simp only [Act.put, List.setIfInBounds_toArray, List.set_cons_zero, List.set_cons_succ, i64_w, i32_w]
             rfl
            refine take_ (i := 9) (N := some 73) (v := ?_) (a' := ?_) #[true, true, true, true, true, true, true, true, true, true, true, false, false, false, false, false, false, false, false, false] rfl rfl (by kernel_rfl) (fun _ _ _ h => h) (Or.inl ⟨by rfl, ?_⟩) hHeld ?_ ?_
            rotate_left
            ·rintro w' ⟨s0, s1, s2, s3, s4, s5⟩
             go_simp
             with_reducible rfl
            rotate_left
            ·simp only [Act.put, List.setIfInBounds_toArray, List.set_cons_zero, List.set_cons_succ, i64_w, i32_w]
             rfl
            refine pure_ (i := 11) (N := some 75) (v := ?_) (a' := ?_) #[true, true, true, true, true, true, true, true, true, true, true, true, false, false, false, false, false, false, false, false] rfl rfl (by kernel_rfl) (fun _ _ _ h => h) (Or.inl ⟨by rfl, ?_⟩) ?_ ?_
            rotate_left
            ·intro w'
             go_simp
             with_reducible rfl
            rotate_left
            ·simp only [Act.put, List.setIfInBounds_toArray, List.set_cons_zero, List.set_cons_succ, i64_w, i32_w]
             rfl
            refine take_ (i := 12) (N := some 76) (v := ?_) (a' := ?_) #[true, true, true, true, true, true, true, true, true, true, true, true, true, false, false, false, false, false, false, false] rfl rfl (by kernel_rfl) (fun _ _ _ h => h) (Or.inl ⟨by rfl, ?_⟩) hHeld ?_ ?_
            rotate_left
            ·rintro w' ⟨s0, s1, s2, s3, s4, s5⟩
             go_simp
             with_reducible rfl
            rotate_left
            ·simp only [Act.put, List.setIfInBounds_toArray, List.set_cons_zero, List.set_cons_succ, i64_w, i32_w]
             rfl
            refine one_ (i := 13) (N := some 77) #[true, true, true, true, true, true, true, true, true, true, true, true, true, true, false, false, false, false, false, false] rfl rfl (by kernel_rfl) (by decide) (fun K hK => ?_)
            refine goes_ Try.func39 (by kernel_rfl) rfl #[.int .u8 sj.f1, .int .u8 iv] (by rfl) rfl rfl (by simp only [List.map_toArray, List.map_cons, List.map_nil]; rfl) ?_
            refine (field_Mul.calls 9 sj.f1 iv mm _ HMUL.out).mono ?_
            rintro e w2 ⟨rfl, ⟨nd, rfl⟩⟩
            refine ⟨_, rfl, ?_⟩
            have HTM := Aside0.mk (HTD.out.kept (grow_none (pw_below_drewN (Below.refl _ _) nd)) (by simp))
            obtain ⟨v0, st, w1, hme0, hgr1, hlkA, hlkB, hst⟩ := HTM.out.entry HQ.out HKC.out
            have hWE : wc.drew.drewN nd = wc.drewN (1 + nd) := by simp
            rw [hWE] at hme0 hgr1 hlkA
            have hme : (Instr.mapEntry 78 (.map (some bm)) (.agg #[.int .i64 tj.f0, .int .i64 sj.f0, .int .u8 mm, .int .i64 0])).run Try.prog (wc.drewN (1 + nd)) = .ok (.tuple #[v0, .int .i64 (st : Int)]) w1 := hme0
            obtain ⟨w3, hse0, hgr3, hT3⟩ := hst w1 rfl
            have hse : (Instr.entryStore 78 (.map (some bm)) (.int .i64 (st : Int)) (.int .i64 (cc + 1))).run Try.prog w1 = .ok () w3 := by rw [HCC.out]; exact hse0
            have HGR1 := Aside0.mk hgr1
            have HGR3 := Aside0.mk hgr3
            have HT3 := Aside0.mk hT3
            have hlkC : (Instr.lookup 78 (.map (some bm)) (.agg #[.int .i64 tj.f0, .int .i64 sj.f0, .int .u8 mm, .int .i64 0]) false).run Try.prog (wc.drewN (1 + nd)) = .ok (.int .i64 cc) (wc.drewN (1 + nd)) := by rw [HCC.out]; exact hlkA
            have hlkD : (Instr.lookup 78 (.map (some bm)) (.agg #[.int .i64 tj.f0, .int .i64 sj.f0, .int .u8 mm, .int .i64 0]) false).run Try.prog w1 = .ok (.int .i64 cc) w1 := by rw [HCC.out]; exact hlkB
            clear hme0 hst hse0 hgr1 hgr3 hT3 hlkA hlkB
            refine hK.out _ _ ⟨pw_cell_below (pw_below_drewN (Below.refl _ _) _) hct0, pw_cell_below (pw_below_drewN (Below.refl _ _) _) hcs0, pw_cell_below (pw_below_drewN (Below.refl _ _) _) hcs1, pw_cell_below (pw_below_drewN (Below.refl _ _) _) hct1, pw_cell_below (pw_below_drewN (Below.refl _ _) _) hcg3, (by rw [hWE]; exact hlkC)⟩ (fun hHeld => ?_)
            clear hK K
            refine norm_ (a' := ?_) ?_ ?_
            rotate_left
            ·show Act.put _ (some 77) _ = _
             simp only [Act.put, List.setIfInBounds_toArray, List.set_cons_zero, List.set_cons_succ, i64_w, i32_w]
             rfl
            refine pure_ (i := 14) (N := some 78) (v := ?_) (a' := ?_) #[true, true, true, true, true, true, true, true, true, true, true, true, true, true, true, false, false, false, false, false] rfl rfl (by kernel_rfl) (fun _ _ _ h => h) (Or.inl ⟨by rfl, ?_⟩) ?_ ?_
            rotate_left
            ·intro w'
             go_simp
             with_reducible rfl
            rotate_left
            ·simp only [Act.put, List.setIfInBounds_toArray, List.set_cons_zero, List.set_cons_succ, i64_w, i32_w]
             rfl
            refine take_ (i := 15) (N := some 79) (v := ?_) (a' := ?_) #[true, true, true, true, true, true, true, true, true, true, true, true, true, true, true, true, false, false, false, false] rfl rfl (by kernel_rfl) (fun _ _ _ h => h) (Or.inl ⟨by rfl, ?_⟩) hHeld ?_ ?_
            rotate_left
            ·rintro w' ⟨s0, s1, s2, s3, s4, s5⟩
             go_simp
             with_reducible rfl
            rotate_left
            ·simp only [Act.put, List.setIfInBounds_toArray, List.set_cons_zero, List.set_cons_succ, i64_w, i32_w]
             rfl
            refine pure_ (i := 16) (N := some 80) (v := ?_) (a' := ?_) #[true, true, true, true, true, true, true, true, true, true, true, true, true, true, true, true, true, false, false, false] rfl rfl (by kernel_rfl) (fun _ _ _ h => h) (Or.inl ⟨by rfl, ?_⟩) ?_ ?_
            rotate_left
            ·intro w'
             go_simp
             with_reducible rfl
            rotate_left
            ·simp only [Act.put, List.setIfInBounds_toArray, List.set_cons_zero, List.set_cons_succ, i64_w, i32_w]
             rfl
            refine one_ (i := 17) (N := some 81) #[true, true, true, true, true, true, true, true, true, true, true, true, true, true, true, true, true, true, false, false] rfl rfl (by kernel_rfl) (by decide) (fun K hK => ?_)
            refine value_ (w1 := ?_) (v := ?_) (by rfl) rfl ?_ ?_
            rotate_left 2
            ·go_simp
             constructor
             ·rfl
             ·rfl
            refine hK.out _ _ ⟨(bcell_same (HGR1.out.block _ (World.block_lt_of_cell? _ _ hct0) (fun e => NTM.out (Option.some.inj e).symm))).trans hct0, (bcell_same (HGR1.out.block _ (World.block_lt_of_cell? _ _ hcs0) (fun e => NSM.out (Option.some.inj e).symm))).trans hcs0, (bcell_same (HGR1.out.block _ (World.block_lt_of_cell? _ _ hcs1) (fun e => NSM.out (Option.some.inj e).symm))).trans hcs1, (bcell_same (HGR1.out.block _ (World.block_lt_of_cell? _ _ hct1) (fun e => NTM.out (Option.some.inj e).symm))).trans hct1, (bcell_same (HGR1.out.block _ (World.block_lt_of_cell? _ _ hcg3) (fun e => HNE.out.2.2 (Option.some.inj e).symm))).trans hcg3, hlkD⟩ (fun hHeld => ?_)
            clear hK K
            refine norm_ (a' := ?_) ?_ ?_
            rotate_left
            ·show Act.put _ (some 81) _ = _
             simp only [Act.put, List.setIfInBounds_toArray, List.set_cons_zero, List.set_cons_succ, i64_w, i32_w]
             rfl
            refine pure_ (i := 18) (N := some 82) (v := ?_) (a' := ?_) #[true, true, true, true, true, true, true, true, true, true, true, true, true, true, true, true, true, true, true, false] rfl rfl (by kernel_rfl) (fun _ _ _ h => h) (Or.inl ⟨by rfl, ?_⟩) ?_ ?_
            rotate_left
            ·intro w'
             go_simp
             with_reducible rfl
            rotate_left
            ·simp only [Act.put, List.setIfInBounds_toArray, List.set_cons_zero, List.set_cons_succ, i64_w, i32_w]
             rfl
            refine last_ (i := 19) (N := none) #[true, true, true, true, true, true, true, true, true, true, true, true, true, true, true, true, true, true, true, true] rfl rfl (by kernel_rfl) (by decide) (fun K hK => ?_)
            refine skip_ (w1 := ?_) (by rfl) rfl ?_ ?_
            rotate_left
            ·go_simp
             rfl
            refine hK.out _ _ ?_
            clear hK K
            refine done_ (by kernel_rfl) ?_
            have hbmw := HWL.out
            have hsz2 := HB2.out.size
            have hsz3 := HGR1.out.size
            rw [show (wc.drewN (1 + nd)).heap.size = wc.heap.size from by simp] at hsz3
            have HB3 := Aside0.mk ((((HB2.out.trans ((below_drew (Below.refl wc.heap.size wc)).mono hsz2)).trans ((pw_below_drewN (Below.refl wc.drew.heap.size wc.drew) nd).mono hsz2)).grown (w' := w1) (row := some bm) (by rw [hWE]; exact HGR1.out) (by simpa using hsz2) (fun e he => by cases he; exact hbmw)).grown HGR3.out (by omega) (fun e he => by cases he; exact hbmw))
            have keepW : ∀ (h : Nat) (o : Obj), wc.heap[h]? = some o → bm ≠ h → w3.heap[h]? = some o := fun h o ho hne => by
             have hl : h < wc.heap.size := (Array.getElem?_eq_some_iff.1 ho).1
             rw [HGR3.out.block h (by omega) (fun e => hne (Option.some.inj e).symm), HGR1.out.block h (by simpa using hl) (fun e => hne (Option.some.inj e).symm)]
             simpa using ho
            have BF3 := Aside0.mk (keepW _ _ BF2.out HNE.out.1)
            have BP3 := Aside0.mk (keepW _ _ BP2.out HNE.out.2.1)
            have BT3 := Aside0.mk (keepW _ _ BT2.out NTM.out)
            have HE3 := Aside0.mk (show (ks ++ [(tj.f0, sj.f0, mm)]) ++ (pairsF tj (seg.drop (k + 1)) ++ tt2) = keysL L by rw [List.append_assoc]; exact HE2.out)
            clear keepW
            go_wp2_with fail
            go_roundw
            case rel => exact ⟨k + 1, ks ++ [(tj.f0, sj.f0, mm)], _, by omega, by go_num, HE3, HT3, BF3, BP3, BT3, HB3⟩
            case measure => simp [intOf]; omega
           ·obtain rfl : k = seg.length := by omega
            have HE2 := Aside0.mk (show ks ++ (keysN (node.drop (j + 1)) ++ rest) = keysL L by
             have := HE.out
             rw [List.drop_length] at this
             rw [← HTT.out]
             exact this)
            go_wp2
            go_roundw
            case rel => exact ⟨j + 1, ks, D, by omega, by go_num, HE2, HTL, BF, BP, HB⟩
            case measure => simp [intOf]; omega
         ·obtain rfl : j = node.length := by omega
          have HE2 := Aside0.mk (show ks ++ keysL (L.drop (i + 1)) = keysL L by
           have := HE.out
           rw [List.drop_length] at this
           rw [← HRST.out]
           exact this)
          go_wp2
          go_roundw
          case rel => exact ⟨i + 1, ks, D, by omega, by go_num, HE2, HTL, BF, BP, HB⟩
          case measure => simp [intOf]; omega
       ·obtain rfl : i = L.length := by omega
        have HE2 := Aside0.mk (show ks = keysL L by
         have := HE.out
         rw [List.drop_length] at this
         rw [← this]
         simp [keysL])
        clear HE
        have hbl := HTL.out.own.lt
        go_wp2_with (first | ((with_reducible refine gD 16 rfl ?_); refine bE 16 #[.int .i64 0, .int .i64 0, .int .u8 0, .int .i64 0] 27 ?_; intro gq hgq w7 hbox hb; have BQ := Aside0.mk hbox; have GQ := hbS HB hgq; have NQF := neL BF hgq; have NQP := neL BP hgq; have NQM := Aside0.mk (show bm ≠ gq by omega); replace HTL := Aside0.mk (HTL.out.kept (grow_none hb) (by simp)); replace HB := hbB HB hb; replace BF := bkB BF hb; replace BP := bkB BP hb; clear hb hbox hgq hbl) | (at_range; refine wpList_range_own _ rfl _ 78 rfl 27 3 tal_keyed Try.underlying78 _ bm ks.length D rfl HTL.out.own ?_; intro w0 hrg0 hg0 hs0))
        have hgql : gq < w7.heap.size := (Array.getElem?_eq_some_iff.1 BQ.out).1
        have hgpl : gp < w7.heap.size := (Array.getElem?_eq_some_iff.1 BP.out).1
        have hwl : w.heap.size ≤ w7.heap.size := HB.out.size
        have hbl := HTL.out.own.lt
        have BQ2 := Aside0.mk ((hg0.block gq hgql (by simp)).trans BQ.out)
        have BP2 := Aside0.mk ((hg0.block gp hgpl (by simp)).trans BP.out)
        have HB2 := Aside0.mk (HB.out.grown hg0 hwl (fun k hk => by cases hk))
        have HRG0 := Aside0.mk hrg0
        have HTT := Aside0.mk (show ∃ w', Tal w' bm ks D from ⟨w7, HTL.out⟩)
        have HIS0 := Aside0.mk (best_start HTL.out)
        have HOKK := Aside0.mk HTL.out.ok
        generalize w7.heap.size = rm at *
        have HNR := Aside0.mk (show gq ≠ rm ∧ gp ≠ rm ∧ bm ≠ rm ∧ w.heap.size ≤ rm from ⟨by omega, by omega, by omega, hwl⟩)
        clear BQ BP HB HTL BF hrg0 hg0 hs0 hgql hgpl hwl hbl
        go_frame
        go_loopw [18] (fun _ wr => ∃ (left : Lit → Bool) (cnt : Nat) (P : Key × Int), Aside0 (wr.ranges Try.prog 27 (plainElem (H := Unit) Try.prog 3) bm rm ks.length D left cnt) ∧ Aside0 (wr.heap[gq]? = some (.cells #[.int .i64 P.1.1, .int .i64 P.1.2.1, .int .u8 P.1.2.2, .int .i64 P.2] 27 (0, 0))) ∧ Aside0 (IsBest (fun p => p ∈ ks ∧ left (klit p) = false) ks P) ∧ Aside0 (wr.heap[gp]? = some (.cells #[.int .i64 0, .int .i64 0, .int .u8 0, .int .i64 0] 27 (0, 0))) ∧ Aside0 (Below w.heap.size w wr)) (fun _ wr => wr.rangeLeft bm rm)
        case atStart => exact ⟨_, _, ((0, 0, 0), 0), HRG0, BQ2, HIS0, BP2, HB2⟩
        case round =>
         clear HRG0 BQ2 HIS0 BP2 HB2
         obtain ⟨left, cnt, P, HRG, BQ, HIS, BP, HB⟩ := hrel
         rcases rng_next HTT.out HRG.out with ⟨hl, hnx⟩ | ⟨q, w9, cnt', hq, hnx, hrg, hlt2, hgr, hsz, hen⟩
         ·have HPE := Aside0.mk (best_end hl HIS.out)
          clear hl
          go_wp2_with fail
          obtain ⟨pq, hpq⟩ : ∃ x, x = bestQ ks := ⟨_, rfl⟩
          have HPE2 : Aside0 (P = pq) := ⟨by rw [HPE.out, hpq]⟩
          have HPQ := Aside0.mk hpq
          clear HPE hpq
          obtain ⟨⟨pa, pb, pc⟩, pd⟩ := P
          have BQ : Aside0 (wr.heap[gq]? = some (.cells #[.int .i64 pa, .int .i64 pb, .int .u8 pc, .int .i64 pd] 27 (0, 0))) := BQ
          have hq0 : wr.drew.cell? ⟨gq, 0, none⟩ = some (.int .i64 pa) := (blk_cell BQ.out 0).trans rfl
          have hq1 : wr.drew.cell? ⟨gq, 1, none⟩ = some (.int .i64 pb) := (blk_cell BQ.out 1).trans rfl
          have hq2 : wr.drew.cell? ⟨gq, 2, none⟩ = some (.int .u8 pc) := (blk_cell BQ.out 2).trans rfl
          have hq3 : wr.drew.cell? ⟨gq, 3, none⟩ = some (.int .i64 pd) := (blk_cell BQ.out 3).trans rfl
          have BP2 : Aside0 (wr.drew.heap[gp]? = some (.cells #[.int .i64 0, .int .i64 0, .int .u8 0, .int .i64 0] 27 (0, 0))) := ⟨BP.out⟩
          have HB2 : Aside0 (Below w.heap.size w wr.drew) := ⟨below_drew HB.out⟩
          obtain ⟨hp0, hp1, hp2, hp3, hf0, hf1, hf2, hf3⟩ := cell4 BP
          clear BQ HIS HRG hnx
          refine start_ (n := 6) (S := fun w' => w'.cell? ⟨gq, 0, none⟩ = some (.int .i64 pa) ∧ w'.cell? ⟨gq, 1, none⟩ = some (.int .i64 pb) ∧ w'.cell? ⟨gq, 2, none⟩ = some (.int .u8 pc) ∧ w'.cell? ⟨gq, 3, none⟩ = some (.int .i64 pd)) (ds := []) #[false, false, false, false, false, false] (by kernel_rfl) rfl rfl ⟨hq0, hq1, hq2, hq3⟩ (fun hHeld => ?_)
          refine pure_ (i := 1) (N := some 104) (v := ?_) (a' := ?_) #[false, true, false, false, false, false] rfl rfl (by kernel_rfl) (fun _ _ _ h => h) (Or.inl ⟨by rfl, ?_⟩) ?_ ?_
          rotate_left
          ·intro w'
           go_simp
           with_reducible rfl
          rotate_left
          ·simp only [Act.put, List.setIfInBounds_toArray, List.set_cons_zero, List.set_cons_succ, i64_w, i32_w]
           rfl
          refine take_ (i := 0) (N := some 103) (v := ?_) (a' := ?_) #[true, true, false, false, false, false] rfl rfl (by kernel_rfl) (fun _ _ _ h => h) (Or.inl ⟨by rfl, ?_⟩) hHeld ?_ ?_
          rotate_left
          ·rintro w' ⟨s0, s1, s2, s3⟩
           go_simp
           with_reducible rfl
          rotate_left
          ·simp only [Act.put, List.setIfInBounds_toArray, List.set_cons_zero, List.set_cons_succ, i64_w, i32_w]
           rfl
          refine take_ (i := 2) (N := some 105) (v := ?_) (a' := ?_) #[true, true, true, false, false, false] rfl rfl (by kernel_rfl) (fun _ _ _ h => h) (Or.inl ⟨by rfl, ?_⟩) hHeld ?_ ?_
          rotate_left
          ·rintro w' ⟨s0, s1, s2, s3⟩
           go_simp
           with_reducible rfl
          rotate_left
          ·simp only [Act.put, List.setIfInBounds_toArray, List.set_cons_zero, List.set_cons_succ, i64_w, i32_w]
           rfl
          refine pure_ (i := 3) (N := some 106) (v := ?_) (a' := ?_) #[true, true, true, true, false, false] rfl rfl (by kernel_rfl) (fun _ _ _ h => h) (Or.inl ⟨by rfl, ?_⟩) ?_ ?_
          rotate_left
          ·intro w'
           go_simp
           with_reducible rfl
          rotate_left
          ·simp only [Act.put, List.setIfInBounds_toArray, List.set_cons_zero, List.set_cons_succ, i64_w, i32_w]
           rfl
          refine one_ (i := 4) (N := none) #[true, true, true, true, true, false] rfl rfl (by kernel_rfl) (by decide) (fun K hK => ?_)
          refine skip_ (w1 := ?_) (by rfl) rfl ?_ ?_
          rotate_left
          ·go_simp
           rfl
          refine hK.out _ _ ⟨far4 (by intro e; exact NQP.out e) _ _ _ _ hq0, far4 (by intro e; exact NQP.out e) _ _ _ _ hq1, far4 (by intro e; exact NQP.out e) _ _ _ _ hq2, far4 (by intro e; exact NQP.out e) _ _ _ _ hq3⟩ (fun hHeld => ?_)
          clear hK K
          refine pure_ (i := 5) (N := some 5) (v := ?_) (a' := ?_) #[true, true, true, true, true, true] rfl rfl (by kernel_rfl) (fun _ _ _ h => h) (Or.inl ⟨by rfl, ?_⟩) ?_ ?_
          rotate_left
          ·intro w'
           go_simp
           with_reducible rfl
          rotate_left
          ·simp only [Act.put, List.setIfInBounds_toArray, List.set_cons_zero, List.set_cons_succ, i64_w, i32_w]
           rfl
          refine done_ (by kernel_rfl) ?_
          have H5 := HH.out
          rw [← HE2.out, ← HPQ.out, ← HPE2.out] at H5
          obtain ⟨rfl, rfl, rfl, rfl, rfl⟩ : pa = r1 ∧ pb = r2 ∧ pc = r3 ∧ pd = r4 ∧ decide (pd > 1) = r5 := by simpa using H5
          clear hp0 hp1 hp2 hp3 hf0 hf1 hf2 hf3
          go_wp2_with fail
          exact bodyPost_ret (results_ct rfl _ _ gp 27 #[.int .i64 pa, .int .i64 pb, .int .u8 pc, .int .i64 pd] (0, 0) _ rfl (set4 BP.out _ _ _ _) Try.underlying27 rfl (by kernel_rfl)) rfl ⟨rfl, below_drew (below4 HB.out GP.out _ _ _ _)⟩
         ·have hgql : gq < wr.heap.size := (Array.getElem?_eq_some_iff.1 BQ.out).1
          have hgpl : gp < wr.heap.size := (Array.getElem?_eq_some_iff.1 BP.out).1
          have HIS2 := Aside0.mk (best_more HOKK.out hq HIS.out)
          have BQ9 := Aside0.mk ((hgr.block gq hgql (fun e => HNR.out.1 (Option.some.inj e))).trans BQ.out)
          have BP9 := Aside0.mk ((hgr.block gp hgpl (fun e => HNR.out.2.1 (Option.some.inj e))).trans BP.out)
          have HB9 := Aside0.mk (HB.out.grown hgr HB.out.size (fun k hk => by cases hk; exact HNR.out.2.2.2))
          have HM0 := Aside0.mk HRG.out.left_eq
          have HLT := Aside0.mk hlt2
          have HRG9 := Aside0.mk hrg
          have hrml := hrg.lt
          have hbml := hrg.owns.lt
          clear BQ BP HB HIS HRG hrg hgr hsz hgql hgpl hlt2
          obtain ⟨qa, qb, qc⟩ := q
          obtain ⟨⟨pa, pb, pc⟩, pd⟩ := P
          obtain ⟨cq, hcq⟩ : ∃ x, x = cntQ ks (qa, qb, qc) := ⟨_, rfl⟩
          rw [← hcq] at hnx hen
          have hnx2 : (Instr.next (.pointer (some ⟨rm, 0, none⟩)) false 0).run Try.prog wr = .ok (.tuple #[.bool true, .agg #[.int .i64 qa, .int .i64 qb, .int .u8 qc, .int .i64 0], .int .i64 cq]) w9 := hnx
          have hen2 : (Instr.entry (.pointer (some ⟨rm, 0, none⟩))).run Try.prog w9 = .ok (.tuple #[.agg #[.int .i64 qa, .int .i64 qb, .int .u8 qc, .int .i64 0], .int .i64 cq]) w9 := hen
          have HSTEP := Aside0.mk (show stepQ ks ((pa, pb, pc), pd) (qa, qb, qc) = if cq > 1 ∧ aheadQ ((qa, qb, qc), cq) ((pa, pb, pc), pd) = true then ((qa, qb, qc), cq) else ((pa, pb, pc), pd) by unfold stepQ; rw [← hcq])
          clear hnx hen hcq hq
          go_upto_region 28 with (first | ((with_reducible refine gD 17 rfl ?_); refine bE 17 #[.int .i64 0, .int .i64 0, .int .u8 0, .int .i64 0] 27 ?_; intro gx hgx w10 hbox hb; have BX := Aside0.mk hbox; have GX := hbS HB9 hgx; have NXQ := neL BQ9 hgx; have NXP := neL BP9 hgx; have NXM := Aside0.mk (show bm ≠ gx by omega); have NXR := Aside0.mk (show rm ≠ gx by omega); replace HRG9 := Aside0.mk (HRG9.out.kept (grow_none hb) (by simp) (by simp)); replace HB9 := hbB HB9 hb; replace BQ9 := bkB BQ9 hb; replace BP9 := bkB BP9 hb; clear hb hbox hgx hrml hbml; obtain ⟨hcx_0, hcx_1, hcx_2, hcx_3, hfx_0, hfx_1, hfx_2, hfx_3⟩ := cell4 BX))
          have BX2 := Aside0.mk (blk_put (cs := #[.int .i64 qa, .int .i64 qb, .int .u8 qc, .int .i64 0]) (set4 BX.out (.int .i64 qa) (.int .i64 qb) (.int .u8 qc) (.int .i64 0)) 3 (.int .i64 cq) rfl)
          have BQ2 := Aside0.mk (blk_far (bfar4 BQ9.out NXQ.out (.int .i64 qa) (.int .i64 qb) (.int .u8 qc) (.int .i64 0)) (p := ⟨gx, 3, none⟩) NXQ.out (.int .i64 cq))
          have BP2 := Aside0.mk (blk_far (bfar4 BP9.out NXP.out (.int .i64 qa) (.int .i64 qb) (.int .u8 qc) (.int .i64 0)) (p := ⟨gx, 3, none⟩) NXP.out (.int .i64 cq))
          have HRG2 := Aside0.mk ((HRG9.out.kept (grow4 w10 gx (.int .i64 qa) (.int .i64 qb) (.int .u8 qc) (.int .i64 0)) (fun e => NXM.out (Option.some.inj e)) (fun e => NXR.out (Option.some.inj e))).kept (w' := ((((w10.setCell ⟨gx, 0, none⟩ (.int .i64 qa)).setCell ⟨gx, 1, none⟩ (.int .i64 qb)).setCell ⟨gx, 2, none⟩ (.int .u8 qc)).setCell ⟨gx, 3, none⟩ (.int .i64 0)).setCell ⟨gx, 3, none⟩ (.int .i64 cq)) (row := some gx) ⟨rfl, rfl, rfl, by simp, fun k _ hk => Below.heap_setCell _ _ _ k (fun e => hk (by rw [e]))⟩ (fun e => NXM.out (Option.some.inj e)) (fun e => NXR.out (Option.some.inj e)))
          have HB2 := Aside0.mk ((below4 HB9.out GX.out (.int .i64 qa) (.int .i64 qb) (.int .u8 qc) (.int .i64 0)).setCell (p := ⟨gx, 3, none⟩) GX.out (.int .i64 cq))
          have hne1 := NXQ.out
          have hne2 : gx ≠ gq := fun e => hne1 e.symm
          clear BX BQ9 BP9 HRG9 HB9 hcx_0 hcx_1 hcx_2 hcx_3 hfx_0 hfx_1 hfx_2 hfx_3 hnx2 hen2
          generalize ((((w10.setCell ⟨gx, 0, none⟩ (.int .i64 qa)).setCell ⟨gx, 1, none⟩ (.int .i64 qb)).setCell ⟨gx, 2, none⟩ (.int .u8 qc)).setCell ⟨gx, 3, none⟩ (.int .i64 0)).setCell ⟨gx, 3, none⟩ (.int .i64 cq) = wq at *
          obtain ⟨hcx_0, hcx_1, hcx_2, hcx_3, hfx_0, hfx_1, hfx_2, hfx_3⟩ := cell4 BX2
          obtain ⟨hcq_0, hcq_1, hcq_2, hcq_3, hfq_0, hfq_1, hfq_2, hfq_3⟩ := cell4 BQ2
          by_cases h1 : 1 < cq
          ·have d1 : decide (1 < cq) = true := decide_eq_true h1
           have HAH := Aside0.mk (show share_ahead.f qa qb qc cq pa pb pc pd = some (aheadQ ((qa, qb, qc), cq) ((pa, pb, pc), pd)) from ahead_f (qa, qb, qc) cq ((pa, pb, pc), pd))
           cases hah : aheadQ ((qa, qb, qc), cq) ((pa, pb, pc), pd)
           ·rw [hah] at HAH
            have HIS3 := HIS2.out
            rw [HSTEP.out, if_neg (fun h => by rw [hah] at h; exact absurd h.2 (by decide))] at HIS3
            have HIS4 := Aside0.mk HIS3
            clear HIS3 HIS2 h1
            go_wp2_with (go_at_call 40; refine (share_ahead.calls qa qb qc cq pa pb pc pd false _ HAH.out).mono ?_; rintro e w11 ⟨rfl, hb⟩; replace HRG2 := Aside0.mk (HRG2.out.kept (grow_none hb) (by simp) (by simp)); replace HB2 := hbB HB2 hb; replace BQ2 := bkB BQ2 hb; replace BP2 := bkB BP2 hb; replace BX2 := bkB BX2 hb; clear hb hcx_0 hcx_1 hcx_2 hcx_3 hfx_0 hfx_1 hfx_2 hfx_3 hcq_0 hcq_1 hcq_2 hcq_3 hfq_0 hfq_1 hfq_2 hfq_3; obtain ⟨hcx_0, hcx_1, hcx_2, hcx_3, hfx_0, hfx_1, hfx_2, hfx_3⟩ := cell4 BX2; obtain ⟨hcq_0, hcq_1, hcq_2, hcq_3, hfq_0, hfq_1, hfq_2, hfq_3⟩ := cell4 BQ2)
            go_roundw
            case rel => exact ⟨_, cnt', ((pa, pb, pc), pd), HRG2, BQ2, HIS4, BP2, HB2⟩
            case measure =>
             rw [HRG2.out.left_eq, HM0.out]
             exact HLT.out
           ·rw [hah] at HAH
            have HIS3 := HIS2.out
            rw [HSTEP.out, if_pos ⟨h1, hah⟩] at HIS3
            have HIS4 := Aside0.mk HIS3
            clear HIS3 HIS2 h1
            go_wp2_with (go_at_call 40; refine (share_ahead.calls qa qb qc cq pa pb pc pd true _ HAH.out).mono ?_; rintro e w11 ⟨rfl, hb⟩; replace HRG2 := Aside0.mk (HRG2.out.kept (grow_none hb) (by simp) (by simp)); replace HB2 := hbB HB2 hb; replace BQ2 := bkB BQ2 hb; replace BP2 := bkB BP2 hb; replace BX2 := bkB BX2 hb; clear hb hcx_0 hcx_1 hcx_2 hcx_3 hfx_0 hfx_1 hfx_2 hfx_3 hcq_0 hcq_1 hcq_2 hcq_3 hfq_0 hfq_1 hfq_2 hfq_3; obtain ⟨hcx_0, hcx_1, hcx_2, hcx_3, hfx_0, hfx_1, hfx_2, hfx_3⟩ := cell4 BX2; obtain ⟨hcq_0, hcq_1, hcq_2, hcq_3, hfq_0, hfq_1, hfq_2, hfq_3⟩ := cell4 BQ2)
            have BQ3 := Aside0.mk (set4 BQ2.out (.int .i64 qa) (.int .i64 qb) (.int .u8 qc) (.int .i64 cq))
            have BP3 := Aside0.mk (bfar4 BP2.out NQP.out (.int .i64 qa) (.int .i64 qb) (.int .u8 qc) (.int .i64 cq))
            have HRG3 := Aside0.mk (HRG2.out.kept (grow4 w11 gq (.int .i64 qa) (.int .i64 qb) (.int .u8 qc) (.int .i64 cq)) (fun e => NQM.out (Option.some.inj e)) (fun e => HNR.out.1 (Option.some.inj e).symm))
            have HB3 := Aside0.mk (below4 HB2.out GQ.out (.int .i64 qa) (.int .i64 qb) (.int .u8 qc) (.int .i64 cq))
            go_roundw
            case rel => exact ⟨_, cnt', ((qa, qb, qc), cq), HRG3, BQ3, HIS4, BP3, HB3⟩
            case measure =>
             rw [HRG3.out.left_eq, HM0.out]
             exact HLT.out
          ·have d1 : decide (1 < cq) = false := decide_eq_false h1
           have HIS3 := HIS2.out
           rw [HSTEP.out, if_neg (fun h => h1 h.1)] at HIS3
           have HIS4 := Aside0.mk HIS3
           clear HIS3 HIS2 h1
           go_wp2
           go_roundw
           case rel => exact ⟨_, cnt', ((pa, pb, pc), pd), HRG2, BQ2, HIS4, BP2, HB2⟩
           case measure =>
            rw [HRG2.out.left_eq, HM0.out]
            exact HLT.out
     ·rw [if_neg hok] at H
      cases H


end Go.Proofs.Ytnfemjnajfdepaa.Q
