/- recouplaw06.SubsetAll answers true wherever the reference answers the first so many sets of the chain of Next. -/
import Derived.Test.YtagghjljbedfdaaDoorEall
namespace Go.Proofs.YtagghjljbedfdaaDoor.Q
open Go.RowKit Go.Shelf Go.Proofs.YtagghjljbedfdaaDoorW.PrintWords Go.Proofs.YtagghjljbedfdaaDoorW.PrintLast Go.Proofs.YtagghjljbedfdaaDoorW.PrintMore
attribute [local go_sem] Oper.semAt_some
set_option linter.unusedVariables false
set_option linter.unusedSimpArgs false


theorem boxed_below {W W' : World} {B : Nat} {t : TypeId} {v : Value} (h : Boxed W B t v) (hb : Below W.heap.size W W') : Boxed W' B t v := (hb.block _ h.lt).trans h
theorem subset_All.calls' (n k : Int) (w : World) :
    Calls Tryd.prog 27 #[.int .i64 n, .int .i64 k] w fun e w' => e = .returned (.func (.func 38) #[] #[.pointer (some ⟨w.heap.size, 0, none⟩), .pointer (some ⟨w.heap.size + 1, 0, none⟩)]) ∧
      Boxed w' w.heap.size 3 (.int .i64 n) ∧ Boxed w' (w.heap.size + 1) 3 (.int .i64 k) ∧ w'.heap.size = w.heap.size + 2 ∧ Below w.heap.size w w' := by
  refine (subset_All.calls n k w).mono ?_
  rintro e w' ⟨rfl, rfl⟩
  refine ⟨rfl, (Boxed.new w 3 _).alloc _, ?_, by simp, ((Below.refl _ w).alloc (Nat.le_refl _) _).alloc (by simp) _⟩
  have := Boxed.new (w.alloc (.cells #[.int .i64 n] 3)) 3 (.int .i64 k)
  rwa [World.size_alloc] at this
theorem cell_mostbox (w : World) (m : Int) : ((w.alloc (.cells #[.int .u16 m] 49)).alloc (.cells #[.bool false] 4)).cell? ⟨w.heap.size, 0, none⟩ = some (.int .u16 m) :=
  ((Boxed.new w 49 (.int .u16 m)).alloc _).cell
theorem frozen_resbox {w w1 : World} {m : Int} (h : Below ((w.alloc (.cells #[.int .u16 m] 49)).alloc (.cells #[.bool false] 4)).heap.size ((w.alloc (.cells #[.int .u16 m] 49)).alloc (.cells #[.bool false] 4)) w1) : Boxed w1 (w.heap.size + 1) 4 (.bool false) := by
  have := Boxed.new (w.alloc (.cells #[.int .u16 m] 49)) 4 (.bool false)
  rw [World.size_alloc] at this
  exact (h.block _ (by simp)).trans this

theorem subset_All1.stops (m bn bk n₀ : Nat) (n k : Int) (xs : List Nat) (hg : subset_All.good n k xs) (w : World) (hbn : bn < n₀) (hbk : bk < n₀) (h0n : 0 < n₀) (hs : n₀ ≤ w.heap.size)
    (cn : w.cell? ⟨bn, 0, none⟩ = some (.int .i64 n)) (ck : w.cell? ⟨bk, 0, none⟩ = some (.int .i64 k)) (hT : TabAt 0 Lib.deBruijn64tab w) :
    SeqStopsK Fence.wide (m + 1) Tryd.prog 38 #[.pointer (some ⟨bn, 0, none⟩), .pointer (some ⟨bk, 0, none⟩)] (fun x : Nat => #[.int .u64 (x : Int)]) (Below n₀) (fun ys => ys = xs) (fun pre => pre <+: xs) xs.length w :=
  fun l J Jx W hW hJ _ hY h0 => subset_All1.calls m l bn bk n₀ n k xs hg J Jx W.heap.size hJ hY W hbn hbk h0n (Nat.le_trans hs hW.size) (pw_cell_below hW cn) (pw_cell_below hW ck) (tab_below hT hW) h0

theorem pfx_snoc {pre l : List Nat} {x : Nat} (hp : pre <+: l) (h : pre.length < l.length) : pre ++ [x] <+: l ↔ x = l.getD pre.length 0 := by
  obtain ⟨t, rfl⟩ := hp
  cases t with
  | nil => simp at h
  | cons y t => simp [List.getD_eq_getElem?_getD]
/-- A mark of a loop over a function, on the way out. -/
def markOf (D : Nat) : Deferred := { target := .collected D, args := #[] }
theorem leaves_marks {F : Fence} {n : Nat} {P : Program} {fn : Func} {tmps : Array Value} {R : Ending → World → Prop} : ∀ (Ds : List Nat) (W : World), (∀ D ∈ Ds, W.heap[D]? = some (.deferred (some []))) → Ds.Nodup →
    (∀ W', (∀ p v, W.cell? p = some v → W'.cell? p = some v) → (∀ B, (∀ D ∈ Ds, B ≤ D) → Below B W W') → LeavesIn F n P fn tmps R [] .returning W') → LeavesInM F n P fn tmps R (Ds.map markOf) .returning W
  | [], W, _, _, h => h W (fun _ _ h => h) (fun B _ => Below.refl _ _)
  | D :: Ds, W, hD, hN, h => by
    have h1 := hD D (by simp)
    refine ⟨by simp, .inl ⟨D, _, rfl, run_takeDeferred h1, leaves_marks Ds _ (fun D' h' => ?_) (List.nodup_cons.1 hN).2 fun W' hc hB => h W' (fun p v hp => hc p v ?_) (fun B hb => ?_)⟩⟩
    · refine (World.putObj_heap_other ?_).trans (hD D' (by simp [h']))
      rintro rfl
      exact (List.nodup_cons.1 hN).1 h'
    · exact cell_kept hp (grownBy_putObj' _ D (.deferred none)) (fun r e => by cases e; exact ⟨_, h1, rfl⟩)
    · have hle := hb D (by simp)
      refine Below.trans ?_ (hB B (fun D' h' => hb D' (by simp [h'])))
      have hg := grownBy_putObj' W D (.deferred none)
      exact ⟨hg.os, hg.tape, hg.output, hg.size, fun k hk => World.putObj_heap_other (by omega)⟩

def recouplaw06_SubsetAll.J (hm hr hl hn hk : Nat) (B : World) (a : Act) (W : World) : Prop :=
  ∃ (i : Nat) (Ds : List Nat) (u0 u1 u2 u3 u4 u10 u11 u12 u13 u14 u15 u16 u17 u18 u19 u20 u21 u22 u23 u24 u25 u26 u27 u28 u29 u30 u31 u32 u33 u34 u35 u36 u37 u38 u39 u40 u41 u42 u43 u44 u45 u46 u47 u48 u49 u50 u51 u52 u53 u54 u55 u56 u57 u58 u59 u60 u61 u62 : Value), i ≤ 2 ∧ a = { tmps := #[u0, u1, u2, u3, u4, .pointer (some ⟨hm, 0, none⟩), .pointer (some ⟨hr, 0, none⟩), .pointer (some ⟨hl, 0, none⟩), .func (.func 38) #[] #[.pointer (some ⟨hn, 0, none⟩), .pointer (some ⟨hk, 0, none⟩)], .int .i64 i, u10, u11, u12, u13, u14, u15, u16, u17, u18, u19, u20, u21, u22, u23, u24, u25, u26, u27, u28, u29, u30, u31, u32, u33, u34, u35, u36, u37, u38, u39, u40, u41, u42, u43, u44, u45, u46, u47, u48, u49, u50, u51, u52, u53, u54, u55, u56, u57, u58, u59, u60, u61, u62], defers := Ds.map markOf } ∧ Below B.heap.size B W ∧ (∀ D ∈ Ds, B.heap.size ≤ D ∧ W.heap[D]? = some (.deferred (some []))) ∧ Ds.Nodup

set_option maxHeartbeats 8000000 in
set_option maxRecDepth 100000 in
theorem recouplaw06_SubsetAll.calls (K : Nat) (n k m : Int) (xs : List Nat) (l : List Nat) (w : World) (m0 : 0 ≤ m) (m1 : m < 65536) (hg : subset_All.good n k xs) (hl : l = xs.take (m.toNat + 1))
    (ha : recouplaw06_anchored.f K = some true) (hr : recoupref06_All.f K n k (m + 1) = some (M.ints l)) (hT : TabAt 0 Lib.deBruijn64tab w) (h0 : 0 < w.heap.size) :
    Calls Tryd.prog 7 #[.int .i64 n, .int .i64 k, .int .u16 m] w fun e w' => e = .returned (.bool true) ∧ Below w.heap.size w w' := by
  have HG := Aside0.mk hg
  have HL := Aside0.mk hl
  have HA := Aside0.mk ha
  have HR := Aside0.mk hr
  have HT := Aside0.mk hT
  have HB := Aside0.mk (Below.refl w.heap.size w)
  clear hg hl ha hr hT
  refine (callsIn_wide (n := 9)).1 ?_
  refine callsIn_of_wp_marks Tryd.func7 rfl trivial ?_ rfl
  have hq : ∀ c W, (binOp BinOp.eql 51 (Value.func (Fn.func 38) #[] c) Value.nilFunc).run Tryd.prog W = .ok (.bool false) W := by intros; kernel_rfl
  simp only [Tryd.ntmps7, List.size_toArray, List.length_cons, List.length_nil, Nat.reduceAdd, Nat.reduceSub, Array.replicate_succ, Array.replicate_zero, List.push_toArray, List.append_toArray, List.nil_append, List.cons_append]
  gi_wp2_with (first
    | (refine ⟨trivial, ?_⟩; gi_at_call 26; refine (callsIn_wide.2 (recouplaw06_anchored.calls K true _ HA.out (tab_below HT.out (by repeat (first | exact HB.out | apply below_alloc | apply pw_below_drewN))))).mono ?_; rintro e w1 ⟨rfl, hb⟩; have hcm := pw_cell_below hb (cell_mostbox w m); have hfr := frozen_resbox hb; have hsz1 : w.heap.size + 2 ≤ w1.heap.size := (by have := hb.size; simpa using this); have HB2 := Aside0.mk (below_step (by repeat (first | exact HB.out | apply below_alloc)) hb); clear HB; have HB := HB2; clear HB2 hb)
    | (refine ⟨trivial, ?_⟩; gi_at_call 27; refine (callsIn_wide.2 (subset_All.calls' _ _ _)).mono ?_; rintro e w2 ⟨rfl, hbn, hbk, hsz2, hb⟩; have n1_ := pw_cell_below hb hcm; have n2_ := boxed_below hfr hb; clear hcm hfr; have hcm := n1_; have hfr := n2_; have HB2 := Aside0.mk (below_step (by repeat (first | exact HB.out | apply below_alloc)) hb); clear HB; have HB := HB2; clear n1_ n2_ HB2 hb)
    | (refine ⟨trivial, ?_⟩; gi_at_call 28; refine (callsIn_wide.2 (recoupref06_All.calls K n k (m + 1) (M.ints l) _ HR.out)).mono ?_; rintro e w3 ⟨v0, rfl, ho, hb⟩; obtain ⟨A, cp, eo⟩ := Kd.R_slice ho; subst eo; have HRD := Aside0.mk (Kd.R_reads' ho).2.2; have n1_ := pw_cell_below hb hcm; have n2_ := boxed_below hfr hb; clear hcm hfr; have hcm := n1_; have hfr := n2_; have HB2 := Aside0.mk (below_step (by repeat (first | exact HB.out | apply below_alloc)) hb); clear HB; have HB := HB2; clear n1_ n2_ HB2 hb ho))
  have hB4 : Below w3.heap.size w3 (w3.alloc (.cells #[.slice A (M.ints l).length cp] 53)) := (Below.refl _ w3).alloc (Nat.le_refl _) _
  have hbl := Boxed.new w3 53 (Value.slice A (M.ints l).length cp)
  have n1_ := pw_cell_below hB4 hcm
  have n2_ := boxed_below hfr hB4
  have hszl : w.heap.size + 2 ≤ w3.heap.size := by have := hfr.lt; have := HB.out.size; omega
  have HB2 := Aside0.mk (below_step HB.out hB4)
  clear HB hcm hfr hbn hbk
  have HRD2 := HRD
  clear HRD
  obtain ⟨W3, hW3⟩ : ∃ W3, W3 = w3.alloc (.cells #[.slice A (M.ints l).length cp] 53) := ⟨_, rfl⟩
  rw [← hW3] at n1_ n2_ HB2 hbl hB4 ⊢
  have hrd : ∀ j : Nat, j < l.length → ∃ ad, A = some ad ∧ W3.cell? (ad.add j) = some (.int .u64 ((l.getD j 0 : Nat) : Int)) := by
    intro j hj
    have hj2 : j < (M.ints l).length := by simpa [M.ints] using hj
    obtain ⟨ad, ea, hx⟩ := Kd.at_int HRD2.out (j : Int) (by omega) (by omega)
    refine ⟨ad, ea, pw_cell_below hB4 ?_⟩
    have e1 : (M.ints l).getD j 0 = ((l.getD j 0 : Nat) : Int) := by simp [M.ints, List.getD_eq_getElem?_getD, hj]
    rw [← e1]
    exact hx
  have HRD := Aside0.mk hrd
  clear hrd HRD2 hW3 hB4
  gi_wp2_with (refine ⟨trivial, ?_⟩; gi_at_call 27; refine (callsIn_wide.2 (subset_All.calls' _ _ _)).mono ?_; rintro e w4 ⟨rfl, hbn, hbk, hsz4, hb⟩)
  have hB0 := below_step HB2.out hb
  have cm := pw_cell_below hb n1_
  have cr := boxed_below n2_ hb
  have cl := boxed_below hbl hb
  have hrd : ∀ j : Nat, j < l.length → ∃ ad, A = some ad ∧ w4.cell? (ad.add j) = some (.int .u64 ((l.getD j 0 : Nat) : Int)) := by
    intro j hj
    obtain ⟨ad, ea, hx⟩ := HRD.out j hj
    exact ⟨ad, ea, pw_cell_below hb hx⟩
  rw [show (M.ints l).length = l.length from by simp [M.ints]] at cl
  have cT := tab_below HT.out hB0
  have HB0 := Aside0.mk hB0
  have HRD0 := Aside0.mk hrd
  have CT := Aside0.mk cT
  have CM := Aside0.mk cm
  have CR := Aside0.mk cr
  have CL := Aside0.mk cl
  have CN := Aside0.mk hbn
  have CK := Aside0.mk hbk
  clear hrd cT HRD HB2 hb cm cr cl hbn hbk n1_ n2_ hbl hB0
  refine wpIn_loop (recouplaw06_SubsetAll.J w.heap.size (w.heap.size + 1) w3.heap.size W3.heap.size (W3.heap.size + 1) w4) (fun a _ => 2 - (intOf (a.tmps.getD 9 undef)).toNat) ?_ ?_
  · exact ⟨0, [], _, _, _, _, _, _, _, _, _, _, _, _, _, _, _, _, _, _, _, _, _, _, _, _, _, _, _, _, _, _, _, _, _, _, _, _, _, _, _, _, _, _, _, _, _, _, _, _, _, _, _, _, _, _, _, _, _, _, by omega, rfl, Below.refl _ _, by simp, by simp⟩
  · rintro a W ⟨i, Ds, u0, u1, u2, u3, u4, u10, u11, u12, u13, u14, u15, u16, u17, u18, u19, u20, u21, u22, u23, u24, u25, u26, u27, u28, u29, u30, u31, u32, u33, u34, u35, u36, u37, u38, u39, u40, u41, u42, u43, u44, u45, u46, u47, u48, u49, u50, u51, u52, u53, u54, u55, u56, u57, u58, u59, u60, u61, u62, hi, rfl, hBW, hDs, hND⟩
    by_cases hlt : i < 2
    · gi_wp2
      have hB5 : Below w4.heap.size w4 (W.alloc (.cells #[.int .i64 0] 3)) := hBW.trans ((Below.refl _ W).alloc hBW.size _)
      have hsB : w4.heap.size ≤ W.heap.size := hBW.size
      have hs5 : w4.heap.size ≤ (W.alloc (.cells #[.int .i64 0] 3)).heap.size := hB5.size
      have hbx := Boxed.new W 3 (.int .i64 0)
      have hpos : 0 < w4.heap.size := by have := HB0.out.size; omega
      have hMK : ∀ D ∈ Ds, w4.heap.size ≤ D ∧ D < W.heap.size ∧ (W.alloc (.cells #[.int .i64 0] 3)).heap[D]? = some (.deferred (some [])) := fun D hD => by
        obtain ⟨a1, a2⟩ := hDs D hD
        have a3 := (Array.getElem?_eq_some_iff.1 a2).1
        exact ⟨a1, a3, (Below.heap_alloc W _ D a3).trans a2⟩
      have hwl : W.heap.size < (W.alloc (.cells #[.int .i64 0] 3)).heap.size := by simp
      obtain ⟨W5, hW5⟩ : ∃ W5, W5 = W.alloc (.cells #[.int .i64 0] 3) := ⟨_, rfl⟩
      rw [← hW5] at hB5 hs5 hbx hMK hwl ⊢
      clear hW5
      refine wpIn_rangeFunc_ownF rfl (by decide) (gf := 38) (lb := #[.pointer (some ⟨W3.heap.size, 0, none⟩), .pointer (some ⟨W3.heap.size + 1, 0, none⟩)]) rfl trivial (enters_of Tryd.func38 (by kernel_rfl) rfl)
        (subset_All1.stops 7 W3.heap.size (W3.heap.size + 1) w4.heap.size n k xs HG.out W5 (by omega) (by omega) hpos hs5 (pw_cell_below hB5 CN.out.cell) (pw_cell_below hB5 CK.out.cell) (tab_below CT.out hB5))
        belowK_t (belowK_b hs5) (Below.refl _ _) (fun _ => rfl)
        (fun pre V => (pre <+: l ∧ pre.length < m.toNat + 1) ∧ Boxed V W.heap.size 3 (.int .i64 (pre.length : Nat)) ∧ (∀ D ∈ Ds, V.heap[D]? = some (.deferred (some []))) ∧ Below w4.heap.size w4 V)
        (fun c pre V => (¬ pre <+: l ∧ pre.length ≤ m.toNat + 1 ∧ c = .ret) ∨ ((c = .exit 2 ∧ pre <+: l ∧ pre.length = m.toNat + 1) ∧ Boxed V W.heap.size 3 (.int .i64 (pre.length : Nat)) ∧ (∀ D ∈ Ds, V.heap[D]? = some (.deferred (some []))) ∧ Below w4.heap.size w4 V))
        ?own ?ownx ?start ?a1 ?assign ?body ?done ?stop
      case own =>
        rintro pre V V' row ⟨h1, h2, h3, h4⟩ hg hr
        refine ⟨h1, boxed_own W.heap.size 3 (fun _ : Unit => _) () V V' row h2 hg (fun r e => (hr r e).2), fun D hD => ?_, ownFrom_below (Nat.le_refl _) hs5 () V V' row h4 hg hr⟩
        refine (hg.block D (Array.getElem?_eq_some_iff.1 (h3 D hD)).1 (fun e => ?_)).trans (h3 D hD)
        have := (hr D e.symm).1
        have := (hMK D hD).2.1
        omega
      case ownx =>
        rintro c pre V V' row (h | ⟨h1, h2, h3, h4⟩) hg hr
        · exact .inl h
        · refine .inr ⟨h1, boxed_own W.heap.size 3 (fun _ : Unit => _) () V V' row h2 hg (fun r e => (hr r e).2), fun D hD => ?_, ownFrom_below (Nat.le_refl _) hs5 () V V' row h4 hg hr⟩
          refine (hg.block D (Array.getElem?_eq_some_iff.1 (h3 D hD)).1 (fun e => ?_)).trans (h3 D hD)
          have := (hr D e.symm).1
          have := (hMK D hD).2.1
          omega
      case start => exact ⟨⟨List.nil_prefix, by simp⟩, hbx, fun D hD => (hMK D hD).2.2, hB5⟩
      case assign =>
        intro lo x V K hK
        gi_wp2
        exact hK
      case body =>
        rintro lo pre x V ⟨⟨hp, hlen⟩, hbV, hMV, hBV⟩ _
        have cAt := hbV.cell
        have fAt := hbV.frozen
        have cL := pw_cell_below hBV CL.out.cell
        have cM := pw_cell_below hBV CM.out
        have bR := boxed_below CR.out hBV
        have cR := bR.cell
        have fR := bR.frozen
        have BR := Aside0.mk bR
        have BV := Aside0.mk hbV
        have HBV := Aside0.mk hBV
        have HMV := Aside0.mk hMV
        have HP := Aside0.mk hp
        clear bR hbV hBV hMV hp
        have q1 : (w.heap.size = W.heap.size) = False := by simp; have := HB0.out.size; have := hBW.size; have := CM.out; have := World.block_lt_of_cell? _ _ CM.out; simp only at this; omega
        have q2 : (W.heap.size = w.heap.size) = False := by simp; intro e; exact q1.mp e.symm
        have pS : Boxed (V.setCell ⟨W.heap.size, 0, none⟩ (.int .i64 ((pre.length : Int) + 1))) W.heap.size 3 (.int .i64 (((pre ++ [x]).length : Nat) : Int)) := by
          have := BV.out.set (.int .i64 ((pre.length : Int) + 1))
          rwa [show ((((pre ++ [x]).length : Nat) : Int)) = (pre.length : Int) + 1 from by simp]
        have mS : ∀ D ∈ Ds, (V.setCell ⟨W.heap.size, 0, none⟩ (.int .i64 ((pre.length : Int) + 1))).heap[D]? = some (.deferred (some [])) := fun D hD =>
          (Below.heap_setCell _ _ _ D (by have := (hMK D hD).2.1; simp only; omega)).trans (HMV.out D hD)
        have kS : Below w4.heap.size V (V.setCell ⟨W.heap.size, 0, none⟩ (.int .i64 ((pre.length : Int) + 1))) := (Below.refl _ V).setCell (p := ⟨W.heap.size, 0, none⟩) hsB _
        have bS : Below w4.heap.size w4 (V.setCell ⟨W.heap.size, 0, none⟩ (.int .i64 ((pre.length : Int) + 1))) := HBV.out.setCell (p := ⟨W.heap.size, 0, none⟩) hsB _
        have PS := Aside0.mk pS
        have MS := Aside0.mk mS
        have KS := Aside0.mk kS
        have BS := Aside0.mk bS
        clear pS mS kS bS
        by_cases hfull : l.length ≤ pre.length
        · gi_wp2
          exact ⟨KeepsOthers.setCell _ _ _, .inl ⟨fun h => by have := h.length_le; simp at this; omega, by simp; omega, rfl⟩⟩
        · obtain ⟨ad, eA, hx0⟩ := HRD0.out pre.length (by omega)
          subst eA
          have cX := pw_cell_below HBV.out hx0
          by_cases hx : x = l.getD pre.length 0
          · have HPX := Aside0.mk ((pfx_snoc HP.out (by omega)).2 hx)
            rw [← hx] at cX
            gi_wp2
            · rename_i hc
              have hc2 : (pre.length : Int) + 1 = m + 1 := by simpa using hc
              exact ⟨KeepsOthers.setCell _ _ _, .inr ⟨⟨rfl, HPX.out, by simp; omega⟩, PS.out, MS.out, BS.out⟩⟩
            · rename_i hc
              have hc2 : ¬ (pre.length : Int) + 1 = m + 1 := by simpa using hc
              exact ⟨KeepsOthers.setCell _ _ _, KS.out, ⟨HPX.out, by simp; omega⟩, PS.out, MS.out, BS.out⟩
          · have HNX := Aside0.mk (fun h => hx ((pfx_snoc HP.out (by omega)).1 h))
            obtain ⟨y, hy⟩ : ∃ y, y = l.getD pre.length 0 := ⟨_, rfl⟩
            rw [← hy] at cX hx
            clear hy hx0
            have hxy4 : ((x : Int) != (y : Int)) = true := bne_iff_ne.mpr (by omega)
            clear hx
            gi_wp2
            exact ⟨KeepsOthers.setCell _ _ _, .inl ⟨HNX.out, by simp; omega, rfl⟩⟩
      case done =>
        rintro D ys V hD rfl ⟨⟨hp, hlen⟩, hbV, hMV, hBV⟩ hK
        have hll : ys.length = l.length := by rw [HL.out, List.length_take]; omega
        have cAt := hbV.cell
        rw [hll] at cAt
        have cL := pw_cell_below hBV CL.out.cell
        have MV := Aside0.mk hMV
        have BV := Aside0.mk hBV
        have KD := Aside0.mk hK
        clear hbV hMV hBV hK hp
        gi_wp2
        refine ⟨⟨i + 1, D :: Ds, _, _, _, _, _, _, _, _, _, _, _, _, _, _, _, _, _, _, _, _, _, _, _, _, _, _, _, _, _, _, _, _, _, _, _, _, _, _, _, _, _, _, _, _, _, _, _, _, _, _, _, _, _, _, _, _, _, _, by omega, rfl, BV.out, fun D' hD' => ?_, List.nodup_cons.2 ⟨fun h => ?_, hND⟩⟩, ?_⟩
        · rcases List.mem_cons.1 hD' with rfl | h
          · exact ⟨by omega, KD.out⟩
          · exact ⟨(hMK D' h).1, MV.out D' h⟩
        · have := (hMK D h).2.1
          omega
        · simp [intOf]
          omega
      case stop =>
        rintro D c pre V hD hpre (⟨hn, hlen, rfl⟩ | ⟨⟨rfl, hp, hlen⟩, hbV, hMV, hBV⟩) hK
        · exact absurd (by rw [HL.out, List.prefix_take_iff]; exact ⟨hpre, hlen⟩) hn
        have hll : pre.length = l.length := by
          have h1 := hp.length_le
          have h2 : l.length ≤ m.toNat + 1 := by rw [HL.out, List.length_take]; omega
          omega
        have cAt := hbV.cell
        rw [hll] at cAt
        have cL := pw_cell_below hBV CL.out.cell
        have MV := Aside0.mk hMV
        have BV := Aside0.mk hBV
        have KD := Aside0.mk hK
        clear hbV hMV hBV hK hp
        gi_wp2
        refine ⟨⟨i + 1, D :: Ds, _, _, _, _, _, _, _, _, _, _, _, _, _, _, _, _, _, _, _, _, _, _, _, _, _, _, _, _, _, _, _, _, _, _, _, _, _, _, _, _, _, _, _, _, _, _, _, _, _, _, _, _, _, _, _, _, _, _, by omega, rfl, BV.out, fun D' hD' => ?_, List.nodup_cons.2 ⟨fun h => ?_, hND⟩⟩, ?_⟩
        · rcases List.mem_cons.1 hD' with rfl | h
          · exact ⟨by omega, KD.out⟩
          · exact ⟨(hMK D' h).1, MV.out D' h⟩
        · have := (hMK D h).2.1
          omega
        · simp [intOf]
          omega
    · obtain rfl : i = 2 := by omega
      have hTW : TabAt 0 Lib.deBruijn64tab W := tab_below CT.out hBW
      have hrW := boxed_below CR.out hBW
      gi_wp2_with (refine ⟨trivial, ?_⟩; gi_at_call 26; refine (callsIn_wide.2 (recouplaw06_anchored.calls K true _ HA.out hTW)).mono ?_; rintro e w5 ⟨rfl, hb5⟩; have hr5 := boxed_below hrW hb5; have hrc := hr5.cell; have hrf := hr5.frozen)
      refine leaves_marks Ds _ (fun D hD => ?_) hND fun W6 hc6 hB6 => ?_
      · have h1 := (hDs D hD).2
        have h2 := (hb5.block D (Array.getElem?_eq_some_iff.1 h1).1).trans h1
        refine (Below.heap_setCell _ _ _ D ?_).trans h2
        have := (hDs D hD).1
        have := CR.out.lt
        simp only
        omega
      · have hc7 := hc6 _ _ (World.cell?_setCell_same' w5 ⟨w.heap.size + 1, 0, none⟩ (.bool true) (by rw [hrc]; rfl))
        refine ⟨.bool true, ?_, rfl, ?_⟩
        · simp [results, show Tryd.f7.results = #[ResultVar.cell 6 4] from rfl, go_sem, hc7]
        · have hB7 := hB6 w4.heap.size (fun D hD => (hDs D hD).1)
          have hle : w.heap.size ≤ w4.heap.size := HB0.out.size
          have s1 : Below w.heap.size w w5 := (below_step HB0.out hBW).trans (hb5.mono (by have := hBW.size; omega))
          exact (s1.setCell (p := ⟨w.heap.size + 1, 0, none⟩) (by simp) _).trans (hB7.mono hle)
end Go.Proofs.YtagghjljbedfdaaDoor.Q
