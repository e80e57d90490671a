/- Written by drive.py (a program of this repo, over the kit's print): each Go function named here answers what the Lean function beside it answers, wherever that one answers, in every world that meets the stated premises. -/
import Derived.Test.YtjgcocfnilhggaaDoorQx0
import Derived.Test.YtjgcocfnilhggaaDoorQx164
import Derived.Test.YtjgcocfnilhggaaDoorQx200
import Derived.Test.YtjgcocfnilhggaaDoorQx208
import Derived.Test.YtjgcocfnilhggaaDoorQx217
import Derived.Test.YtjgcocfnilhggaaDoorQx220
namespace Go.Proofs.YtjgcocfnilhggaaDoor.Q
open Go.RowKit Go.Proofs.YtjgcocfnilhggaaDoorW.PrintWords Go.Proofs.YtjgcocfnilhggaaDoorW.PrintLast Go.Proofs.YtjgcocfnilhggaaDoorW.PrintMore
attribute [local go_sem] max2_int min2_int max_two min_two max_three min_three max_four min_four   -- for this text's walks alone
set_option linter.unusedVariables false
set_option linter.unusedSimpArgs false

/-! ### gauss_Reduce: function 90 -/
/-! ### rows of bytes in memory -/
/-- The place that a slice of bytes begins at lies in a block of bytes. -/
def Byt (w : World) (A : Option Addr) : Prop := ∀ ad, A = some ad → ∃ cells : Array Value, w.heap[ad.block]? = some (.cells cells 5 (0, 0))
/-- Blocks of bytes stay. -/
def KeepB (w w1 : World) : Prop := ∀ (b : Nat) (cells : Array Value), w.heap[b]? = some (.cells cells 5 (0, 0)) → w1.heap[b]? = w.heap[b]?
theorem lt_of_get {w : World} {b : Nat} {o : Obj} (h : w.heap[b]? = some o) : b < w.heap.size := by
  rcases Nat.lt_or_ge b w.heap.size with hb | hb
  · exact hb
  · rw [Array.getElem?_eq_none hb] at h
    cases h
theorem KeepB.refl (w : World) : KeepB w w := fun _ _ _ => rfl
theorem KeepB.trans {u v w : World} (h : KeepB u v) (k : KeepB v w) : KeepB u w := fun b cells hb => (k b cells ((h b cells hb).trans hb)).trans (h b cells hb)
theorem KeepB.below {w w1 : World} (h : Below w.heap.size w w1) : KeepB w w1 := fun b _ hb => h.block b (lt_of_get hb)
theorem KeepB.grown {w w1 : World} {p t : Nat} {cells : Array Value} (h : w.grownBy w1 (some p)) (hp : w.heap[p]? = some (.cells cells t (0, 0))) (ht : t ≠ 5) : KeepB w w1 := fun b c hb => h.block b (lt_of_get hb) (by
  intro e
  injection e with e
  subst e
  rw [hp] at hb
  injection hb with hb
  injection hb with _ hb
  exact ht hb)
theorem C_keepB {w w1 : World} {A : Option Addr} {n : Nat} {l : List Int} (h : Kd.C (Kd.int .u8) w A n l) (hA : Byt w A) (k : KeepB w w1) : Kd.C (Kd.int .u8) w1 A n l := by
  have h1 := Kd.reads_of_C (enc := Value.int .u8) (d := (0 : Int)) (h1 := fun _ => rfl) h
  refine Kd.C_of_reads (d := (0 : Int)) ⟨h1.1, h1.2.1, fun hn => ?_⟩
  obtain ⟨ad, ha, hr⟩ := h1.2.2 hn
  obtain ⟨cells, hb⟩ := hA ad ha
  refine ⟨ad, ha, fun j hj => ?_⟩
  have := hr j hj
  unfold World.cell? at this ⊢
  have hbl : (ad.add j).block = ad.block := by unfold Addr.add; split <;> rfl
  rw [hbl] at this ⊢
  rw [k _ _ hb]
  exact this
/-- A value that is a slice of these bytes. -/
structure RowV (w : World) (v : Value) (l : List Int) : Prop where
  out : ∃ A c, v = .slice A l.length c ∧ l.length ≤ c ∧ Kd.C (Kd.int .u8) w A l.length l ∧ Byt w A
theorem Byt.keep {w w1 : World} {A : Option Addr} (h : Byt w A) (k : KeepB w w1) : Byt w1 A := fun ad ha => (h ad ha).imp fun cells hb => (k _ _ hb).trans hb
theorem RowV.keep {w w1 : World} {v : Value} {l : List Int} (h : RowV w v l) (k : KeepB w w1) : RowV w1 v l := by
  obtain ⟨A, c, h1, h2, h3, h4⟩ := h.out
  exact ⟨A, c, h1, h2, C_keepB h3 h4 k, h4.keep k⟩
theorem RowV.nil (w : World) : RowV w (.slice none 0 0) [] := ⟨none, 0, rfl, Nat.le_refl _, Kd.C_nil _ _, fun ad h => by cases h⟩
theorem byt_of_R {w : World} {base : Nat} {ok : Nat → Prop} {A : Option Addr} {n c : Nat} {l : List Int} (h : Kd.R (Kd.int .u8) 5 w base ok (.slice A n c) l) : Byt w A := by
  obtain ⟨inner, ho⟩ := Kd.R_own h
  intro ad ha
  rcases ho.2 with ⟨h', _⟩ | ⟨g', cap', cur, h', _, hh, _⟩
  · injection h' with h'
    rw [h'] at ha
    cases ha
  · injection h' with h'
    rw [h'] at ha
    cases ha
    exact ⟨_, hh⟩
theorem RowV.of_R {w : World} {base : Nat} {ok : Nat → Prop} {v : Value} {l : List Int} (h : Kd.R (Kd.int .u8) 5 w base ok v l) : RowV w v l := by
  obtain ⟨A, c, rfl⟩ := Kd.R_slice h
  exact ⟨A, c, rfl, (Kd.R_reads' h).2.1, (Kd.R_reads' h).2.2, byt_of_R h⟩
/-- Block g holds the slices of these rows. -/
structure Lst (w : World) (g : Nat) (M : List (List Int)) : Prop where
  typ : 0 < M.length → ∃ cells : Array Value, w.heap[g]? = some (.cells cells 22 (0, 0))
  row : ∀ i, i < M.length → ∃ v, w.cell? ⟨g, i, none⟩ = some v ∧ RowV w v (M.getD i [])
  frz : ∀ i, i < M.length → w.frozen? ⟨g, i, none⟩ = false
/-- Nothing but blocks of which s tells has changed. -/
structure Chg (w w1 : World) (s : Nat → Prop) : Prop where
  os : w1.os = w.os
  tape : w1.tape = w.tape
  output : w1.output = w.output
  size : w.heap.size ≤ w1.heap.size
  block : ∀ i, i < w.heap.size → ¬ s i → w1.heap[i]? = w.heap[i]?
theorem Chg.refl (w : World) (s : Nat → Prop) : Chg w w s := ⟨rfl, rfl, rfl, Nat.le_refl _, fun _ _ _ => rfl⟩
theorem Chg.trans {u v w : World} {s : Nat → Prop} (h : Chg u v s) (k : Chg v w s) : Chg u w s :=
  ⟨k.os.trans h.os, k.tape.trans h.tape, k.output.trans h.output, Nat.le_trans h.size k.size, fun i hi hs => (k.block i (Nat.lt_of_lt_of_le hi h.size) hs).trans (h.block i hi hs)⟩
theorem Chg.mono {w w1 : World} {s t : Nat → Prop} (h : Chg w w1 s) (k : ∀ i, i < w.heap.size → s i → t i) : Chg w w1 t :=
  ⟨h.os, h.tape, h.output, h.size, fun i hi ht => h.block i hi fun hs => ht (k i hi hs)⟩
theorem Chg.grown {w w1 : World} {g : Nat} (h : w.grownBy w1 (some g)) : Chg w w1 (fun i => i = g) :=
  ⟨h.os, h.tape, h.output, h.size, fun i hi hs => h.block i hi (fun e => hs (Option.some.inj e))⟩
theorem Chg.below {w w1 : World} {n : Nat} (h : Below n w w1) (hn : n ≤ w.heap.size) : Chg w w1 (fun i => n ≤ i) :=
  ⟨h.os, h.tape, h.output, h.size, fun i hi hs => h.block i (Nat.lt_of_not_le hs)⟩
theorem Chg.below_all {w w1 : World} (h : Below w.heap.size w w1) (s : Nat → Prop) : Chg w w1 s :=
  ⟨h.os, h.tape, h.output, h.size, fun i hi _ => h.block i hi⟩
theorem Chg.to_below {w w1 : World} {s : Nat → Prop} {n : Nat} (h : Chg w w1 s) (hn : n ≤ w.heap.size) (k : ∀ i, s i → n ≤ i) : Below n w w1 :=
  ⟨h.os, h.tape, h.output, h.size, fun i hi => h.block i (by omega) fun hs => by have := k i hs; omega⟩
theorem cell_same {w w1 : World} {p : Addr} (h : w1.heap[p.block]? = w.heap[p.block]?) : w1.cell? p = w.cell? p := by unfold World.cell?; rw [h]
theorem frozen_same {w w1 : World} {p : Addr} (h : w1.heap[p.block]? = w.heap[p.block]?) : w1.frozen? p = w.frozen? p := by unfold World.frozen?; rw [h]
theorem Lst.same {w w1 : World} {g : Nat} {M : List (List Int)} (h : Lst w g M) (hg : w1.heap[g]? = w.heap[g]?) (k : KeepB w w1) : Lst w1 g M :=
  ⟨fun h0 => (h.typ h0).imp fun _ hc => hg.trans hc, fun i hi => (h.row i hi).imp fun v hv => ⟨(cell_same (p := ⟨g, i, none⟩) hg).trans hv.1, hv.2.keep k⟩, fun i hi => (frozen_same (p := ⟨g, i, none⟩) hg).trans (h.frz i hi)⟩
theorem Lst.lt {w : World} {g : Nat} {M : List (List Int)} (h : Lst w g M) (h0 : 0 < M.length) : g < w.heap.size := (h.typ h0).elim fun _ hc => lt_of_get hc
theorem Lst.below {w w1 : World} {g : Nat} {M : List (List Int)} (h : Lst w g M) (hb : Below w.heap.size w w1) : Lst w1 g M := by
  rcases Nat.eq_zero_or_pos M.length with h0 | h0
  · exact ⟨fun h => by omega, fun i hi => by omega, fun i hi => by omega⟩
  · exact h.same (hb.block g (h.lt h0)) (KeepB.below hb)
/-- One row anew. -/
theorem Lst.put {w : World} {g : Nat} {M : List (List Int)} (h : Lst w g M) {i : Nat} (hi : i < M.length) {v : Value} {l : List Int} (hv : RowV w v l) : Lst (w.setCell ⟨g, i, none⟩ v) g (M.set i l) := by
  obtain ⟨cells, hc⟩ := h.typ (by omega)
  have kb : KeepB w (w.setCell ⟨g, i, none⟩ v) := fun b c hb => Below.heap_setCell _ _ _ b (by
    rintro rfl
    rw [hc] at hb
    injection hb with hb
    injection hb with _ hb
    exact absurd hb (by decide))
  refine ⟨fun _ => ?_, fun j hj => ?_, fun j hj => ?_⟩
  · exact ⟨_, blk_put hc i v rfl⟩
  · rw [List.length_set] at hj
    by_cases e : i = j
    · subst e
      obtain ⟨v0, h1, _⟩ := h.row i hi
      refine ⟨v, World.cell?_setCell_same' _ _ _ (by rw [h1]; rfl), ?_⟩
      rw [List.getD_eq_getElem?_getD, List.getElem?_set_self hi]
      exact hv.keep kb
    · obtain ⟨v0, h1, h2⟩ := h.row j hj
      refine ⟨v0, (World.cell?_setCell_other _ _ _ _ (by simp [e])).trans h1, ?_⟩
      rw [List.getD_eq_getElem?_getD, List.getElem?_set_ne e, ← List.getD_eq_getElem?_getD]
      exact h2.keep kb
  · rw [World.frozen?_setCell]
    exact h.frz j (by simpa using hj)
theorem grown_trans {u v w : World} {r : Option Nat} (h : u.grownBy v r) (k : v.grownBy w r) : u.grownBy w r :=
  ⟨k.os.trans h.os, k.tape.trans h.tape, k.output.trans h.output, Nat.le_trans h.size k.size, fun i hi hr => (k.block i (Nat.lt_of_lt_of_le hi h.size) hr).trans (h.block i hi hr)⟩
theorem grown_below {u v : World} {r : Option Nat} (h : Below u.heap.size u v) : u.grownBy v r := ⟨h.os, h.tape, h.output, h.size, fun k hk _ => h.block k hk⟩
theorem grown_set (w : World) (g j : Nat) (v : Value) : w.grownBy (w.setCell ⟨g, j, none⟩ v) (some g) :=
  ⟨rfl, rfl, rfl, by simp, fun k _ hk => Below.heap_setCell _ _ _ k (fun e => hk (by rw [e]))⟩
theorem grown_drew {w W : World} {r : Option Nat} (h : w.grownBy W r) : w.grownBy W.drew r := ⟨h.os, h.tape, h.output, h.size, h.block⟩
theorem below_frozen {W w2 : World} (hb : Below W.heap.size W w2) {p : Addr} (h : p.block < W.heap.size) : w2.frozen? p = W.frozen? p := frozen_same (hb.block _ h)
theorem Lst.drew {w : World} {g : Nat} {M : List (List Int)} (h : Lst w g M) : Lst w.drew g M := h.below (below_drew (Below.refl _ _))
/-! ### what is done to rows -/
def swapS (o : Int) (M : List (List Int)) (top i : Nat) : List (List Int) := ((M.set i (M.getD top [])).set top (M.getD i [])).set top ((M.getD i []).map (mulT o))
def xorL (a b : List Int) : List Int := List.zipWith (Go.bits .xor .u8) a b
def macS (M : List (List Int)) (k top : Nat) (c : Int) : List (List Int) := M.set k (xorL ((M.getD top []).map (mulT c)) (M.getD k []))
def entry (M : List (List Int)) (i j : Nat) : Int := (M.getD i []).getD j 0
def rowsB (M : List (List Int)) : Bool := M.all bytesB
theorem rowsB_at {M : List (List Int)} (h : rowsB M = true) (i : Nat) : bytesB (M.getD i []) = true := by
  rw [List.getD_eq_getElem?_getD]
  rcases Nat.lt_or_ge i M.length with hi | hi
  · rw [List.getElem?_eq_getElem hi]
    exact List.all_eq_true.1 h _ (List.getElem_mem hi)
  · rw [List.getElem?_eq_none hi]
    rfl
theorem rowsB_set {M : List (List Int)} (h : rowsB M = true) {i : Nat} {l : List Int} (hl : bytesB l = true) : rowsB (M.set i l) = true := by
  rw [rowsB, List.all_eq_true]
  intro x hx
  rcases List.mem_or_eq_of_mem_set hx with hx | rfl
  · exact List.all_eq_true.1 h x hx
  · exact hl

/-! ### the closures of reduce -/
theorem bytes_scale {o : Int} {l : List Int} (ho : 0 ≤ o ∧ o < 256) (hl : bytesB l = true) (hn : l.length ≤ 1000000) : field_Scale.f o l = some (l.map (mulT o)) := by
  unfold field_Scale.f
  rw [if_pos ⟨ho.1, ho.2, hl, by omega⟩]
/-- What a world has behind the exchange of two rows. -/
theorem lst_swap {w : World} {g top i : Nat} {M : List (List Int)} (h : Lst w g M) (ht : top < M.length) (hi : i < M.length) {v1 v2 : Value} (h1 : w.cell? ⟨g, top, none⟩ = some v1) (h2 : w.cell? ⟨g, i, none⟩ = some v2) :
    Lst ((w.setCell ⟨g, i, none⟩ v1).setCell ⟨g, top, none⟩ v2).drew g ((M.set i (M.getD top [])).set top (M.getD i [])) := by
  obtain ⟨u1, e1, r1⟩ := h.row top ht
  obtain ⟨u2, e2, r2⟩ := h.row i hi
  rw [h1] at e1
  rw [h2] at e2
  cases e1
  cases e2
  have a := h.put hi r1
  obtain ⟨cells, hc⟩ := h.typ (by omega)
  have kb : KeepB w (w.setCell ⟨g, i, none⟩ v1) := KeepB.grown (grown_set w g i v1) hc (by decide)
  exact (a.put (i := top) (by simpa using ht) (r2.keep kb)).drew
set_option maxHeartbeats 2000000 in
set_option maxRecDepth 100000 in
theorem gauss_swap.calls (g n cap bt bi bo : Nat) (top i : Nat) (c : Int) (M : List (List Int)) (w : World) (hL : Lst w g M) (hB : rowsB M = true) (ht : w.cell? ⟨bt, 0, none⟩ = some (.int .i64 top)) (hi : w.cell? ⟨bi, 0, none⟩ = some (.int .i64 i)) (ho : w.cell? ⟨bo, 0, none⟩ = some (.int .u8 c))
    (hbt : bt ≠ g) (hbi : bi ≠ g) (hbo : bo ≠ g) (htn : top < M.length) (hin : i < M.length) (hn : M.length = n) (hn2 : n ≤ 1000000) (hw : ∀ j, j < M.length → (M.getD j []).length ≤ 1000000) (hc : 0 ≤ c ∧ c < 256) :
    Calls Tryd.prog 109 #[.slice (some ⟨g, 0, none⟩) n cap, .pointer (some ⟨bt, 0, none⟩), .pointer (some ⟨bi, 0, none⟩), .pointer (some ⟨bo, 0, none⟩)] w fun e w' => (∃ v, e = .returned v) ∧ Aside0 (Lst w' g (swapS c M top i) ∧ w.grownBy w' (some g)) := by
  subst hn
  have q1 : (g = bt) = False := by simp; exact fun e => hbt e.symm
  have q2 : (bt = g) = False := by simp; exact hbt
  have q3 : (g = bi) = False := by simp; exact fun e => hbi e.symm
  have q4 : (bi = g) = False := by simp; exact hbi
  have q5 : (g = bo) = False := by simp; exact fun e => hbo e.symm
  have q6 : (bo = g) = False := by simp; exact hbo
  obtain ⟨v1, h1, r1⟩ := hL.row top htn
  obtain ⟨v2, h2, r2⟩ := hL.row i hin
  have f1 := hL.frz top htn
  have f2 := hL.frz i hin
  have HS := Aside0.mk (⟨lst_swap hL htn hin h1 h2, grown_drew (grown_trans (grown_set w g i v1) (grown_set _ g top v2))⟩ : Lst ((w.setCell ⟨g, i, none⟩ v1).setCell ⟨g, top, none⟩ v2).drew g ((M.set i (M.getD top [])).set top (M.getD i [])) ∧ w.grownBy ((w.setCell ⟨g, i, none⟩ v1).setCell ⟨g, top, none⟩ v2).drew (some g))
  have HSC := Aside0.mk (bytes_scale hc (rowsB_at hB i) (hw i hin))
  have HE := Aside0.mk (show swapS c M top i = ((M.set i (M.getD top [])).set top (M.getD i [])).set top ((M.getD i []).map (mulT c)) from rfl)
  have HT := Aside0.mk ht
  have HO := Aside0.mk ho
  have HL := Aside0.mk hL
  obtain ⟨Aq1, cq1, rfl, _, _, _⟩ := r1.out
  obtain ⟨Aq2, cq2, rfl, _, _, _⟩ := r2.out
  clear r1 r2 hB hL hw
  generalize (M.getD i []).map (mulT c) = r at *
  generalize et : M.getD top [] = lt at *
  generalize ei : M.getD i [] = li at *
  have ET := Aside0.mk et
  have EI := Aside0.mk ei
  clear et ei
  go_enter Tryd.func109, Tryd.ntmps109
  go_wp2
  go_cut [5] (fun _ W1 => Aside0 (Lst W1 g ((M.set i lt).set top li) ∧ w.grownBy W1 (some g)))
  case first =>
    by_cases hti : i = top
    · subst hti
      obtain rfl : lt = li := ET.out.symm.trans EI.out
      obtain ⟨e1, e3⟩ : Aq1 = Aq2 ∧ cq1 = cq2 := by
        have := Option.some.inj (h1.symm.trans h2)
        injection this with a b c
        exact ⟨a, c⟩
      subst e1 e3
      go_region
      go_wp2_with fail
      go_meet
      exact ⟨HS.out⟩
    · have hgi : (i = top) = False := by simp; exact hti
      have hgt : (top = i) = False := by simp; exact fun e => hti e.symm
      go_region
      go_wp2_with fail
      go_meet
      exact ⟨HS.out⟩
  case rest =>
    obtain ⟨hs, hgr⟩ := hcut.out
    have hlt := HL.out.lt (by omega)
    have a1 : wc.cell? ⟨bt, 0, none⟩ = some (.int .i64 top) := (cell_same (hgr.block bt (World.block_lt_of_cell? _ _ HT.out) (by simpa using hbt))).trans HT.out
    have a3 : wc.cell? ⟨bo, 0, none⟩ = some (.int .u8 c) := (cell_same (hgr.block bo (World.block_lt_of_cell? _ _ HO.out) (by simpa using hbo))).trans HO.out
    have hts : top < ((M.set i lt).set top li).length := by simpa using htn
    obtain ⟨v, a4, hv⟩ := hs.row top hts
    have a5 := hs.frz top hts
    have hgt : (((M.set i lt).set top li).getD top []) = li := by
      rw [List.getD_eq_getElem?_getD, List.getElem?_set_self (by simpa using htn)]
      rfl
    rw [hgt] at hv
    obtain ⟨Ai, ci, rfl, hci, hCi, _⟩ := hv.out
    have HCI := Aside0.mk hCi
    have HLS := Aside0.mk hs
    have HGR := Aside0.mk hgr
    have hgl := World.block_lt_of_cell? _ _ a4
    clear hs hgr hv hCi h1 h2 f1 f2 ho ht hi hgt hts
    go_wp2_with fail
    refine start_ (n := 10) (S := fun w' => w'.cell? ⟨bt, 0, none⟩ = some (.int .i64 top) ∧ w'.cell? ⟨bo, 0, none⟩ = some (.int .u8 c) ∧ w'.cell? ⟨g, top, none⟩ = some (.slice Ai li.length ci)) (ds := [9]) #[false, false, false, false, false, false, false, false, false, false] (by kernel_rfl) rfl rfl ⟨a1, a3, a4⟩ (fun hHeld => ?_)
    refine pure_ (i := 0) (N := some 19) (v := ?_) (a' := ?_) #[true, false, false, false, false, false, false, false, false, false] rfl rfl (by kernel_rfl) (fun _ _ _ h => h) (Or.inl ⟨by rfl, ?_⟩) ?_ ?_
    rotate_left
    · intro w'
      go_simp
      with_reducible rfl
    rotate_left
    · simp only [Act.put, List.setIfInBounds_toArray, List.set_cons_zero, List.set_cons_succ, i64_w, i32_w]
      rfl
    refine pure_ (i := 3) (N := some 22) (v := ?_) (a' := ?_) #[true, false, false, true, false, false, false, false, false, false] rfl rfl (by kernel_rfl) (fun _ _ _ h => h) (Or.inl ⟨by rfl, ?_⟩) ?_ ?_
    rotate_left
    · intro w'
      go_simp
      with_reducible rfl
    rotate_left
    · simp only [Act.put, List.setIfInBounds_toArray, List.set_cons_zero, List.set_cons_succ, i64_w, i32_w]
      rfl
    refine take_ (i := 1) (N := some 20) (v := ?_) (a' := ?_) #[true, true, false, true, false, false, false, false, false, false] rfl rfl (by kernel_rfl) (fun _ _ _ h => h) (Or.inl ⟨by rfl, ?_⟩) hHeld ?_ ?_
    rotate_left
    · rintro w' ⟨s0, s1, s2⟩
      go_simp
      with_reducible rfl
    rotate_left
    · simp only [Act.put, List.setIfInBounds_toArray, List.set_cons_zero, List.set_cons_succ, i64_w, i32_w]
      rfl
    refine take_ (i := 2) (N := some 21) (v := ?_) (a' := ?_) #[true, true, true, true, false, false, false, false, false, false] rfl rfl (by kernel_rfl) (fun _ _ _ h => h) (Or.inl ⟨by rfl, ?_⟩) hHeld ?_ ?_
    rotate_left
    · rintro w' ⟨s0, s1, s2⟩
      go_simp
      with_reducible rfl
    rotate_left
    · simp only [Act.put, List.setIfInBounds_toArray, List.set_cons_zero, List.set_cons_succ, i64_w, i32_w]
      rfl
    refine take_ (i := 4) (N := some 23) (v := ?_) (a' := ?_) #[true, true, true, true, true, false, false, false, false, false] rfl rfl (by kernel_rfl) (fun _ _ _ h => h) (Or.inl ⟨by rfl, ?_⟩) hHeld ?_ ?_
    rotate_left
    · rintro w' ⟨s0, s1, s2⟩
      go_simp
      with_reducible rfl
    rotate_left
    · simp only [Act.put, List.setIfInBounds_toArray, List.set_cons_zero, List.set_cons_succ, i64_w, i32_w]
      rfl
    refine pure_ (i := 5) (N := some 24) (v := ?_) (a' := ?_) #[true, true, true, true, true, true, false, false, false, false] rfl rfl (by kernel_rfl) (fun _ _ _ h => h) (Or.inl ⟨by rfl, ?_⟩) ?_ ?_
    rotate_left
    · intro w'
      go_simp
      with_reducible rfl
    rotate_left
    · simp only [Act.put, List.setIfInBounds_toArray, List.set_cons_zero, List.set_cons_succ, i64_w, i32_w]
      rfl
    refine take_ (i := 6) (N := some 25) (v := ?_) (a' := ?_) #[true, true, true, true, true, true, true, false, false, false] rfl rfl (by kernel_rfl) (fun _ _ _ h => h) (Or.inl ⟨by rfl, ?_⟩) hHeld ?_ ?_
    rotate_left
    · rintro w' ⟨s0, s1, s2⟩
      go_simp
      with_reducible rfl
    rotate_left
    · simp only [Act.put, List.setIfInBounds_toArray, List.set_cons_zero, List.set_cons_succ, i64_w, i32_w]
      rfl
    refine one_ (i := 7) (N := some 26) #[true, true, true, true, true, true, true, true, false, false] rfl rfl (by kernel_rfl) (by decide) (fun K hK => ?_)
    refine goes_ Tryd.func110 (by kernel_rfl) rfl #[.int .u8 c, .slice Ai li.length ci] (by rfl) rfl rfl (by simp only [List.map_toArray, List.map_cons, List.map_nil]; rfl) ?_
    refine (field_Scale.calls c Ai ci li _ wc.drew HCI.out hci HSC.out).mono ?_
    rintro e w2 ⟨v0, rfl, ho, hb⟩
    refine ⟨_, rfl, ?_⟩
    obtain ⟨A0, c0, eo⟩ := Kd.R_slice ho
    subst eo
    have b2 := pw_cell_below hb (show wc.drew.cell? _ = _ from a4)
    have b3 : w2.frozen? ⟨g, top, none⟩ = false := ((below_frozen (W := wc.drew) hb hgl).trans a5)
    have HO2 := Aside0.mk ho
    clear ho
    refine hK.out _ _ ⟨pw_cell_below hb a1, pw_cell_below hb a3, b2⟩ (fun hHeld => ?_)
    clear hK K
    refine norm_ (a' := ?_) ?_ ?_
    rotate_left
    · show Act.put _ (some 26) _ = _
      simp only [Act.put, List.setIfInBounds_toArray, List.set_cons_zero, List.set_cons_succ, i64_w, i32_w]
      rfl
    refine pure_ (i := 8) (N := some 27) (v := ?_) (a' := ?_) #[true, true, true, true, true, true, true, true, true, false] rfl rfl (by kernel_rfl) (fun _ _ _ h => h) (Or.inl ⟨by rfl, ?_⟩) ?_ ?_
    rotate_left
    · intro w'
      go_simp
      with_reducible rfl
    rotate_left
    · simp only [Act.put, List.setIfInBounds_toArray, List.set_cons_zero, List.set_cons_succ, i64_w, i32_w]
      rfl
    refine last_ (i := 9) (N := none) #[true, true, true, true, true, true, true, true, true, true] rfl rfl (by kernel_rfl) (by decide) (fun K hK => ?_)
    refine skip_ (w1 := ?_) (by rfl) rfl ?_ ?_
    rotate_left
    · go_simp
      rfl
    refine hK.out _ _ ?_
    clear hK K
    refine done_ (by kernel_rfl) ?_
    go_end0
    have L2 := (HLS.out.drew).below hb
    rw [HE.out]
    exact ⟨⟨_, rfl⟩, ⟨L2.put (i := top) (by simpa using htn) (RowV.of_R HO2.out), grown_trans (grown_trans HGR.out (grown_below ((below_drew (Below.refl wc.heap.size wc)).trans hb))) (grown_set _ g top _)⟩⟩
/-! ### one row put to another -/
theorem mac_l0 : ∀ (d i : Nat) (out l : List Int) (k : Nat), l.length = i + d → out.length = l.length → l.length ≤ 1000000 → d < k → field_Mac.l0 k out l (l.length : Int) (i : Int) = some (out.take i ++ xorL (out.drop i) (l.drop i), 0)
  | 0, i, out, l, k, h1, h2, h3, hk => by
    obtain ⟨k, rfl⟩ : ∃ m, k = m + 1 := ⟨k - 1, by omega⟩
    unfold field_Mac.l0
    rw [if_neg (by omega)]
    rw [List.drop_eq_nil_of_le (by omega : l.length ≤ i), List.take_of_length_le (by omega)]
    simp [xorL]
  | d + 1, i, out, l, k, h1, h2, h3, hk => by
    obtain ⟨k, rfl⟩ : ∃ m, k = m + 1 := ⟨k - 1, by omega⟩
    unfold field_Mac.l0
    rw [if_pos (by omega), if_pos (by omega), if_pos (by omega), if_pos (by omega), show wrap64 ((i : Int) + 1) = ((i + 1 : Nat) : Int) from by unfold wrap64; omega, Int.toNat_natCast]
    rw [mac_l0 d (i + 1) _ l k (by omega) (by simpa using h2) h3 (by omega)]
    have ho : i < out.length := by omega
    have hl : i < l.length := by omega
    have e1 : rd out (i : Int) = out[i] := by simp [rd, List.getD_eq_getElem?_getD, List.getElem?_eq_getElem ho]
    have e2 : rd l (i : Int) = l[i] := by simp [rd, List.getD_eq_getElem?_getD, List.getElem?_eq_getElem hl]
    rw [e1, e2]
    congr 1
    congr 1
    rw [List.take_set, List.drop_set_of_lt (by omega), List.take_succ_eq_append_getElem ho, List.set_append_right _ _ (by simp; omega)]
    have : i - (out.take i).length = 0 := by simp; omega
    rw [this, List.set_cons_zero, List.append_assoc]
    have e3 : out.drop i = out[i] :: out.drop (i + 1) := List.drop_eq_getElem_cons ho
    have e4 : l.drop i = l[i] :: l.drop (i + 1) := List.drop_eq_getElem_cons hl
    rw [e3, e4]
    rfl
theorem mac_f {o : Int} {lk lt : List Int} (ho : 0 ≤ o ∧ o < 256) (hl : bytesB lt = true) (he : lk.length = lt.length) (hn : lt.length ≤ 1000000) : field_Mac.f (lk.length + 1) lk o lt = some (xorL (lt.map (mulT o)) lk, 0) := by
  unfold field_Mac.f
  rw [if_pos (by rw [he]), bytes_scale ho hl hn, Option.bind_some]
  have := mac_l0 lk.length 0 (lt.map (mulT o)) lk (lk.length + 1) (by omega) (by simp [he]) (by omega) (by omega)
  simpa using this
set_option maxHeartbeats 2000000 in
set_option maxRecDepth 100000 in
theorem gauss_mac.calls (g n cap bk bc bt : Nat) (k top : Nat) (c : Int) (M : List (List Int)) (w : World) (hL : Lst w g M) (hB : rowsB M = true) (hk : w.cell? ⟨bk, 0, none⟩ = some (.int .i64 k)) (hc : w.cell? ⟨bc, 0, none⟩ = some (.int .u8 c)) (ht : w.cell? ⟨bt, 0, none⟩ = some (.int .i64 top))
    (hkn : k < M.length) (htn : top < M.length) (hn : M.length = n) (hn2 : n ≤ 1000000) (hw : ∀ j, j < M.length → (M.getD j []).length ≤ 1000000) (he : (M.getD k []).length = (M.getD top []).length) (hcr : 0 ≤ c ∧ c < 256) :
    Calls Tryd.prog 111 #[.slice (some ⟨g, 0, none⟩) n cap, .pointer (some ⟨bk, 0, none⟩), .pointer (some ⟨bc, 0, none⟩), .pointer (some ⟨bt, 0, none⟩)] w fun e w' => (∃ v, e = .returned v) ∧ Aside0 (Lst w' g (macS M k top c) ∧ w.grownBy w' (some g)) := by
  subst hn
  obtain ⟨v1, h1, r1⟩ := hL.row k hkn
  obtain ⟨v2, h2, r2⟩ := hL.row top htn
  have f1 := hL.frz k hkn
  obtain ⟨Ak, ck, rfl, hck, hC1, _⟩ := r1.out
  obtain ⟨At, ct, rfl, hct, hC2, _⟩ := r2.out
  have HC1 := Aside0.mk hC1
  have HC2 := Aside0.mk hC2
  have HM := Aside0.mk (mac_f hcr (rowsB_at hB top) he (hw top htn))
  have HL := Aside0.mk hL
  have HE := Aside0.mk (show macS M k top c = M.set k (xorL ((M.getD top []).map (mulT c)) (M.getD k [])) from rfl)
  have hgl := World.block_lt_of_cell? _ _ h1
  clear hC1 hC2 r1 r2 hL hB hw he
  generalize xorL ((M.getD top []).map (mulT c)) (M.getD k []) = r at *
  generalize M.getD k [] = lk at *
  generalize M.getD top [] = lt at *
  go_enter Tryd.func111, Tryd.ntmps111
  go_wp2
  refine start_ (n := 17) (S := fun w' => w'.cell? ⟨bk, 0, none⟩ = some (.int .i64 k) ∧ w'.cell? ⟨bc, 0, none⟩ = some (.int .u8 c) ∧ w'.cell? ⟨bt, 0, none⟩ = some (.int .i64 top) ∧ w'.cell? ⟨g, k, none⟩ = some (.slice Ak lk.length ck) ∧ w'.cell? ⟨g, top, none⟩ = some (.slice At lt.length ct)) (ds := [16]) #[false, false, false, false, false, false, false, false, false, false, false, false, false, false, false, false, false] (by kernel_rfl) rfl rfl ⟨hk, hc, ht, h1, h2⟩ (fun hHeld => ?_)
  refine pure_ (i := 0) (N := some 6) (v := ?_) (a' := ?_) #[true, false, false, false, false, false, false, false, false, false, false, false, false, false, false, false, false] rfl rfl (by kernel_rfl) (fun _ _ _ h => h) (Or.inl ⟨by rfl, ?_⟩) ?_ ?_
  rotate_left
  · intro w'
    go_simp
    with_reducible rfl
  rotate_left
  · simp only [Act.put, List.setIfInBounds_toArray, List.set_cons_zero, List.set_cons_succ, i64_w, i32_w]
    rfl
  refine pure_ (i := 2) (N := some 8) (v := ?_) (a' := ?_) #[true, false, true, false, false, false, false, false, false, false, false, false, false, false, false, false, false] rfl rfl (by kernel_rfl) (fun _ _ _ h => h) (Or.inl ⟨by rfl, ?_⟩) ?_ ?_
  rotate_left
  · intro w'
    go_simp
    with_reducible rfl
  rotate_left
  · simp only [Act.put, List.setIfInBounds_toArray, List.set_cons_zero, List.set_cons_succ, i64_w, i32_w]
    rfl
  refine pure_ (i := 7) (N := some 13) (v := ?_) (a' := ?_) #[true, false, true, false, false, false, false, true, false, false, false, false, false, false, false, false, false] rfl rfl (by kernel_rfl) (fun _ _ _ h => h) (Or.inl ⟨by rfl, ?_⟩) ?_ ?_
  rotate_left
  · intro w'
    go_simp
    with_reducible rfl
  rotate_left
  · simp only [Act.put, List.setIfInBounds_toArray, List.set_cons_zero, List.set_cons_succ, i64_w, i32_w]
    rfl
  refine take_ (i := 1) (N := some 7) (v := ?_) (a' := ?_) #[true, true, true, false, false, false, false, true, false, false, false, false, false, false, false, false, false] rfl rfl (by kernel_rfl) (fun _ _ _ h => h) (Or.inl ⟨by rfl, ?_⟩) hHeld ?_ ?_
  rotate_left
  · rintro w' ⟨s0, s1, s2, s3, s4⟩
    go_simp
    with_reducible rfl
  rotate_left
  · simp only [Act.put, List.setIfInBounds_toArray, List.set_cons_zero, List.set_cons_succ, i64_w, i32_w]
    rfl
  refine take_ (i := 3) (N := some 9) (v := ?_) (a' := ?_) #[true, true, true, true, false, false, false, true, false, false, false, false, false, false, false, false, false] rfl rfl (by kernel_rfl) (fun _ _ _ h => h) (Or.inl ⟨by rfl, ?_⟩) hHeld ?_ ?_
  rotate_left
  · rintro w' ⟨s0, s1, s2, s3, s4⟩
    go_simp
    with_reducible rfl
  rotate_left
  · simp only [Act.put, List.setIfInBounds_toArray, List.set_cons_zero, List.set_cons_succ, i64_w, i32_w]
    rfl
  refine pure_ (i := 4) (N := some 10) (v := ?_) (a' := ?_) #[true, true, true, true, true, false, false, true, false, false, false, false, false, false, false, false, false] rfl rfl (by kernel_rfl) (fun _ _ _ h => h) (Or.inl ⟨by rfl, ?_⟩) ?_ ?_
  rotate_left
  · intro w'
    go_simp
    with_reducible rfl
  rotate_left
  · simp only [Act.put, List.setIfInBounds_toArray, List.set_cons_zero, List.set_cons_succ, i64_w, i32_w]
    rfl
  refine take_ (i := 5) (N := some 11) (v := ?_) (a' := ?_) #[true, true, true, true, true, true, false, true, false, false, false, false, false, false, false, false, false] rfl rfl (by kernel_rfl) (fun _ _ _ h => h) (Or.inl ⟨by rfl, ?_⟩) hHeld ?_ ?_
  rotate_left
  · rintro w' ⟨s0, s1, s2, s3, s4⟩
    go_simp
    with_reducible rfl
  rotate_left
  · simp only [Act.put, List.setIfInBounds_toArray, List.set_cons_zero, List.set_cons_succ, i64_w, i32_w]
    rfl
  refine take_ (i := 6) (N := some 12) (v := ?_) (a' := ?_) #[true, true, true, true, true, true, true, true, false, false, false, false, false, false, false, false, false] rfl rfl (by kernel_rfl) (fun _ _ _ h => h) (Or.inl ⟨by rfl, ?_⟩) hHeld ?_ ?_
  rotate_left
  · rintro w' ⟨s0, s1, s2, s3, s4⟩
    go_simp
    with_reducible rfl
  rotate_left
  · simp only [Act.put, List.setIfInBounds_toArray, List.set_cons_zero, List.set_cons_succ, i64_w, i32_w]
    rfl
  refine take_ (i := 8) (N := some 14) (v := ?_) (a' := ?_) #[true, true, true, true, true, true, true, true, true, false, false, false, false, false, false, false, false] rfl rfl (by kernel_rfl) (fun _ _ _ h => h) (Or.inl ⟨by rfl, ?_⟩) hHeld ?_ ?_
  rotate_left
  · rintro w' ⟨s0, s1, s2, s3, s4⟩
    go_simp
    with_reducible rfl
  rotate_left
  · simp only [Act.put, List.setIfInBounds_toArray, List.set_cons_zero, List.set_cons_succ, i64_w, i32_w]
    rfl
  refine pure_ (i := 9) (N := some 15) (v := ?_) (a' := ?_) #[true, true, true, true, true, true, true, true, true, true, false, false, false, false, false, false, false] rfl rfl (by kernel_rfl) (fun _ _ _ h => h) (Or.inl ⟨by rfl, ?_⟩) ?_ ?_
  rotate_left
  · intro w'
    go_simp
    with_reducible rfl
  rotate_left
  · simp only [Act.put, List.setIfInBounds_toArray, List.set_cons_zero, List.set_cons_succ, i64_w, i32_w]
    rfl
  refine take_ (i := 10) (N := some 16) (v := ?_) (a' := ?_) #[true, true, true, true, true, true, true, true, true, true, true, false, false, false, false, false, false] rfl rfl (by kernel_rfl) (fun _ _ _ h => h) (Or.inl ⟨by rfl, ?_⟩) hHeld ?_ ?_
  rotate_left
  · rintro w' ⟨s0, s1, s2, s3, s4⟩
    go_simp
    with_reducible rfl
  rotate_left
  · simp only [Act.put, List.setIfInBounds_toArray, List.set_cons_zero, List.set_cons_succ, i64_w, i32_w]
    rfl
  refine one_ (i := 11) (N := some 17) #[true, true, true, true, true, true, true, true, true, true, true, true, false, false, false, false, false] rfl rfl (by kernel_rfl) (by decide) (fun K hK => ?_)
  refine goes_ Tryd.func100 (by kernel_rfl) rfl #[.slice Ak lk.length ck, .int .u8 c, .slice At lt.length ct] (by rfl) rfl rfl (by simp only [List.map_toArray, List.map_cons, List.map_nil]; rfl) ?_
  refine (field_Mac.calls _ Ak ck lk c At ct lt _ 0 w.drew HC1.out hck HC2.out hct HM.out).mono ?_
  rintro e w2 ⟨v0, rfl, ho, hb⟩
  refine ⟨_, rfl, ?_⟩
  obtain ⟨A0, c0, eo⟩ := Kd.R_slice ho
  subst eo
  have b2 := pw_cell_below hb (show w.drew.cell? _ = _ from h1)
  have b3 : w2.frozen? ⟨g, k, none⟩ = false := ((below_frozen (W := w.drew) hb hgl).trans f1)
  have HO2 := Aside0.mk ho
  clear ho
  refine hK.out _ _ ⟨pw_cell_below hb hk, pw_cell_below hb hc, pw_cell_below hb ht, b2, pw_cell_below hb h2⟩ (fun hHeld => ?_)
  clear hK K
  refine norm_ (a' := ?_) ?_ ?_
  rotate_left
  · show Act.put _ (some 17) _ = _
    simp only [Act.put, List.setIfInBounds_toArray, List.set_cons_zero, List.set_cons_succ, i64_w, i32_w]
    rfl
  refine pure_ (i := 12) (N := some 5) (v := ?_) (a' := ?_) #[true, true, true, true, true, true, true, true, true, true, true, true, true, false, false, false, false] rfl rfl (by kernel_rfl) (fun _ _ _ h => h) (Or.inl ⟨by rfl, ?_⟩) ?_ ?_
  rotate_left
  · intro w'
    go_simp
    with_reducible rfl
  rotate_left
  · simp only [Act.put, List.setIfInBounds_toArray, List.set_cons_zero, List.set_cons_succ, i64_w, i32_w]
    rfl
  refine pure_ (i := 13) (N := some 18) (v := ?_) (a' := ?_) #[true, true, true, true, true, true, true, true, true, true, true, true, true, true, false, false, false] rfl rfl (by kernel_rfl) (fun _ _ _ h => h) (Or.inl ⟨by rfl, ?_⟩) ?_ ?_
  rotate_left
  · intro w'
    go_simp
    with_reducible rfl
  rotate_left
  · simp only [Act.put, List.setIfInBounds_toArray, List.set_cons_zero, List.set_cons_succ, i64_w, i32_w]
    rfl
  refine pure_ (i := 14) (N := some 19) (v := ?_) (a' := ?_) #[true, true, true, true, true, true, true, true, true, true, true, true, true, true, true, false, false] rfl rfl (by kernel_rfl) (fun _ _ _ h => h) (Or.inl ⟨by rfl, ?_⟩) ?_ ?_
  rotate_left
  · intro w'
    go_simp
    with_reducible rfl
  rotate_left
  · simp only [Act.put, List.setIfInBounds_toArray, List.set_cons_zero, List.set_cons_succ, i64_w, i32_w]
    rfl
  refine pure_ (i := 15) (N := some 20) (v := ?_) (a' := ?_) #[true, true, true, true, true, true, true, true, true, true, true, true, true, true, true, true, false] rfl rfl (by kernel_rfl) (fun _ _ _ h => h) (Or.inl ⟨by rfl, ?_⟩) ?_ ?_
  rotate_left
  · intro w'
    go_simp
    with_reducible rfl
  rotate_left
  · simp only [Act.put, List.setIfInBounds_toArray, List.set_cons_zero, List.set_cons_succ, i64_w, i32_w]
    rfl
  refine last_ (i := 16) (N := none) #[true, true, true, true, true, true, true, true, true, true, true, true, true, true, true, true, true] rfl rfl (by kernel_rfl) (by decide) (fun K hK => ?_)
  refine skip_ (w1 := ?_) (by rfl) rfl ?_ ?_
  rotate_left
  · go_simp
    rfl
  refine hK.out _ _ ?_
  clear hK K
  refine done_ (by kernel_rfl) ?_
  go_end0
  have L2 := (HL.out.drew).below hb
  rw [HE.out]
  exact ⟨⟨_, rfl⟩, ⟨L2.put (i := k) hkn (RowV.of_R HO2.out), grown_trans (grown_below ((below_drew (Below.refl w.heap.size w)).trans hb)) (grown_set _ g k _)⟩⟩

/-! ### the rows and what goes along with them -/
structure Hold (w : World) (R g d cl cd : Nat) (Al Ad : Option Addr) (M D : List (List Int)) (cols : Nat) : Prop where
  head : w.cell? ⟨R, 0, none⟩ = some (.slice Al M.length cl)
  also : w.cell? ⟨R, 1, none⟩ = some (.slice Ad D.length cd)
  wide : w.cell? ⟨R, 2, none⟩ = some (.int .i64 cols)
  hA : 0 < M.length → Al = some ⟨g, 0, none⟩
  hD : 0 < D.length → Ad = some ⟨d, 0, none⟩
  L : Lst w g M
  LD : Lst w d D
  ne1 : g ≠ d
  ne2 : R ≠ g
  ne3 : R ≠ d
/-- The rows' shape: as many of either, each as long as all, bytes. -/
structure Shp (M D : List (List Int)) (cols wd : Nat) : Prop where
  len : D.length = M.length
  bM : rowsB M = true
  bD : rowsB D = true
  eM : ∀ i, i < M.length → (M.getD i []).length = cols
  eD : ∀ i, i < M.length → (D.getD i []).length = wd
  small : M.length ≤ 64 ∧ cols ≤ 64 ∧ wd ≤ 64
theorem getD_set {M : List (List Int)} {i j : Nat} {l : List Int} : (M.set i l).getD j [] = if i = j ∧ i < M.length then l else M.getD j [] := by
  rw [List.getD_eq_getElem?_getD, List.getD_eq_getElem?_getD, List.getElem?_set]
  by_cases e : i = j
  · subst e
    by_cases h : i < M.length
    · simp [h]
    · simp [h, List.getElem?_eq_none (by omega : M.length ≤ i)]
  · simp [e]
theorem xor_u8 (a b : Int) : 0 ≤ Go.bits .xor .u8 a b ∧ Go.bits .xor .u8 a b < 256 := by
  unfold Go.bits
  rw [IntKind.wrap_u8]
  omega
theorem bytesB_mk {l : List Int} (h : ∀ x, x ∈ l → 0 ≤ x ∧ x < 256) : bytesB l = true := by
  unfold bytesB
  rw [List.all_eq_true]
  intro x hx
  simpa using h x hx
theorem exp_bytes : bytesB (field_build.st 255).1 = true := by decide +kernel
theorem mulT_range (a b : Int) : 0 ≤ mulT a b ∧ mulT a b < 256 := by
  unfold mulT
  split
  · omega
  · split
    · omega
    · unfold field_build.exp
      rw [List.getD_eq_getElem?_getD]
      generalize (field_build.log a.toNat + field_build.log b.toNat).toNat = i
      rcases Nat.lt_or_ge i (field_build.st 255).1.length with hi | hi
      · rw [List.getElem?_eq_getElem hi]
        have := List.all_eq_true.1 exp_bytes _ (List.getElem_mem hi)
        simpa using this
      · rw [List.getElem?_eq_none hi]
        simp
theorem bytesB_scale (o : Int) (l : List Int) : bytesB (l.map (mulT o)) = true := bytesB_mk fun x hx => by
  obtain ⟨y, _, rfl⟩ := List.mem_map.1 hx
  exact mulT_range _ _
theorem bytesB_xor (a b : List Int) : bytesB (xorL a b) = true := bytesB_mk fun x hx => by
  unfold xorL at hx
  obtain ⟨i, hi, rfl⟩ := List.mem_iff_getElem.1 hx
  rw [List.getElem_zipWith]
  exact xor_u8 _ _
theorem length_xor {a b : List Int} (h : a.length = b.length) : (xorL a b).length = b.length := by
  unfold xorL
  rw [List.length_zipWith]
  omega
theorem shp_swap1 {M : List (List Int)} {top i n : Nat} {o : Int} (hB : rowsB M = true) (e : ∀ i, i < M.length → (M.getD i []).length = n) (ht : top < M.length) (hi : i < M.length) :
    (swapS o M top i).length = M.length ∧ rowsB (swapS o M top i) = true ∧ ∀ j, j < M.length → ((swapS o M top i).getD j []).length = n := by
  refine ⟨by simp [swapS], ?_, fun j hj => ?_⟩
  · exact rowsB_set (rowsB_set (rowsB_set hB (rowsB_at hB top)) (rowsB_at hB i)) (bytesB_scale _ _)
  · unfold swapS
    rw [getD_set]
    split
    · rw [List.length_map, e i hi]
    · rw [getD_set]
      split
      · exact e i hi
      · rw [getD_set]
        split
        · exact e top ht
        · exact e j hj
theorem Shp.swap {M D : List (List Int)} {cols wd top i : Nat} {o : Int} (h : Shp M D cols wd) (ht : top < M.length) (hi : i < M.length) : Shp (swapS o M top i) (swapS o D top i) cols wd := by
  obtain ⟨a1, a2, a3⟩ := shp_swap1 (o := o) h.bM h.eM ht hi
  obtain ⟨b1, b2, b3⟩ := shp_swap1 (o := o) h.bD (fun j hj => h.eD j (by rw [← h.len]; exact hj)) (by rw [h.len]; exact ht) (by rw [h.len]; exact hi)
  exact ⟨by rw [a1, b1, h.len], a2, b2, fun j hj => a3 j (by rwa [a1] at hj), fun j hj => b3 j (by rw [h.len]; rwa [a1] at hj), by rw [a1]; exact h.small⟩
theorem shp_mac1 {M : List (List Int)} {k top n : Nat} {c : Int} (hB : rowsB M = true) (e : ∀ i, i < M.length → (M.getD i []).length = n) (hk : k < M.length) (ht : top < M.length) :
    (macS M k top c).length = M.length ∧ rowsB (macS M k top c) = true ∧ ∀ j, j < M.length → ((macS M k top c).getD j []).length = n := by
  refine ⟨by simp [macS], rowsB_set hB (bytesB_xor _ _), fun j hj => ?_⟩
  unfold macS
  rw [getD_set]
  split
  · rw [length_xor (by rw [List.length_map, e top ht, e k hk]), e k hk]
  · exact e j hj
theorem Shp.mac {M D : List (List Int)} {cols wd k top : Nat} {c : Int} (h : Shp M D cols wd) (hk : k < M.length) (ht : top < M.length) : Shp (macS M k top c) (macS D k top c) cols wd := by
  obtain ⟨a1, a2, a3⟩ := shp_mac1 (c := c) h.bM h.eM hk ht
  obtain ⟨b1, b2, b3⟩ := shp_mac1 (c := c) h.bD (fun j hj => h.eD j (by rw [← h.len]; exact hj)) (by rw [h.len]; exact hk) (by rw [h.len]; exact ht)
  exact ⟨by rw [a1, b1, h.len], a2, b2, fun j hj => a3 j (by rwa [a1] at hj), fun j hj => b3 j (by rw [h.len]; rwa [a1] at hj), by rw [a1]; exact h.small⟩
theorem Hold.small {w : World} {R g d cl cd : Nat} {Al Ad : Option Addr} {M D : List (List Int)} {cols : Nat} (h : Hold w R g d cl cd Al Ad M D cols) : R < w.heap.size := World.block_lt_of_cell? _ _ h.head
theorem Hold.below {w w1 : World} {R g d cl cd : Nat} {Al Ad : Option Addr} {M D : List (List Int)} {cols : Nat} (h : Hold w R g d cl cd Al Ad M D cols) (hb : Below w.heap.size w w1) : Hold w1 R g d cl cd Al Ad M D cols :=
  ⟨(hb.cell (p := ⟨R, 0, none⟩) h.small).trans h.head, (hb.cell (p := ⟨R, 1, none⟩) h.small).trans h.also, (hb.cell (p := ⟨R, 2, none⟩) h.small).trans h.wide, h.hA, h.hD, h.L.below hb, h.LD.below hb, h.ne1, h.ne2, h.ne3⟩
theorem Hold.chg {w w1 : World} {R g d cl cd : Nat} {Al Ad : Option Addr} {M D : List (List Int)} {cols : Nat} {s : Nat → Prop} (h : Hold w R g d cl cd Al Ad M D cols) (hc : Chg w w1 s) (k : KeepB w w1) (h1 : ¬ s R) (h2 : 0 < M.length → ¬ s g) (h3 : 0 < D.length → ¬ s d) : Hold w1 R g d cl cd Al Ad M D cols := by
  have hR := hc.block R h.small h1
  refine ⟨(cell_same (p := ⟨R, 0, none⟩) hR).trans h.head, (cell_same (p := ⟨R, 1, none⟩) hR).trans h.also, (cell_same (p := ⟨R, 2, none⟩) hR).trans h.wide, h.hA, h.hD, ?_, ?_, h.ne1, h.ne2, h.ne3⟩
  · rcases Nat.eq_zero_or_pos M.length with h0 | h0
    · exact ⟨fun h => by omega, fun i hi => by omega, fun i hi => by omega⟩
    · exact h.L.same (hc.block g (h.L.lt h0) (h2 h0)) k
  · rcases Nat.eq_zero_or_pos D.length with h0 | h0
    · exact ⟨fun h => by omega, fun i hi => by omega, fun i hi => by omega⟩
    · exact h.LD.same (hc.block d (h.LD.lt h0) (h3 h0)) k
/-- One list has turned: the other one, and the object, stay. -/
theorem Hold.left {w w1 : World} {R g d cl cd : Nat} {Al Ad : Option Addr} {M D M' : List (List Int)} {cols : Nat} (h : Hold w R g d cl cd Al Ad M D cols) (hg : w.grownBy w1 (some g)) (hL : Lst w1 g M') (hl : M'.length = M.length) (h0 : 0 < M.length) : Hold w1 R g d cl cd Al Ad M' D cols := by
  obtain ⟨cells, hc⟩ := h.L.typ h0
  have hR := hg.block R h.small (by simpa using h.ne2)
  refine ⟨by rw [hl]; exact (cell_same (p := ⟨R, 0, none⟩) hR).trans h.head, (cell_same (p := ⟨R, 1, none⟩) hR).trans h.also, (cell_same (p := ⟨R, 2, none⟩) hR).trans h.wide, by rw [hl]; exact h.hA, h.hD, hL, ?_, h.ne1, h.ne2, h.ne3⟩
  rcases Nat.eq_zero_or_pos D.length with h1 | h1
  · exact ⟨fun h => by omega, fun i hi => by omega, fun i hi => by omega⟩
  · exact h.LD.same (hg.block d (h.LD.lt h1) (by simpa using fun e => h.ne1 e.symm)) (KeepB.grown hg hc (by decide))
theorem Hold.right {w w1 : World} {R g d cl cd : Nat} {Al Ad : Option Addr} {M D D' : List (List Int)} {cols : Nat} (h : Hold w R g d cl cd Al Ad M D cols) (hg : w.grownBy w1 (some d)) (hL : Lst w1 d D') (hl : D'.length = D.length) (h0 : 0 < D.length) : Hold w1 R g d cl cd Al Ad M D' cols := by
  obtain ⟨cells, hc⟩ := h.LD.typ h0
  have hR := hg.block R h.small (by simpa using h.ne3)
  refine ⟨(cell_same (p := ⟨R, 0, none⟩) hR).trans h.head, by rw [hl]; exact (cell_same (p := ⟨R, 1, none⟩) hR).trans h.also, (cell_same (p := ⟨R, 2, none⟩) hR).trans h.wide, h.hA, by rw [hl]; exact h.hD, ?_, hL, h.ne1, h.ne2, h.ne3⟩
  rcases Nat.eq_zero_or_pos M.length with h1 | h1
  · exact ⟨fun h => by omega, fun i hi => by omega, fun i hi => by omega⟩
  · exact h.L.same (hg.block g (h.L.lt h1) (by simpa using h.ne1)) (KeepB.grown hg hc (by decide))
def two (g d : Nat) : Nat → Prop := fun i => i = g ∨ i = d
set_option maxHeartbeats 2000000 in
set_option maxRecDepth 100000 in
/-- 'both(do)', do being the first closure. -/
theorem gauss_both.swap (b0 R g d cl cd bt bi bo : Nat) (Al Ad : Option Addr) (M D : List (List Int)) (cols wd top i : Nat) (o : Int) (w : World) (H : Hold w R g d cl cd Al Ad M D cols) (S : Shp M D cols wd) (hb : w.cell? ⟨b0, 0, none⟩ = some (.pointer (some ⟨R, 0, none⟩)))
    (ht : w.cell? ⟨bt, 0, none⟩ = some (.int .i64 top)) (hi : w.cell? ⟨bi, 0, none⟩ = some (.int .i64 i)) (ho : w.cell? ⟨bo, 0, none⟩ = some (.int .u8 o)) (hor : 0 ≤ o ∧ o < 256) (htn : top < M.length) (hin : i < M.length)
    (n0 : b0 ≠ g ∧ bt ≠ g ∧ bi ≠ g ∧ bo ≠ g) (n1 : bt ≠ d ∧ bi ≠ d ∧ bo ≠ d) :
    Calls Tryd.prog 106 #[.func (.func 109) #[] #[.pointer (some ⟨bt, 0, none⟩), .pointer (some ⟨bi, 0, none⟩), .pointer (some ⟨bo, 0, none⟩)], .pointer (some ⟨b0, 0, none⟩)] w
      fun e w' => (∃ v, e = .returned v) ∧ Aside0 (Hold w' R g d cl cd Al Ad (swapS o M top i) (swapS o D top i) cols ∧ Chg w w' (two g d)) := by
  obtain ⟨n00, n01, n02, n03⟩ := n0
  obtain ⟨n11, n12, n13⟩ := n1
  have hl := H.head
  have e1 := H.hA (by omega)
  have hdl := S.len
  have e2 := H.hD (by omega)
  subst e1 e2
  obtain ⟨a1, _, _⟩ := shp_swap1 (o := o) S.bM S.eM htn hin
  have c1 := gauss_swap.calls g M.length cl bt bi bo top i o M w H.L S.bM ht hi ho n01 n02 n03 htn hin rfl (by have := S.small; omega) (fun j hj => by rw [S.eM j hj]; have := S.small; omega) hor
  have c2 : ∀ w1, Lst w1 g (swapS o M top i) ∧ w.grownBy w1 (some g) → w1.cell? ⟨b0, 0, none⟩ = some (.pointer (some ⟨R, 0, none⟩)) ∧ w1.cell? ⟨R, 1, none⟩ = some (.slice (some ⟨d, 0, none⟩) D.length cd) ∧
      Calls Tryd.prog 109 #[.slice (some ⟨d, 0, none⟩) D.length cd, .pointer (some ⟨bt, 0, none⟩), .pointer (some ⟨bi, 0, none⟩), .pointer (some ⟨bo, 0, none⟩)] w1 fun e w2 => (∃ v, e = .returned v) ∧ Aside0 (Lst w2 d (swapS o D top i) ∧ w1.grownBy w2 (some d)) := by
    intro w1 ⟨hL1, hg1⟩
    have H1 := H.left hg1 hL1 a1 (by omega)
    have cc : ∀ b v, b ≠ g → w.cell? ⟨b, 0, none⟩ = some v → w1.cell? ⟨b, 0, none⟩ = some v := fun b v hne hv => (cell_same (p := ⟨b, 0, none⟩) (hg1.block b (World.block_lt_of_cell? _ _ hv) (by simpa using hne))).trans hv
    exact ⟨cc _ _ n00 hb, H1.also, gauss_swap.calls d D.length cd bt bi bo top i o D w1 H1.LD S.bD (cc _ _ n01 ht) (cc _ _ n02 hi) (cc _ _ n03 ho) n11 n12 n13 (by omega) (by omega) rfl (by have := S.small; omega) (fun j hj => by rw [S.eD j (by omega)]; have := S.small; omega) hor⟩
  have HH := Aside0.mk H
  have A1 := Aside0.mk a1
  have SS := Aside0.mk S
  have C2 := Aside0.mk c2
  clear H S a1 c2 hdl ht hi ho hor
  go_enter Tryd.func106, Tryd.ntmps106
  go_wp2_with (first | (go_at_call 109; refine c1.mono ?_; clear c1; rintro e w1 ⟨⟨v, rfl⟩, hq⟩; obtain ⟨hb1, hd1, h3⟩ := C2.out w1 hq.out) | (go_at_call 109; refine h3.mono ?_; clear h3; rintro e w2 ⟨⟨v2, rfl⟩, hq2⟩))
  go_end0
  refine ⟨⟨_, rfl⟩, ⟨?_⟩⟩
  obtain ⟨hL1, hg1⟩ := hq.out
  obtain ⟨hL2, hg2⟩ := hq2.out
  have H1 := HH.out.left hg1 hL1 A1.out (by omega)
  have hdl := SS.out.len
  exact ⟨H1.right hg2 hL2 (by simp [swapS]) (by omega), ((Chg.grown hg1).mono fun i _ h => .inl h).trans ((Chg.grown hg2).mono fun i _ h => .inr h)⟩
set_option maxHeartbeats 2000000 in
set_option maxRecDepth 100000 in
/-- 'both(do)', do being the second closure. -/
theorem gauss_both.mac (b0 R g d cl cd bk bc bt : Nat) (Al Ad : Option Addr) (M D : List (List Int)) (cols wd k top : Nat) (c : Int) (w : World) (H : Hold w R g d cl cd Al Ad M D cols) (S : Shp M D cols wd) (hb : w.cell? ⟨b0, 0, none⟩ = some (.pointer (some ⟨R, 0, none⟩)))
    (hk : w.cell? ⟨bk, 0, none⟩ = some (.int .i64 k)) (hc : w.cell? ⟨bc, 0, none⟩ = some (.int .u8 c)) (ht : w.cell? ⟨bt, 0, none⟩ = some (.int .i64 top)) (hcr : 0 ≤ c ∧ c < 256) (hkn : k < M.length) (htn : top < M.length)
    (n0 : b0 ≠ g ∧ bk ≠ g ∧ bc ≠ g ∧ bt ≠ g) :
    Calls Tryd.prog 106 #[.func (.func 111) #[] #[.pointer (some ⟨bk, 0, none⟩), .pointer (some ⟨bc, 0, none⟩), .pointer (some ⟨bt, 0, none⟩)], .pointer (some ⟨b0, 0, none⟩)] w
      fun e w' => (∃ v, e = .returned v) ∧ Aside0 (Hold w' R g d cl cd Al Ad (macS M k top c) (macS D k top c) cols ∧ Chg w w' (two g d)) := by
  obtain ⟨n00, n01, n02, n03⟩ := n0
  have hl := H.head
  have e1 := H.hA (by omega)
  have hdl := S.len
  have e2 := H.hD (by omega)
  subst e1 e2
  have a1 : (macS M k top c).length = M.length := by simp [macS]
  have c1 := gauss_mac.calls g M.length cl bk bc bt k top c M w H.L S.bM hk hc ht hkn htn rfl (by have := S.small; omega) (fun j hj => by rw [S.eM j hj]; have := S.small; omega) (by rw [S.eM k hkn, S.eM top htn]) hcr
  have c2 : ∀ w1, Lst w1 g (macS M k top c) ∧ w.grownBy w1 (some g) → w1.cell? ⟨b0, 0, none⟩ = some (.pointer (some ⟨R, 0, none⟩)) ∧ w1.cell? ⟨R, 1, none⟩ = some (.slice (some ⟨d, 0, none⟩) D.length cd) ∧
      Calls Tryd.prog 111 #[.slice (some ⟨d, 0, none⟩) D.length cd, .pointer (some ⟨bk, 0, none⟩), .pointer (some ⟨bc, 0, none⟩), .pointer (some ⟨bt, 0, none⟩)] w1 fun e w2 => (∃ v, e = .returned v) ∧ Aside0 (Lst w2 d (macS D k top c) ∧ w1.grownBy w2 (some d)) := by
    intro w1 ⟨hL1, hg1⟩
    have H1 := H.left hg1 hL1 a1 (by omega)
    have cc : ∀ b v, b ≠ g → w.cell? ⟨b, 0, none⟩ = some v → w1.cell? ⟨b, 0, none⟩ = some v := fun b v hne hv => (cell_same (p := ⟨b, 0, none⟩) (hg1.block b (World.block_lt_of_cell? _ _ hv) (by simpa using hne))).trans hv
    exact ⟨cc _ _ n00 hb, H1.also, gauss_mac.calls d D.length cd bk bc bt k top c D w1 H1.LD S.bD (cc _ _ n01 hk) (cc _ _ n02 hc) (cc _ _ n03 ht) (by omega) (by omega) rfl (by have := S.small; omega) (fun j hj => by rw [S.eD j (by omega)]; have := S.small; omega) (by rw [S.eD k hkn, S.eD top htn]) hcr⟩
  have HH := Aside0.mk H
  have A1 := Aside0.mk a1
  have SS := Aside0.mk S
  have C2 := Aside0.mk c2
  clear H S a1 c2 hdl hk hc ht hcr
  go_enter Tryd.func106, Tryd.ntmps106
  go_wp2_with (first | (go_at_call 111; refine c1.mono ?_; clear c1; rintro e w1 ⟨⟨v, rfl⟩, hq⟩; obtain ⟨hb1, hd1, h3⟩ := C2.out w1 hq.out) | (go_at_call 111; refine h3.mono ?_; clear h3; rintro e w2 ⟨⟨v2, rfl⟩, hq2⟩))
  go_end0
  refine ⟨⟨_, rfl⟩, ⟨?_⟩⟩
  obtain ⟨hL1, hg1⟩ := hq.out
  obtain ⟨hL2, hg2⟩ := hq2.out
  have H1 := HH.out.left hg1 hL1 A1.out (by omega)
  have hdl := SS.out.len
  exact ⟨H1.right hg2 hL2 (by simp [macS]) (by omega), ((Chg.grown hg1).mono fun i _ h => .inl h).trans ((Chg.grown hg2).mono fun i _ h => .inr h)⟩

/-! ### seek -/
/-- The first row from i on, of so many, at which no 0 stands in a column. -/
def seekCol (M : List (List Int)) (j : Nat) : Nat → Nat → Option Nat
  | 0, _ => none
  | f + 1, i => if entry M i j ≠ 0 then some i else seekCol M j f (i + 1)
def firstIn (M : List (List Int)) (top j : Nat) : Option Nat := seekCol M j (M.length - top) top
/-- All rows from top on have 0 in the columns from col to j. -/
def ZeroTo (M : List (List Int)) (top col j : Nat) : Prop := ∀ j', col ≤ j' → j' < j → ∀ i', top ≤ i' → i' < M.length → entry M i' j' = 0
def ZeroIn (M : List (List Int)) (top j i : Nat) : Prop := ∀ i', top ≤ i' → i' < i → entry M i' j = 0
theorem seekCol_none {M : List (List Int)} {j : Nat} : ∀ f i, (∀ i', i ≤ i' → i' < i + f → entry M i' j = 0) → seekCol M j f i = none
  | 0, _, _ => rfl
  | f + 1, i, h => by
    unfold seekCol
    rw [if_neg (by simpa using h i (Nat.le_refl _) (by omega))]
    exact seekCol_none f (i + 1) fun i' a b => h i' (by omega) (by omega)
theorem seekCol_some {M : List (List Int)} {j r : Nat} : ∀ f i, i ≤ r → r < i + f → entry M r j ≠ 0 → (∀ i', i ≤ i' → i' < r → entry M i' j = 0) → seekCol M j f i = some r
  | 0, i, h1, h2, _, _ => by omega
  | f + 1, i, h1, h2, h3, h4 => by
    unfold seekCol
    by_cases e : i = r
    · subst e
      rw [if_pos h3]
    · rw [if_neg (by simpa using h4 i (Nat.le_refl _) (by omega))]
      exact seekCol_some f (i + 1) (by omega) (by omega) h3 fun i' a b => h4 i' (by omega) b
theorem seekCol_spec {M : List (List Int)} {j r : Nat} : ∀ f i, seekCol M j f i = some r → i ≤ r ∧ r < i + f ∧ entry M r j ≠ 0 ∧ ∀ i', i ≤ i' → i' < r → entry M i' j = 0
  | 0, i, h => by cases h
  | f + 1, i, h => by
    unfold seekCol at h
    by_cases e : entry M i j ≠ 0
    · rw [if_pos e] at h
      cases h
      exact ⟨Nat.le_refl _, by omega, e, fun i' a b => by omega⟩
    · rw [if_neg e] at h
      obtain ⟨h1, h2, h3, h4⟩ := seekCol_spec f (i + 1) h
      refine ⟨by omega, by omega, h3, fun i' a b => ?_⟩
      by_cases e2 : i' = i
      · rw [e2]; simpa using e
      · exact h4 i' (by omega) b
set_option maxHeartbeats 2000000 in
set_option maxRecDepth 100000 in
theorem gauss_seek.calls (R g d cl cd : Nat) (Al Ad : Option Addr) (M D : List (List Int)) (cols wd top col : Nat) (w : World) (h : Hold w R g d cl cd Al Ad M D cols) (hS : Shp M D cols wd) (htop : top ≤ 1048576) (hcol : col ≤ 1048577) (h0 : 0 < M.length) :
    Calls Tryd.prog 107 #[.pointer (some ⟨R, 0, none⟩), .int .i64 top, .int .i64 col] w fun e w' => ∃ (i j : Nat) (b : Bool), e = .returned (.tuple #[.int .i64 i, .int .i64 j, .bool b]) ∧ w' = w ∧
      (if b then j < cols ∧ col ≤ j ∧ top ≤ i ∧ i < M.length ∧ entry M i j ≠ 0 ∧ ZeroIn M top j i ∧ ZeroTo M top col j else ZeroTo M top col cols) := by
  have hA := h.hA h0
  subst hA
  have hh0 := h.head
  have h2 := h.wide
  have hM := hS.small.1
  have hc := hS.small.2.1
  have H := Aside0.mk h.L
  have HS := Aside0.mk hS
  clear h hS h0
  go_enter Tryd.func107, Tryd.ntmps107
  go_wp2
  refine wp_scope_straight ?_
  go_wp2
  go_step3
  go_wp2
  go_loop [6, 7, 8] (fun vi vj vb => ∃ i j : Nat, vi = .int .i64 i ∧ vj = .int .i64 j ∧ vb = .bool false ∧ col ≤ j ∧ j ≤ 1048577 ∧ i ≤ 1048577 ∧ Aside0 (ZeroTo M top col j)) (fun _ v _ => cols - (intOf v).toNat)
  case atStart => exact ⟨0, col, rfl, rfl, rfl, Nat.le_refl _, hcol, by omega, ⟨fun j' a b => by omega⟩⟩
  case round =>
    obtain ⟨i0, j, rfl, rfl, rfl, hj, hj2, hi0, HZ⟩ := hrel
    by_cases hlt : j < cols
    · go_wp2
      go_loop [6, 8] (fun vi vb => ∃ i : Nat, vi = .int .i64 i ∧ vb = .bool false ∧ top ≤ i ∧ i ≤ 1048576 ∧ Aside0 (ZeroIn M top j i)) (fun v _ => M.length - (intOf v).toNat)
      case atStart => exact ⟨top, rfl, rfl, Nat.le_refl _, htop, ⟨fun i' a b => by omega⟩⟩
      case round =>
        obtain ⟨i, rfl, rfl, hti, hi2, HZI⟩ := hrel
        by_cases hin : i < M.length
        · obtain ⟨v, hr, hv⟩ := H.out.row i hin
          obtain ⟨A, c, rfl, hlc, hC, _⟩ := hv.out
          have hev := HS.out.eM i hin
          obtain ⟨ad, eA, hx0⟩ := Kd.at_int hC (j : Int) (by omega) (by rw [hev]; omega)
          subst eA
          rw [hev] at hr
          have hx : w.cell? (ad.add j) = some (.int .u8 (entry M i j)) := by
            rw [show entry M i j = rd (M.getD i []) (j : Int) from by simp [entry, rd]]
            simpa using hx0
          obtain ⟨x, ex⟩ : ∃ x, x = entry M i j := ⟨_, rfl⟩
          rw [← ex] at hx
          have EX := Aside0.mk ex
          clear ex hx0 hC hv
          by_cases h0x : x = 0
          · subst h0x
            go_wp2
            go_round
            case rel => exact ⟨i + 1, by go_num, rfl, by omega, by omega, ⟨fun i' a b => (Nat.lt_or_eq_of_le (Nat.le_of_lt_succ b)).elim (HZI.out i' a) (fun e => by rw [e]; exact EX.out.symm)⟩⟩
            case measure => simp [intOf]; omega
          · have hb0 : (x != 0) = true := bne_iff_ne.mpr h0x
            go_wp2
            go_ret3
            refine ⟨i, j, true, rfl, rfl, ?_⟩
            simp only [if_true]
            exact ⟨hlt, hj, hti, hin, fun e => h0x (by rw [EX.out]; exact e), HZI.out, HZ.out⟩
        · go_wp2
          go_round
          case rel => exact ⟨i, j + 1, rfl, by go_num, rfl, by omega, by omega, by omega, ⟨fun j' a b i' c d => (Nat.lt_or_eq_of_le (Nat.le_of_lt_succ b)).elim (fun h => HZ.out j' a h i' c d) (fun e => by rw [e]; exact HZI.out i' c (by omega))⟩⟩
          case measure => simp [intOf]; omega
    · go_wp2
      go_ret3
      refine ⟨i0, j, false, rfl, rfl, ?_⟩
      simp only [Bool.false_eq_true, if_false]
      exact fun j' a b => HZ.out j' a (by omega)
/-! ### what reduce computes -/
def invT (a : Int) : Int := ((field_Inv.f a).getD (0, 0)).1
/-- Rows to k have had row top, times their entry in a column, taken off. -/
def elimTo (col top : Nat) : Nat → List (List Int) × List (List Int) → List (List Int) × List (List Int)
  | 0, s => s
  | k + 1, s => let t := elimTo col top k s; if k ≠ top ∧ entry t.1 k col ≠ 0 then (macS t.1 k top (entry t.1 k col), macS t.2 k top (entry t.1 k col)) else t
def stepAt (M D : List (List Int)) (top i j : Nat) : List (List Int) × List (List Int) := elimTo j top M.length (swapS (invT (entry M i j)) M top i, swapS (invT (entry M i j)) D top i)
def redStep (j : Nat) (s : (List (List Int) × List (List Int)) × List Int) : (List (List Int) × List (List Int)) × List Int := match firstIn s.1.1 s.2.length j with
  | none => s
  | some i => (stepAt s.1.1 s.1.2 s.2.length i j, s.2 ++ [(j : Int)])
theorem redStep_none {j : Nat} {s : (List (List Int) × List (List Int)) × List Int} (h : firstIn s.1.1 s.2.length j = none) : redStep j s = s := by unfold redStep; rw [h]
theorem redStep_some {j i : Nat} {s : (List (List Int) × List (List Int)) × List Int} (h : firstIn s.1.1 s.2.length j = some i) : redStep j s = (stepAt s.1.1 s.1.2 s.2.length i j, s.2 ++ [(j : Int)]) := by unfold redStep; rw [h]
/-- Columns to j are done: the rows, what goes along, the pivots. -/
def redTo (M D : List (List Int)) : Nat → (List (List Int) × List (List Int)) × List Int
  | 0 => ((M, D), [])
  | j + 1 => redStep j (redTo M D j)
theorem inv_some {a : Int} (h : 0 ≤ a ∧ a < 256) (h0 : a ≠ 0) : field_Inv.f a = some (invT a, 0) ∧ 0 ≤ invT a ∧ invT a < 256 := by
  have e : field_bounded.f (-1) = some 254 := by kernel_rfl
  have hl := field_build.log_range (i := a.toNat) (by omega)
  have e2 : field_Inv.f a = some (field_build.exp ((field_build.log a.toNat * 254) % 255).toNat, 0) := by
    unfold field_Inv.f field_Pow.f
    rw [if_neg (by omega), if_neg h0, if_pos h, e]
    simp
  have e3 : invT a = field_build.exp ((field_build.log a.toNat * 254) % 255).toNat := by unfold invT; rw [e2, Option.getD_some]
  rw [e3]
  refine ⟨e2, ?_⟩
  have hlt : ((field_build.log a.toNat * 254) % 255).toNat < (field_build.st 255).1.length := by
    rw [(field_build.st_length 255).1]
    generalize field_build.log a.toNat = q
    omega
  generalize ((field_build.log a.toNat * 254) % 255).toNat = i at *
  exact bytesB_at exp_bytes hlt
theorem entry_byte {M D : List (List Int)} {cols wd : Nat} (h : Shp M D cols wd) {i j : Nat} (hi : i < M.length) (hj : j < cols) : 0 ≤ entry M i j ∧ entry M i j < 256 :=
  bytesB_at (rowsB_at h.bM i) (by rw [h.eM i hi]; exact hj)
theorem elim_shp {M D : List (List Int)} {cols wd col top : Nat} (h : Shp M D cols wd) (ht : top < M.length) : ∀ k, k ≤ M.length → Shp (elimTo col top k (M, D)).1 (elimTo col top k (M, D)).2 cols wd ∧ (elimTo col top k (M, D)).1.length = M.length
  | 0, _ => ⟨h, rfl⟩
  | k + 1, hk => by
    obtain ⟨ih, il⟩ := elim_shp (col := col) h ht k (by omega)
    unfold elimTo
    simp only []
    split
    · exact ⟨ih.mac (by omega) (by omega), by simp [macS, il]⟩
    · exact ⟨ih, il⟩
theorem step_shp {M D : List (List Int)} {cols wd top i j : Nat} (h : Shp M D cols wd) (ht : top < M.length) (hi : i < M.length) : Shp (stepAt M D top i j).1 (stepAt M D top i j).2 cols wd ∧ (stepAt M D top i j).1.length = M.length := by
  have hs := h.swap (o := invT (entry M i j)) ht hi
  have hl : (swapS (invT (entry M i j)) M top i).length = M.length := by simp [swapS]
  have := elim_shp (col := j) hs (by omega : top < _) M.length (by omega)
  rw [hl] at this
  exact this
theorem red_shp {M D : List (List Int)} {cols wd : Nat} (h : Shp M D cols wd) : ∀ j, Shp (redTo M D j).1.1 (redTo M D j).1.2 cols wd ∧ (redTo M D j).1.1.length = M.length ∧ (redTo M D j).2.length ≤ M.length ∧ (redTo M D j).2.length ≤ j
  | 0 => ⟨h, rfl, Nat.zero_le _, Nat.zero_le _⟩
  | j + 1 => by
    obtain ⟨a, b, c, d⟩ := red_shp h j
    show Shp (redStep j (redTo M D j)).1.1 (redStep j (redTo M D j)).1.2 cols wd ∧ (redStep j (redTo M D j)).1.1.length = M.length ∧ (redStep j (redTo M D j)).2.length ≤ M.length ∧ (redStep j (redTo M D j)).2.length ≤ j + 1
    cases hf : firstIn (redTo M D j).1.1 (redTo M D j).2.length j with
    | none =>
      rw [redStep_none hf]
      exact ⟨a, b, c, by omega⟩
    | some i =>
      rw [redStep_some hf]
      obtain ⟨h1, h2, _⟩ := seekCol_spec _ _ hf
      have hs := step_shp (j := j) a (by omega : (redTo M D j).2.length < _) (by omega : i < _)
      exact ⟨hs.1, by rw [hs.2, b], by simp; omega, by simp; omega⟩
/-- Columns in which nothing stands are passed by. -/
theorem red_skip {M D : List (List Int)} {j : Nat} : ∀ n, ZeroTo (redTo M D j).1.1 (redTo M D j).2.length j (j + n) → redTo M D (j + n) = redTo M D j
  | 0, _ => rfl
  | n + 1, h => by
    have ih := red_skip (M := M) (D := D) n fun j' a b => h j' a (by omega)
    show redStep (j + n) (redTo M D (j + n)) = _
    rw [ih]
    exact redStep_none (seekCol_none _ _ fun i' a b => h (j + n) (by omega) (by omega) i' a (by omega))
/-- At the first place at which something stands. -/
theorem red_hit {M D : List (List Int)} {c j i : Nat} (hcj : c ≤ j) (hz : ZeroTo (redTo M D c).1.1 (redTo M D c).2.length c j) (h1 : (redTo M D c).2.length ≤ i) (h2 : i < (redTo M D c).1.1.length) (h3 : entry (redTo M D c).1.1 i j ≠ 0) (h4 : ZeroIn (redTo M D c).1.1 (redTo M D c).2.length j i) :
    redTo M D (j + 1) = (stepAt (redTo M D c).1.1 (redTo M D c).1.2 (redTo M D c).2.length i j, (redTo M D c).2 ++ [(j : Int)]) := by
  obtain ⟨n, rfl⟩ : ∃ n, j = c + n := ⟨j - c, by omega⟩
  have e := red_skip n hz
  show redStep (c + n) (redTo M D (c + n)) = _
  rw [e]
  exact redStep_some (seekCol_some _ _ h1 (by omega) h3 h4)

/-! ### reduce -/
/-- The memory of reduce: the rows, top in its box, the pivots; what has changed since the call began. -/
structure RG (w : World) (R g d cl cd b0 bt : Nat) (Al Ad : Option Addr) (M D : List (List Int)) (cols top : Nat) (piv : List Int) (v3 : Value) (wr : World) : Prop where
  hold : Hold wr R g d cl cd Al Ad M D cols
  cbt : wr.cell? ⟨bt, 0, none⟩ = some (.int .i64 top)
  fbt : wr.frozen? ⟨bt, 0, none⟩ = false
  cb0 : wr.cell? ⟨b0, 0, none⟩ = some (.pointer (some ⟨R, 0, none⟩))
  piv : Kd.R (Kd.int .i64) 3 wr w.heap.size (fun k => k ≠ bt ∧ k ≠ b0) v3 piv
  chg : Chg w wr (fun i => two g d i ∨ w.heap.size ≤ i)
  n1 : w.heap.size ≤ bt
  n2 : w.heap.size ≤ b0
theorem RG.below {w : World} {R g d cl cd b0 bt : Nat} {Al Ad : Option Addr} {M D : List (List Int)} {cols top : Nat} {piv : List Int} {v3 : Value} {wr w1 : World} (h : RG w R g d cl cd b0 bt Al Ad M D cols top piv v3 wr) (hb : Below wr.heap.size wr w1) : RG w R g d cl cd b0 bt Al Ad M D cols top piv v3 w1 :=
  ⟨h.hold.below hb, (hb.cell (p := ⟨bt, 0, none⟩) (World.block_lt_of_cell? _ _ h.cbt)).trans h.cbt, (below_frozen (p := ⟨bt, 0, none⟩) hb (World.block_lt_of_cell? _ _ h.cbt)).trans h.fbt, (hb.cell (p := ⟨b0, 0, none⟩) (World.block_lt_of_cell? _ _ h.cb0)).trans h.cb0,
   Kd.R_below h.piv hb, h.chg.trans (Chg.below_all hb _), h.n1, h.n2⟩
theorem RG.drew {w : World} {R g d cl cd b0 bt : Nat} {Al Ad : Option Addr} {M D : List (List Int)} {cols top : Nat} {piv : List Int} {v3 : Value} {wr : World} (h : RG w R g d cl cd b0 bt Al Ad M D cols top piv v3 wr) : RG w R g d cl cd b0 bt Al Ad M D cols top piv v3 wr.drew := h.below (below_drew (Below.refl _ _))
/-- What changes the two lists alone leaves the rest. -/
theorem RG.both {w : World} {R g d cl cd b0 bt : Nat} {Al Ad : Option Addr} {M D M' D' : List (List Int)} {cols top : Nat} {piv : List Int} {v3 : Value} {wr w1 : World} (h : RG w R g d cl cd b0 bt Al Ad M D cols top piv v3 wr) (hg : g < w.heap.size) (hd : d < w.heap.size)
    (hh : Hold w1 R g d cl cd Al Ad M' D' cols) (hc : Chg wr w1 (two g d)) : RG w R g d cl cd b0 bt Al Ad M' D' cols top piv v3 w1 := by
  have n1 := h.n1
  have n2 := h.n2
  have hbt := hc.block bt (World.block_lt_of_cell? _ _ h.cbt) (fun e => by rcases e with e | e <;> omega)
  have hb0 := hc.block b0 (World.block_lt_of_cell? _ _ h.cb0) (fun e => by rcases e with e | e <;> omega)
  exact ⟨hh, (cell_same (p := ⟨bt, 0, none⟩) hbt).trans h.cbt, (frozen_same (p := ⟨bt, 0, none⟩) hbt).trans h.fbt, (cell_same (p := ⟨b0, 0, none⟩) hb0).trans h.cb0,
    Kd.R_mono (Kd.R_step (Kd.R_bound h.piv) (fun k hk hlt => hc.block k hlt (fun e => by have := hk.2.1; rcases e with e | e <;> omega))) (fun k hk => hk.1), h.chg.trans (hc.mono fun i _ hi => .inl hi), n1, n2⟩
/-- A number put to the pivots. -/
theorem RG.app {w : World} {R g d cl cd b0 bt : Nat} {Al Ad : Option Addr} {M D : List (List Int)} {cols top : Nat} {piv piv' : List Int} {v3 v3' : Value} {wr w1 : World} (h : RG w R g d cl cd b0 bt Al Ad M D cols top piv v3 wr) (hg : g < w.heap.size) (hd : d < w.heap.size) (hR : R < w.heap.size)
    (hr : wr.grownBy w1 v3.ownBlock) (hp : Kd.R (Kd.int .i64) 3 w1 w.heap.size (fun k => k ≠ bt ∧ k ≠ b0) v3' piv') : RG w R g d cl cd b0 bt Al Ad M D cols top piv' v3' w1 := by
  have n1 := h.n1
  have n2 := h.n2
  have hv : ∀ k, v3.ownBlock = some k → w.heap.size ≤ k ∧ k ≠ bt ∧ k ≠ b0 ∧ ∃ cells : Array Value, wr.heap[k]? = some (.cells cells 3 (0, 0)) := fun k hk => by
    have hb := Kd.R_bound h.piv
    have h0 := hb.1 k hk
    obtain ⟨h1, h2, _, q, hq, c, hc⟩ := h0
    refine ⟨h2, h1.1, h1.2, c, ?_⟩
    have : q = 3 := (List.mem_cons.1 hq).elim id (fun hx => by cases hx)
    rw [← this]
    exact hc
  have blk : ∀ b, b < wr.heap.size → (∀ k, v3.ownBlock = some k → b ≠ k) → w1.heap[b]? = wr.heap[b]? := fun b hb hne => hr.block b hb (by
    cases hv3 : v3.ownBlock with
    | none => simp
    | some k => simpa using hne k hv3)
  have kb : KeepB wr w1 := fun b cells hb => blk b (lt_of_get hb) (fun k hk e => by
    obtain ⟨_, _, _, c, hc⟩ := hv k hk
    subst e
    rw [hb] at hc
    injection hc with hc
    injection hc with _ hc
    exact absurd hc (by decide))
  have hc : Chg wr w1 (fun i => v3.ownBlock = some i) := ⟨hr.os, hr.tape, hr.output, hr.size, fun i hi hs => hr.block i hi (fun e => hs e.symm)⟩
  have hbt := blk bt (World.block_lt_of_cell? _ _ h.cbt) (fun k hk => fun e => (hv k hk).2.1 e.symm)
  have hb0 := blk b0 (World.block_lt_of_cell? _ _ h.cb0) (fun k hk => fun e => (hv k hk).2.2.1 e.symm)
  refine ⟨h.hold.chg hc kb (fun e => ?_) (fun _ e => ?_) (fun _ e => ?_), (cell_same (p := ⟨bt, 0, none⟩) hbt).trans h.cbt, (frozen_same (p := ⟨bt, 0, none⟩) hbt).trans h.fbt, (cell_same (p := ⟨b0, 0, none⟩) hb0).trans h.cb0, hp, h.chg.trans (hc.mono fun i _ hi => .inr (hv i hi).1), n1, n2⟩
  all_goals
    have := (hv _ e).1
    omega
/-- A new box for top. -/
theorem RG.next {w : World} {R g d cl cd b0 bt : Nat} {Al Ad : Option Addr} {M D : List (List Int)} {cols top : Nat} {piv : List Int} {v3 : Value} {wr : World} (h : RG w R g d cl cd b0 bt Al Ad M D cols top piv v3 wr) (top' : Nat) :
    RG w R g d cl cd b0 wr.heap.size Al Ad M D cols top' piv v3 (wr.alloc (.cells #[.int .i64 top'] 3)) := by
  have h1 := h.below (below_alloc (Below.refl _ _) (.cells #[.int .i64 top'] 3))
  have hl : wr.heap.size < (wr.alloc (.cells #[.int .i64 top'] 3)).heap.size := by simp
  refine ⟨h1.hold, ?_, ?_, h1.cb0, Kd.R_mono (Kd.R_alloc (Kd.R_bound h.piv) _) (fun k hk => ⟨by have := hk.2.2.1; omega, hk.1.2⟩), h1.chg, h.chg.size, h.n2⟩
  · exact (blk_cell (blk_new _ _) 0).trans rfl
  · exact blk_frozen (blk_new _ _) 0
theorem red_full {M D : List (List Int)} {j : Nat} (h : (redTo M D j).1.1.length ≤ (redTo M D j).2.length) (n : Nat) : redTo M D (j + n) = redTo M D j :=
  red_skip n fun j' _ _ i' a b => by omega
theorem RG.own_lt {w : World} {R g d cl cd b0 bt : Nat} {Al Ad : Option Addr} {M D : List (List Int)} {cols top : Nat} {piv : List Int} {v3 : Value} {wr : World} (h : RG w R g d cl cd b0 bt Al Ad M D cols top piv v3 wr) {k : Nat} (hk : v3.ownBlock = some k) : k < wr.heap.size :=
  ((Kd.R_bound h.piv).1 k hk).2.2.1
/-- A block that has come since stays where the pivots are written. -/
theorem RG.young {w : World} {R g d cl cd b0 bt : Nat} {Al Ad : Option Addr} {M D : List (List Int)} {cols top : Nat} {piv : List Int} {v3 : Value} {wr w1 w2 : World} (h : RG w R g d cl cd b0 bt Al Ad M D cols top piv v3 wr) {b : Nat} (hb : wr.heap.size ≤ b) (hb2 : b < w1.heap.size) (hg : w1.grownBy w2 v3.ownBlock) : w2.heap[b]? = w1.heap[b]? :=
  hg.block b hb2 (by
    cases hv : v3.ownBlock with
    | none => simp
    | some k =>
      have := h.own_lt hv
      intro e
      injection e with e
      omega)
theorem RG.old {w : World} {R g d cl cd b0 bt : Nat} {Al Ad : Option Addr} {M D : List (List Int)} {cols top : Nat} {piv : List Int} {v3 : Value} {wr : World} (h : RG w R g d cl cd b0 bt Al Ad M D cols top piv v3 wr) : bt < wr.heap.size ∧ b0 < wr.heap.size := ⟨World.block_lt_of_cell? _ _ h.cbt, World.block_lt_of_cell? _ _ h.cb0⟩

set_option maxHeartbeats 4000000 in
set_option maxRecDepth 100000 in
theorem gauss_reduce.calls (R g d cl cd : Nat) (Al Ad : Option Addr) (M D : List (List Int)) (cols wd : Nat) (w : World) (hH : Hold w R g d cl cd Al Ad M D cols) (hS : Shp M D cols wd) (hg : g < w.heap.size) (hd : d < w.heap.size) :
    Calls Tryd.prog 93 #[.pointer (some ⟨R, 0, none⟩)] w fun e w' => ∃ v, e = .returned v ∧ Aside0 (Hold w' R g d cl cd Al Ad (redTo M D cols).1.1 (redTo M D cols).1.2 cols ∧ Kd.R (Kd.int .i64) 3 w' w.heap.size (fun _ => True) v (redTo M D cols).2 ∧ Chg w w' (fun i => two g d i ∨ w.heap.size ≤ i)) := by
  have hR := hH.small
  have HH := Aside0.mk hH
  have HS := Aside0.mk hS
  clear hH hS
  go_enter Tryd.func93, Tryd.ntmps93
  go_wp2
  have H0 : Aside0 (RG w R g d cl cd w.heap.size (w.heap.size + 1) Al Ad M D cols 0 [] (.slice none 0 0) ((w.alloc (.cells #[.pointer (some ⟨R, 0, none⟩)] 123)).alloc (.cells #[.int .i64 0] 3))) := by
    have hb := below_alloc (below_alloc (Below.refl w.heap.size w) (.cells #[.pointer (some ⟨R, 0, none⟩)] 123)) (.cells #[.int .i64 0] 3)
    have e1 := blk_new (w.alloc (.cells #[.pointer (some ⟨R, 0, none⟩)] 123)) (.cells #[.int .i64 0] 3)
    rw [World.size_alloc] at e1
    have e0 : ((w.alloc (.cells #[.pointer (some ⟨R, 0, none⟩)] 123)).alloc (.cells #[.int .i64 0] 3)).heap[w.heap.size]? = some (.cells #[.pointer (some ⟨R, 0, none⟩)] 123) := heap_alloc2_old w _ _
    exact ⟨⟨HH.out.below hb, (blk_cell e1 0).trans rfl, blk_frozen e1 0, (blk_cell e0 0).trans rfl, Kd.R_nil _ _ _ _ _, (Chg.below_all hb _), by omega, Nat.le_refl _⟩⟩
  generalize (w.alloc (.cells #[.pointer (some ⟨R, 0, none⟩)] 123)).alloc (.cells #[.int .i64 0] 3) = W0 at *
  go_loopg [3, 5, 6] M.length (fun kq v3 v5 v6 wr => ∃ (col bt : Nat), v5 = .pointer (some ⟨bt, 0, none⟩) ∧ v6 = .int .i64 col ∧ col ≤ cols ∧ Aside0 (kq + (redTo M D col).2.length = M.length) ∧ Aside0 (RG w R g d cl cd w.heap.size bt Al Ad (redTo M D col).1.1 (redTo M D col).1.2 cols (redTo M D col).2.length (redTo M D col).2 v3 wr))
  case atStart => exact ⟨0, w.heap.size + 1, rfl, rfl, Nat.zero_le _, ⟨rfl⟩, H0⟩
  case round =>
    obtain ⟨col, bt, rfl, rfl, hcol, HK, HG⟩ := hrel
    clear H0
    obtain ⟨hs1, hs2, hs3, hs4⟩ := red_shp HS.out col
    have HS1 := Aside0.mk hs1
    have hsm := HS.out.small
    have HG1 := Aside0.mk HG.out.drew
    have y1 : wr.drew.cell? ⟨bt, 0, none⟩ = some (.int .i64 (redTo M D col).2.length) := HG1.out.cbt
    have y2 : wr.drew.cell? ⟨w.heap.size, 0, none⟩ = some (.pointer (some ⟨R, 0, none⟩)) := HG1.out.cb0
    have y3 : wr.drew.cell? ⟨R, 0, none⟩ = some (.slice Al M.length cl) := by rw [← hs2]; exact HG1.out.hold.head
    have hbd : (redTo M D col).2.length ≤ 64 := by omega
    clear hs1 HG hs4
    generalize es : redTo M D col = s at *
    have ES := Aside0.mk es
    clear es
    go_wp2_with fail
    refine start_ (n := 7) (S := fun w' => w'.cell? ⟨bt, 0, none⟩ = some (.int .i64 s.2.length) ∧ w'.cell? ⟨w.heap.size, 0, none⟩ = some (.pointer (some ⟨R, 0, none⟩)) ∧ w'.cell? ⟨R, 0, none⟩ = some (.slice Al M.length cl)) (ds := []) #[false, false, false, false, false, false, false] (by kernel_rfl) rfl rfl ⟨y1, y2, y3⟩ (fun hHeld => ?_)
    refine take_ (i := 0) (N := some 15) (v := ?_) (a' := ?_) #[true, false, false, false, false, false, false] rfl rfl (by kernel_rfl) (fun _ _ _ h => h) (Or.inl ⟨by rfl, ?_⟩) hHeld ?_ ?_
    rotate_left
    · rintro w' ⟨s0, s1, s2⟩
      go_simp
      with_reducible rfl
    rotate_left
    · simp only [Act.put, List.setIfInBounds_toArray, List.set_cons_zero, List.set_cons_succ, i64_w, i32_w]
      rfl
    refine take_ (i := 1) (N := some 16) (v := ?_) (a' := ?_) #[true, true, false, false, false, false, false] rfl rfl (by kernel_rfl) (fun _ _ _ h => h) (Or.inl ⟨by rfl, ?_⟩) hHeld ?_ ?_
    rotate_left
    · rintro w' ⟨s0, s1, s2⟩
      go_simp
      with_reducible rfl
    rotate_left
    · simp only [Act.put, List.setIfInBounds_toArray, List.set_cons_zero, List.set_cons_succ, i64_w, i32_w]
      rfl
    refine pure_ (i := 2) (N := some 17) (v := ?_) (a' := ?_) #[true, true, true, false, false, false, false] rfl rfl (by kernel_rfl) (fun _ _ _ h => h) (Or.inl ⟨by rfl, ?_⟩) ?_ ?_
    rotate_left
    · intro w'
      go_simp
      with_reducible rfl
    rotate_left
    · simp only [Act.put, List.setIfInBounds_toArray, List.set_cons_zero, List.set_cons_succ, i64_w, i32_w]
      rfl
    refine pure_ (i := 3) (N := some 18) (v := ?_) (a' := ?_) #[true, true, true, true, false, false, false] rfl rfl (by kernel_rfl) (fun _ _ _ h => h) (Or.inl ⟨by rfl, ?_⟩) ?_ ?_
    rotate_left
    · intro w'
      go_simp
      with_reducible rfl
    rotate_left
    · simp only [Act.put, List.setIfInBounds_toArray, List.set_cons_zero, List.set_cons_succ, i64_w, i32_w]
      rfl
    refine take_ (i := 4) (N := some 19) (v := ?_) (a' := ?_) #[true, true, true, true, true, false, false] rfl rfl (by kernel_rfl) (fun _ _ _ h => h) (Or.inl ⟨by rfl, ?_⟩) hHeld ?_ ?_
    rotate_left
    · rintro w' ⟨s0, s1, s2⟩
      go_simp
      with_reducible rfl
    rotate_left
    · simp only [Act.put, List.setIfInBounds_toArray, List.set_cons_zero, List.set_cons_succ, i64_w, i32_w]
      rfl
    refine pure_ (i := 5) (N := some 20) (v := ?_) (a' := ?_) #[true, true, true, true, true, true, false] rfl rfl (by kernel_rfl) (fun _ _ _ h => h) (Or.inl ⟨by rfl, ?_⟩) ?_ ?_
    rotate_left
    · intro w'
      go_simp
      with_reducible rfl
    rotate_left
    · simp only [Act.put, List.setIfInBounds_toArray, List.set_cons_zero, List.set_cons_succ, i64_w, i32_w]
      rfl
    refine pure_ (i := 6) (N := some 21) (v := ?_) (a' := ?_) #[true, true, true, true, true, true, true] rfl rfl (by kernel_rfl) (fun _ _ _ h => h) (Or.inl ⟨by rfl, ?_⟩) ?_ ?_
    rotate_left
    · intro w'
      go_simp
      with_reducible rfl
    rotate_left
    · simp only [Act.put, List.setIfInBounds_toArray, List.set_cons_zero, List.set_cons_succ, i64_w, i32_w]
      rfl
    refine done_ (by kernel_rfl) ?_
    clear hHeld
    generalize wr.drew = w1 at *
    by_cases hlt : s.2.length < M.length
    · have tst : decide ((s.2.length : Int) < (M.length : Int)) = true := by simpa using hlt
      go_wp2_with fail
      refine (gauss_seek.calls R g d cl cd Al Ad s.1.1 s.1.2 cols wd s.2.length col w1 HG1.out.hold HS1.out (by omega) (by omega) (by omega)).mono ?_
      rintro e w2 ⟨i, j, b, rfl, rfl, hsk⟩
      cases b with
      | false =>
        have HZ := Aside0.mk (show ZeroTo s.1.1 s.2.length col cols from hsk)
        clear hsk
        have HE := Aside0.mk (red_skip (M := M) (D := D) (j := col) (cols - col) (by rw [ES.out, show col + (cols - col) = cols from by omega]; exact HZ.out))
        rw [show col + (cols - col) = cols from by omega] at HE
        go_wp2_with fail
        go_ret
        refine ⟨_, rfl, ?_⟩
        have HG2 := HG1.out.below (below_alloc (Below.refl _ _) (.cells #[.int .i64 i] 3))
        rw [HE.out, ES.out]
        exact ⟨⟨HG2.hold, Kd.R_mono HG2.piv (fun _ _ => trivial), HG2.chg⟩⟩
      | true =>
        obtain ⟨k1, k2, k3, k4, k5, k6, k7⟩ := hsk
        have HK5 := Aside0.mk k5
        have HK6 := Aside0.mk k6
        have HK7 := Aside0.mk k7
        have HHIT := Aside0.mk (show redTo M D (j + 1) = (stepAt s.1.1 s.1.2 s.2.length i j, s.2 ++ [(j : Int)]) by
          have h := red_hit (M := M) (D := D) (c := col) (j := j) (i := i) k2
          rw [ES.out] at h
          exact h k7 k3 k4 k5 k6)
        clear k5 k6 k7
        have HOL := Aside0.mk HG1.out.old
        have hsz : w.heap.size ≤ w2.heap.size := HG1.out.chg.size
        have hpl : s.2.length ≤ 64 := by omega
        go_wp2_with ((with_reducible refine gate_builtin (b := .append) (xs := #[.tmp 37, .tmp 39]) rfl ?_); at_builtin; go_loud (refine Kd.R_append (Kd.int .i64) (w0 := w2.alloc (.cells #[.int .i64 i] 3)) w.heap.size rfl (.tmp 37) (.tmp 39) 56 3 (.int .i64 0) 8 rfl Tryd.underlying56 info3 rfl (by decide) (by omega) u3 s.2 (j : Int) [.int .i64 j] (fun k => k ≠ bt ∧ k ≠ w.heap.size) (fun _ => False) rfl (by rw [World.size_alloc]; rfl) ?aP (fun _ hk => hk.elim) ?aF ?aO ?aB ?aS ?aL ?_; (case aP => exact rfl); (case aB => exact Below.refl _ _); (case aF => intro k hk; have := HOL.out; simp at hk; omega); (case aO => exact Kd.R_alloc HG1.out.piv _); (case aS => simp; omega); (case aL => omega); intro v3' w3 ho hb hgr hat; have HO := Aside0.mk ho; have HGR := Aside0.mk hgr; clear ho hb hgr hat))
        have HG3 := Aside0.mk ((HG1.out.below (below_alloc (Below.refl _ _) (.cells #[.int .i64 i] 3))).app hg hd hR HGR.out HO.out)
        have hbi0 := HG1.out.young (b := w2.heap.size) (Nat.le_refl _) (by simp) HGR.out
        have hbi : w3.heap[w2.heap.size]? = some (.cells #[.int .i64 i] 3) := hbi0.trans (blk_new _ _)
        have hw3 : w2.heap.size < w3.heap.size := lt_of_get hbi
        generalize w2.heap.size = bi at *
        obtain ⟨vi, hri, hvi⟩ := HG3.out.hold.L.row i k4
        obtain ⟨Ai, ci, rfl, hlc, hCi, _⟩ := hvi.out
        have hev := HS1.out.eM i k4
        obtain ⟨ad, eA, hx0⟩ := Kd.at_int hCi (j : Int) (by omega) (by rw [hev]; omega)
        subst eA
        rw [hev] at hri
        have hx : w3.cell? (ad.add j) = some (.int .u8 (entry s.1.1 i j)) := by
          rw [show entry s.1.1 i j = rd (s.1.1.getD i []) (j : Int) from by simp [entry, rd]]
          simpa using hx0
        have hxb := entry_byte HS1.out k4 k1
        have HST := Aside0.mk (show stepAt s.1.1 s.1.2 s.2.length i j = elimTo j s.2.length s.1.1.length (swapS (invT (entry s.1.1 i j)) s.1.1 s.2.length i, swapS (invT (entry s.1.1 i j)) s.1.2 s.2.length i) from rfl)
        have HINV := Aside0.mk (inv_some hxb HK5.out)
        clear hx0 hCi hvi
        generalize entry s.1.1 i j = x at *
        have z1 := HG3.out.cb0
        have z2 : w3.cell? ⟨R, 0, none⟩ = some (.slice Al M.length cl) := by rw [← hs2]; exact HG3.out.hold.head
        have hAl := HG3.out.hold.hA (by omega)
        have k4M : i < M.length := by omega
        have HS2 := Aside0.mk hs2
        clear hs2
        subst hAl
        have z3 : w3.cell? ⟨bi, 0, none⟩ = some (.int .i64 i) := (blk_cell hbi 0).trans rfl
        have ho1 := HG3.out.old
        clear y1 y2 y3 tst
        refine start_ (n := 17) (S := fun w' => w'.cell? ⟨w.heap.size, 0, none⟩ = some (.pointer (some ⟨R, 0, none⟩)) ∧ w'.cell? ⟨R, 0, none⟩ = some (.slice (some ⟨g, 0, none⟩) M.length cl) ∧ w'.cell? ⟨bi, 0, none⟩ = some (.int .i64 i) ∧ w'.cell? ⟨g, i, none⟩ = some (.slice (some ad) cols ci) ∧ w'.cell? (ad.add j) = some (.int .u8 x)) (ds := [15]) #[false, false, false, false, false, false, false, false, false, false, false, false, false, false, false, false, false] (by kernel_rfl) rfl rfl ⟨z1, z2, z3, hri, hx⟩ (fun hHeld => ?_)
        have HG4 := Aside0.mk HG3.out.drew
        have hbi4 : w3.drew.heap[bi]? = some (.cells #[.int .i64 i] 3) := hbi
        generalize w3.drew = w4 at HG4 hbi4 hHeld ⊢
        refine pure_ (i := 7) (N := some 49) (v := ?_) (a' := ?_) #[false, false, false, false, false, false, false, true, false, false, false, false, false, false, false, false, false] rfl rfl (by kernel_rfl) (fun _ _ _ h => h) (Or.inl ⟨by rfl, ?_⟩) ?_ ?_
        rotate_left
        · intro w'
          go_simp
          with_reducible rfl
        rotate_left
        · simp only [Act.put, List.setIfInBounds_toArray, List.set_cons_zero, List.set_cons_succ, i64_w, i32_w]
          rfl
        refine take_ (i := 0) (N := some 42) (v := ?_) (a' := ?_) #[true, false, false, false, false, false, false, true, false, false, false, false, false, false, false, false, false] rfl rfl (by kernel_rfl) (fun _ _ _ h => h) (Or.inl ⟨by rfl, ?_⟩) hHeld ?_ ?_
        rotate_left
        · rintro w' ⟨s0, s1, s2, s3, s4⟩
          go_simp
          with_reducible rfl
        rotate_left
        · simp only [Act.put, List.setIfInBounds_toArray, List.set_cons_zero, List.set_cons_succ, i64_w, i32_w]
          rfl
        refine pure_ (i := 1) (N := some 43) (v := ?_) (a' := ?_) #[true, true, false, false, false, false, false, true, false, false, false, false, false, false, false, false, false] rfl rfl (by kernel_rfl) (fun _ _ _ h => h) (Or.inl ⟨by rfl, ?_⟩) ?_ ?_
        rotate_left
        · intro w'
          go_simp
          with_reducible rfl
        rotate_left
        · simp only [Act.put, List.setIfInBounds_toArray, List.set_cons_zero, List.set_cons_succ, i64_w, i32_w]
          rfl
        refine pure_ (i := 2) (N := some 44) (v := ?_) (a' := ?_) #[true, true, true, false, false, false, false, true, false, false, false, false, false, false, false, false, false] rfl rfl (by kernel_rfl) (fun _ _ _ h => h) (Or.inl ⟨by rfl, ?_⟩) ?_ ?_
        rotate_left
        · intro w'
          go_simp
          with_reducible rfl
        rotate_left
        · simp only [Act.put, List.setIfInBounds_toArray, List.set_cons_zero, List.set_cons_succ, i64_w, i32_w]
          rfl
        refine take_ (i := 3) (N := some 45) (v := ?_) (a' := ?_) #[true, true, true, true, false, false, false, true, false, false, false, false, false, false, false, false, false] rfl rfl (by kernel_rfl) (fun _ _ _ h => h) (Or.inl ⟨by rfl, ?_⟩) hHeld ?_ ?_
        rotate_left
        · rintro w' ⟨s0, s1, s2, s3, s4⟩
          go_simp
          with_reducible rfl
        rotate_left
        · simp only [Act.put, List.setIfInBounds_toArray, List.set_cons_zero, List.set_cons_succ, i64_w, i32_w]
          rfl
        refine take_ (i := 4) (N := some 46) (v := ?_) (a' := ?_) #[true, true, true, true, true, false, false, true, false, false, false, false, false, false, false, false, false] rfl rfl (by kernel_rfl) (fun _ _ _ h => h) (Or.inl ⟨by rfl, ?_⟩) hHeld ?_ ?_
        rotate_left
        · rintro w' ⟨s0, s1, s2, s3, s4⟩
          go_simp
          with_reducible rfl
        rotate_left
        · simp only [Act.put, List.setIfInBounds_toArray, List.set_cons_zero, List.set_cons_succ, i64_w, i32_w]
          rfl
        refine pure_ (i := 5) (N := some 47) (v := ?_) (a' := ?_) #[true, true, true, true, true, true, false, true, false, false, false, false, false, false, false, false, false] rfl rfl (by kernel_rfl) (fun _ _ _ h => h) (Or.inl ⟨by rfl, ?_⟩) ?_ ?_
        rotate_left
        · intro w'
          go_simp
          with_reducible rfl
        rotate_left
        · simp only [Act.put, List.setIfInBounds_toArray, List.set_cons_zero, List.set_cons_succ, i64_w, i32_w]
          rfl
        refine take_ (i := 6) (N := some 48) (v := ?_) (a' := ?_) #[true, true, true, true, true, true, true, true, false, false, false, false, false, false, false, false, false] rfl rfl (by kernel_rfl) (fun _ _ _ h => h) (Or.inl ⟨by rfl, ?_⟩) hHeld ?_ ?_
        rotate_left
        · rintro w' ⟨s0, s1, s2, s3, s4⟩
          go_simp
          with_reducible rfl
        rotate_left
        · simp only [Act.put, List.setIfInBounds_toArray, List.set_cons_zero, List.set_cons_succ, i64_w, i32_w]
          rfl
        refine pure_ (i := 8) (N := some 50) (v := ?_) (a' := ?_) #[true, true, true, true, true, true, true, true, true, false, false, false, false, false, false, false, false] rfl rfl (by kernel_rfl) (fun _ _ _ h => h) (Or.inl ⟨by rfl, ?_⟩) ?_ ?_
        rotate_left
        · intro w'
          go_simp
          with_reducible rfl
        rotate_left
        · simp only [Act.put, List.setIfInBounds_toArray, List.set_cons_zero, List.set_cons_succ, i64_w, i32_w]
          rfl
        refine take_ (i := 9) (N := some 51) (v := ?_) (a' := ?_) #[true, true, true, true, true, true, true, true, true, true, false, false, false, false, false, false, false] rfl rfl (by kernel_rfl) (fun _ _ _ h => h) (Or.inl ⟨by rfl, ?_⟩) hHeld ?_ ?_
        rotate_left
        · rintro w' ⟨s0, s1, s2, s3, s4⟩
          go_simp
          with_reducible rfl
        rotate_left
        · simp only [Act.put, List.setIfInBounds_toArray, List.set_cons_zero, List.set_cons_succ, i64_w, i32_w]
          rfl
        refine join_ (σ := Nat) 2 #[true, true, true, true, true, true, true, true, true, true, true, true, true, true, true, false, false] (fun s => [(52, .tuple #[.int .u8 (invT x), .int .i64 0]), (41, .tuple #[.int .u8 (invT x), .int .i64 0]), (53, .int .u8 (invT x)), (54, .int .i64 0), (10, .pointer (some ⟨s, 0, none⟩))]) (fun s w' => Aside0 (Below w4.heap.size w4 w' ∧ w4.heap.size ≤ s ∧ w'.heap[s]? = some (.cells #[.int .u8 0] 5))) ?_ ?_
        rotate_left
        · intro hCont
          refine two_ (i := 10) (j := 14) (Ni := some 52) (Nj := some 10) #[true, true, true, true, true, true, true, true, true, true, true, false, false, false, false, false, false] #[true, true, true, true, true, true, true, true, true, true, false, false, false, false, true, false, false] rfl rfl rfl rfl (by kernel_rfl) (by decide) (by decide) (fun K hK => ?_) (fun K hK => ?_)
          · skip
            refine goes_ Tryd.func108 (by kernel_rfl) rfl #[.int .u8 x] (by rfl) rfl rfl (by simp only [List.map_toArray, List.map_cons, List.map_nil]; rfl) ?_
            refine (field_Inv.calls x _ 0 _ HINV.out.1).mono ?_
            rintro e w5 ⟨rfl, hb5⟩
            refine ⟨_, rfl, ?_⟩
            refine hK.out _ _ ⟨pw_cell_below hb5 hHeld.1, pw_cell_below hb5 hHeld.2.1, pw_cell_below hb5 hHeld.2.2.1, pw_cell_below hb5 hHeld.2.2.2.1, pw_cell_below hb5 hHeld.2.2.2.2⟩ (fun hHeld => ?_)
            clear hK K
            refine norm_ (a' := ?_) ?_ ?_
            rotate_left
            · show Act.put _ (some 52) _ = _
              simp only [Act.put, List.setIfInBounds_toArray, List.set_cons_zero, List.set_cons_succ, i64_w, i32_w]
              rfl
            refine pure_ (i := 11) (N := some 41) (v := ?_) (a' := ?_) #[true, true, true, true, true, true, true, true, true, true, true, true, false, false, false, false, false] rfl rfl (by kernel_rfl) (fun _ _ _ h => h) (Or.inl ⟨by rfl, ?_⟩) ?_ ?_
            rotate_left
            · intro w'
              go_simp
              with_reducible rfl
            rotate_left
            · simp only [Act.put, List.setIfInBounds_toArray, List.set_cons_zero, List.set_cons_succ, i64_w, i32_w]
              rfl
            refine pure_ (i := 12) (N := some 53) (v := ?_) (a' := ?_) #[true, true, true, true, true, true, true, true, true, true, true, true, true, false, false, false, false] rfl rfl (by kernel_rfl) (fun _ _ _ h => h) (Or.inl ⟨by rfl, ?_⟩) ?_ ?_
            rotate_left
            · intro w'
              go_simp
              with_reducible rfl
            rotate_left
            · simp only [Act.put, List.setIfInBounds_toArray, List.set_cons_zero, List.set_cons_succ, i64_w, i32_w]
              rfl
            refine pure_ (i := 13) (N := some 54) (v := ?_) (a' := ?_) #[true, true, true, true, true, true, true, true, true, true, true, true, true, true, false, false, false] rfl rfl (by kernel_rfl) (fun _ _ _ h => h) (Or.inl ⟨by rfl, ?_⟩) ?_ ?_
            rotate_left
            · intro w'
              go_simp
              with_reducible rfl
            rotate_left
            · simp only [Act.put, List.setIfInBounds_toArray, List.set_cons_zero, List.set_cons_succ, i64_w, i32_w]
              rfl
            refine one_ (i := 14) (N := some 10) #[true, true, true, true, true, true, true, true, true, true, true, true, true, true, true, false, false] rfl rfl (by kernel_rfl) (by decide) (fun K hK => ?_)
            refine value_ (w1 := ?_) (v := ?_) (by rfl) rfl ?_ ?_
            rotate_left 2
            · go_simp
              constructor
              · rfl
              · rfl
            refine hK.out _ _ ⟨pw_cell_below (below_alloc (Below.refl _ _) _) hHeld.1, pw_cell_below (below_alloc (Below.refl _ _) _) hHeld.2.1, pw_cell_below (below_alloc (Below.refl _ _) _) hHeld.2.2.1, pw_cell_below (below_alloc (Below.refl _ _) _) hHeld.2.2.2.1, pw_cell_below (below_alloc (Below.refl _ _) _) hHeld.2.2.2.2⟩ (fun hHeld => ?_)
            clear hK K
            refine norm_ (a' := ?_) ?_ ?_
            rotate_left
            · show Act.put _ (some 10) _ = _
              simp only [Act.put, List.setIfInBounds_toArray, List.set_cons_zero, List.set_cons_succ, i64_w, i32_w]
              rfl
            exact norm_ (by simp only [putAll, Act.put, List.setIfInBounds_toArray, List.set_cons_zero, List.set_cons_succ]) (hCont _ _ ⟨⟨below_step hb5 (below_alloc (Below.refl _ _) _), hb5.size, blk_new _ _⟩⟩)
          · skip
            refine value_ (w1 := ?_) (v := ?_) (by rfl) rfl ?_ ?_
            rotate_left 2
            · go_simp
              constructor
              · rfl
              · rfl
            refine hK.out _ _ ⟨pw_cell_below (below_alloc (Below.refl _ _) _) hHeld.1, pw_cell_below (below_alloc (Below.refl _ _) _) hHeld.2.1, pw_cell_below (below_alloc (Below.refl _ _) _) hHeld.2.2.1, pw_cell_below (below_alloc (Below.refl _ _) _) hHeld.2.2.2.1, pw_cell_below (below_alloc (Below.refl _ _) _) hHeld.2.2.2.2⟩ (fun hHeld => ?_)
            clear hK K
            refine norm_ (a' := ?_) ?_ ?_
            rotate_left
            · show Act.put _ (some 10) _ = _
              simp only [Act.put, List.setIfInBounds_toArray, List.set_cons_zero, List.set_cons_succ, i64_w, i32_w]
              rfl
            refine one_ (i := 10) (N := some 52) #[true, true, true, true, true, true, true, true, true, true, true, false, false, false, true, false, false] rfl rfl (by kernel_rfl) (by decide) (fun K hK => ?_)
            refine goes_ Tryd.func108 (by kernel_rfl) rfl #[.int .u8 x] (by rfl) rfl rfl (by simp only [List.map_toArray, List.map_cons, List.map_nil]; rfl) ?_
            refine (field_Inv.calls x _ 0 _ HINV.out.1).mono ?_
            rintro e w5 ⟨rfl, hb5⟩
            refine ⟨_, rfl, ?_⟩
            refine hK.out _ _ ⟨pw_cell_below hb5 hHeld.1, pw_cell_below hb5 hHeld.2.1, pw_cell_below hb5 hHeld.2.2.1, pw_cell_below hb5 hHeld.2.2.2.1, pw_cell_below hb5 hHeld.2.2.2.2⟩ (fun hHeld => ?_)
            clear hK K
            refine norm_ (a' := ?_) ?_ ?_
            rotate_left
            · show Act.put _ (some 52) _ = _
              simp only [Act.put, List.setIfInBounds_toArray, List.set_cons_zero, List.set_cons_succ, i64_w, i32_w]
              rfl
            refine pure_ (i := 11) (N := some 41) (v := ?_) (a' := ?_) #[true, true, true, true, true, true, true, true, true, true, true, true, false, false, true, false, false] rfl rfl (by kernel_rfl) (fun _ _ _ h => h) (Or.inl ⟨by rfl, ?_⟩) ?_ ?_
            rotate_left
            · intro w'
              go_simp
              with_reducible rfl
            rotate_left
            · simp only [Act.put, List.setIfInBounds_toArray, List.set_cons_zero, List.set_cons_succ, i64_w, i32_w]
              rfl
            refine pure_ (i := 12) (N := some 53) (v := ?_) (a' := ?_) #[true, true, true, true, true, true, true, true, true, true, true, true, true, false, true, false, false] rfl rfl (by kernel_rfl) (fun _ _ _ h => h) (Or.inl ⟨by rfl, ?_⟩) ?_ ?_
            rotate_left
            · intro w'
              go_simp
              with_reducible rfl
            rotate_left
            · simp only [Act.put, List.setIfInBounds_toArray, List.set_cons_zero, List.set_cons_succ, i64_w, i32_w]
              rfl
            refine pure_ (i := 13) (N := some 54) (v := ?_) (a' := ?_) #[true, true, true, true, true, true, true, true, true, true, true, true, true, true, true, false, false] rfl rfl (by kernel_rfl) (fun _ _ _ h => h) (Or.inl ⟨by rfl, ?_⟩) ?_ ?_
            rotate_left
            · intro w'
              go_simp
              with_reducible rfl
            rotate_left
            · simp only [Act.put, List.setIfInBounds_toArray, List.set_cons_zero, List.set_cons_succ, i64_w, i32_w]
              rfl
            exact norm_ (by simp only [putAll, Act.put, List.setIfInBounds_toArray, List.set_cons_zero, List.set_cons_succ]) (hCont _ _ ⟨⟨below_step (below_alloc (Below.refl _ _) _) hb5, Nat.le_refl _, (hb5.block _ (lt_of_get (blk_new _ _))).trans (blk_new _ _)⟩⟩)
        rintro bo w6 HF
        have hbo : w6.cell? ⟨bo, 0, none⟩ = some (.int .u8 0) := (blk_cell HF.out.2.2 0).trans rfl
        have hfo : w6.frozen? ⟨bo, 0, none⟩ = false := blk_frozen HF.out.2.2 0
        have hHeld : w6.cell? ⟨w.heap.size, 0, none⟩ = some (.pointer (some ⟨R, 0, none⟩)) ∧ w6.cell? ⟨R, 0, none⟩ = some (.slice (some ⟨g, 0, none⟩) M.length cl) ∧ w6.cell? ⟨bi, 0, none⟩ = some (.int .i64 i) ∧ w6.cell? ⟨g, i, none⟩ = some (.slice (some ad) cols ci) ∧ w6.cell? (ad.add j) = some (.int .u8 x) := by
          obtain ⟨h1, h2, h3, h4, h5⟩ := hHeld
          exact ⟨pw_cell_below HF.out.1 h1, pw_cell_below HF.out.1 h2, pw_cell_below HF.out.1 h3, pw_cell_below HF.out.1 h4, pw_cell_below HF.out.1 h5⟩
        refine norm_ (a' := ?_) ?_ ?_
        rotate_left
        · simp only [putAll, Act.put, List.setIfInBounds_toArray, List.set_cons_zero, List.set_cons_succ]
          rfl
        refine last_ (i := 15) (N := none) #[true, true, true, true, true, true, true, true, true, true, true, true, true, true, true, true, false] rfl rfl (by kernel_rfl) (by decide) (fun K hK => ?_)
        refine skip_ (w1 := ?_) (by rfl) rfl ?_ ?_
        rotate_left
        · go_simp
          rfl
        refine hK.out _ _ ?_
        clear hK K
        refine pure_ (i := 16) (N := some 11) (v := ?_) (a' := ?_) #[true, true, true, true, true, true, true, true, true, true, true, true, true, true, true, true, true] rfl rfl (by kernel_rfl) (fun _ _ _ h => h) (Or.inl ⟨by rfl, ?_⟩) ?_ ?_
        rotate_left
        · intro w'
          go_simp
          with_reducible rfl
        rotate_left
        · simp only [Act.put, List.setIfInBounds_toArray, List.set_cons_zero, List.set_cons_succ, i64_w, i32_w]
          rfl
        refine done_ (by kernel_rfl) ?_
        clear hHeld hbo hfo
        have hB7 : Below w4.heap.size w4 (w6.setCell ⟨bo, 0, none⟩ (.int .u8 (invT x))) := HF.out.1.setCell HF.out.2.1 _
        have HG7 := Aside0.mk (HG4.out.below hB7)
        have hbo7 : (w6.setCell ⟨bo, 0, none⟩ (.int .u8 (invT x))).cell? ⟨bo, 0, none⟩ = some (.int .u8 (invT x)) := World.cell?_setCell_same' _ _ _ (by rw [(blk_cell HF.out.2.2 0).trans rfl]; rfl)
        have hbi7 : (w6.setCell ⟨bo, 0, none⟩ (.int .u8 (invT x))).cell? ⟨bi, 0, none⟩ = some (.int .i64 i) := (hB7.cell (p := ⟨bi, 0, none⟩) (lt_of_get hbi4)).trans ((blk_cell hbi4 0).trans rfl)
        have hbo4 := HF.out.2.1
        have hbw4 := HG4.out.chg.size
        have h4o := HG4.out.old
        clear HF hB7 hbi hbi0 hbi4 hri hx z1 z2 z3
        generalize w6.setCell ⟨bo, 0, none⟩ (.int .u8 (invT x)) = w7 at *
        go_wp2_with fail
        have hn1 := HG7.out.n1
        refine (gauss_both.swap w.heap.size R g d cl cd bt bi bo (some ⟨g, 0, none⟩) Ad s.1.1 s.1.2 cols wd s.2.length i (invT x) w7 HG7.out.hold HS1.out HG7.out.cb0 HG7.out.cbt hbi7 hbo7 HINV.out.2 (by have := HS2.out; omega) k4 (by omega) (by omega)).mono ?_
        rintro e w8 ⟨⟨v, rfl⟩, hq⟩
        have HG8 := Aside0.mk (HG7.out.both hg hd hq.out.1 hq.out.2)
        have HS8 := Aside0.mk (HS1.out.swap (o := invT x) (top := s.2.length) (i := i) (by have := HS2.out; omega) k4)
        have HL8 := Aside0.mk (show (swapS (invT x) s.1.1 s.2.length i).length = M.length by rw [← HS2.out]; simp [swapS])
        clear hq HG7 hbi7 hbo7 HG4 HG3 HG1
        generalize swapS (invT x) s.1.1 s.2.length i = M8 at *
        generalize swapS (invT x) s.1.2 s.2.length i = D8 at *
        have z1 := HG8.out.cb0
        have z2 : w8.cell? ⟨R, 0, none⟩ = some (.slice (some ⟨g, 0, none⟩) M.length cl) := by rw [← HL8.out]; exact HG8.out.hold.head
        go_wp2_with fail
        clear z1 z2
        go_loopg [63] M.length (fun kq v63 wr => ∃ (k : Nat), v63 = .int .i64 k ∧ k ≤ M.length ∧ Aside0 (kq + k = M.length) ∧ Aside0 (RG w R g d cl cd w.heap.size bt (some ⟨g, 0, none⟩) Ad (elimTo j s.2.length k (M8, D8)).1 (elimTo j s.2.length k (M8, D8)).2 cols s.2.length (s.2 ++ [(j : Int)]) v3' wr))
        case atStart => exact ⟨0, rfl, Nat.zero_le _, ⟨rfl⟩, HG8⟩
        case round =>
          obtain ⟨k, rfl, hkM, HK2, HGI⟩ := hrel
          clear HG8
          obtain ⟨he1, he2⟩ := elim_shp (col := j) HS8.out (by rw [HL8.out]; exact hlt : s.2.length < _) k (by rw [HL8.out]; exact hkM)
          have HSE := Aside0.mk he1
          have HLE := Aside0.mk (he2.trans HL8.out)
          have HEX := Aside0.mk (show elimTo j s.2.length (k + 1) (M8, D8) = (let t := elimTo j s.2.length k (M8, D8); if k ≠ s.2.length ∧ entry t.1 k j ≠ 0 then (macS t.1 k s.2.length (entry t.1 k j), macS t.2 k s.2.length (entry t.1 k j)) else t) from rfl)
          clear he1 he2
          by_cases hkl : k < M.length
          · have tst2 : decide ((k : Int) < (M.length : Int)) = true := by simpa using hkl
            go_wp2_with fail
            have HGK := Aside0.mk (HGI.out.below (below_alloc (Below.refl _ _) (.cells #[.int .i64 k] 3)))
            have hbk := blk_new wr (.cells #[.int .i64 k] 3)
            have hbkw : w.heap.size ≤ wr.heap.size := HGI.out.chg.size
            have hold := HGI.out.old
            clear HGI
            generalize wr.alloc (.cells #[.int .i64 k] 3) = wa at *
            generalize wr.heap.size = bk at *
            generalize elimTo j s.2.length k (M8, D8) = t at *
            obtain ⟨vk, hrk, hvk⟩ := HGK.out.hold.L.row k (by rw [HLE.out]; exact hkl)
            obtain ⟨Ak, ck, rfl, hlk, hCk, _⟩ := hvk.out
            have hek := HSE.out.eM k (by rw [HLE.out]; exact hkl)
            obtain ⟨adk, eAk, hxk0⟩ := Kd.at_int hCk (j : Int) (by omega) (by rw [hek]; omega)
            subst eAk
            rw [hek] at hrk
            have hxk : wa.cell? (adk.add j) = some (.int .u8 (entry t.1 k j)) := by
              rw [show entry t.1 k j = rd (t.1.getD k []) (j : Int) from by simp [entry, rd]]
              simpa using hxk0
            have hcb := entry_byte HSE.out (i := k) (j := j) (by rw [HLE.out]; exact hkl) k1
            clear hxk0 hCk hvk
            generalize entry t.1 k j = c at *
            have z1 := HGK.out.cb0
            have z2 : wa.cell? ⟨R, 0, none⟩ = some (.slice (some ⟨g, 0, none⟩) M.length cl) := by rw [← HLE.out]; exact HGK.out.hold.head
            have z3 : wa.cell? ⟨bk, 0, none⟩ = some (.int .i64 k) := (blk_cell hbk 0).trans rfl
            refine start_ (n := 12) (S := fun w' => w'.cell? ⟨w.heap.size, 0, none⟩ = some (.pointer (some ⟨R, 0, none⟩)) ∧ w'.cell? ⟨R, 0, none⟩ = some (.slice (some ⟨g, 0, none⟩) M.length cl) ∧ w'.cell? ⟨bk, 0, none⟩ = some (.int .i64 k) ∧ w'.cell? ⟨g, k, none⟩ = some (.slice (some adk) cols ck) ∧ w'.cell? (adk.add j) = some (.int .u8 c)) (ds := [11]) #[false, false, false, false, false, false, false, false, false, false, false, false] (by kernel_rfl) rfl rfl ⟨z1, z2, z3, hrk, hxk⟩ (fun hHeld => ?_)
            have HG9 := Aside0.mk HGK.out.drew
            have hbk9 : wa.drew.heap[bk]? = some (.cells #[.int .i64 k] 3) := hbk
            generalize wa.drew = w9 at HG9 hbk9 hHeld ⊢
            refine pure_ (i := 7) (N := some 73) (v := ?_) (a' := ?_) #[false, false, false, false, false, false, false, true, false, false, false, false] rfl rfl (by kernel_rfl) (fun _ _ _ h => h) (Or.inl ⟨by rfl, ?_⟩) ?_ ?_
            rotate_left
            · intro w'
              go_simp
              with_reducible rfl
            rotate_left
            · simp only [Act.put, List.setIfInBounds_toArray, List.set_cons_zero, List.set_cons_succ, i64_w, i32_w]
              rfl
            refine take_ (i := 0) (N := some 66) (v := ?_) (a' := ?_) #[true, false, false, false, false, false, false, true, false, false, false, false] rfl rfl (by kernel_rfl) (fun _ _ _ h => h) (Or.inl ⟨by rfl, ?_⟩) hHeld ?_ ?_
            rotate_left
            · rintro w' ⟨s0, s1, s2, s3, s4⟩
              go_simp
              with_reducible rfl
            rotate_left
            · simp only [Act.put, List.setIfInBounds_toArray, List.set_cons_zero, List.set_cons_succ, i64_w, i32_w]
              rfl
            refine pure_ (i := 1) (N := some 67) (v := ?_) (a' := ?_) #[true, true, false, false, false, false, false, true, false, false, false, false] rfl rfl (by kernel_rfl) (fun _ _ _ h => h) (Or.inl ⟨by rfl, ?_⟩) ?_ ?_
            rotate_left
            · intro w'
              go_simp
              with_reducible rfl
            rotate_left
            · simp only [Act.put, List.setIfInBounds_toArray, List.set_cons_zero, List.set_cons_succ, i64_w, i32_w]
              rfl
            refine pure_ (i := 2) (N := some 68) (v := ?_) (a' := ?_) #[true, true, true, false, false, false, false, true, false, false, false, false] rfl rfl (by kernel_rfl) (fun _ _ _ h => h) (Or.inl ⟨by rfl, ?_⟩) ?_ ?_
            rotate_left
            · intro w'
              go_simp
              with_reducible rfl
            rotate_left
            · simp only [Act.put, List.setIfInBounds_toArray, List.set_cons_zero, List.set_cons_succ, i64_w, i32_w]
              rfl
            refine take_ (i := 3) (N := some 69) (v := ?_) (a' := ?_) #[true, true, true, true, false, false, false, true, false, false, false, false] rfl rfl (by kernel_rfl) (fun _ _ _ h => h) (Or.inl ⟨by rfl, ?_⟩) hHeld ?_ ?_
            rotate_left
            · rintro w' ⟨s0, s1, s2, s3, s4⟩
              go_simp
              with_reducible rfl
            rotate_left
            · simp only [Act.put, List.setIfInBounds_toArray, List.set_cons_zero, List.set_cons_succ, i64_w, i32_w]
              rfl
            refine take_ (i := 4) (N := some 70) (v := ?_) (a' := ?_) #[true, true, true, true, true, false, false, true, false, false, false, false] rfl rfl (by kernel_rfl) (fun _ _ _ h => h) (Or.inl ⟨by rfl, ?_⟩) hHeld ?_ ?_
            rotate_left
            · rintro w' ⟨s0, s1, s2, s3, s4⟩
              go_simp
              with_reducible rfl
            rotate_left
            · simp only [Act.put, List.setIfInBounds_toArray, List.set_cons_zero, List.set_cons_succ, i64_w, i32_w]
              rfl
            refine pure_ (i := 5) (N := some 71) (v := ?_) (a' := ?_) #[true, true, true, true, true, true, false, true, false, false, false, false] rfl rfl (by kernel_rfl) (fun _ _ _ h => h) (Or.inl ⟨by rfl, ?_⟩) ?_ ?_
            rotate_left
            · intro w'
              go_simp
              with_reducible rfl
            rotate_left
            · simp only [Act.put, List.setIfInBounds_toArray, List.set_cons_zero, List.set_cons_succ, i64_w, i32_w]
              rfl
            refine take_ (i := 6) (N := some 72) (v := ?_) (a' := ?_) #[true, true, true, true, true, true, true, true, false, false, false, false] rfl rfl (by kernel_rfl) (fun _ _ _ h => h) (Or.inl ⟨by rfl, ?_⟩) hHeld ?_ ?_
            rotate_left
            · rintro w' ⟨s0, s1, s2, s3, s4⟩
              go_simp
              with_reducible rfl
            rotate_left
            · simp only [Act.put, List.setIfInBounds_toArray, List.set_cons_zero, List.set_cons_succ, i64_w, i32_w]
              rfl
            refine pure_ (i := 8) (N := some 74) (v := ?_) (a' := ?_) #[true, true, true, true, true, true, true, true, true, false, false, false] rfl rfl (by kernel_rfl) (fun _ _ _ h => h) (Or.inl ⟨by rfl, ?_⟩) ?_ ?_
            rotate_left
            · intro w'
              go_simp
              with_reducible rfl
            rotate_left
            · simp only [Act.put, List.setIfInBounds_toArray, List.set_cons_zero, List.set_cons_succ, i64_w, i32_w]
              rfl
            refine take_ (i := 9) (N := some 75) (v := ?_) (a' := ?_) #[true, true, true, true, true, true, true, true, true, true, false, false] rfl rfl (by kernel_rfl) (fun _ _ _ h => h) (Or.inl ⟨by rfl, ?_⟩) hHeld ?_ ?_
            rotate_left
            · rintro w' ⟨s0, s1, s2, s3, s4⟩
              go_simp
              with_reducible rfl
            rotate_left
            · simp only [Act.put, List.setIfInBounds_toArray, List.set_cons_zero, List.set_cons_succ, i64_w, i32_w]
              rfl
            refine one_ (i := 10) (N := some 13) #[true, true, true, true, true, true, true, true, true, true, true, false] rfl rfl (by kernel_rfl) (by decide) (fun K hK => ?_)
            refine value_ (w1 := ?_) (v := ?_) (by rfl) rfl ?_ ?_
            rotate_left 2
            · go_simp
              constructor
              · rfl
              · rfl
            refine hK.out _ _ ⟨pw_cell_below (below_alloc (Below.refl _ _) _) hHeld.1, pw_cell_below (below_alloc (Below.refl _ _) _) hHeld.2.1, pw_cell_below (below_alloc (Below.refl _ _) _) hHeld.2.2.1, pw_cell_below (below_alloc (Below.refl _ _) _) hHeld.2.2.2.1, pw_cell_below (below_alloc (Below.refl _ _) _) hHeld.2.2.2.2⟩ (fun hHeld => ?_)
            clear hK K
            refine norm_ (a' := ?_) ?_ ?_
            rotate_left
            · show Act.put _ (some 13) _ = _
              simp only [Act.put, List.setIfInBounds_toArray, List.set_cons_zero, List.set_cons_succ, i64_w, i32_w]
              rfl
            refine last_ (i := 11) (N := none) #[true, true, true, true, true, true, true, true, true, true, true, true] rfl rfl (by kernel_rfl) (by decide) (fun K hK => ?_)
            refine skip_ (w1 := ?_) (by rfl) rfl ?_ ?_
            rotate_left
            · go_simp
              rfl
            refine hK.out _ _ ?_
            clear hK K
            refine done_ (by kernel_rfl) ?_
            have hHb := below_alloc (Below.refl w9.heap.size w9) (.cells #[.int .u8 c] 5)
            have HG10 := Aside0.mk (HG9.out.below hHb)
            have hbk10 : (w9.alloc (.cells #[.int .u8 c] 5)).cell? ⟨bk, 0, none⟩ = some (.int .i64 k) := (blk_cell ((hHb.block bk (lt_of_get hbk9)).trans hbk9) 0).trans rfl
            have hbc10 : (w9.alloc (.cells #[.int .u8 c] 5)).cell? ⟨w9.heap.size, 0, none⟩ = some (.int .u8 c) := (blk_cell (blk_new w9 _) 0).trans rfl
            have hbcw : w.heap.size ≤ w9.heap.size := HG9.out.chg.size
            have z4 := HG10.out.cbt
            have n1 := HG10.out.n1
            clear hHeld hbk9 HG9 HGK hbk hHb hrk hxk z1 z2 z3
            generalize w9.alloc (.cells #[.int .u8 c] 5) = w10 at *
            generalize w9.heap.size = bc at *
            by_cases hkt : k = s.2.length
            · have t1 : ((k : Int) != (s.2.length : Int)) = false := bne_eq_false_iff_eq.mpr (by omega)
              have e := Aside0.mk (HEX.out.trans (if_neg (fun h => h.1 hkt)))
              have HKT := Aside0.mk hkt
              clear hkt
              go_wp2_with fail
              go_roundg (M.length - (k + 1))
              case measure => have := HK2.out; omega
              case rel => exact ⟨k + 1, by go_num, by omega, ⟨by omega⟩, ⟨by rw [e.out]; exact HG10.out⟩⟩
            · have t1 : ((k : Int) != (s.2.length : Int)) = true := bne_iff_ne.mpr (by omega)
              by_cases hc0 : c = 0
              · have t2 : (c != 0) = false := bne_eq_false_iff_eq.mpr hc0
                have e := Aside0.mk (HEX.out.trans (if_neg (fun h => h.2 hc0)))
                clear hc0
                go_wp2_with fail
                go_roundg (M.length - (k + 1))
                case measure => have := HK2.out; omega
                case rel => exact ⟨k + 1, by go_num, by omega, ⟨by omega⟩, ⟨by rw [e.out]; exact HG10.out⟩⟩
              · have t2 : (c != 0) = true := bne_iff_ne.mpr hc0
                have e := Aside0.mk (HEX.out.trans (if_pos ⟨hkt, hc0⟩))
                clear hc0
                go_wp2_with fail
                refine (gauss_both.mac w.heap.size R g d cl cd bk bc bt (some ⟨g, 0, none⟩) Ad t.1 t.2 cols wd k s.2.length c w10 HG10.out.hold HSE.out HG10.out.cb0 hbk10 hbc10 HG10.out.cbt hcb (by have := HLE.out; omega) (by have := HLE.out; omega) (by omega)).mono ?_
                rintro e w11 ⟨⟨v, rfl⟩, hq⟩
                have HG11 := Aside0.mk (HG10.out.both hg hd hq.out.1 hq.out.2)
                clear hq HG10 hbk10 hbc10 z4
                go_wp2_with fail
                go_roundg (M.length - (k + 1))
                case measure => have := HK2.out; omega
                case rel => exact ⟨k + 1, by go_num, by omega, ⟨by omega⟩, ⟨by rw [e.out]; exact HG11.out⟩⟩
          · obtain rfl : k = M.length := by omega
            have z1 := HGI.out.cbt
            have z2 := HGI.out.fbt
            go_wp2_with fail
            go_roundg (M.length - (s.2.length + 1))
            case measure => have := HK.out; omega
            case rel =>
              refine ⟨j + 1, wr.heap.size, rfl, by go_num, by omega, ⟨?_⟩, ⟨?_⟩⟩
              · rw [HHIT.out]
                simp
                omega
              · have hN := HGI.out.next (s.2.length + 1)
                rw [show ((s.2.length + 1 : Nat) : Int) = (s.2.length : Int) + 1 from by omega] at hN
                rw [HHIT.out]
                simp only [List.length_append, List.length_cons, List.length_nil, Nat.zero_add]
                rw [HST.out, HS2.out]
                exact hN
    · have HE := Aside0.mk (red_full (M := M) (D := D) (j := col) (by rw [ES.out]; omega) (cols - col))
      rw [show col + (cols - col) = cols from by omega] at HE
      go_wp2_with fail
      go_ret
      refine ⟨_, rfl, ?_⟩
      rw [HE.out, ES.out]
      exact ⟨⟨HG1.out.hold, Kd.R_mono HG1.out.piv (fun _ _ => trivial), HG1.out.chg⟩⟩

/-! ### bytes.Clone -/
theorem C_none {w : World} {n : Nat} {l : List Int} (h : Kd.C (Kd.int .u8) w none n l) : l = [] := by
  have h1 := Kd.reads_of_C (enc := Value.int .u8) (d := (0 : Int)) (h1 := fun _ => rfl) h
  rcases Nat.eq_zero_or_pos n with hn | hn
  · have := h1.1
    rw [hn] at this
    exact List.length_eq_zero_iff.1 this
  · obtain ⟨ad, ha, _⟩ := h1.2.2 hn
    cases ha
set_option maxHeartbeats 2000000 in
set_option maxRecDepth 100000 in
theorem bytes_Clone.calls (A : Option Addr) (c : Nat) (l : List Int) (w : World) (hr : Kd.C (Kd.int .u8) w A l.length l) (hc : l.length ≤ c) (hn : l.length ≤ 1000000) :
    Calls Tryd.prog 105 #[.slice A l.length c] w fun e w' => ∃ v : Value, e = .returned v ∧ Aside0 (Kd.R (Kd.int .u8) 5 w' w.heap.size (fun _ => True) v l ∧ Below w.heap.size w w') := by
  have hq := fun (w : World) (a : Option Addr) (n c n' c' : Nat) => Lib.run_eql_slice_nil (P := Tryd.prog) w 22 5 a n c n' c' Tryd.underlying22
  cases A with
  | none =>
    obtain rfl := C_none hr
    clear hr
    go_enter Tryd.func105, Tryd.ntmps105
    go_wp2
    go_ret
    exact ⟨_, rfl, ⟨Kd.R_nil _ _ _ _ _, Below.refl _ _⟩⟩
  | some ad =>
    have HR := Aside0.mk hr
    clear hr
    go_enter Tryd.func105, Tryd.ntmps105
    go_wp2_with (first | ((with_reducible refine gate_dst (N := 5) rfl ?_); refine Kd.R_lit (Kd.int .u8) _ 5 ?hg (N := 5) ?hd (xs := ([] : List Int)) (inner := []) (ok := fun _ => True) (okp := fun _ => True) ?hr ?hp (fun _ hk => hk) trivial (Below.refl _ _) (Nat.le_refl _) (by simp) ?_; (case hd => rfl); (case hg => rfl); (case hr => first | (go_simp; done) | (go_simp; rfl)); (case hp => exact (Reps.none _ _)); intro v1 w1 ho1 hb1 hg_ hnew_; clear hg_ hnew_; have HO1 := Aside0.mk ho1; have HB1 := Aside0.mk hb1; clear ho1 hb1) | ((with_reducible refine gate_builtin (b := .append) (xs := #[.tmp 5, .tmp 6]) rfl ?_); at_builtin; refine Kd.R_append_rows (Kd.int .u8) (w0 := w) w.heap.size rfl (.tmp 5) (.tmp 6) 22 5 (.int .u8 0) 1 rfl Tryd.underlying22 info5 rfl (by decide) (by omega) v1 ([] : List Int) l _ _ _ (fun _ => True) (fun _ => False) rfl rfl ?aO ?aR (fun _ _ h => h) (fun _ h => h.elim) ?aF ?aB ?aS ?aL ?_; (case aR => exact Kd.C_below HR.out HB1.out); (case aB => exact HB1.out); (case aF => exact (fun _ _ => trivial)); (case aO => exact HO1.out); (case aS => exact HB1.out.size); (case aL => simp; omega); intro v2 w2 ho hb hg hat; rw [List.nil_append] at ho; have HO := Aside0.mk ho; have HB := Aside0.mk hb; clear ho hb hg hat))
    go_ret
    exact ⟨_, rfl, ⟨HO.out, HB.out⟩⟩

/-! ### of -/
/-- Slices as values: where, how long, how much room. -/
def SlK : Kd (Option Addr × Nat × Nat) := Kd.scalar (fun p => Value.slice p.1 p.2.1 p.2.2) (fun _ => rfl)
theorem sl_info : (Tryd.prog.info? 22).map (fun i => (i.zero, i.size, i.bytes)) = some (some (.slice none 0 0), 1, 24) := by kernel_rfl
/-- A row of slices of one's own, each a row of bytes. -/
theorem lst_of_R {w : World} {base : Nat} {ok : Nat → Prop} {A : Option Addr} {n c : Nat} {ps : List (Option Addr × Nat × Nat)} {M : List (List Int)} (h : SlK.R 22 w base ok (.slice A n c) ps) (hl : M.length = ps.length) (g0 : Nat)
    (hr : ∀ i, i < M.length → RowV w (Value.slice (ps.getD i (none, 0, 0)).1 (ps.getD i (none, 0, 0)).2.1 (ps.getD i (none, 0, 0)).2.2) (M.getD i [])) : ∃ g, (0 < M.length → A = some ⟨g, 0, none⟩ ∧ base ≤ g ∧ ok g) ∧ (M.length = 0 → g = g0) ∧ Lst w g M ∧ n = M.length := by
  obtain ⟨hn, hc, hC⟩ := Kd.R_reads' h
  rcases Nat.eq_zero_or_pos M.length with h0 | h0
  · exact ⟨g0, fun e => by omega, fun _ => rfl, ⟨fun e => by omega, fun i hi => by omega, fun i hi => by omega⟩, by omega⟩
  · obtain ⟨inner, ho⟩ := Kd.R_own h
    have hbd := h.1
    rcases ho.2 with ⟨h', hx⟩ | ⟨g', cap', cur, h', hg1, hh, hcur⟩
    · injection h' with _ h2 _
      omega
    · injection h' with h1 h2 h3
      subst h1
      have h1 := Kd.reads_of_C (enc := fun p : Option Addr × Nat × Nat => Value.slice p.1 p.2.1 p.2.2) (d := (none, 0, 0)) (h1 := fun _ => rfl) hC
      refine ⟨g', fun _ => ⟨rfl, hg1, hbd g' (by simp [Value.ownBlock])⟩, fun e => by omega, ⟨fun _ => ⟨_, hh⟩, fun i hi => ⟨_, ?_, hr i hi⟩, fun i hi => ?_⟩, by omega⟩
      · obtain ⟨ad, ha, hcell⟩ := h1.2.2 (by omega)
        cases ha
        have := hcell i (by omega)
        rw [← this]
        unfold Addr.add
        by_cases e : i = 0
        · subst e; rfl
        · simp [e]
      · simp [World.frozen?, hh]
/-- A piece of a row. -/
theorem RowV.piece {w : World} {A : Option Addr} {n c : Nat} {l : List Int} (h : RowV w (.slice A n c) l) (lo len : Nat) (hle : lo + len ≤ l.length) : RowV w (.slice (if len = 0 then A else A.map (·.add lo)) len len) ((l.drop lo).take len) := by
  obtain ⟨A', c', e, h2, h3, h4⟩ := h.out
  injection e with e1 e2 e3
  subst e1 e2 e3
  have hlen : ((l.drop lo).take len).length = len := by simp; omega
  have h1 := Kd.reads_of_C (enc := Value.int .u8) (d := (0 : Int)) (h1 := fun _ => rfl) h3
  refine ⟨_, len, by rw [hlen], by omega, Kd.C_of_reads (d := (0 : Int)) ⟨rfl, by rw [hlen]; have := h1.2.1; omega, fun hn => ?_⟩, fun ad ha => ?_⟩
  · rw [hlen] at hn
    obtain ⟨ad, ha, hcell⟩ := h1.2.2 (by omega)
    refine ⟨ad.add lo, by rw [if_neg (by omega), ha]; rfl, fun j hj => ?_⟩
    rw [hlen] at hj
    have := hcell (lo + j) (by omega)
    rw [show (ad.add lo).add j = ad.add (lo + j) from by unfold Addr.add; by_cases a : lo = 0 <;> by_cases b : j = 0 <;> simp [a, b]; all_goals omega]
    rw [this]
    congr 2
    rw [List.getD_eq_getElem?_getD, List.getD_eq_getElem?_getD, List.getElem?_take_of_lt (by omega), List.getElem?_drop]
  · by_cases e : len = 0
    · rw [if_pos e] at ha
      exact h4 ad ha
    · rw [if_neg e] at ha
      obtain ⟨ad0, ha0, rfl⟩ := Option.map_eq_some_iff.1 ha
      have hb : (ad0.add lo).block = ad0.block := by unfold Addr.add; split <;> rfl
      rw [hb]
      exact h4 ad0 ha0
def rowsOf (cols rows : Nat) (l : List Int) : List (List Int) := (List.range rows).map fun i => (l.drop (i * cols)).take cols
/-- The first so many pieces. -/
def pieces (A : Option Addr) (cols k : Nat) : List (Option Addr × Nat × Nat) := (List.range k).map fun i => (if cols = 0 then A else A.map (·.add (i * cols)), cols, cols)
theorem pieces_succ (A : Option Addr) (cols k : Nat) : pieces A cols (k + 1) = pieces A cols k ++ [(if cols = 0 then A else A.map (·.add (k * cols)), cols, cols)] := by simp [pieces, List.range_succ]
theorem own_addr {α : Type} {D : Kd α} {e : Nat} {w : World} {base : Nat} {ok : Nat → Prop} {A : Option Addr} {n c b : Nat} {xs : List α} (h : D.R e w base ok (.slice A n c) xs) (hb : (Value.slice A n c).ownBlock = some b) : A = some ⟨b, 0, none⟩ ∧ ∃ cells : Array Value, w.heap[b]? = some (.cells cells e (0, 0)) := by
  obtain ⟨inner, ho⟩ := Kd.R_own h
  rcases ho.2 with ⟨h', hx⟩ | ⟨g', cap', cur, h', hg1, hh, hcur⟩
  · injection h' with h1 _ _
    subst h1
    cases hb
  · injection h' with h1 h2 h3
    subst h1
    simp [Value.ownBlock] at hb
    subst hb
    exact ⟨rfl, _, hh⟩
theorem wrap_small {n : Int} (h0 : 0 ≤ n) (h1 : n ≤ 1000000000) : wrap64 n = n := by unfold wrap64; omega
theorem iwrap_small {n : Int} (h0 : 0 ≤ n) (h1 : n ≤ 1000000000) : IntKind.i64.wrap n = n := by rw [i64_w, wrap_small h0 h1]

structure OfS (w : World) (bm R d rows cols cd c i : Nat) (A Ad : Option Addr) (vl : Value) (l : List Int) (cdd : Nat) (wr : World) : Prop where
  hm : wr.heap[bm]? = some (.cells #[.int .i64 rows, .int .i64 cols, .slice A l.length c] 24 (0, 0))
  hR : wr.heap[R]? = some (.cells #[vl, .slice (some ⟨d, 0, none⟩) rows cd, .int .i64 cols] 126 (0, 0))
  hl : SlK.R 22 wr w.heap.size (fun k => k ≠ R ∧ k ≠ bm ∧ k ≠ d) vl (pieces Ad cols i)
  hd : SlK.R 22 wr w.heap.size (fun k => k = d) (.slice (some ⟨d, 0, none⟩) rows cd) (List.replicate rows (none, 0, 0))
  data : RowV wr (.slice Ad l.length cdd) l
  below : Below w.heap.size w wr
  n1 : w.heap.size ≤ R
  n2 : w.heap.size ≤ bm
  n3 : w.heap.size ≤ d
theorem OfS.next {w : World} {bm R d rows cols cd c i : Nat} {A Ad : Option Addr} {vl : Value} {l : List Int} {cdd : Nat} {wr w1 : World} (h : OfS w bm R d rows cols cd c i A Ad vl l cdd wr) (hb : Below wr.heap.size wr w1) : OfS w bm R d rows cols cd c i A Ad vl l cdd w1 :=
  ⟨(hb.block bm (lt_of_get h.hm)).trans h.hm, (hb.block R (lt_of_get h.hR)).trans h.hR, Kd.R_below h.hl hb, Kd.R_below h.hd hb, h.data.keep (KeepB.below hb), below_step h.below hb, h.n1, h.n2, h.n3⟩
/-- A piece put to the rows, and the slice stored. -/
theorem OfS.app {w : World} {bm R d rows cols cd c i : Nat} {A Ad : Option Addr} {vl v1 : Value} {l : List Int} {cdd : Nat} {wr w1 : World} (h : OfS w bm R d rows cols cd c i A Ad vl l cdd wr) (hg : wr.grownBy w1 vl.ownBlock) (hb : Below w.heap.size wr w1) (ho : SlK.R 22 w1 w.heap.size (fun k => k ≠ R ∧ k ≠ bm ∧ k ≠ d) v1 (pieces Ad cols (i + 1))) :
    OfS w bm R d rows cols cd c (i + 1) A Ad v1 l cdd (w1.setCell ⟨R, 0, none⟩ v1) := by
  have hv : ∀ k, vl.ownBlock = some k → k ≠ R ∧ k ≠ bm ∧ k ≠ d := fun k hk => h.hl.1 k hk
  have hty : ∀ k, vl.ownBlock = some k → ∃ cells : Array Value, wr.heap[k]? = some (.cells cells 22 (0, 0)) := fun k hk => by
    obtain ⟨h1, h2, _, q, hq, c, hc⟩ := (Kd.R_bound h.hl).1 k hk
    have : q = 22 := (List.mem_cons.1 hq).elim id (fun hx => by cases hx)
    rw [← this]
    exact ⟨c, hc⟩
  have blk : ∀ b, b < wr.heap.size → (∀ k, vl.ownBlock = some k → b ≠ k) → w1.heap[b]? = wr.heap[b]? := fun b hb hne => hg.block b hb (by
    cases hv3 : vl.ownBlock with
    | none => simp
    | some k => simpa using hne k hv3)
  have e1 := (blk bm (lt_of_get h.hm) (fun k hk e => (hv k hk).2.1 e.symm)).trans h.hm
  have e2 := (blk R (lt_of_get h.hR) (fun k hk e => (hv k hk).1 e.symm)).trans h.hR
  have kb : KeepB wr w1 := fun b cells hbb => blk b (lt_of_get hbb) (fun k hk e => by
    obtain ⟨c, hc⟩ := hty k hk
    subst e
    rw [hbb] at hc
    injection hc with hc
    injection hc with _ hc
    exact absurd hc (by decide))
  have kb2 : KeepB w1 (w1.setCell ⟨R, 0, none⟩ v1) := KeepB.grown (grown_set w1 R 0 v1) e2 (by decide)
  have n1 := h.n1
  refine ⟨?_, ?_, Kd.R_far ho (fun k hk => hk.1) v1, ?_, (h.data.keep kb).keep kb2, (Below.trans h.below (hb)).setCell n1 _, h.n1, h.n2, h.n3⟩
  · rw [Below.heap_setCell _ _ _ bm (by rintro rfl; rw [e1] at e2; injection e2 with e2; injection e2 with _ e2; exact absurd e2 (by decide))]
    exact e1
  · exact blk_put e2 0 v1 rfl
  · have hdR : d ≠ R := by
      rintro rfl
      obtain ⟨q, hq, cc, hcc⟩ := ((Kd.R_bound h.hd).1 d (by simp [Value.ownBlock])).2.2.2
      have : q = 22 := (List.mem_cons.1 hq).elim id (fun hx => by cases hx)
      subst this
      rw [h.hR] at hcc
      injection hcc with hcc
      injection hcc with _ hcc
      exact absurd hcc (by decide)
    refine Kd.R_far (Kd.R_step h.hd (fun k hk hlt => blk k hlt (fun k' hk' e => ?_))) (fun k hk => by rw [hk]; exact hdR) v1
    subst e
    exact (hv k hk').2.2 hk
theorem rowsOf_length (cols rows : Nat) (l : List Int) : (rowsOf cols rows l).length = rows := by simp [rowsOf]
theorem rowsOf_get {cols rows : Nat} {l : List Int} {i : Nat} (hi : i < rows) : (rowsOf cols rows l).getD i [] = (l.drop (i * cols)).take cols := by
  unfold rowsOf
  rw [List.getD_eq_getElem?_getD, List.getElem?_map, List.getElem?_range hi]
  rfl
theorem OfS.hold {w : World} {bm R d rows cols cd c : Nat} {A Ad : Option Addr} {vl : Value} {l : List Int} {cdd : Nat} {wr : World} (h : OfS w bm R d rows cols cd c rows A Ad vl l cdd wr) (hl : l.length = rows * cols) :
    ∃ g cl Al, Hold wr R g d cl cd Al (some ⟨d, 0, none⟩) (rowsOf cols rows l) (List.replicate rows []) cols ∧ w.heap.size ≤ g ∧ g < wr.heap.size ∧ d < wr.heap.size ∧ rows ≤ cl ∧ rows ≤ cd := by
  obtain ⟨Al, cl, ev⟩ := Kd.R_slice h.hl
  subst ev
  have hpl : (pieces Ad cols rows).length = rows := by simp [pieces]
  obtain ⟨g, g1, g2, g3, g4⟩ := lst_of_R (M := rowsOf cols rows l) h.hl (by rw [hpl, rowsOf_length]) bm (fun i hi => by
    rw [rowsOf_length] at hi
    rw [rowsOf_get hi]
    have hle : i * cols + cols ≤ l.length := by rw [hl, ← Nat.succ_mul]; exact Nat.mul_le_mul_right _ hi
    have := h.data.piece (i * cols) cols hle
    have e : (pieces Ad cols rows).getD i (none, 0, 0) = (if cols = 0 then Ad else Ad.map (·.add (i * cols)), cols, cols) := by
      unfold pieces
      rw [List.getD_eq_getElem?_getD, List.getElem?_map, List.getElem?_range hi]
      rfl
    rw [e]
    exact this)
  obtain ⟨q, q1, q2, q3, q4⟩ := lst_of_R (M := List.replicate rows []) h.hd (by simp) d (fun i hi => by
    rw [List.length_replicate] at hi
    have e : (List.replicate rows ((none : Option Addr), 0, 0)).getD i (none, 0, 0) = (none, 0, 0) := by
      rw [List.getD_eq_getElem?_getD, List.getElem?_replicate_of_lt hi]
      rfl
    have e2 : (List.replicate rows ([] : List Int)).getD i [] = [] := by
      rw [List.getD_eq_getElem?_getD, List.getElem?_replicate_of_lt hi]
      rfl
    rw [e, e2]
    exact RowV.nil _)
  obtain ⟨d1, d2, d3, qq, dq, dc, dcc⟩ := (Kd.R_bound h.hd).1 d (by simp [Value.ownBlock])
  obtain rfl : qq = 22 := (List.mem_cons.1 dq).elim id (fun hx => by cases hx)
  have hqd : q = d := by
    rcases Nat.eq_zero_or_pos rows with h0 | h0
    · exact q2 (by simp [h0])
    · have := (q1 (by simpa using h0)).1
      injection this with this
      injection this with this
      exact this.symm
  subst hqd
  have hne : ∀ (a b ta tb : Nat) (ca cb : Array Value), wr.heap[a]? = some (.cells ca ta (0, 0)) → wr.heap[b]? = some (.cells cb tb (0, 0)) → ta ≠ tb → a ≠ b := fun a b ta tb ca cb h1 h2 hn e => by
    subst e
    rw [h1] at h2
    injection h2 with h2
    injection h2 with _ h2
    exact hn h2
  have hg : g ≠ q ∧ R ≠ g ∧ w.heap.size ≤ g ∧ g < wr.heap.size := by
    rcases Nat.eq_zero_or_pos rows with h0 | h0
    · rw [g2 (by rw [rowsOf_length]; exact h0)]
      exact ⟨hne _ _ _ _ _ _ h.hm dcc (by decide), hne _ _ _ _ _ _ h.hR h.hm (by decide), h.n2, lt_of_get h.hm⟩
    · obtain ⟨_, k2, k3⟩ := g1 (by rw [rowsOf_length]; exact h0)
      exact ⟨k3.2.2, fun e => k3.1 e.symm, k2, g3.lt (by rw [rowsOf_length]; exact h0)⟩
  refine ⟨g, cl, Al, ⟨?_, ?_, (blk_cell h.hR 2).trans rfl, fun h0 => (g1 h0).1, fun _ => rfl, g3, q3, hg.1, hg.2.1, hne _ _ _ _ _ _ h.hR dcc (by decide)⟩, hg.2.2.1, hg.2.2.2, d3, by have := (Kd.R_reads' h.hl).2.1; omega, (Kd.R_reads' h.hd).2.1⟩
  · rw [rowsOf_length]
    have := (blk_cell h.hR 0).trans rfl
    rw [hpl] at this
    exact this
  · rw [List.length_replicate]
    exact (blk_cell h.hR 1).trans rfl

set_option maxHeartbeats 4000000 in
set_option maxRecDepth 100000 in
theorem gauss_of.calls (rows cols : Nat) (A : Option Addr) (c : Nat) (l : List Int) (w : World) (hr : Kd.C (Kd.int .u8) w A l.length l) (hc : l.length ≤ c) (hl : l.length = rows * cols) (h64 : rows ≤ 64 ∧ cols ≤ 64) :
    Calls Tryd.prog 92 #[.agg #[.int .i64 rows, .int .i64 cols, .slice A l.length c]] w fun e w' => ∃ R, e = .returned (.pointer (some ⟨R, 0, none⟩)) ∧
      Aside0 (∃ g d cl cd Al Ad, Hold w' R g d cl cd Al Ad (rowsOf cols rows l) (List.replicate rows []) cols ∧ Below w.heap.size w w' ∧ w.heap.size ≤ g ∧ w.heap.size ≤ d ∧ w.heap.size ≤ R ∧ g < w'.heap.size ∧ d < w'.heap.size ∧ rows ≤ cl ∧ rows ≤ cd ∧ ∃ cells : Array Value, w'.heap[R]? = some (.cells cells 126 (0, 0))) := by
  have hll : l.length ≤ 4096 := by rw [hl]; exact Nat.mul_le_mul h64.1 h64.2
  have HR := Aside0.mk hr
  have HL := Aside0.mk hl
  obtain ⟨h64a, h64b⟩ := h64
  clear hr hl
  go_enter Tryd.func92, Tryd.ntmps92
  go_wp2_with fail
  refine start_ (n := 8) (S := fun w' => w'.cell? ⟨w.heap.size, 0, none⟩ = some (.int .i64 rows) ∧ w'.cell? ⟨w.heap.size, 1, none⟩ = some (.int .i64 cols)) (ds := []) #[false, false, false, false, false, false, false, false] (by kernel_rfl) rfl rfl ⟨(blk_cell (blk_new w (.cells #[.int .i64 rows, .int .i64 cols, .slice A l.length c] 24)) 0).trans rfl, (blk_cell (blk_new w (.cells #[.int .i64 rows, .int .i64 cols, .slice A l.length c] 24)) 1).trans rfl⟩ (fun hHeld => ?_)
  have hm := blk_new w (.cells #[.int .i64 rows, .int .i64 cols, .slice A l.length c] 24)
  have hb0 := below_drew (below_alloc (Below.refl w.heap.size w) (.cells #[.int .i64 rows, .int .i64 cols, .slice A l.length c] 24))
  have hm1 : (w.alloc (.cells #[.int .i64 rows, .int .i64 cols, .slice A l.length c] 24)).drew.heap[w.heap.size]? = some (.cells #[.int .i64 rows, .int .i64 cols, .slice A l.length c] 24) := hm
  have hs1 : (w.alloc (.cells #[.int .i64 rows, .int .i64 cols, .slice A l.length c] 24)).drew.heap.size = w.heap.size + 1 := by simp
  clear hm
  generalize (w.alloc (.cells #[.int .i64 rows, .int .i64 cols, .slice A l.length c] 24)).drew = w1 at *
  have HS1 := Aside0.mk hs1
  clear hs1
  refine pure_ (i := 0) (N := some 8) (v := ?_) (a' := ?_) #[true, false, false, false, false, false, false, false] rfl rfl (by kernel_rfl) (fun _ _ _ h => h) (Or.inl ⟨by rfl, ?_⟩) ?_ ?_
  rotate_left
  · intro w'
    go_simp
    with_reducible rfl
  rotate_left
  · simp only [Act.put, List.setIfInBounds_toArray, List.set_cons_zero, List.set_cons_succ, i64_w, i32_w]
    rfl
  refine pure_ (i := 2) (N := some 10) (v := ?_) (a' := ?_) #[true, false, true, false, false, false, false, false] rfl rfl (by kernel_rfl) (fun _ _ _ h => h) (Or.inl ⟨by rfl, ?_⟩) ?_ ?_
  rotate_left
  · intro w'
    go_simp
    with_reducible rfl
  rotate_left
  · simp only [Act.put, List.setIfInBounds_toArray, List.set_cons_zero, List.set_cons_succ, i64_w, i32_w]
    rfl
  refine take_ (i := 1) (N := some 9) (v := ?_) (a' := ?_) #[true, true, true, false, false, false, false, false] rfl rfl (by kernel_rfl) (fun _ _ _ h => h) (Or.inl ⟨by rfl, ?_⟩) hHeld ?_ ?_
  rotate_left
  · rintro w' ⟨s0, s1⟩
    go_simp
    with_reducible rfl
  rotate_left
  · simp only [Act.put, List.setIfInBounds_toArray, List.set_cons_zero, List.set_cons_succ, i64_w, i32_w]
    rfl
  refine take_ (i := 3) (N := some 11) (v := ?_) (a' := ?_) #[true, true, true, true, false, false, false, false] rfl rfl (by kernel_rfl) (fun _ _ _ h => h) (Or.inl ⟨by rfl, ?_⟩) hHeld ?_ ?_
  rotate_left
  · rintro w' ⟨s0, s1⟩
    go_simp
    with_reducible rfl
  rotate_left
  · simp only [Act.put, List.setIfInBounds_toArray, List.set_cons_zero, List.set_cons_succ, i64_w, i32_w]
    rfl
  refine one_ (i := 4) (N := some 12) #[true, true, true, true, true, false, false, false] rfl rfl (by kernel_rfl) (by decide) (fun K hK => ?_)
  refine Kd.R_make_step SlK w1.heap.size 22 (by rfl) (N := 12) rfl 114 _ _ rfl (rows : Int) rfl rfl Tryd.underlying114 (.slice none 0 0) 24 sl_info rfl (by decide) (by omega) (none, 0, 0) (ok := fun k => w1.heap.size ≤ k) (okp := fun _ => False) rfl (fun _ h => h.elim) (Nat.le_refl _) (by omega) (by omega) (Below.refl _ _) (Nat.le_refl _) ?_
  intro va w2 ho hb2 hg2 hnew
  rw [Int.toNat_natCast] at ho
  obtain ⟨Av, cd, ev⟩ := Kd.R_slice ho
  rw [List.length_replicate] at ev
  subst ev
  obtain ⟨d, hd1, hd2⟩ := hnew
  obtain ⟨hAv, hdc⟩ := own_addr ho hd1
  subst hAv
  have HO := Aside0.mk (⟨fun k hk => by simpa [Value.ownBlock] using hk.symm, ho.2⟩ : SlK.R 22 w2 w1.heap.size (fun k => k = d) (.slice (some ⟨d, 0, none⟩) rows cd) (List.replicate rows (none, 0, 0)))
  have HB2 := Aside0.mk hb2
  clear ho hg2 hd1 hdc
  refine hK.out _ _ ⟨pw_cell_below hb2 hHeld.1, pw_cell_below hb2 hHeld.2⟩ (fun hHeld => ?_)
  clear hK K
  refine norm_ (a' := ?_) ?_ ?_
  rotate_left
  · show Act.put _ (some 12) _ = _
    simp only [Act.put, List.setIfInBounds_toArray, List.set_cons_zero, List.set_cons_succ, i64_w, i32_w]
    rfl
  refine pure_ (i := 5) (N := some 13) (v := ?_) (a' := ?_) #[true, true, true, true, true, true, false, false] rfl rfl (by kernel_rfl) (fun _ _ _ h => h) (Or.inl ⟨by rfl, ?_⟩) ?_ ?_
  rotate_left
  · intro w'
    go_simp
    with_reducible rfl
  rotate_left
  · simp only [Act.put, List.setIfInBounds_toArray, List.set_cons_zero, List.set_cons_succ, i64_w, i32_w]
    rfl
  refine one_ (i := 6) (N := some 14) #[true, true, true, true, true, true, true, false] rfl rfl (by kernel_rfl) (by decide) (fun K hK => ?_)
  refine value_ (w1 := ?_) (v := ?_) (by rfl) rfl ?_ ?_
  rotate_left 2
  · go_simp
    constructor
    · rfl
    · rfl
  refine hK.out _ _ ⟨pw_cell_below (below_alloc (Below.refl _ _) _) hHeld.1, pw_cell_below (below_alloc (Below.refl _ _) _) hHeld.2⟩ (fun hHeld => ?_)
  clear hK K
  refine norm_ (a' := ?_) ?_ ?_
  rotate_left
  · show Act.put _ (some 14) _ = _
    simp only [Act.put, List.setIfInBounds_toArray, List.set_cons_zero, List.set_cons_succ, i64_w, i32_w]
    rfl
  refine pure_ (i := 7) (N := some 3) (v := ?_) (a' := ?_) #[true, true, true, true, true, true, true, true] rfl rfl (by kernel_rfl) (fun _ _ _ h => h) (Or.inl ⟨by rfl, ?_⟩) ?_ ?_
  rotate_left
  · intro w'
    go_simp
    with_reducible rfl
  rotate_left
  · simp only [Act.put, List.setIfInBounds_toArray, List.set_cons_zero, List.set_cons_succ, i64_w, i32_w]
    rfl
  refine done_ (by kernel_rfl) ?_
  clear hHeld
  have hw2 := HB2.out.size
  have hs1 := HS1.out
  have hsz1 : w.heap.size ≤ w1.heap.size := by omega
  have hb3 : Below w1.heap.size w1 (w2.alloc (.cells #[.slice none 0 0, .slice (some ⟨d, 0, none⟩) rows cd, .int .i64 cols] 126)) := below_alloc HB2.out _
  have hR3 := blk_new w2 (.cells #[.slice none 0 0, .slice (some ⟨d, 0, none⟩) rows cd, .int .i64 cols] 126)
  have HD3 := Aside0.mk (Kd.R_lower (Kd.R_alloc HO.out (.cells #[.slice none 0 0, .slice (some ⟨d, 0, none⟩) rows cd, .int .i64 cols] 126)) (by omega : w.heap.size ≤ w1.heap.size))
  have hm3 := (hb3.block _ (lt_of_get hm1)).trans hm1
  have HB3 := Aside0.mk (below_step hb0 hb3)
  clear HO HB2 hb3 hb0 hm1 hs1
  generalize w2.alloc (.cells #[.slice none 0 0, .slice (some ⟨d, 0, none⟩) rows cd, .int .i64 cols] 126) = w3 at *
  generalize w2.heap.size = R at *
  have z1 : w3.cell? ⟨w.heap.size, 2, none⟩ = some (.slice A l.length c) := (blk_cell hm3 2).trans rfl
  go_wp2_with fail
  refine (bytes_Clone.calls A c l _ (Kd.C_below HR.out HB3.out) hc (by omega)).mono ?_
  rintro e w4 ⟨v, rfl, hq⟩
  obtain ⟨Ad, cdd, ev⟩ := Kd.R_slice hq.out.1
  subst ev
  have hb4 := hq.out.2
  have HOF : Aside0 (OfS w w.heap.size R d rows cols cd c 0 A Ad (.slice none 0 0) l cdd w4) := ⟨(hb4.block _ (lt_of_get hm3)).trans hm3, (hb4.block _ (lt_of_get hR3)).trans hR3, Kd.R_nil _ _ _ _ _, Kd.R_below HD3.out hb4, RowV.of_R hq.out.1, below_step HB3.out hb4, by omega, Nat.le_refl _, by omega⟩
  clear hq hb4 z1 hm3 hR3 HD3 HB3
  have z1 : w4.cell? ⟨w.heap.size, 0, none⟩ = some (.int .i64 rows) := (blk_cell HOF.out.hm 0).trans rfl
  go_wp2_with fail
  clear z1
  go_loopg [20] rows (fun kq v20 wr => ∃ (i : Nat) (vl : Value), v20 = .int .i64 i ∧ i ≤ rows ∧ Aside0 (kq + i = rows) ∧ Aside0 (OfS w w.heap.size R d rows cols cd c i A Ad vl l cdd wr))
  case atStart => exact ⟨0, _, rfl, Nat.zero_le _, ⟨rfl⟩, HOF⟩
  case round =>
    obtain ⟨i, vl, rfl, hi, HK, HO⟩ := hrel
    clear HOF
    by_cases hlt : i < rows
    · have tst : decide ((i : Int) < (rows : Int)) = true := by simpa using hlt
      go_wp2_with fail
      obtain ⟨f, hf⟩ : ∃ f : Nat, f = i * cols := ⟨_, rfl⟩
      obtain ⟨f2, hf2⟩ : ∃ f2 : Nat, f2 = (i + 1) * cols := ⟨_, rfl⟩
      have hfl : f2 ≤ l.length := by rw [HL.out, hf2]; exact Nat.mul_le_mul_right _ hlt
      have hff : f2 = f + cols := by rw [hf2, hf, Nat.add_mul, Nat.one_mul]
      have e1 : ((i : Int) * (cols : Int)) = (f : Int) := by rw [hf]; simp
      have e2 : (((i : Int) + 1) * (cols : Int)) = (f2 : Int) := by rw [hf2]; simp
      have w1a : IntKind.i64.wrap ((i : Int) * (cols : Int)) = (f : Int) := by rw [e1]; exact iwrap_small (by omega) (by omega)
      have w2a : IntKind.i64.wrap (((i : Int) + 1) * (cols : Int)) = (f2 : Int) := by rw [e2]; exact iwrap_small (by omega) (by omega)
      have w1b : wrap64 ((i : Int) * (cols : Int)) = (f : Int) := by rw [e1]; exact wrap_small (by omega) (by omega)
      have w2b : wrap64 (((i : Int) + 1) * (cols : Int)) = (f2 : Int) := by rw [e2]; exact wrap_small (by omega) (by omega)
      have w3a : IntKind.i64.wrap ((i : Int) + 1) = (i : Int) + 1 := iwrap_small (by omega) (by omega)
      have HF := Aside0.mk hf
      have HFF := Aside0.mk hff
      clear hf hf2 hff e1 e2
      refine start_ (n := 11) (S := fun w' => w'.cell? ⟨w.heap.size, 1, none⟩ = some (.int .i64 cols)) (ds := []) #[false, false, false, false, false, false, false, false, false, false, false] (by kernel_rfl) rfl rfl ((blk_cell HO.out.hm 1).trans rfl) (fun hHeld => ?_)
      have HO1 := Aside0.mk (HO.out.next (below_drew (Below.refl _ _)))
      clear HO
      generalize wr.drew = w5 at *
      refine pure_ (i := 0) (N := some 23) (v := ?_) (a' := ?_) #[true, false, false, false, false, false, false, false, false, false, false] rfl rfl (by kernel_rfl) (fun _ _ _ h => h) (Or.inl ⟨by rfl, ?_⟩) ?_ ?_
      rotate_left
      · intro w'
        go_simp
        with_reducible rfl
      rotate_left
      · simp only [Act.put, List.setIfInBounds_toArray, List.set_cons_zero, List.set_cons_succ, i64_w, i32_w]
        rfl
      refine pure_ (i := 1) (N := some 24) (v := ?_) (a' := ?_) #[true, true, false, false, false, false, false, false, false, false, false] rfl rfl (by kernel_rfl) (fun _ _ _ h => h) (Or.inl ⟨by rfl, ?_⟩) ?_ ?_
      rotate_left
      · intro w'
        go_simp
        with_reducible rfl
      rotate_left
      · simp only [Act.put, List.setIfInBounds_toArray, List.set_cons_zero, List.set_cons_succ, i64_w, i32_w]
        rfl
      refine pure_ (i := 4) (N := some 27) (v := ?_) (a' := ?_) #[true, true, false, false, true, false, false, false, false, false, false] rfl rfl (by kernel_rfl) (fun _ _ _ h => h) (Or.inl ⟨by rfl, ?_⟩) ?_ ?_
      rotate_left
      · intro w'
        go_simp
        with_reducible rfl
      rotate_left
      · simp only [Act.put, List.setIfInBounds_toArray, List.set_cons_zero, List.set_cons_succ, i64_w, i32_w]
        rfl
      refine pure_ (i := 5) (N := some 28) (v := ?_) (a' := ?_) #[true, true, false, false, true, true, false, false, false, false, false] rfl rfl (by kernel_rfl) (fun _ _ _ h => h) (Or.inl ⟨by rfl, ?_⟩) ?_ ?_
      rotate_left
      · intro w'
        go_simp
        with_reducible rfl
      rotate_left
      · simp only [Act.put, List.setIfInBounds_toArray, List.set_cons_zero, List.set_cons_succ, i64_w, i32_w]
        rfl
      refine pure_ (i := 6) (N := some 29) (v := ?_) (a' := ?_) #[true, true, false, false, true, true, true, false, false, false, false] rfl rfl (by kernel_rfl) (fun _ _ _ h => h) (Or.inl ⟨by rfl, ?_⟩) ?_ ?_
      rotate_left
      · intro w'
        go_simp
        with_reducible rfl
      rotate_left
      · simp only [Act.put, List.setIfInBounds_toArray, List.set_cons_zero, List.set_cons_succ, i64_w, i32_w]
        rfl
      refine take_ (i := 2) (N := some 25) (v := ?_) (a' := ?_) #[true, true, true, false, true, true, true, false, false, false, false] rfl rfl (by kernel_rfl) (fun _ _ _ h => h) (Or.inl ⟨by rfl, ?_⟩) hHeld ?_ ?_
      rotate_left
      · intro w' s0
        go_simp
        with_reducible rfl
      rotate_left
      · simp only [Act.put, List.setIfInBounds_toArray, List.set_cons_zero, List.set_cons_succ, i64_w, i32_w]
        rfl
      refine pure_ (i := 3) (N := some 26) (v := ?_) (a' := ?_) #[true, true, true, true, true, true, true, false, false, false, false] rfl rfl (by kernel_rfl) (fun _ _ _ h => h) (Or.inl ⟨by rfl, ?_⟩) ?_ ?_
      rotate_left
      · intro w'
        go_simp
        with_reducible rfl
      rotate_left
      · simp only [Act.put, List.setIfInBounds_toArray, List.set_cons_zero, List.set_cons_succ, i64_w, i32_w]
        rfl
      refine pure_ (i := 9) (N := some 6) (v := ?_) (a' := ?_) #[true, true, true, true, true, true, true, false, false, true, false] rfl rfl (by kernel_rfl) (fun _ _ _ h => h) (Or.inl ⟨by rfl, ?_⟩) ?_ ?_
      rotate_left
      · intro w'
        go_simp
        with_reducible rfl
      rotate_left
      · simp only [Act.put, List.setIfInBounds_toArray, List.set_cons_zero, List.set_cons_succ, i64_w, i32_w]
        rfl
      refine take_ (i := 7) (N := some 30) (v := ?_) (a' := ?_) #[true, true, true, true, true, true, true, true, false, true, false] rfl rfl (by kernel_rfl) (fun _ _ _ h => h) (Or.inl ⟨by rfl, ?_⟩) hHeld ?_ ?_
      rotate_left
      · intro w' s0
        go_simp
        with_reducible rfl
      rotate_left
      · simp only [Act.put, List.setIfInBounds_toArray, List.set_cons_zero, List.set_cons_succ, i64_w, i32_w]
        rfl
      refine pure_ (i := 8) (N := some 31) (v := ?_) (a' := ?_) #[true, true, true, true, true, true, true, true, true, true, false] rfl rfl (by kernel_rfl) (fun _ _ _ h => h) (Or.inl ⟨by rfl, ?_⟩) ?_ ?_
      rotate_left
      · intro w'
        go_simp
        with_reducible rfl
      rotate_left
      · simp only [Act.put, List.setIfInBounds_toArray, List.set_cons_zero, List.set_cons_succ, i64_w, i32_w]
        rfl
      refine pure_ (i := 10) (N := some 7) (v := ?_) (a' := ?_) #[true, true, true, true, true, true, true, true, true, true, true] rfl rfl (by kernel_rfl) (fun _ _ _ h => h) (Or.inl ⟨by rfl, ?_⟩) ?_ ?_
      rotate_left
      · intro w'
        go_simp
        with_reducible rfl
      rotate_left
      · simp only [Act.put, List.setIfInBounds_toArray, List.set_cons_zero, List.set_cons_succ, i64_w, i32_w]
        rfl
      refine done_ (by kernel_rfl) ?_
      clear hHeld w1a w2a w1b w2b w3a
      go_wp2_with fail
      have hcd := HO1.out.data
      obtain ⟨A', c', ea, hcc, _, _⟩ := hcd.out
      injection ea with ea1 ea2 ea3
      subst ea1 ea3
      clear ea2
      have hfi : (0 : Int) ≤ (f : Int) := by omega
      have hf12 : (f : Int) ≤ (f2 : Int) := by have := HFF.out; omega
      have hf2c : (f2 : Int) ≤ (cdd : Int) := by omega
      have hRc := (blk_cell HO1.out.hR 0).trans rfl
      have hfz : w5.frozen? ⟨R, 0, none⟩ = false := blk_frozen HO1.out.hR 0
      have hown := HO1.out.hl
      clear hcd
      refine start_ (n := 15) (S := fun w' => w'.cell? ⟨R, 0, none⟩ = some vl) (ds := [14]) #[false, false, false, false, false, false, false, false, false, false, false, false, false, false, false] (by kernel_rfl) rfl rfl (hRc) (fun hHeld => ?_)
      have HO2 := Aside0.mk (HO1.out.next (below_drew (Below.refl _ _)))
      clear HO1 hRc hfz hown
      generalize w5.drew = w6 at *
      refine pure_ (i := 0) (N := some 32) (v := ?_) (a' := ?_) #[true, false, false, false, false, false, false, false, false, false, false, false, false, false, false] rfl rfl (by kernel_rfl) (fun _ _ _ h => h) (Or.inl ⟨by rfl, ?_⟩) ?_ ?_
      rotate_left
      · intro w'
        go_simp
        with_reducible rfl
      rotate_left
      · simp only [Act.put, List.setIfInBounds_toArray, List.set_cons_zero, List.set_cons_succ, i64_w, i32_w]
        rfl
      refine pure_ (i := 1) (N := some 33) (v := ?_) (a' := ?_) #[true, true, false, false, false, false, false, false, false, false, false, false, false, false, false] rfl rfl (by kernel_rfl) (fun _ _ _ h => h) (Or.inl ⟨by rfl, ?_⟩) ?_ ?_
      rotate_left
      · intro w'
        go_simp
        with_reducible rfl
      rotate_left
      · simp only [Act.put, List.setIfInBounds_toArray, List.set_cons_zero, List.set_cons_succ, i64_w, i32_w]
        rfl
      refine pure_ (i := 2) (N := some 34) (v := ?_) (a' := ?_) #[true, true, true, false, false, false, false, false, false, false, false, false, false, false, false] rfl rfl (by kernel_rfl) (fun _ _ _ h => h) (Or.inl ⟨by rfl, ?_⟩) ?_ ?_
      rotate_left
      · intro w'
        go_simp
        with_reducible rfl
      rotate_left
      · simp only [Act.put, List.setIfInBounds_toArray, List.set_cons_zero, List.set_cons_succ, i64_w, i32_w]
        rfl
      refine pure_ (i := 3) (N := some 35) (v := ?_) (a' := ?_) #[true, true, true, true, false, false, false, false, false, false, false, false, false, false, false] rfl rfl (by kernel_rfl) (fun _ _ _ h => h) (Or.inl ⟨by rfl, ?_⟩) ?_ ?_
      rotate_left
      · intro w'
        go_simp
        with_reducible rfl
      rotate_left
      · simp only [Act.put, List.setIfInBounds_toArray, List.set_cons_zero, List.set_cons_succ, i64_w, i32_w]
        rfl
      refine pure_ (i := 5) (N := some 37) (v := ?_) (a' := ?_) #[true, true, true, true, false, true, false, false, false, false, false, false, false, false, false] rfl rfl (by kernel_rfl) (fun _ _ _ h => h) (Or.inl ⟨by rfl, ?_⟩) ?_ ?_
      rotate_left
      · intro w'
        go_simp
        with_reducible rfl
      rotate_left
      · simp only [Act.put, List.setIfInBounds_toArray, List.set_cons_zero, List.set_cons_succ, i64_w, i32_w]
        rfl
      refine pure_ (i := 6) (N := some 38) (v := ?_) (a' := ?_) #[true, true, true, true, false, true, true, false, false, false, false, false, false, false, false] rfl rfl (by kernel_rfl) (fun _ _ _ h => h) (Or.inl ⟨by rfl, ?_⟩) ?_ ?_
      rotate_left
      · intro w'
        go_simp
        with_reducible rfl
      rotate_left
      · simp only [Act.put, List.setIfInBounds_toArray, List.set_cons_zero, List.set_cons_succ, i64_w, i32_w]
        rfl
      refine pure_ (i := 7) (N := some 39) (v := ?_) (a' := ?_) #[true, true, true, true, false, true, true, true, false, false, false, false, false, false, false] rfl rfl (by kernel_rfl) (fun _ _ _ h => h) (Or.inl ⟨by rfl, ?_⟩) ?_ ?_
      rotate_left
      · intro w'
        go_simp
        with_reducible rfl
      rotate_left
      · simp only [Act.put, List.setIfInBounds_toArray, List.set_cons_zero, List.set_cons_succ, i64_w, i32_w]
        rfl
      refine pure_ (i := 8) (N := some 40) (v := ?_) (a' := ?_) #[true, true, true, true, false, true, true, true, true, false, false, false, false, false, false] rfl rfl (by kernel_rfl) (fun _ _ _ h => h) (Or.inl ⟨by rfl, ?_⟩) ?_ ?_
      rotate_left
      · intro w'
        go_simp
        with_reducible rfl
      rotate_left
      · simp only [Act.put, List.setIfInBounds_toArray, List.set_cons_zero, List.set_cons_succ, i64_w, i32_w]
        rfl
      refine pure_ (i := 9) (N := some 41) (v := ?_) (a' := ?_) #[true, true, true, true, false, true, true, true, true, true, false, false, false, false, false] rfl rfl (by kernel_rfl) (fun _ _ _ h => h) (Or.inl ⟨by rfl, ?_⟩) ?_ ?_
      rotate_left
      · intro w'
        go_simp
        with_reducible rfl
      rotate_left
      · simp only [Act.put, List.setIfInBounds_toArray, List.set_cons_zero, List.set_cons_succ, i64_w, i32_w]
        rfl
      refine take_ (i := 4) (N := some 36) (v := ?_) (a' := ?_) #[true, true, true, true, true, true, true, true, true, true, false, false, false, false, false] rfl rfl (by kernel_rfl) (fun _ _ _ h => h) (Or.inl ⟨by rfl, ?_⟩) hHeld ?_ ?_
      rotate_left
      · intro w' s0
        go_simp
        with_reducible rfl
      rotate_left
      · simp only [Act.put, List.setIfInBounds_toArray, List.set_cons_zero, List.set_cons_succ, i64_w, i32_w]
        rfl
      refine one_ (i := 10) (N := some 42) #[true, true, true, true, true, true, true, true, true, true, true, false, false, false, false] rfl rfl (by kernel_rfl) (by decide) (fun K hK => ?_)
      refine value_ (w1 := ?_) (v := ?_) (by rfl) rfl ?_ ?_
      rotate_left 2
      · go_simp
        constructor
        · rfl
        · rfl
      refine hK.out _ _ (pw_cell_below (below_alloc (Below.refl _ _) _) hHeld) (fun hHeld => ?_)
      clear hK K
      refine norm_ (a' := ?_) ?_ ?_
      rotate_left
      · show Act.put _ (some 42) _ = _
        simp only [Act.put, List.setIfInBounds_toArray, List.set_cons_zero, List.set_cons_succ, i64_w, i32_w]
        rfl
      refine one_ (i := 11) (N := some 43) #[true, true, true, true, true, true, true, true, true, true, true, true, false, false, false] rfl rfl (by kernel_rfl) (by decide) (fun K hK => ?_)
      refine Kd.R_append_step SlK (w0 := w6) w.heap.size (by rfl) (.tmp 36) (.tmp 42) 114 22 (.slice none 0 0) 24 rfl Tryd.underlying114 sl_info rfl (by decide) (by omega) vl (pieces Ad cols i) (if f2 = f then Ad else Option.map (fun x => x.add f) Ad, f2 - f, f2 - f) [.slice (if f2 = f then Ad else Option.map (fun x => x.add f) Ad) (f2 - f) (f2 - f)] (fun k => k ≠ R ∧ k ≠ w.heap.size ∧ k ≠ d) (fun _ => False) rfl rfl rfl (fun _ h => h.elim) ?aF HO2.out.hl (Below.refl _ _) HO2.out.below.size ?aL ?_
      · intro k hk
        have a1 := lt_of_get HO2.out.hR
        have a2 := lt_of_get HO2.out.hm
        have a3 := HO2.out.hd.1
        obtain ⟨_, _, a4, _⟩ := (Kd.R_bound HO2.out.hd).1 d (by simp [Value.ownBlock])
        omega
      · simp [pieces]
        omega
      intro v1 w7 ho hb7 hg7 hat7
      have hpc : (if f2 = f then Ad else Option.map (fun x => x.add f) Ad, f2 - f, f2 - f) = (if cols = 0 then Ad else Ad.map (·.add (i * cols)), cols, cols) := by
        have h1 := HFF.out
        have h2 := HF.out
        rw [show f2 - f = cols from by omega, ← h2]
        by_cases h0 : cols = 0
        · rw [if_pos h0, if_pos (by omega)]
        · rw [if_neg h0, if_neg (by omega)]
      rw [hpc, ← pieces_succ] at ho
      obtain ⟨A1, c1, ev1⟩ := Kd.R_slice ho
      subst ev1
      have HO7 := Aside0.mk ho
      have HB7 := Aside0.mk hb7
      have HG7 := Aside0.mk hg7
      have hR7 : w7.heap[R]? = some (.cells #[vl, .slice (some ⟨d, 0, none⟩) rows cd, .int .i64 cols] 126) := (hg7.block R (lt_of_get HO2.out.hR) (by
        intro e
        have := HO2.out.hl.1 R e.symm
        exact this.1 rfl)).trans HO2.out.hR
      have hfz7 := blk_frozen hR7 0
      have hc7 : w7.cell? ⟨R, 0, none⟩ = some vl := (blk_cell hR7 0).trans rfl
      clear ho hb7 hg7 hat7 hpc hR7
      refine hK.out _ _ (hc7) (fun hHeld => ?_)
      clear hK K
      refine norm_ (a' := ?_) ?_ ?_
      rotate_left
      · show Act.put _ (some 43) _ = _
        simp only [Act.put, List.setIfInBounds_toArray, List.set_cons_zero, List.set_cons_succ, i64_w, i32_w]
        rfl
      refine pure_ (i := 12) (N := some 44) (v := ?_) (a' := ?_) #[true, true, true, true, true, true, true, true, true, true, true, true, true, false, false] rfl rfl (by kernel_rfl) (fun _ _ _ h => h) (Or.inl ⟨by rfl, ?_⟩) ?_ ?_
      rotate_left
      · intro w'
        go_simp
        with_reducible rfl
      rotate_left
      · simp only [Act.put, List.setIfInBounds_toArray, List.set_cons_zero, List.set_cons_succ, i64_w, i32_w]
        rfl
      refine pure_ (i := 13) (N := some 45) (v := ?_) (a' := ?_) #[true, true, true, true, true, true, true, true, true, true, true, true, true, true, false] rfl rfl (by kernel_rfl) (fun _ _ _ h => h) (Or.inl ⟨by rfl, ?_⟩) ?_ ?_
      rotate_left
      · intro w'
        go_simp
        with_reducible rfl
      rotate_left
      · simp only [Act.put, List.setIfInBounds_toArray, List.set_cons_zero, List.set_cons_succ, i64_w, i32_w]
        rfl
      refine last_ (i := 14) (N := none) #[true, true, true, true, true, true, true, true, true, true, true, true, true, true, true] rfl rfl (by kernel_rfl) (by decide) (fun K hK => ?_)
      refine skip_ (w1 := ?_) (by rfl) rfl ?_ ?_
      rotate_left
      · go_simp
        rfl
      refine hK.out _ _ ?_
      clear hK K
      refine done_ (by kernel_rfl) ?_
      clear hHeld
      have HO8 := Aside0.mk (HO2.out.app HG7.out HB7.out HO7.out)
      clear HO2 HG7 HB7 HO7 hc7 hfz7
      go_wp2_with fail
      all_goals
        go_roundg (rows - (i + 1))
        case measure => have := HK.out; omega
        case rel => exact ⟨i + 1, _, by go_num, by omega, ⟨by omega⟩, HO8⟩
    · obtain rfl : i = rows := by omega
      go_wp2_with fail
      go_ret
      obtain ⟨g, cl, Al, h1, h2, h3, h4, h5, h6⟩ := HO.out.hold HL.out
      exact ⟨R, rfl, ⟨g, d, cl, cd, Al, _, h1, HO.out.below, h2, HO.out.n3, HO.out.n1, h3, h4, h5, h6, _, HO.out.hR⟩⟩

/-! ### bytes.Join, nothing between -/
def u8of (l : List Int) : List UInt8 := l.map fun x => UInt8.ofNat x.toNat
theorem u8of_get {l : List Int} (h : bytesB l = true) {i : Nat} {x : UInt8} (hx : (u8of l)[i]? = some x) : i < l.length ∧ ((x.toNat : Nat) : Int) = l.getD i 0 := by
  unfold u8of at hx
  rw [List.getElem?_map] at hx
  obtain ⟨y, hy, rfl⟩ := Option.map_eq_some_iff.1 hx
  have hi := (List.getElem?_eq_some_iff.1 hy).1
  have hr := bytesB_at h hi
  rw [List.getD_eq_getElem?_getD, hy] at hr ⊢
  refine ⟨hi, ?_⟩
  simp only [Option.getD_some] at hr ⊢
  rw [UInt8.toNat_ofNat']
  omega
theorem u8of_back {l : List Int} (h : bytesB l = true) : (u8of l).map (fun x => ((x.toNat : Nat) : Int)) = l := by
  apply List.ext_getElem (by simp [u8of])
  intro i h1 h2
  have hi : i < (u8of l).length := by simpa [u8of] using h2
  obtain ⟨_, e⟩ := u8of_get h (List.getElem?_eq_getElem hi)
  rw [List.getElem_map, e, List.getD_eq_getElem?_getD, List.getElem?_eq_getElem h2]
  rfl
theorem holds_of_row {w : World} {v : Value} {l : List Int} (h : RowV w v l) (hb : bytesB l = true) : Lib.HoldsBytes w v (u8of l) := by
  obtain ⟨A, c, rfl, hc, hC, _⟩ := h.out
  have h1 := Kd.reads_of_C (enc := Value.int .u8) (d := (0 : Int)) (h1 := fun _ => rfl) hC
  refine ⟨A, c, by simp [u8of], fun e => ?_, fun a ha i x hx => ?_⟩
  · subst e
    rw [C_none hC]
    rfl
  · obtain ⟨hi, e⟩ := u8of_get hb hx
    obtain ⟨ad, hA, hcell⟩ := h1.2.2 (by omega)
    rw [ha] at hA
    cases hA
    rw [hcell i hi, e]
theorem V_of_fresh {w w' : World} {v : Value} {l : List UInt8} (h : Lib.FreshBytes w.heap.size w' v l) {L : List Int} (hL : l.map (fun x => ((x.toNat : Nat) : Int)) = L) : Kd.V (Kd.int .u8) 5 w' w.heap.size (fun k_ => (w.heap.size ≤ k_)) v L := by
  obtain ⟨g, cap, zs, rfl, hg, hlc, hcm, hz, hzr, hbo, hcell, hfr⟩ := h
  have hlen : L.length = l.length := by rw [← hL]; simp
  rw [← hlen] at hlc hbo ⊢
  refine Kd.V_mk hlc (fun W' hW => ?_)
  refine Kd.C_of_reads (d := (0 : Int)) ⟨rfl, by unfold maxLen at hcm; omega, fun hn => ⟨⟨g, 0, none⟩, rfl, fun j hj => ?_⟩⟩
  have h1 := hcell j (by omega)
  have hgl := World.block_lt_of_cell? _ _ h1
  have he : zs.getD j 0 = L.getD j 0 := by
    rw [← hL, ← hbo]
    have hj2 : j < (zs.take L.length).length := by simp; omega
    have hzj := hzr (zs[j]'(by omega)) (List.getElem_mem _)
    simp only [Lib.bytesOf, List.getD_eq_getElem?_getD, List.getElem?_map, List.getElem?_take_of_lt hj, List.getElem?_eq_getElem (by omega : j < zs.length), Option.map_some, Option.getD_some]
    first
      | (rw [UInt8.toNat_ofNat']; omega)
      | (simp; omega)
  rw [← he, ← h1]
  have ha : (⟨g, 0, none⟩ : Addr).add j = ⟨g, j, none⟩ := by unfold Addr.add; by_cases e : j = 0 <;> simp [e]
  rw [ha]
  exact cell_same (p := ⟨g, j, none⟩) (hW g hg hgl)
theorem join_flat : ∀ ls : List (List UInt8), Lib.join ls [] = ls.flatten
  | [] => rfl
  | x :: r => by
    rw [Lib.join_cons]
    simp [Lib.joinTail]
theorem lens_le {M : List (List Int)} {n : Nat} (h : ∀ i, i < M.length → (M.getD i []).length = n) : Lib.lens (M.map u8of) = M.length * n := by
  unfold Lib.lens
  rw [List.map_map]
  have : M.map ((fun x : List UInt8 => x.length) ∘ u8of) = List.replicate M.length n := by
    apply List.ext_getElem (by simp)
    intro i h1 h2
    have hi : i < M.length := by simpa using h1
    have := h i hi
    rw [List.getD_eq_getElem?_getD, List.getElem?_eq_getElem hi] at this
    simpa [u8of] using this
  rw [this, List.sum_replicate_nat]
theorem bytes_Join.calls (g cl cols : Nat) (Al : Option Addr) (M : List (List Int)) (w : World) (hA : 0 < M.length → Al = some ⟨g, 0, none⟩) (hL : Lst w g M) (hB : rowsB M = true) (he : ∀ i, i < M.length → (M.getD i []).length = cols) (hs : M.length ≤ 64 ∧ cols ≤ 64) (hcl : M.length ≤ cl) :
    Calls Tryd.prog 116 #[.slice Al M.length cl, .slice none 0 0] w fun e w' => ∃ v, e = .returned v ∧ Aside0 (Kd.V (Kd.int .u8) 5 w' w.heap.size (fun k_ => (w.heap.size ≤ k_)) v M.flatten ∧ Below w.heap.size w w') := by
  match M, hA, hL, hB, he, hs, hcl with
  | [], hA, hL, hB, he, hs, hcl =>
    refine (Tryd.bytes_Join_none Al cl _ w).mono ?_
    rintro e w' ⟨rfl, rfl⟩
    refine ⟨_, rfl, ⟨?_, below_alloc (Below.refl _ _) _⟩⟩
    exact Kd.V_mk (xs := []) (Nat.le_refl _) (fun W' _ => Kd.C_of_reads (d := (0 : Int)) ⟨rfl, Nat.zero_le _, fun hn => absurd hn (Nat.lt_irrefl _)⟩)
  | [l0], hA, hL, hB, he, hs, hcl =>
    have hAl := hA (by simp)
    subst hAl
    obtain ⟨v, h1, h2⟩ := hL.row 0 (by simp)
    have hb0 : bytesB l0 = true := rowsB_at hB 0
    have hl0 : l0.length = cols := he 0 (by simp)
    have h2' : RowV w v l0 := h2
    rcases Nat.eq_zero_or_pos cols with h0 | h0
    · obtain ⟨A, c, rfl, hc, hC, _⟩ := h2'.out
      obtain rfl : l0 = [] := List.length_eq_zero_iff.1 (by omega)
      refine (Tryd.bytes_Join_one_empty g 0 cl A c _ w h1).mono ?_
      rintro e w' ⟨rfl, rfl⟩
      exact ⟨_, rfl, ⟨Kd.V_nil _ _ _ _ _, Below.refl _ _⟩⟩
    · obtain ⟨A, c, rfl, hc, hC, _⟩ := h2'.out
      obtain ⟨p, cap, ev, hn, hcells⟩ := holds_of_row h2' hb0
      injection ev with e1 e2 e3
      subst e1 e3
      cases A with
      | none =>
        have := C_none hC
        subst this
        simp at hl0
        omega
      | some ad =>
        have h1' : w.cell? ⟨g, 0, none⟩ = some (.slice (some ad) (u8of l0).length c) := by rw [h1]; simp [u8of]
        refine (Tryd.bytes_Join_one g 0 cl ad c (u8of l0) _ w h1' (hcells ad rfl) (by simp [u8of]; omega) (by simp [u8of]; omega)).mono ?_
        rintro e w' ⟨v', rfl, hf, hb⟩
        refine ⟨_, rfl, ⟨V_of_fresh hf ?_, hb⟩⟩
        rw [u8of_back hb0]
        simp
  | l0 :: l1 :: r, hA, hL, hB, he, hs, hcl =>
    have hAl := hA (by simp)
    subst hAl
    generalize hM : l0 :: l1 :: r = M at *
    have hlen : 2 ≤ M.length := by rw [← hM]; simp
    have hex : ∀ i, ∃ v : Value, i < M.length → w.cell? ⟨g, i, none⟩ = some v ∧ RowV w v (M.getD i []) := fun i => by
      by_cases hi : i < M.length
      · obtain ⟨v, h⟩ := hL.row i hi
        exact ⟨v, fun _ => h⟩
      · exact ⟨undef, fun h => absurd h hi⟩
    obtain ⟨vf, hvf⟩ := Classical.axiomOfChoice hex
    have hP : Lib.PartsAt w ⟨g, 0, none⟩ ((List.range M.length).map vf) (M.map u8of) := by
      refine ⟨by simp, fun i v hv => ?_, fun i v l hv hl => ?_⟩
      · rw [List.getElem?_map] at hv
        obtain ⟨j, hj, rfl⟩ := Option.map_eq_some_iff.1 hv
        obtain ⟨hjl, hj2⟩ := List.getElem?_eq_some_iff.1 hj
        rw [List.length_range] at hjl
        rw [List.getElem_range] at hj2
        subst hj2
        have ha : (⟨g, 0, none⟩ : Addr).add i = ⟨g, i, none⟩ := by unfold Addr.add; by_cases e : i = 0 <;> simp [e]
        rw [ha]
        exact (hvf i hjl).1
      · rw [List.getElem?_map] at hv
        obtain ⟨j, hj, rfl⟩ := Option.map_eq_some_iff.1 hv
        obtain ⟨hjl, hj2⟩ := List.getElem?_eq_some_iff.1 hj
        rw [List.length_range] at hjl
        rw [List.getElem_range] at hj2
        subst hj2
        rw [List.getElem?_map, List.getElem?_eq_getElem hjl] at hl
        have hl' : u8of M[i] = l := by simpa using hl
        have hr := (hvf i hjl).2
        have hg : M.getD i [] = M[i] := by rw [List.getD_eq_getElem?_getD, List.getElem?_eq_getElem hjl]; rfl
        have hb := rowsB_at hB i
        rw [hg] at hr hb
        rw [← hl']
        exact holds_of_row hr hb
    have hll := lens_le he
    have hmul : M.length * cols ≤ 64 * 64 := Nat.mul_le_mul hs.1 hs.2
    refine (Tryd.bytes_Join_many g 0 M.length cl _ (M.map u8of) (.slice none 0 0) [] w (by simp) hlen hP hcl ⟨none, 0, rfl, fun _ => rfl, fun a ha => by cases ha⟩ (by omega) (by rw [hll]; simp; omega)).mono ?_
    rintro e w' ⟨v', rfl, hf, hb⟩
    refine ⟨_, rfl, ⟨V_of_fresh hf ?_, hb⟩⟩
    rw [join_flat, List.map_flatten, List.map_map]
    congr 1
    apply List.ext_getElem (by simp)
    intro i h1 h2
    have hb := rowsB_at hB i
    rw [List.getD_eq_getElem?_getD, List.getElem?_eq_getElem h2] at hb
    rw [List.getElem_map]
    exact u8of_back hb

/-! ### the rows put together -/
/-- The rows alone, without what goes along. -/
structure Half (w : World) (R g cl : Nat) (Al : Option Addr) (M : List (List Int)) (cols : Nat) : Prop where
  head : w.cell? ⟨R, 0, none⟩ = some (.slice Al M.length cl)
  wide : w.cell? ⟨R, 2, none⟩ = some (.int .i64 cols)
  hA : 0 < M.length → Al = some ⟨g, 0, none⟩
  L : Lst w g M
  bM : rowsB M = true
  eM : ∀ i, i < M.length → (M.getD i []).length = cols
  small : M.length ≤ 64 ∧ cols ≤ 64
theorem Half.below {w w1 : World} {R g cl : Nat} {Al : Option Addr} {M : List (List Int)} {cols : Nat} (h : Half w R g cl Al M cols) (hb : Below w.heap.size w w1) : Half w1 R g cl Al M cols :=
  ⟨pw_cell_below hb h.head, pw_cell_below hb h.wide, h.hA, h.L.below hb, h.bM, h.eM, h.small⟩
theorem Hold.half {w : World} {R g d cl cd : Nat} {Al Ad : Option Addr} {M D : List (List Int)} {cols wd : Nat} (h : Hold w R g d cl cd Al Ad M D cols) (s : Shp M D cols wd) : Half w R g cl Al M cols :=
  ⟨h.head, h.wide, h.hA, h.L, s.bM, s.eM, ⟨s.small.1, s.small.2.1⟩⟩
set_option maxHeartbeats 4000000 in
set_option maxRecDepth 100000 in
theorem gauss_matrix.calls (R g cl : Nat) (Al : Option Addr) (M : List (List Int)) (cols : Nat) (w : World) (hH : Half w R g cl Al M cols) (hcl : M.length ≤ cl) :
    Calls Tryd.prog 104 #[.pointer (some ⟨R, 0, none⟩)] w fun e w' => ∃ v, e = .returned (.agg #[.int .i64 M.length, .int .i64 cols, v]) ∧ Aside0 (Kd.V (Kd.int .u8) 5 w' w.heap.size (fun k_ => (w.heap.size ≤ k_)) v M.flatten ∧ Below w.heap.size w w') := by
  have hu24 := Tryd.underlying24
  have h0 := hH.head
  have h2 := hH.wide
  have HH := Aside0.mk hH
  obtain ⟨F, hF⟩ : ∃ F, F = M.flatten := ⟨_, rfl⟩
  rw [← hF]
  have HF := Aside0.mk hF
  clear hH hF
  go_enter Tryd.func104, Tryd.ntmps104
  go_wp2_with fail
  have hb1 := below_alloc (Below.refl w.heap.size w) (.cells #[.int .i64 0, .int .i64 0, .slice none 0 0] 24)
  have hk1 := blk_new w (.cells #[.int .i64 0, .int .i64 0, .slice none 0 0] 24)
  have h01 := pw_cell_below hb1 h0
  have h21 := pw_cell_below hb1 h2
  have HB1 := Aside0.mk hb1
  clear hb1
  generalize w.alloc (.cells #[.int .i64 0, .int .i64 0, .slice none 0 0] 24) = w1 at *
  refine start_ (n := 16) (S := fun w' => w'.cell? ⟨R, 0, none⟩ = some (.slice Al M.length cl) ∧ w'.cell? ⟨R, 2, none⟩ = some (.int .i64 cols)) (ds := [15]) #[false, false, false, false, false, false, false, false, false, false, false, false, false, false, false, false] (by kernel_rfl) rfl rfl ⟨h01, h21⟩ (fun hHeld => ?_)
  have HB2 := Aside0.mk (below_drew HB1.out)
  have hk2 : w1.drew.heap[w.heap.size]? = some (.cells #[.int .i64 0, .int .i64 0, .slice none 0 0] 24) := hk1
  clear HB1 hk1 h01 h21
  generalize w1.drew = w2 at *
  refine pure_ (i := 0) (N := some 3) (v := ?_) (a' := ?_) #[true, false, false, false, false, false, false, false, false, false, false, false, false, false, false, false] rfl rfl (by kernel_rfl) (fun _ _ _ h => h) (Or.inl ⟨by rfl, ?_⟩) ?_ ?_
  rotate_left
  · intro w'
    go_simp
    with_reducible rfl
  rotate_left
  · simp only [Act.put, List.setIfInBounds_toArray, List.set_cons_zero, List.set_cons_succ, i64_w, i32_w]
    rfl
  refine pure_ (i := 1) (N := some 4) (v := ?_) (a' := ?_) #[true, true, false, false, false, false, false, false, false, false, false, false, false, false, false, false] rfl rfl (by kernel_rfl) (fun _ _ _ h => h) (Or.inl ⟨by rfl, ?_⟩) ?_ ?_
  rotate_left
  · intro w'
    go_simp
    with_reducible rfl
  rotate_left
  · simp only [Act.put, List.setIfInBounds_toArray, List.set_cons_zero, List.set_cons_succ, i64_w, i32_w]
    rfl
  refine pure_ (i := 2) (N := some 5) (v := ?_) (a' := ?_) #[true, true, true, false, false, false, false, false, false, false, false, false, false, false, false, false] rfl rfl (by kernel_rfl) (fun _ _ _ h => h) (Or.inl ⟨by rfl, ?_⟩) ?_ ?_
  rotate_left
  · intro w'
    go_simp
    with_reducible rfl
  rotate_left
  · simp only [Act.put, List.setIfInBounds_toArray, List.set_cons_zero, List.set_cons_succ, i64_w, i32_w]
    rfl
  refine pure_ (i := 5) (N := some 8) (v := ?_) (a' := ?_) #[true, true, true, false, false, true, false, false, false, false, false, false, false, false, false, false] rfl rfl (by kernel_rfl) (fun _ _ _ h => h) (Or.inl ⟨by rfl, ?_⟩) ?_ ?_
  rotate_left
  · intro w'
    go_simp
    with_reducible rfl
  rotate_left
  · simp only [Act.put, List.setIfInBounds_toArray, List.set_cons_zero, List.set_cons_succ, i64_w, i32_w]
    rfl
  refine pure_ (i := 6) (N := some 9) (v := ?_) (a' := ?_) #[true, true, true, false, false, true, true, false, false, false, false, false, false, false, false, false] rfl rfl (by kernel_rfl) (fun _ _ _ h => h) (Or.inl ⟨by rfl, ?_⟩) ?_ ?_
  rotate_left
  · intro w'
    go_simp
    with_reducible rfl
  rotate_left
  · simp only [Act.put, List.setIfInBounds_toArray, List.set_cons_zero, List.set_cons_succ, i64_w, i32_w]
    rfl
  refine pure_ (i := 7) (N := some 10) (v := ?_) (a' := ?_) #[true, true, true, false, false, true, true, true, false, false, false, false, false, false, false, false] rfl rfl (by kernel_rfl) (fun _ _ _ h => h) (Or.inl ⟨by rfl, ?_⟩) ?_ ?_
  rotate_left
  · intro w'
    go_simp
    with_reducible rfl
  rotate_left
  · simp only [Act.put, List.setIfInBounds_toArray, List.set_cons_zero, List.set_cons_succ, i64_w, i32_w]
    rfl
  refine pure_ (i := 9) (N := some 12) (v := ?_) (a' := ?_) #[true, true, true, false, false, true, true, true, false, true, false, false, false, false, false, false] rfl rfl (by kernel_rfl) (fun _ _ _ h => h) (Or.inl ⟨by rfl, ?_⟩) ?_ ?_
  rotate_left
  · intro w'
    go_simp
    with_reducible rfl
  rotate_left
  · simp only [Act.put, List.setIfInBounds_toArray, List.set_cons_zero, List.set_cons_succ, i64_w, i32_w]
    rfl
  refine pure_ (i := 10) (N := some 13) (v := ?_) (a' := ?_) #[true, true, true, false, false, true, true, true, false, true, true, false, false, false, false, false] rfl rfl (by kernel_rfl) (fun _ _ _ h => h) (Or.inl ⟨by rfl, ?_⟩) ?_ ?_
  rotate_left
  · intro w'
    go_simp
    with_reducible rfl
  rotate_left
  · simp only [Act.put, List.setIfInBounds_toArray, List.set_cons_zero, List.set_cons_succ, i64_w, i32_w]
    rfl
  refine pure_ (i := 11) (N := some 14) (v := ?_) (a' := ?_) #[true, true, true, false, false, true, true, true, false, true, true, true, false, false, false, false] rfl rfl (by kernel_rfl) (fun _ _ _ h => h) (Or.inl ⟨by rfl, ?_⟩) ?_ ?_
  rotate_left
  · intro w'
    go_simp
    with_reducible rfl
  rotate_left
  · simp only [Act.put, List.setIfInBounds_toArray, List.set_cons_zero, List.set_cons_succ, i64_w, i32_w]
    rfl
  refine take_ (i := 3) (N := some 6) (v := ?_) (a' := ?_) #[true, true, true, true, false, true, true, true, false, true, true, true, false, false, false, false] rfl rfl (by kernel_rfl) (fun _ _ _ h => h) (Or.inl ⟨by rfl, ?_⟩) hHeld ?_ ?_
  rotate_left
  · rintro w' ⟨s0, s1⟩
    go_simp
    with_reducible rfl
  rotate_left
  · simp only [Act.put, List.setIfInBounds_toArray, List.set_cons_zero, List.set_cons_succ, i64_w, i32_w]
    rfl
  refine pure_ (i := 4) (N := some 7) (v := ?_) (a' := ?_) #[true, true, true, true, true, true, true, true, false, true, true, true, false, false, false, false] rfl rfl (by kernel_rfl) (fun _ _ _ h => h) (Or.inl ⟨by rfl, ?_⟩) ?_ ?_
  rotate_left
  · intro w'
    go_simp
    with_reducible rfl
  rotate_left
  · simp only [Act.put, List.setIfInBounds_toArray, List.set_cons_zero, List.set_cons_succ, i64_w, i32_w]
    rfl
  refine take_ (i := 8) (N := some 11) (v := ?_) (a' := ?_) #[true, true, true, true, true, true, true, true, true, true, true, true, false, false, false, false] rfl rfl (by kernel_rfl) (fun _ _ _ h => h) (Or.inl ⟨by rfl, ?_⟩) hHeld ?_ ?_
  rotate_left
  · rintro w' ⟨s0, s1⟩
    go_simp
    with_reducible rfl
  rotate_left
  · simp only [Act.put, List.setIfInBounds_toArray, List.set_cons_zero, List.set_cons_succ, i64_w, i32_w]
    rfl
  refine take_ (i := 12) (N := some 15) (v := ?_) (a' := ?_) #[true, true, true, true, true, true, true, true, true, true, true, true, true, false, false, false] rfl rfl (by kernel_rfl) (fun _ _ _ h => h) (Or.inl ⟨by rfl, ?_⟩) hHeld ?_ ?_
  rotate_left
  · rintro w' ⟨s0, s1⟩
    go_simp
    with_reducible rfl
  rotate_left
  · simp only [Act.put, List.setIfInBounds_toArray, List.set_cons_zero, List.set_cons_succ, i64_w, i32_w]
    rfl
  refine one_ (i := 13) (N := some 16) #[true, true, true, true, true, true, true, true, true, true, true, true, true, true, false, false] rfl rfl (by kernel_rfl) (by decide) (fun K hK => ?_)
  refine goes_ Tryd.func116 (by kernel_rfl) rfl #[.slice Al M.length cl, .slice none 0 0] (by rfl) rfl rfl (by simp only [List.map_toArray, List.map_cons, List.map_nil]; rfl) ?_
  refine (bytes_Join.calls g cl cols Al M w2 HH.out.hA (HH.out.below HB2.out).L HH.out.bM HH.out.eM HH.out.small hcl).mono ?_
  rintro e w3 ⟨v, rfl, hq⟩
  rw [← HF.out] at hq
  refine ⟨_, rfl, ?_⟩
  obtain ⟨Av, cv, ev⟩ := Kd.V_slice hq.out.1
  subst ev
  have hb3 := hq.out.2
  have hk3 := (hb3.block _ (lt_of_get hk2)).trans hk2
  have hq0 := (blk_cell hk3 0).trans rfl
  have hq1 := (blk_cell hk3 1).trans rfl
  have hq2 := (blk_cell hk3 2).trans rfl
  have hf0 := blk_frozen hk3 0
  have hf1 := blk_frozen hk3 1
  have hf2 := blk_frozen hk3 2
  refine hK.out _ _ ⟨pw_cell_below hb3 hHeld.1, pw_cell_below hb3 hHeld.2⟩ (fun hHeld => ?_)
  clear hK K
  refine norm_ (a' := ?_) ?_ ?_
  rotate_left
  · show Act.put _ (some 16) _ = _
    simp only [Act.put, List.setIfInBounds_toArray, List.set_cons_zero, List.set_cons_succ, i64_w, i32_w]
    rfl
  refine pure_ (i := 14) (N := some 17) (v := ?_) (a' := ?_) #[true, true, true, true, true, true, true, true, true, true, true, true, true, true, true, false] rfl rfl (by kernel_rfl) (fun _ _ _ h => h) (Or.inl ⟨by rfl, ?_⟩) ?_ ?_
  rotate_left
  · intro w'
    go_simp
    with_reducible rfl
  rotate_left
  · simp only [Act.put, List.setIfInBounds_toArray, List.set_cons_zero, List.set_cons_succ, i64_w, i32_w]
    rfl
  refine last_ (i := 15) (N := none) #[true, true, true, true, true, true, true, true, true, true, true, true, true, true, true, true] rfl rfl (by kernel_rfl) (by decide) (fun K hK => ?_)
  refine skip_ (w1 := ?_) (by rfl) rfl ?_ ?_
  rotate_left
  · go_simp
    rfl
  refine hK.out _ _ ?_
  clear hK K
  refine done_ (by kernel_rfl) ?_
  clear hHeld hq0 hq1 hq2 hf0 hf1 hf2
  have HQ := Aside0.mk hq.out
  have HB3 := Aside0.mk (hb3)
  have HK3 := Aside0.mk hk3
  clear hq hb3 hk3
  go_wp2_with fail
  refine bodyPost_ret (results_cell_row rfl _ _ w.heap.size 24 #[.int .i64 M.length, .int .i64 cols, .slice Av F.length cv] (0, 0) _ rfl (blk_put (cs := #[.int .i64 M.length, .int .i64 cols, .slice none 0 0]) (blk_put (cs := #[.int .i64 M.length, .int .i64 0, .slice none 0 0]) (blk_put (cs := #[.int .i64 0, .int .i64 0, .slice none 0 0]) HK3.out 0 _ rfl) 1 _ rfl) 2 _ rfl) Tryd.underlying24 rfl (by kernel_rfl)) rfl ?_
  have h4 := HQ.out.1
  have hlt := lt_of_get HK3.out
  have hw2 := lt_of_get hk2
  refine ⟨_, rfl, ⟨?_, ?_⟩⟩
  · refine Kd.V_mono (Kd.V_far (Kd.V_far (Kd.V_far h4 (p := ⟨w.heap.size, 0, none⟩) (fun k hk => ?_) _) (p := ⟨w.heap.size, 1, none⟩) (fun k hk => ?_) _) (p := ⟨w.heap.size, 2, none⟩) (fun k hk => ?_) _) (fun k hk => ?_)
    all_goals
      have hk' : w2.heap.size ≤ k := hk
      first
        | exact fun e => by have e' : k = w.heap.size := e; omega
        | (show w.heap.size ≤ k; omega)
  · exact (((below_step HB2.out HB3.out).setCell (Nat.le_refl _) _).setCell (Nat.le_refl _) _).setCell (Nat.le_refl _) _

/-! ### Reduce -/
def gauss_Reduce.M (a b : Int) (l : List Int) : List (List Int) := rowsOf b.toNat a.toNat l
def gauss_Reduce.st (a b : Int) (l : List Int) : (List (List Int) × List (List Int)) × List Int := redTo (gauss_Reduce.M a b l) (List.replicate a.toNat []) b.toNat
def gauss_Reduce.f (a b : Int) (l : List Int) : Option (Int × Int × List Int × List Int × Int) :=
  (matrix_Right.f a b l).bind fun t => if t = true then (if bytesB l = true then some (a, b, (gauss_Reduce.st a b l).1.1.flatten, (gauss_Reduce.st a b l).2, 0) else none) else some (0, 0, [], [], 3)
theorem right_true {a b : Int} {l : List Int} (h : matrix_Right.f a b l = some true) : 0 ≤ a ∧ a ≤ 64 ∧ 0 ≤ b ∧ b ≤ 64 ∧ l.length = a.toNat * b.toNat := by
  unfold matrix_Right.f matrix_side.f at h
  by_cases h1 : a ≥ 0
  · rw [if_pos h1] at h
    by_cases h2 : a ≤ 64
    · by_cases h3 : b ≥ 0
      · by_cases h4 : b ≤ 64
        · rw [if_pos h3] at h
          simp [h2, h4] at h
          obtain ⟨x, rfl⟩ := Int.eq_ofNat_of_zero_le h1
          obtain ⟨y, rfl⟩ := Int.eq_ofNat_of_zero_le h3
          have hm : x * y ≤ 64 * 64 := Nat.mul_le_mul (by omega) (by omega)
          rw [← Int.natCast_mul, wrap_small (by omega) (by omega)] at h
          refine ⟨h1, h2, h3, h4, ?_⟩
          rw [Int.toNat_natCast, Int.toNat_natCast]
          omega
        · rw [if_pos h3] at h
          simp [h2, h4] at h
      · rw [if_neg h3] at h
        simp [h2] at h
    · simp [h2] at h
  · rw [if_neg h1] at h
    simp at h
theorem bytesB_sub {l : List Int} (h : bytesB l = true) (i n : Nat) : bytesB ((l.drop i).take n) = true := by
  unfold bytesB at h ⊢
  rw [List.all_eq_true] at h ⊢
  exact fun x hx => h x (List.mem_of_mem_drop (List.mem_of_mem_take hx))
theorem shp_of {rows cols : Nat} {l : List Int} (hb : bytesB l = true) (hl : l.length = rows * cols) (h : rows ≤ 64 ∧ cols ≤ 64) {D : List (List Int)} (hD : D.length = rows) (hDb : rowsB D = true) {wd : Nat} (hDe : ∀ i, i < rows → (D.getD i []).length = wd) (hwd : wd ≤ 64) : Shp (rowsOf cols rows l) D cols wd := by
  have hlen := rowsOf_length cols rows l
  refine ⟨by rw [hD, hlen], ?_, hDb, fun i hi => ?_, fun i hi => hDe i (by omega), ⟨by omega, h.2, hwd⟩⟩
  · rw [rowsB, List.all_eq_true]
    intro x hx
    obtain ⟨i, _, rfl⟩ := List.mem_map.1 hx
    exact bytesB_sub hb _ _
  · rw [hlen] at hi
    rw [rowsOf_get hi]
    have hle : i * cols + cols ≤ l.length := by rw [hl, ← Nat.succ_mul]; exact Nat.mul_le_mul_right _ hi
    simp
    omega
theorem shp_nil {rows cols : Nat} {l : List Int} (hb : bytesB l = true) (hl : l.length = rows * cols) (h : rows ≤ 64 ∧ cols ≤ 64) : Shp (rowsOf cols rows l) (List.replicate rows []) cols 0 :=
  shp_of hb hl h (by simp) (by rw [rowsB, List.all_eq_true]; intro x hx; rw [List.eq_of_mem_replicate hx]; rfl) (fun i hi => by rw [List.getD_eq_getElem?_getD, List.getElem?_replicate_of_lt hi]; rfl) (Nat.zero_le _)
set_option maxHeartbeats 4000000 in
set_option maxRecDepth 100000 in
theorem gauss_Reduce.calls (a0_0 : Int) (a0_1 : Int) (A0_2 : Option Addr) (c0_2 : Nat) (l0_2 : List Int) (r1 : Int) (r2 : Int) (r3 : List Int) (r4 : List Int) (r5 : Int) (w : World) (hr0_2 : Kd.C (Kd.int .u8) w A0_2 l0_2.length l0_2) (hc0_2 : l0_2.length ≤ c0_2) (h : gauss_Reduce.f a0_0 a0_1 l0_2 = some (r1, r2, r3, r4, r5)) :
    Calls Tryd.prog 90 #[.agg #[.int .i64 a0_0, .int .i64 a0_1, .slice A0_2 l0_2.length c0_2]] w fun e w' => ∃ v2_ v3_ : Value, e = .returned (.tuple #[.agg #[.int .i64 r1, .int .i64 r2, v2_], v3_, .int .i64 r5]) ∧ Kd.V (Kd.int .u8) 5 w' w.heap.size (fun k_ => (w.heap.size ≤ k_) ∧ some k_ ≠ (v3_ : Value).ownBlock) v2_ r3 ∧ Kd.R (Kd.int .i64) 3 w' w.heap.size (fun k_ => (w.heap.size ≤ k_)) v3_ r4 ∧ Below w.heap.size w w' := by
  have hu24 := Tryd.underlying24
  have HR := Aside0.mk hr0_2
  have HC := Aside0.mk hc0_2
  clear hr0_2 hc0_2
  unfold gauss_Reduce.f at h
  obtain ⟨t, hm, h⟩ := Option.bind_eq_some_iff.mp h
  have HM := Aside0.mk hm
  cases t with
  | false =>
    simp only [Bool.false_eq_true, if_false, Option.some.injEq, Prod.mk.injEq] at h
    obtain ⟨rfl, rfl, rfl, rfl, rfl⟩ := h
    clear hm
    go_enter Tryd.func90, Tryd.ntmps90
    go_upto_region 1 with (fail)
    have hb2 := below_alloc (below_alloc (Below.refl w.heap.size w) (.cells #[.int .i64 a0_0, .int .i64 a0_1, .slice A0_2 l0_2.length c0_2] 24)) (.cells #[.int .i64 0, .int .i64 0, .slice none 0 0] 24)
    have hbm := heap_alloc2_old w (.cells #[.int .i64 a0_0, .int .i64 a0_1, .slice A0_2 l0_2.length c0_2] 24) (.cells #[.int .i64 0, .int .i64 0, .slice none 0 0] 24)
    have hbr := blk_new (w.alloc (.cells #[.int .i64 a0_0, .int .i64 a0_1, .slice A0_2 l0_2.length c0_2] 24)) (.cells #[.int .i64 0, .int .i64 0, .slice none 0 0] 24)
    rw [World.size_alloc] at hbr
    have HB2 := Aside0.mk hb2
    clear hb2
    generalize (w.alloc (.cells #[.int .i64 a0_0, .int .i64 a0_1, .slice A0_2 l0_2.length c0_2] 24)).alloc (.cells #[.int .i64 0, .int .i64 0, .slice none 0 0] 24) = w2 at *
    have x0 : w2.cell? ⟨w.heap.size, 0, none⟩ = some (.int .i64 a0_0) := (blk_cell hbm 0).trans rfl
    have x1 : w2.cell? ⟨w.heap.size, 1, none⟩ = some (.int .i64 a0_1) := (blk_cell hbm 1).trans rfl
    have x2 : w2.cell? ⟨w.heap.size, 2, none⟩ = some (.slice A0_2 l0_2.length c0_2) := (blk_cell hbm 2).trans rfl
    go_wp2_with fail
    refine (matrix_Right.calls a0_0 a0_1 A0_2 c0_2 l0_2 false _ (Kd.C_below HR.out HB2.out) HC.out HM.out).mono ?_
    rintro e w3 ⟨rfl, hb3⟩
    have hr3 := (hb3.block _ (lt_of_get hbr)).trans hbr
    have y0 : w3.cell? ⟨w.heap.size + 1, 0, none⟩ = some (.int .i64 0) := (blk_cell hr3 0).trans rfl
    have y1 : w3.cell? ⟨w.heap.size + 1, 1, none⟩ = some (.int .i64 0) := (blk_cell hr3 1).trans rfl
    have y2 : w3.cell? ⟨w.heap.size + 1, 2, none⟩ = some (.slice none 0 0) := (blk_cell hr3 2).trans rfl
    have f0 := blk_frozen hr3 0
    have f1 := blk_frozen hr3 1
    have f2 := blk_frozen hr3 2
    clear x0 x1 x2
    have HB3 := Aside0.mk (below_step HB2.out hb3)
    clear hb3
    go_wp2_with fail
    have n1 := HB2.out.size
    refine bodyPost_ret (results_ctt rfl _ _ (w.heap.size + 1) 24 #[.int .i64 0, .int .i64 0, .slice none 0 0] (0, 0) _ rfl (blk_put (cs := #[.int .i64 0, .int .i64 0, .slice none 0 0]) (blk_put (cs := #[.int .i64 0, .int .i64 0, .slice none 0 0]) (blk_put (cs := #[.int .i64 0, .int .i64 0, .slice none 0 0]) hr3 0 _ rfl) 1 _ rfl) 2 _ rfl) Tryd.underlying24 rfl (by kernel_rfl)) rfl ?_
    refine ⟨_, _, rfl, Kd.V_nil _ _ _ _ _, Kd.R_nil _ _ _ _ _, ?_⟩
    exact ((HB3.out.setCell (by show w.heap.size ≤ w.heap.size + 1; omega) _).setCell (by show w.heap.size ≤ w.heap.size + 1; omega) _).setCell (by show w.heap.size ≤ w.heap.size + 1; omega) _
  | true =>
    have hrt := right_true hm
    rw [if_pos rfl] at h
    by_cases hb : bytesB l0_2 = true
    · rw [if_pos hb] at h
      simp only [Option.some.injEq, Prod.mk.injEq] at h
      obtain ⟨rfl, rfl, rfl, rfl, rfl⟩ := h
      obtain ⟨e0, e1, e2, e3, hl⟩ := hrt
      obtain ⟨rows, rfl⟩ := Int.eq_ofNat_of_zero_le e0
      obtain ⟨cols, rfl⟩ := Int.eq_ofNat_of_zero_le e2
      rw [Int.toNat_natCast, Int.toNat_natCast] at hl
      have hrw : rows ≤ 64 ∧ cols ≤ 64 := by omega
      have HS := Aside0.mk (shp_nil hb hl hrw)
      have HST := Aside0.mk (show gauss_Reduce.st (rows : Int) (cols : Int) l0_2 = redTo (rowsOf cols rows l0_2) (List.replicate rows []) cols from rfl)
      have HL := Aside0.mk hl
      generalize gauss_Reduce.st (rows : Int) (cols : Int) l0_2 = st at *
      obtain ⟨F, hF⟩ : ∃ F, F = st.1.1.flatten := ⟨_, rfl⟩
      rw [← hF]
      have HF := Aside0.mk hF
      clear hF hb hm hl e0 e1 e2 e3
      go_enter Tryd.func90, Tryd.ntmps90
      go_upto_region 1 with (fail)
      have hb2 := below_alloc (below_alloc (Below.refl w.heap.size w) (.cells #[.int .i64 (rows : Int), .int .i64 (cols : Int), .slice A0_2 l0_2.length c0_2] 24)) (.cells #[.int .i64 0, .int .i64 0, .slice none 0 0] 24)
      have hbm := heap_alloc2_old w (.cells #[.int .i64 (rows : Int), .int .i64 (cols : Int), .slice A0_2 l0_2.length c0_2] 24) (.cells #[.int .i64 0, .int .i64 0, .slice none 0 0] 24)
      have hbr := blk_new (w.alloc (.cells #[.int .i64 (rows : Int), .int .i64 (cols : Int), .slice A0_2 l0_2.length c0_2] 24)) (.cells #[.int .i64 0, .int .i64 0, .slice none 0 0] 24)
      rw [World.size_alloc] at hbr
      have HB2 := Aside0.mk hb2
      clear hb2
      generalize (w.alloc (.cells #[.int .i64 (rows : Int), .int .i64 (cols : Int), .slice A0_2 l0_2.length c0_2] 24)).alloc (.cells #[.int .i64 0, .int .i64 0, .slice none 0 0] 24) = w2 at *
      have x0 : w2.cell? ⟨w.heap.size, 0, none⟩ = some (.int .i64 (rows : Int)) := (blk_cell hbm 0).trans rfl
      have x1 : w2.cell? ⟨w.heap.size, 1, none⟩ = some (.int .i64 (cols : Int)) := (blk_cell hbm 1).trans rfl
      have x2 : w2.cell? ⟨w.heap.size, 2, none⟩ = some (.slice A0_2 l0_2.length c0_2) := (blk_cell hbm 2).trans rfl
      go_wp2_with fail
      refine (matrix_Right.calls rows cols A0_2 c0_2 l0_2 true _ (Kd.C_below HR.out HB2.out) HC.out HM.out).mono ?_
      rintro e w3 ⟨rfl, hb3⟩
      have hr3 := (hb3.block _ (lt_of_get hbr)).trans hbr
      have hm3 := (hb3.block _ (lt_of_get hbm)).trans hbm
      have HB3 := Aside0.mk (below_step HB2.out hb3)
      clear x0 x1 x2 hbr hbm hb3
      have x0 : w3.cell? ⟨w.heap.size, 0, none⟩ = some (.int .i64 rows) := (blk_cell hm3 0).trans rfl
      have x1 : w3.cell? ⟨w.heap.size, 1, none⟩ = some (.int .i64 cols) := (blk_cell hm3 1).trans rfl
      have x2 : w3.cell? ⟨w.heap.size, 2, none⟩ = some (.slice A0_2 l0_2.length c0_2) := (blk_cell hm3 2).trans rfl
      go_wp2_with fail
      refine (gauss_of.calls rows cols A0_2 c0_2 l0_2 w3 (Kd.C_below HR.out HB3.out) HC.out HL.out hrw).mono ?_
      rintro e w4 ⟨R, rfl, hq⟩
      obtain ⟨g, d, cl, cd, Al, Ad, hH, hb4, hg, hd, hRw, hg4, hd4, hcl, hcd, cR, hRf⟩ := hq.out
      have hr4 := (hb4.block _ (lt_of_get hr3)).trans hr3
      have HH := Aside0.mk hH
      have HB4 := Aside0.mk (below_step HB3.out hb4)
      have hrl3 := lt_of_get hr3
      clear hq hH hb4 hr3 hm3 x0 x1 x2
      go_wp2_with fail
      refine (gauss_reduce.calls R g d cl cd Al Ad _ _ cols 0 w4 HH.out HS.out hg4 hd4).mono ?_
      rintro e w5 ⟨v, rfl, hq⟩
      rw [← HST.out] at hq
      obtain ⟨hH5, hp5, hc5⟩ := hq.out
      have hb5 := hc5.to_below (n := w3.heap.size) (by have := HB4.out.size; omega) (fun i hi => by rcases hi with (hi | hi) | hi <;> omega)
      have hr5 := (hb5.block _ hrl3).trans hr4
      have HH5 := Aside0.mk hH5
      have HP5 := Aside0.mk hp5
      have HB5 := Aside0.mk hb5
      have hsh := red_shp HS.out cols
      rw [← HST.out] at hsh
      have HSH := Aside0.mk hsh
      have hn4 := HB4.out.size
      clear hq hH5 hp5 hc5 hb5 hr4 hsh
      go_wp2_with fail
      have hlen : st.1.1.length = rows := by rw [HSH.out.2.1, rowsOf_length]
      refine (gauss_matrix.calls R g cl Al st.1.1 cols w5 (HH5.out.half HSH.out.1) (by omega)).mono ?_
      rintro e w6 ⟨vm, rfl, hq⟩
      rw [← HF.out] at hq
      rw [hlen]
      obtain ⟨Av, cv, ev⟩ := Kd.V_slice hq.out.1
      subst ev
      have hb6 := hq.out.2
      have hr6 := (hb6.block _ (lt_of_get hr5)).trans hr5
      have HV := Aside0.mk hq.out.1
      have HP6 := Aside0.mk (Kd.R_below HP5.out hb6)
      have hold5 := (Kd.R_bound HP5.out).1
      have n3 := HB3.out.size
      have n5 := HB5.out.size
      have HB6 := Aside0.mk ((HB4.out.trans (HB5.out.mono n3)).trans (hb6.mono (by omega)))
      have y0 : w6.cell? ⟨w.heap.size + 1, 0, none⟩ = some (.int .i64 0) := (blk_cell hr6 0).trans rfl
      have y1 : w6.cell? ⟨w.heap.size + 1, 1, none⟩ = some (.int .i64 0) := (blk_cell hr6 1).trans rfl
      have y2 : w6.cell? ⟨w.heap.size + 1, 2, none⟩ = some (.slice none 0 0) := (blk_cell hr6 2).trans rfl
      have f0 := blk_frozen hr6 0
      have f1 := blk_frozen hr6 1
      have f2 := blk_frozen hr6 2
      clear hq hb6 hr5 hlen
      go_wp2_with fail
      refine bodyPost_ret (results_ctt rfl _ _ (w.heap.size + 1) 24 #[.int .i64 rows, .int .i64 cols, .slice Av F.length cv] (0, 0) _ rfl (blk_put (cs := #[.int .i64 rows, .int .i64 cols, .slice none 0 0]) (blk_put (cs := #[.int .i64 rows, .int .i64 0, .slice none 0 0]) (blk_put (cs := #[.int .i64 0, .int .i64 0, .slice none 0 0]) hr6 0 _ rfl) 1 _ rfl) 2 _ rfl) Tryd.underlying24 rfl (by kernel_rfl)) rfl ?_
      have hown : ∀ k, v.ownBlock = some k → w4.heap.size ≤ k ∧ k < w5.heap.size := fun k hk => ⟨(hold5 k hk).2.1, (hold5 k hk).2.2.1⟩
      refine ⟨_, _, rfl, ?_, ?_, ?_⟩
      · refine Kd.V_mono (Kd.V_far (Kd.V_far (Kd.V_far HV.out (p := ⟨w.heap.size + 1, 0, none⟩) (fun k hk e => ?_) _) (p := ⟨w.heap.size + 1, 1, none⟩) (fun k hk e => ?_) _) (p := ⟨w.heap.size + 1, 2, none⟩) (fun k hk e => ?_) _) (fun k hk => ⟨?_, fun e => ?_⟩)
        · have h1 : w5.heap.size ≤ k := hk
          have h2 : k = w.heap.size + 1 := e
          omega
        · have h1 : w5.heap.size ≤ k := hk
          have h2 : k = w.heap.size + 1 := e
          omega
        · have h1 : w5.heap.size ≤ k := hk
          have h2 : k = w.heap.size + 1 := e
          omega
        · have h1 : w5.heap.size ≤ k := hk
          omega
        · have h1 : w5.heap.size ≤ k := hk
          have h2 := (hown k e.symm).2
          omega
      · have h1 := Kd.R_lower (Kd.R_bound HP6.out) (by omega : w.heap.size ≤ w4.heap.size)
        refine Kd.R_mono (Kd.R_far (Kd.R_far (Kd.R_far h1 (p := ⟨w.heap.size + 1, 0, none⟩) (fun k hk e => ?_) _) (p := ⟨w.heap.size + 1, 1, none⟩) (fun k hk e => ?_) _) (p := ⟨w.heap.size + 1, 2, none⟩) (fun k hk e => ?_) _) (fun k hk => ?_)
        · have h1 := hk.2.1
          have h2 : k = w.heap.size + 1 := e
          omega
        · have h1 := hk.2.1
          have h2 : k = w.heap.size + 1 := e
          omega
        · have h1 := hk.2.1
          have h2 : k = w.heap.size + 1 := e
          omega
        · have h1 := hk.2.1
          omega
      · exact ((HB6.out.setCell (by show w.heap.size ≤ w.heap.size + 1; omega) _).setCell (by show w.heap.size ≤ w.heap.size + 1; omega) _).setCell (by show w.heap.size ≤ w.heap.size + 1; omega) _
    · rw [if_neg hb] at h
      cases h

/-! ### what goes along is laid anew, row by row -/
theorem Hold.putD {w w1 : World} {R g d cl cd : Nat} {Al Ad : Option Addr} {M D : List (List Int)} {cols i : Nat} {v : Value} {l : List Int} (h : Hold w R g d cl cd Al Ad M D cols) (hi : i < D.length) (hg : w.grownBy w1 (some d))
    (hd : w1.heap[d]? = (w.setCell ⟨d, i, none⟩ v).heap[d]?) (hv : RowV w1 v l) : Hold w1 R g d cl cd Al Ad M (D.set i l) cols := by
  obtain ⟨cells, hc⟩ := h.LD.typ (by omega)
  have kb : KeepB w w1 := KeepB.grown hg hc (by decide)
  refine h.right hg ⟨fun _ => ?_, fun j hj => ?_, fun j hj => ?_⟩ (by simp) (by omega)
  · exact ⟨_, hd.trans (blk_put hc i v rfl)⟩
  · rw [List.length_set] at hj
    rw [cell_same (w := w.setCell ⟨d, i, none⟩ v) (p := ⟨d, j, none⟩) hd]
    by_cases e : i = j
    · subst e
      obtain ⟨v0, h1, _⟩ := h.LD.row i hi
      refine ⟨v, World.cell?_setCell_same' _ _ _ (by rw [h1]; rfl), ?_⟩
      rw [List.getD_eq_getElem?_getD, List.getElem?_set_self hi]
      exact hv
    · obtain ⟨v0, h1, h2⟩ := h.LD.row j hj
      refine ⟨v0, (World.cell?_setCell_other _ _ _ _ (by simp [e])).trans h1, ?_⟩
      rw [List.getD_eq_getElem?_getD, List.getElem?_set_ne e, ← List.getD_eq_getElem?_getD]
      exact h2.keep kb
  · rw [frozen_same (w := w.setCell ⟨d, i, none⟩ v) (p := ⟨d, j, none⟩) hd, World.frozen?_setCell]
    exact h.LD.frz j (by simpa using hj)
/-- A new row, stored among what goes along. -/
theorem Hold.newD {w w1 : World} {R g d cl cd base : Nat} {Al Ad : Option Addr} {M D : List (List Int)} {cols i : Nat} {ok : Nat → Prop} {v : Value} {l : List Int} (h : Hold w R g d cl cd Al Ad M D cols) (hi : i < D.length) (hb : Below w.heap.size w w1)
    (hv : Kd.R (Kd.int .u8) 5 w1 base ok v l) : Hold (w1.setCell ⟨d, i, none⟩ v) R g d cl cd Al Ad M (D.set i l) cols := by
  obtain ⟨cells, hc⟩ := h.LD.typ (by omega)
  have hd := (hb.block d (lt_of_get hc)).trans hc
  refine h.putD (v := v) hi (grown_trans (grown_below hb) (grown_set w1 d i v)) ?_ ((RowV.of_R hv).keep (KeepB.grown (grown_set w1 d i v) hd (by decide)))
  rw [blk_put hd i v rfl, blk_put hc i v rfl]
def unitRow (n i : Nat) : List Int := (List.replicate n 0).set i 1
/-- The first i unit rows, and nothing behind. -/
def unitsTo (n i : Nat) : List (List Int) := (List.range n).map fun k => if k < i then unitRow n k else []
theorem unitsTo_length (n i : Nat) : (unitsTo n i).length = n := by simp [unitsTo]
theorem unitsTo_get {n i k : Nat} (hk : k < n) : (unitsTo n i).getD k [] = if k < i then unitRow n k else [] := by
  unfold unitsTo
  rw [List.getD_eq_getElem?_getD, List.getElem?_map, List.getElem?_range hk]
  rfl
theorem unitsTo_zero (n : Nat) : unitsTo n 0 = List.replicate n [] := by
  apply List.ext_getElem (by simp [unitsTo])
  intro k h1 h2
  simp [unitsTo]
theorem unitsTo_succ {n i : Nat} (hi : i < n) : (unitsTo n i).set i (unitRow n i) = unitsTo n (i + 1) := by
  apply List.ext_getElem (by simp [unitsTo])
  intro k h1 h2
  have hk : k < n := by rw [unitsTo_length] at h2; exact h2
  simp only [unitsTo, List.getElem_set, List.getElem_map, List.getElem_range]
  by_cases e : i = k
  · subst e
    rw [if_pos rfl, if_pos (by omega)]
  · rw [if_neg e]
    by_cases h : k < i
    · rw [if_pos h, if_pos (by omega)]
    · rw [if_neg h, if_neg (by omega)]
theorem bytesB_unit (n i : Nat) : bytesB (unitRow n i) = true := bytesB_mk fun x hx => by
  rcases List.mem_or_eq_of_mem_set hx with h | rfl
  · rw [List.eq_of_mem_replicate h]; omega
  · omega
theorem shp_unit {n : Nat} {l : List Int} (hb : bytesB l = true) (hl : l.length = n * n) (h : n ≤ 64) : Shp (rowsOf n n l) (unitsTo n n) n n :=
  shp_of hb hl ⟨h, h⟩ (unitsTo_length n n) (by
    rw [rowsB, List.all_eq_true]
    intro x hx
    obtain ⟨k, hk, rfl⟩ := List.mem_map.1 hx
    rw [if_pos (List.mem_range.1 hk)]
    exact bytesB_unit _ _) (fun i hi => by rw [unitsTo_get hi, if_pos hi]; simp [unitRow]) h
/-- A row's byte written: in a block that is new. -/
theorem R_one {w : World} {base : Nat} {ok : Nat → Prop} {b n c i : Nat} (h : Kd.R (Kd.int .u8) 5 w base ok (.slice (some ⟨b, 0, none⟩) n c) (List.replicate n 0)) (hi : i < n) : w.cell? ⟨b, i, none⟩ = some (.int .u8 0) ∧ w.frozen? ⟨b, i, none⟩ = false := by
  have h1 := Kd.reads_of_C (enc := Value.int .u8) (d := (0 : Int)) (h1 := fun _ => rfl) (Kd.R_reads' h).2.2
  obtain ⟨_, cells, hc⟩ := own_addr (b := b) h rfl
  obtain ⟨ad, ha, hcell⟩ := h1.2.2 (by simpa using Nat.lt_of_le_of_lt (Nat.zero_le _) hi)
  cases ha
  have := hcell i (by simpa using hi)
  rw [List.getD_eq_getElem?_getD, List.getElem?_replicate_of_lt hi] at this
  refine ⟨?_, by simp [World.frozen?, hc]⟩
  rw [show (⟨b, i, none⟩ : Addr) = (⟨b, 0, none⟩ : Addr).add i from by unfold Addr.add; by_cases e : i = 0 <;> simp [e]]
  exact this
theorem Hold.unitD {w w1 : World} {R g d cl cd : Nat} {Al Ad : Option Addr} {M D : List (List Int)} {cols i nb n c : Nat} {ok : Nat → Prop} (h : Hold w R g d cl cd Al Ad M D cols) (hi : i < D.length) (hb : Below w.heap.size w w1)
    (hv : Kd.R (Kd.int .u8) 5 w1 w.heap.size ok (.slice (some ⟨nb, 0, none⟩) n c) (List.replicate n 0)) : Hold ((w1.setCell ⟨d, i, none⟩ (.slice (some ⟨nb, 0, none⟩) n c)).setCell ⟨nb, i, none⟩ (.int .u8 1)) R g d cl cd Al Ad M (D.set i (unitRow n i)) cols := by
  obtain ⟨cells, hc⟩ := h.LD.typ (by omega)
  have hdl := lt_of_get hc
  have hnb : w.heap.size ≤ nb := ((Kd.R_bound hv).1 nb rfl).2.1
  have hd := (hb.block d hdl).trans hc
  have hne : nb ≠ d := by omega
  have e1 : ((w1.setCell ⟨d, i, none⟩ (.slice (some ⟨nb, 0, none⟩) n c)).setCell ⟨nb, i, none⟩ (.int .u8 1)).heap[d]? = (w.setCell ⟨d, i, none⟩ (.slice (some ⟨nb, 0, none⟩) n c)).heap[d]? := by
    rw [Below.heap_setCell _ _ _ d (by show d ≠ nb; omega), blk_put hd i _ rfl, blk_put hc i _ rfl]
  have g1 : w.grownBy ((w1.setCell ⟨d, i, none⟩ (.slice (some ⟨nb, 0, none⟩) n c)).setCell ⟨nb, i, none⟩ (.int .u8 1)) (some d) :=
    ⟨hb.os, hb.tape, hb.output, by have := hb.size; simpa using this, fun k hk hkd => by
      rw [Below.heap_setCell _ _ _ k (by show k ≠ nb; omega), Below.heap_setCell _ _ _ k (by intro e; exact hkd (by rw [e]))]
      exact hb.block k hk⟩
  have hv1 := Kd.R_far (Kd.R_mono (Kd.R_bound hv) (fun k hk => hk.2.1)) (p := ⟨d, i, none⟩) (fun k hk => by show k ≠ d; omega) (.slice (some ⟨nb, 0, none⟩) n c)
  have hv2 := Kd.R_putn hv1 (i : Int) (1 : Int)
  rw [Int.toNat_natCast] at hv2
  exact h.putD (v := .slice (some ⟨nb, 0, none⟩) n c) hi g1 e1 (RowV.of_R hv2)


end Go.Proofs.YtjgcocfnilhggaaDoor.Q
