import Derived.OpenShut
import Derived.WideShapes
import Derived.Test.YtjgcocfnilhggaaDoorV
import Derived.Deep.Slices
import Derived.SizedLaws
namespace Go.Proofs.YtjgcocfnilhggaaDoor.Open
open Go.RowKit Go.Deep Go.Proofs.YtjgcocfnilhggaaDoorW.PrintWords

/-- The datum's sizes are within reach. -/
def Sz {H : Type} (P : Program) (t : TypeId) (d : DataW H) : Prop := ∀ n ∈ d.weights P t, n ≤ reachBytes

/-- What reads as data of type t lies in memory as kind d tells, and is well formed. -/
structure Opens {α : Type} (P : Program) (t : TypeId) (d : Kd α) (well : α → Prop) : Prop where
  cells : P.cellsOf t = d.sz
  run : ∀ {H : Type} (enc : TypeId × Value → H) (W : World) (n : Nat) (cs : List Value) (y : DataW H × List MemPlace),
    DataW.trod enc P W 0 (fun _ => true) true n t cs = some y → Sz P t y.1 → ∃ x, d.K W x cs ∧ well x

theorem opens_int {P : Program} {t : TypeId} {k : IntKind} (ht : P.underlying t = some (.int k)) (hc : P.cellsOf t = 1) : Opens P t (Kd.int k) (fun x => (Lit.int k x).wf = true) := by
  refine ⟨hc, fun enc W n cs y h _ => ?_⟩
  obtain ⟨a, rfl, rfl, hw⟩ := DataW.trod_int ht h
  exact ⟨a, rfl, hw⟩
theorem opens_bool {P : Program} {t : TypeId} (ht : P.underlying t = some .bool) (hc : P.cellsOf t = 1) : Opens P t Kd.bool (fun _ => True) := by
  refine ⟨hc, fun enc W n cs y h _ => ?_⟩
  obtain ⟨a, rfl, rfl⟩ := DataW.trod_bool ht h
  exact ⟨a, rfl, trivial⟩
theorem opens_str {P : Program} {t : TypeId} (ht : P.underlying t = some .string) (hc : P.cellsOf t = 1) : Opens P t Kd.string (fun x => x.size ≤ reachBytes) := by
  refine ⟨hc, fun enc W n cs y h hz => ?_⟩
  obtain ⟨a, rfl, rfl, hw⟩ := DataW.trod_string ht h
  have := hz a.data.toList.length (by simp [DataW.weights])
  exact ⟨a, rfl, by simpa using this⟩
theorem weightsAll_mem {H : Type} {P : Program} {e : TypeId} : ∀ {l : List (DataW H)} {d : DataW H}, d ∈ l → ∀ n ∈ d.weights P e, n ∈ DataW.weightsAll P e l
  | a :: l, d, hd, n, hn => by
    rw [DataW.weightsAll]
    rcases List.mem_cons.1 hd with rfl | hd
    · exact List.mem_append_left _ hn
    · exact List.mem_append_right _ (weightsAll_mem hd n hn)
theorem opens_slice {α : Type} {P : Program} {t e : TypeId} {d : Kd α} {well : α → Prop} {B : Nat} (ht : P.underlying t = some (.slice e)) (hc : P.cellsOf t = 1) (hB : P.bytesOf e = B) (z : α) (h : Opens P e d well) :
    Opens P t (Kd.slice e d) (fun l => l.length ≤ maxLen ∧ l.length * B ≤ 140737488351232 ∧ ∀ x ∈ l, well x) := by
  refine ⟨hc, fun enc W n cs y hy hz => ?_⟩
  rcases open_slice ht hy with ⟨rfl, rfl⟩ | ⟨a, len, cap, m, n', D, Pl, rfl, _, hl, hm, hmm, rfl, hx⟩
  · exact ⟨[], ⟨none, 0, rfl, Nat.le_refl _, rfl, by simp, fun hn => absurd hn (by simp)⟩, by simp, by simp, by simp⟩
  have hm' : len ≤ m := by rw [hmm]; split <;> omega
  have : Inhabited α := ⟨z⟩
  have hw : ∀ i, i < len → ∃ x, (∃ cs', W.cells? 0 (a.add (i * P.cellsOf e)) (P.cellsOf e) = some cs' ∧ d.K W x cs') ∧ well x := by
    intro i hi
    obtain ⟨cs', h1, h2⟩ := hx i (by omega)
    obtain ⟨x, k, w⟩ := h.run enc W n' cs' _ h2 (fun q hq => by
      refine hz q ?_
      simp only [DataW.weights, ht]
      refine List.mem_cons_of_mem _ (List.mem_append_left _ (weightsAll_mem (d := D i) ?_ q hq))
      exact List.mem_map.2 ⟨i, by simpa using hi, rfl⟩)
    exact ⟨x, ⟨cs', h1, k⟩, w⟩
  obtain ⟨V, hV⟩ := choose_lt hw
  have hlen : ((List.range len).map V).length = len := by simp
  have hb : len * B ≤ 140737488351232 := by
    have := hz ((((List.range len).map D).length + ((List.range (m - len)).map fun j => D (len + j)).length) * P.bytesOf e) (by simp only [DataW.weights, ht]; exact List.mem_cons_self)
    rw [hB] at this
    simp only [List.length_map, List.length_range] at this
    exact Nat.le_trans (Nat.mul_le_mul_right _ (by omega)) this
  have hmx : maxLen = 9223372036854775807 := by decide
  refine ⟨(List.range len).map V, ⟨some a, cap, by rw [hlen], by rw [hlen]; exact hl, rfl, by rw [hlen]; omega, fun _ => ⟨a, rfl, fun j p hj => ?_⟩⟩, by rw [hlen]; omega, by rw [hlen]; exact hb, ?_⟩
  · obtain ⟨hj1, hj2⟩ := List.getElem?_eq_some_iff.1 hj
    have hjl : j < len := by simpa using hj1
    have hp : p = V j := by simpa using hj2.symm
    subst hp
    obtain ⟨⟨cs', h1, k⟩, _⟩ := hV j hjl
    obtain ⟨_, hcl, hcell⟩ := World.cells?_some h1
    refine ⟨cs', d.K_len k, k, fun i u hu => ?_⟩
    have hi : i < P.cellsOf e := by rw [← hcl]; exact (List.getElem?_eq_some_iff.1 hu).1
    rw [← h.cells, ← Addr.add_add, hcell i hi]
    exact hu
  · intro x hx
    obtain ⟨i, hi, rfl⟩ := List.mem_map.1 hx
    exact (hV i (by simpa using hi)).2

/-- The fields of a struct, from offset off on. -/
structure OpensF {α : Type} (P : Program) (fs : List Field) (off : Nat) (d : Kd α) (well : α → Prop) : Prop where
  run : ∀ {H : Type} (enc : TypeId × Value → H) (W : World) (n : Nat) (cs : List Value) (xs : List (DataW H × List MemPlace)), cs.length = off + d.sz →
    (∀ (i : Nat) (f : Field), fs[i]? = some f → DataW.trod enc P W 0 (fun _ => true) true n f.type ((cs.drop f.offset).take (P.cellsOf f.type)) = xs[i]?) → xs.length = fs.length →
    (∀ q ∈ DataW.weightsEach P (fs.map (·.type)) (xs.map (·.1)), q ≤ reachBytes) → ∃ x, d.K W x (cs.drop off) ∧ well x
theorem OpensF.one {α : Type} {P : Program} {f : Field} {off : Nat} {d : Kd α} {well : α → Prop} (ho : f.offset = off) (h : Opens P f.type d well) : OpensF P [f] off d well := by
  refine ⟨?_⟩
  intro H enc W n cs xs hl hf hx hz
  obtain ⟨y, rfl⟩ : ∃ y, xs = [y] := List.length_eq_one_iff.1 hx
  have h0 := hf 0 f rfl
  rw [ho, List.take_of_length_le (by rw [List.length_drop, h.cells]; omega)] at h0
  exact h.run enc W n _ y h0 (fun q hq => hz q (by simpa [DataW.weightsEach] using hq))
theorem OpensF.cons {α β : Type} {P : Program} {f : Field} {fs : List Field} {off : Nat} {d : Kd α} {d' : Kd β} {well : α → Prop} {well' : β → Prop} (ho : f.offset = off) (h : Opens P f.type d well) (h' : OpensF P fs (off + d.sz) d' well') :
    OpensF P (f :: fs) off (Kd.pair d d') (fun x => well x.1 ∧ well' x.2) := by
  refine ⟨?_⟩
  intro H enc W n cs xs hl hf hx hz
  match xs, hx with
  | y :: ys, hx =>
    have hl' : cs.length = off + (d.sz + d'.sz) := hl
    have h0 := hf 0 f rfl
    rw [ho] at h0
    obtain ⟨x, k, w⟩ := h.run enc W n _ y h0 (fun q hq => hz q (by simp [DataW.weightsEach, hq]))
    obtain ⟨x', k', w'⟩ := h'.run enc W n cs ys (by omega) (fun i g hg => hf (i + 1) g hg) (by simpa using hx) (fun q hq => hz q (by simp only [List.map_cons, DataW.weightsEach]; exact List.mem_append_right _ hq))
    rw [h.cells] at k
    refine ⟨(x, x'), ⟨_, _, ?_, k, k'⟩, w, w'⟩
    rw [← List.drop_drop, List.take_append_drop]
theorem Opens.struct {α β : Type} {P : Program} {t : TypeId} {fs : Array Field} {d : Kd α} {well : α → Prop} {f : β → α} (ht : P.underlying t = some (.struct fs)) (hc : P.cellsOf t = d.sz) (hs : ∀ a, ∃ b, f b = a) (h : OpensF P fs.toList 0 d well) :
    Opens P t (Kd.iso d f) (fun x => well (f x)) := by
  refine ⟨hc, fun enc W n cs y hy hz => ?_⟩
  obtain ⟨xs, m, _, rfl, hl, hx, hf⟩ := DataW.trod_struct ht hy
  obtain ⟨x, k, w⟩ := h.run enc W m cs xs (by rw [hl, hc, Nat.zero_add]) (fun i g hg => hf i g (by simpa using hg)) (by simpa using hx) (fun q hq => hz q (by simp only [DataW.weights, ht]; exact hq))
  obtain ⟨b, rfl⟩ := hs x
  rw [List.drop_zero] at k
  exact ⟨b, k, w⟩

/-- Two whole numbers in an array. -/
theorem Opens.arr2 {β : Type} {P : Program} {t e : TypeId} {k : IntKind} {f : β → Int × Int} (ht : P.underlying t = some (.array 2 e)) (he : P.underlying e = some (.int k)) (hce : P.cellsOf e = 1) (hc : P.cellsOf t = 2) (hs : ∀ a, ∃ b, f b = a) :
    Opens P t (Kd.iso (Kd.pair (Kd.int k) (Kd.int k)) f) (fun x => (Lit.int k (f x).1).wf = true ∧ (Lit.int k (f x).2).wf = true) := by
  refine ⟨hc, fun enc W n cs y hy hz => ?_⟩
  obtain ⟨xs, m, _, rfl, hl, hx, hf⟩ := DataW.trod_array ht hy
  match cs, hl.trans hc with
  | [c0, c1], _ =>
    match xs, hx with
    | [y0, y1], _ =>
      have h0 := hf 0 (by decide)
      have h1 := hf 1 (by decide)
      rw [hce] at h0 h1
      obtain ⟨a, ea, _, wa⟩ := DataW.trod_int he (show DataW.trod enc P W 0 (fun _ => true) true m e [c0] = some y0 from h0)
      obtain ⟨b, eb, _, wb⟩ := DataW.trod_int he (show DataW.trod enc P W 0 (fun _ => true) true m e [c1] = some y1 from h1)
      obtain ⟨x, ex⟩ := hs (a, b)
      refine ⟨x, ?_, by rw [ex]; exact wa, by rw [ex]; exact wb⟩
      show (Kd.pair (Kd.int k) (Kd.int k)).K W (f x) [c0, c1]
      rw [ex]
      refine ⟨[c0], [c1], rfl, ?_, ?_⟩
      · rw [ea]; rfl
      · rw [eb]; rfl
theorem okWide_arr {P : Program} {w : World} {r : Reach} {base : Nat} {t : TypeId} {v : Value} {n : Nat} {e : TypeId} (ht : P.underlying t = some (.array n e)) (h : Value.okWide P w r base t v) : ∃ cs, v = .agg cs ∧ cs.size = P.cellsOf t := by
  simp only [Value.okWide, ht] at h
  obtain ⟨cs, h1, h2, _⟩ := h
  exact ⟨cs, h1, h2⟩

/-- The sizes of one of a row's arguments. -/
theorem sz_of {H : Type} {P : Program} {ts : List TypeId} {ds : List (DataW H)} {j : Nat} {t : TypeId} {d : DataW H} (hsz : (DataW.weightsEach P ts ds).all (· ≤ reachBytes) = true) (ht : ts[j]? = some t) (hd : ds[j]? = some d) : Sz P t d :=
  fun n hn => by simpa using List.all_eq_true.1 hsz n (DataW.weights_mem_each ht hd n hn)
/-- A row's argument, opened. -/
theorem Opens.arg {α : Type} {P : Program} {t : TypeId} {d : Kd α} {well : α → Prop} (h : Opens P t d well) {H : Type} {enc : TypeId × Value → H} {W : World} {v : Value} {y : DataW H} {ps : List MemPlace} {ts : List TypeId} {ds : List (DataW H)} {j : Nat}
    (hsz : (DataW.weightsEach P ts ds).all (· ≤ reachBytes) = true) (ht : ts[j]? = some t) (hd : ds[j]? = some y) (hv : DataW.Trod enc P W 0 (fun _ => true) true t v y ps) : ∃ x, d.K W x v.cells.toList ∧ well x := by
  obtain ⟨n, hn⟩ := hv
  exact h.run enc W n _ _ hn (sz_of hsz ht hd)
theorem trod_lt_of {H : Type} {enc : TypeId × Value → H} {P : Program} {W : World} {t : TypeId} {v : Value} {y : DataW H} {ps : List MemPlace} (hv : DataW.Trod enc P W 0 (fun _ => true) true t v y ps) : ∀ x ∈ ps, x.block < W.heap.size := by
  obtain ⟨m, hm⟩ := hv
  exact DataW.trod_lt m _ _ _ hm
end Go.Proofs.YtjgcocfnilhggaaDoor.Open
