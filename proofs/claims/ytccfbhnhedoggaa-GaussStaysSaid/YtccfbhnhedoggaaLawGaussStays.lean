/- Written by drive.py (a program of this repo, over the kit's print): each Go function named here answers what the Lean function beside it answers, wherever that one answers, in every world that meets the stated premises. -/
import Derived.Test.YtccfbhnhedoggaaRows
import Derived.Test.YtccfbhnhedoggaaQx105
import Derived.Test.YtccfbhnhedoggaaPureGaussStays
import Derived.Test.YtccfbhnhedoggaaMOpen
import Derived.WalkKit
import Derived.ProofKit
import Derived.OpenShut
import Derived.ShutString
import Derived.ChangeOld
import Derived.Below
import Derived.SizedLaws
namespace Go.Proofs.Ytccfbhnhedoggaa.gaussStays
open Go.ChangeShapes Go.WideShapes Go.ChangeAt Go.RowKit Go.Proofs.YtccfbhnhedoggaaW.PrintWords
set_option linter.unusedVariables false
theorem own : ownKnob Try.prog.godebug = none := by kernel_rfl
theorem laidOut : laidOutB Try.prog = true := by kernel_rfl
theorem opens0 : Open.Opens Try.prog 24 Q.k24 (fun x => ((Lit.int .i64 x.f0).wf = true ∧ ((Lit.int .i64 x.f1).wf = true ∧ (x.f2.length ≤ maxLen ∧ x.f2.length * 1 ≤ 140737488351232 ∧ ∀ x4 ∈ x.f2, (Lit.int .u8 x4).wf = true)))) := (Open.Opens.struct (d := (Kd.pair (Kd.int .i64) (Kd.pair (Kd.int .i64) (Kd.slice 5 (Kd.int .u8))))) (f := fun x : Q.S24 => (x.f0, x.f1, x.f2)) Try.underlying24 (by kernel_rfl) (fun a => ⟨⟨a.1, a.2.1, a.2.2⟩, rfl⟩) (Open.OpensF.cons rfl (Open.opens_int Try.underlying3 (by kernel_rfl)) (Open.OpensF.cons rfl (Open.opens_int Try.underlying3 (by kernel_rfl)) (Open.OpensF.one rfl (Open.opens_slice Try.underlying22 (by kernel_rfl) (by kernel_rfl) (0 : Int) (Open.opens_int Try.underlying5 (by kernel_rfl)))))))
theorem opens1 : Open.Opens Try.prog 40 Q.k40 (fun x => ((Lit.int .i64 x.f0).wf = true ∧ (Lit.int .i64 x.f1).wf = true)) := (Open.Opens.arr2 (f := fun x : Q.S40 => (x.f0, x.f1)) Try.underlying40 Try.underlying3 (by kernel_rfl) (by kernel_rfl) (fun a => ⟨⟨a.1, a.2⟩, rfl⟩))
theorem opens2 : Open.Opens Try.prog 5 (Kd.int .u8) (fun x => (Lit.int .u8 x).wf = true) := (Open.opens_int Try.underlying5 (by kernel_rfl))
set_option maxRecDepth 100000 in
theorem lifted (os : Os) (started : os.Started) (H : Type) (enc : TypeId × Value → H) :
    ReturnsInHanded {} Try.checked os 5 .any (Rows.gaussStaysSpec.pre6 enc Try.prog Try.f5 Rows.gaussStaysRow.domain false) (Rows.gaussStaysSpec.post enc Try.prog Try.f5 false true false false) := by
  refine returnsInHanded_of_change_sized (C := Try.checked) own started (by kernel_rfl) Try.func5
    (ChangeSpec.witness6 (enc := enc) (C := Try.checked) false ⟨#[], #[.agg #[(.int .i64 0), (.int .i64 0), (.slice none 0 0)], .agg #[(.int .i64 0), (.int .i64 0)], .int .u8 0], []⟩ 8 (by kernel_rfl) (by kernel_rfl) (by kernel_rfl) (by kernel_rfl)) ?_
  intro W base args ds gs before hval0 hW hcnd hsz0 _
  have hsz : (DataW.weightsEach Try.prog (Try.f5.params.toList ++ Rows.gaussStaysSpec.plain.varTypes Try.prog) (ds ++ gs)).all (· ≤ reachBytes) = true := hsz0
  have hval : ∀ (j : Nat) t v, Try.f5.params[j]? = some t → args[j]? = some v → Value.okWide Try.prog W .any base t v := hval0
  have hW' := hW
  obtain ⟨p, q, hA0, hV, rfl, hfz, hnd⟩ := hW
  have hA : DataW.TrodAll enc Try.prog W 0 (fun _ => true) true Try.f5.params.toList args.toList ds p := hA0
  rw [Try.params5] at hA hval hsz
  obtain ⟨v0, vs0, d0, ds0, p0, q0, hargs, rfl, rfl, h0, r0⟩ := trodAll_cons hA
  obtain ⟨v1, vs1, d1, ds1, p1, q1, rfl, rfl, rfl, h1, r1⟩ := trodAll_cons r0
  obtain ⟨v2, vs2, d2, ds2, p2, q2, rfl, rfl, rfl, h2, r2⟩ := trodAll_cons r1
  obtain ⟨rfl, rfl, rfl⟩ := trodAll_nil r2
  obtain rfl : args = #[v0, v1, v2] := by cases args; simp_all
  obtain ⟨rfl, rfl⟩ := trodVars_none hV
  obtain ⟨x0, kx0, wx0⟩ := opens0.arg hsz (j := 0) rfl rfl h0
  obtain ⟨cs0, rfl, _⟩ := okWide_struct Try.underlying24 (hval 0 24 v0 rfl rfl)
  obtain ⟨A0_2, c0_2, e0, m0_2, g0_2⟩ := Q.k24_open kx0
  obtain rfl : cs0 = #[.int .i64 x0.f0, .int .i64 x0.f1, .slice A0_2 x0.f2.length c0_2] := Array.toList_inj.1 e0
  obtain ⟨x1, kx1, wx1⟩ := opens1.arg hsz (j := 1) rfl rfl h1
  obtain ⟨cs1, rfl, _⟩ := Open.okWide_arr Try.underlying40 (hval 1 40 v1 rfl rfl)
  have e1 := Q.k40_open kx1
  obtain rfl : cs1 = #[.int .i64 x1.f0, .int .i64 x1.f1] := Array.toList_inj.1 e1
  obtain ⟨x2, kx2, wx2⟩ := opens2.arg hsz (j := 2) rfl rfl h2
  obtain ⟨a2, rfl, rfl, rfl, _⟩ := open_int Try.underlying5 (hval 2 5 v2 rfl rfl) h2
  obtain rfl : a2 = x2 := by simpa [Value.cells, Kd.int, Kd.bool, Kd.string, Kd.scalar] using kx2
  clear hA0 hval0 hsz0 hsz
  obtain ⟨k, hp⟩ := Pure.GaussStays x0 wx0 x1 wx1 a2 wx2
  refine (Q.recouplaw04_GaussStays.calls k x0.f0 x0.f1 A0_2 c0_2 x0.f2 x1.f0 x1.f1 a2 true W g0_2 m0_2 hp).mono fun e W' ⟨he, bel0⟩ => ?_
  have bel := bel0
  subst he
  exact ⟨_, rfl, _, _, _, [], _, [], hW', trodAll_mk1 (shut_bool Try.underlying4 _), (trodAll_cons_mk (Below.trod laidOut (by kernel_rfl) (of_decide_eq_true (by kernel_rfl)) h0 bel (Open.trod_lt_of h0)) (trodAll_cons_mk (Below.trod laidOut (by kernel_rfl) (of_decide_eq_true (by kernel_rfl)) h1 bel (Open.trod_lt_of h1)) (trodAll_cons_mk (Below.trod laidOut (by kernel_rfl) (of_decide_eq_true (by kernel_rfl)) h2 bel (Open.trod_lt_of h2)) trodAll_mk0))), rfl, bel.frame _, fun h => by cases h⟩
theorem over : Rows.gaussStaysRow.holds Try.pinned (OpenSpec.ofChange Rows.gaussStaysSpec) :=
  OpenClaim.holds_of_wide 5 Try.f5 rfl rfl rfl rfl rfl rfl rfl ⟨rfl, rfl, rfl, rfl, rfl⟩ rfl rfl rfl rfl rfl (by kernel_rfl) Try.func5 (by kernel_rfl)
    (of_decide_eq_true (by kernel_rfl)) (by unfold Func.isWrapper; first | (rw [if_pos (by decide +kernel)]; kernel_rfl) | (rw [if_neg (by decide +kernel)]; exact ⟨rfl, rfl⟩))
    (fun os started H enc _ => lifted os started H enc)
theorem proved : Rows.GaussStaysSaid := over
#print axioms proved
end Go.Proofs.Ytccfbhnhedoggaa.gaussStays
namespace Go.Proofs.Ytccfbhnhedoggaa
/-- The row, under a short name, for the claim. -/
theorem gaussStays_holds : Rows.GaussStaysSaid := gaussStays.proved
end Go.Proofs.Ytccfbhnhedoggaa
