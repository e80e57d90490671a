/- Written by drive.py (a program of this repo, over the kit's print): each Go function named here answers what the Lean function beside it answers, wherever that one answers, in every world that meets the stated premises. -/
import Derived.Test.YtnfemjnajfdepaaRows
import Derived.Test.YtnfemjnajfdepaaQx103
import Derived.Test.YtnfemjnajfdepaaPureShareBest
import Derived.Test.YtnfemjnajfdepaaMOpen
import Derived.WalkKit
import Derived.ProofKit
import Derived.OpenShut
import Derived.ShutString
import Derived.ChangeOld
import Derived.Below
import Derived.SizedLaws
namespace Go.Proofs.Ytnfemjnajfdepaa.shareBest
open Go.ChangeShapes Go.WideShapes Go.ChangeAt Go.RowKit Go.Proofs.YtnfemjnajfdepaaW.PrintWords
set_option linter.unusedVariables false
theorem own : ownKnob Try.prog.godebug = none := by kernel_rfl
theorem laidOut : laidOutB Try.prog = true := by kernel_rfl
theorem opens0 : Open.Opens Try.prog 25 Q.k25 (fun x => ((x.f0.length ≤ maxLen ∧ x.f0.length * 8 ≤ 140737488351232 ∧ ∀ x4 ∈ x.f0, (Lit.int .i64 x4).wf = true) ∧ ((x.f1.length ≤ maxLen ∧ x.f1.length * 24 ≤ 140737488351232 ∧ ∀ x4 ∈ x.f1, (x4.length ≤ maxLen ∧ x4.length * 16 ≤ 140737488351232 ∧ ∀ x2 ∈ x4, ((Lit.int .i64 x2.f0).wf = true ∧ (Lit.int .u8 x2.f1).wf = true))) ∧ (x.f2.length ≤ maxLen ∧ x.f2.length * 8 ≤ 140737488351232 ∧ ∀ x4 ∈ x.f2, (Lit.int .i64 x4).wf = true)))) := (Open.Opens.struct (d := (Kd.pair (Kd.slice 3 (Kd.int .i64)) (Kd.pair (Kd.slice 59 (Kd.slice 61 Q.k61)) (Kd.slice 3 (Kd.int .i64))))) (f := fun x : Q.S25 => (x.f0, x.f1, x.f2)) Try.underlying25 (by kernel_rfl) (fun a => ⟨⟨a.1, a.2.1, a.2.2⟩, rfl⟩) (Open.OpensF.cons rfl (Open.opens_slice Try.underlying22 (by kernel_rfl) (by kernel_rfl) (0 : Int) (Open.opens_int Try.underlying3 (by kernel_rfl))) (Open.OpensF.cons rfl (Open.opens_slice Try.underlying23 (by kernel_rfl) (by kernel_rfl) [] (Open.opens_slice Try.underlying59 (by kernel_rfl) (by kernel_rfl) Q.z61 (Open.Opens.struct (d := (Kd.pair (Kd.int .i64) (Kd.int .u8))) (f := fun x : Q.S61 => (x.f0, x.f1)) Try.underlying61 (by kernel_rfl) (fun a => ⟨⟨a.1, a.2⟩, rfl⟩) (Open.OpensF.cons rfl (Open.opens_int Try.underlying3 (by kernel_rfl)) (Open.OpensF.one rfl (Open.opens_int Try.underlying5 (by kernel_rfl))))))) (Open.OpensF.one rfl (Open.opens_slice Try.underlying22 (by kernel_rfl) (by kernel_rfl) (0 : Int) (Open.opens_int Try.underlying3 (by kernel_rfl)))))))
set_option maxRecDepth 100000 in
theorem lifted (os : Os) (started : os.Started) (H : Type) (enc : TypeId × Value → H) :
    ReturnsInHanded {} Try.checked os 3 .any (Rows.shareBestSpec.pre6 enc Try.prog Try.f3 Rows.shareBestRow.domain false) (Rows.shareBestSpec.post enc Try.prog Try.f3 false true false false) := by
  refine returnsInHanded_of_change_sized (C := Try.checked) own started (by kernel_rfl) Try.func3
    (ChangeSpec.witness6 (enc := enc) (C := Try.checked) false ⟨#[], #[.agg #[(.slice none 0 0), (.slice none 0 0), (.slice none 0 0)]], []⟩ 8 (by kernel_rfl) (by kernel_rfl) (by kernel_rfl) (by kernel_rfl)) ?_
  intro W base args ds gs before hval0 hW hcnd hsz0 _
  have hsz : (DataW.weightsEach Try.prog (Try.f3.params.toList ++ Rows.shareBestSpec.plain.varTypes Try.prog) (ds ++ gs)).all (· ≤ reachBytes) = true := hsz0
  have hval : ∀ (j : Nat) t v, Try.f3.params[j]? = some t → args[j]? = some v → Value.okWide Try.prog W .any base t v := hval0
  have hW' := hW
  obtain ⟨p, q, hA0, hV, rfl, hfz, hnd⟩ := hW
  have hA : DataW.TrodAll enc Try.prog W 0 (fun _ => true) true Try.f3.params.toList args.toList ds p := hA0
  rw [Try.params3] at hA hval hsz
  obtain ⟨v0, vs0, d0, ds0, p0, q0, hargs, rfl, rfl, h0, r0⟩ := trodAll_cons hA
  obtain ⟨rfl, rfl, rfl⟩ := trodAll_nil r0
  obtain rfl : args = #[v0] := by cases args; simp_all
  obtain ⟨rfl, rfl⟩ := trodVars_none hV
  obtain ⟨x0, kx0, wx0⟩ := opens0.arg hsz (j := 0) rfl rfl h0
  obtain ⟨cs0, rfl, _⟩ := okWide_struct Try.underlying25 (hval 0 25 v0 rfl rfl)
  obtain ⟨A0_0, c0_0, A0_1, c0_1, A0_2, c0_2, e0, m0_0, g0_0, m0_1, g0_1, m0_2, g0_2⟩ := Q.k25_open kx0
  obtain rfl : cs0 = #[.slice A0_0 x0.f0.length c0_0, .slice A0_1 x0.f1.length c0_1, .slice A0_2 x0.f2.length c0_2] := Array.toList_inj.1 e0
  clear hA0 hval0 hsz0 hsz
  obtain ⟨k, hp⟩ := Pure.ShareBest x0 wx0
  refine (Q.recouplaw22_ShareBest.calls k A0_0 c0_0 x0.f0 A0_1 c0_1 x0.f1 A0_2 c0_2 x0.f2 true W g0_0 m0_0 g0_1 m0_1 g0_2 m0_2 hp).mono fun e W' ⟨he, bel0⟩ => ?_
  have bel := bel0
  subst he
  exact ⟨_, rfl, _, _, _, [], _, [], hW', trodAll_mk1 (shut_bool Try.underlying4 _), (trodAll_cons_mk (Below.trod laidOut (by kernel_rfl) (of_decide_eq_true (by kernel_rfl)) h0 bel (Open.trod_lt_of h0)) trodAll_mk0), rfl, bel.frame _, fun h => by cases h⟩
theorem over : Rows.shareBestRow.holds Try.pinned (OpenSpec.ofChange Rows.shareBestSpec) :=
  OpenClaim.holds_of_wide 3 Try.f3 rfl rfl rfl rfl rfl rfl rfl ⟨rfl, rfl, rfl, rfl, rfl⟩ rfl rfl rfl rfl rfl (by kernel_rfl) Try.func3 (by kernel_rfl)
    (of_decide_eq_true (by kernel_rfl)) (by unfold Func.isWrapper; first | (rw [if_pos (by decide +kernel)]; kernel_rfl) | (rw [if_neg (by decide +kernel)]; exact ⟨rfl, rfl⟩))
    (fun os started H enc _ => lifted os started H enc)
theorem proved : Rows.ShareBestSaid := over
#print axioms proved
end Go.Proofs.Ytnfemjnajfdepaa.shareBest
namespace Go.Proofs.Ytnfemjnajfdepaa
/-- The row, under a short name, for the claim. -/
theorem shareBest_holds : Rows.ShareBestSaid := shareBest.proved
end Go.Proofs.Ytnfemjnajfdepaa
