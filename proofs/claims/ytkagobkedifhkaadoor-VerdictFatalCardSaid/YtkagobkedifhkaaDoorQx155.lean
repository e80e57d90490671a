/- Written by drive.py (a program of this repo, over the kit's print): each Go function named here answers what the Lean function beside it answers, wherever that one answers, in every world that meets the stated premises. -/
import Derived.Test.YtkagobkedifhkaaDoorQx0
import Derived.Test.YtkagobkedifhkaaDoorQx180
namespace Go.Proofs.YtkagobkedifhkaaDoor.Q
open Go.RowKit Go.Proofs.YtkagobkedifhkaaDoorW.PrintWords Go.Proofs.YtkagobkedifhkaaDoorW.PrintLast Go.Proofs.YtkagobkedifhkaaDoorW.PrintMore
attribute [local go_sem] max2_int min2_int max_two min_two max_three min_three max_four min_four   -- for this text's walks alone
set_option linter.unusedVariables false
set_option linter.unusedSimpArgs false

/-! ### subset_Count: function 55 -/
def subset_Count.f (a0 : Int) : Option (Int) := (bits_OnesCount64.f a0).bind fun t169 => (some t169)
set_option maxHeartbeats 8000000 in
set_option maxRecDepth 100000 in
theorem subset_Count.calls (a0 : Int) (r : Int) (w : World) (h : subset_Count.f a0 = some r) :
  Calls Tryd.prog 55 #[.int .u64 a0] w fun e w' => e = .returned (.int .i64 r) ∧ Drawn0 w w' := by
 have H : ((bits_OnesCount64.f a0).bind fun t169 => (some t169)) = some r := h
 clear h
 obtain ⟨t169, A2, H⟩ := bindO H
 (try dsimp only at H)
 obtain rfl := Option.some.inj H
 go_enter Tryd.func55, Tryd.ntmps55
 go_wp2_with (first | ((with_reducible refine gC 80 rfl ?_); refine cG (some 4) Tryd.func80 #[.int .u64 a0] ?_; (with_reducible refine (bits_OnesCount64.calls a0 t169 _ A2.out).mono ?_); rintro e w' ⟨rfl, ⟨nd, rfl⟩⟩; refine ⟨_, rfl, ?_⟩))
 go_ret
 exact ⟨by first | rfl | (simp; done) | (simp [*]; done), by repeat (first | exact Drawn0.refl _ | apply Drawn0.step)⟩

end Go.Proofs.YtkagobkedifhkaaDoor.Q
