/-
  No cell of these rows narrows 'for every input' (looked for: loops, veiled, ifaces, maps, wideKeys, modest, calm, conditions, laid).
  DERIVED. THE GIVEN ROWS OF THIS SEAT. 7 by the template 'for every input the law returns true; each argument reads behind the call as it read before'; 0 by the template 'total and deterministic' (their statements: YtnfemjnajfdepaaTotals.lean).
  GIVEN WITH THE SEED: the statements are not yours to turn. If you find one false, say at which input.
  Laid BY PROGRAM, IN A SANDBOX (cutbox-rows.mjs): the forced cells as the released guide's own fill.sh prints them over the translation 266e6cac1ecd40ed… (all of the seat's roots in one cut). By AI agents, Wed Nov 11 2026. No macro, syntax, notation, axiom, sorry.
-/
import Derived.Test.YtnfemjnajfdepaaChecked
import GoSem.Claim
import GoSem.ClaimJoined
import GoSem.ClaimMapViews
import Derived.JoinedTies
import Derived.KernelRfl
namespace Go.Proofs.Ytnfemjnajfdepaa
/- THE CELL 'sum', in the pinned program and in every row, IS THE sha256 OF THE DUMP (.gsa) THAT YtnfemjnajfdepaaProg.lean LOADS. Nothing in Lean hashes anything: it is a label: what it is worth is what the hold of that sum in a sandbox is worth. -/
noncomputable def Try.pinned : Pinned := { name := "ytnfemjnajfdepaa", sum := "266e6cac1ecd40edce6ffab37d8132440b7f6da45adf32173d643c475fe8d1d4", checked := Try.checked }
namespace Rows
def none {H : Type} : Left H := { results := [], args := [] }

/-- 'recouplaw22.ShareBest': WHATEVER THE INPUT: true; the input reads as it did. -/
def shareBestSpec : ChangeSpec := { name := "shareBest", fn := fun _ => fun
  | [d] => { results := [.lit (.bool true)], args := [d] }
  | _ => none }
def shareBestRow : OpenClaim := { program := "ytnfemjnajfdepaa", sum := "266e6cac1ecd40edce6ffab37d8132440b7f6da45adf32173d643c475fe8d1d4", func := "recoup/recouplaw22.ShareBest", spec := "shareBest", unfollowed := true, recurses := true, plainKeys := false, apart := false }
def ShareBestSaid : Prop := shareBestRow.holds Try.pinned (OpenSpec.ofChange shareBestSpec)

/-- ITS FALSE NEIGHBOUR: 'it returns false'. Refute it at one input. -/
def shareBestWrong : ChangeSpec := { name := "shareBest", fn := fun _ => fun
  | [d] => { results := [.lit (.bool false)], args := [d] }
  | _ => none }
def ShareBestWrongFalsely : Prop := shareBestRow.holds Try.pinned (OpenSpec.ofChange shareBestWrong)

/-- 'recouplaw22.ShareShares': WHATEVER THE INPUT: true; the input reads as it did. -/
def shareSharesSpec : ChangeSpec := { name := "shareShares", fn := fun _ => fun
  | [d] => { results := [.lit (.bool true)], args := [d] }
  | _ => none }
def shareSharesRow : OpenClaim := { program := "ytnfemjnajfdepaa", sum := "266e6cac1ecd40edce6ffab37d8132440b7f6da45adf32173d643c475fe8d1d4", func := "recoup/recouplaw22.ShareShares", spec := "shareShares", inPlace := ["slices.overlaps[recoup/api.Term]"], unfollowed := true, recurses := true, plainKeys := false, apart := false }
def ShareSharesSaid : Prop := shareSharesRow.holds Try.pinned (OpenSpec.ofChange shareSharesSpec)

/-- ITS FALSE NEIGHBOUR: 'it returns false'. Refute it at one input. -/
def shareSharesWrong : ChangeSpec := { name := "shareShares", fn := fun _ => fun
  | [d] => { results := [.lit (.bool false)], args := [d] }
  | _ => none }
def ShareSharesWrongFalsely : Prop := shareSharesRow.holds Try.pinned (OpenSpec.ofChange shareSharesWrong)

/-- 'recouplaw22.ShareOnce': WHATEVER THE INPUT: true; the input reads as it did. -/
def shareOnceSpec : ChangeSpec := { name := "shareOnce", fn := fun _ => fun
  | [d] => { results := [.lit (.bool true)], args := [d] }
  | _ => none }
def shareOnceRow : OpenClaim := { program := "ytnfemjnajfdepaa", sum := "266e6cac1ecd40edce6ffab37d8132440b7f6da45adf32173d643c475fe8d1d4", func := "recoup/recouplaw22.ShareOnce", spec := "shareOnce", inPlace := ["slices.overlaps[recoup/api.Term]"], unfollowed := true, recurses := true, plainKeys := false, apart := false }
def ShareOnceSaid : Prop := shareOnceRow.holds Try.pinned (OpenSpec.ofChange shareOnceSpec)

/-- ITS FALSE NEIGHBOUR: 'it returns false'. Refute it at one input. -/
def shareOnceWrong : ChangeSpec := { name := "shareOnce", fn := fun _ => fun
  | [d] => { results := [.lit (.bool false)], args := [d] }
  | _ => none }
def ShareOnceWrongFalsely : Prop := shareOnceRow.holds Try.pinned (OpenSpec.ofChange shareOnceWrong)

/-- 'recouplaw22.ShareLeaves': WHATEVER THE INPUT: true; the input reads as it did. -/
def shareLeavesSpec : ChangeSpec := { name := "shareLeaves", fn := fun _ => fun
  | [d] => { results := [.lit (.bool true)], args := [d] }
  | _ => none }
def shareLeavesRow : OpenClaim := { program := "ytnfemjnajfdepaa", sum := "266e6cac1ecd40edce6ffab37d8132440b7f6da45adf32173d643c475fe8d1d4", func := "recoup/recouplaw22.ShareLeaves", spec := "shareLeaves", inPlace := ["slices.overlaps[recoup/api.Term]"], unfollowed := true, recurses := true, plainKeys := false, apart := false }
def ShareLeavesSaid : Prop := shareLeavesRow.holds Try.pinned (OpenSpec.ofChange shareLeavesSpec)

/-- ITS FALSE NEIGHBOUR: 'it returns false'. Refute it at one input. -/
def shareLeavesWrong : ChangeSpec := { name := "shareLeaves", fn := fun _ => fun
  | [d] => { results := [.lit (.bool false)], args := [d] }
  | _ => none }
def ShareLeavesWrongFalsely : Prop := shareLeavesRow.holds Try.pinned (OpenSpec.ofChange shareLeavesWrong)

/-- 'recouplaw22.ShareEnds': WHATEVER THE INPUT: true; the input reads as it did. -/
def shareEndsSpec : ChangeSpec := { name := "shareEnds", fn := fun _ => fun
  | [d] => { results := [.lit (.bool true)], args := [d] }
  | _ => none }
def shareEndsRow : OpenClaim := { program := "ytnfemjnajfdepaa", sum := "266e6cac1ecd40edce6ffab37d8132440b7f6da45adf32173d643c475fe8d1d4", func := "recoup/recouplaw22.ShareEnds", spec := "shareEnds", inPlace := ["slices.overlaps[recoup/api.Term]"], unfollowed := true, recurses := true, plainKeys := false, apart := false }
def ShareEndsSaid : Prop := shareEndsRow.holds Try.pinned (OpenSpec.ofChange shareEndsSpec)

/-- ITS FALSE NEIGHBOUR: 'it returns false'. Refute it at one input. -/
def shareEndsWrong : ChangeSpec := { name := "shareEnds", fn := fun _ => fun
  | [d] => { results := [.lit (.bool false)], args := [d] }
  | _ => none }
def ShareEndsWrongFalsely : Prop := shareEndsRow.holds Try.pinned (OpenSpec.ofChange shareEndsWrong)

/-- 'recouplaw22.ShareSteps': WHATEVER THE INPUT: true; the input reads as it did. -/
def shareStepsSpec : ChangeSpec := { name := "shareSteps", fn := fun _ => fun
  | [d] => { results := [.lit (.bool true)], args := [d] }
  | _ => none }
def shareStepsRow : OpenClaim := { program := "ytnfemjnajfdepaa", sum := "266e6cac1ecd40edce6ffab37d8132440b7f6da45adf32173d643c475fe8d1d4", func := "recoup/recouplaw22.ShareSteps", spec := "shareSteps", inPlace := ["slices.overlaps[recoup/api.Term]"], unfollowed := true, recurses := true, plainKeys := false, apart := false }
def ShareStepsSaid : Prop := shareStepsRow.holds Try.pinned (OpenSpec.ofChange shareStepsSpec)

/-- ITS FALSE NEIGHBOUR: 'it returns false'. Refute it at one input. -/
def shareStepsWrong : ChangeSpec := { name := "shareSteps", fn := fun _ => fun
  | [d] => { results := [.lit (.bool false)], args := [d] }
  | _ => none }
def ShareStepsWrongFalsely : Prop := shareStepsRow.holds Try.pinned (OpenSpec.ofChange shareStepsWrong)

/-- 'recouplaw22.ShareFresh': WHATEVER THE INPUT: true; the input reads as it did. -/
def shareFreshSpec : ChangeSpec := { name := "shareFresh", fn := fun _ => fun
  | [d] => { results := [.lit (.bool true)], args := [d] }
  | _ => none }
def shareFreshRow : OpenClaim := { program := "ytnfemjnajfdepaa", sum := "266e6cac1ecd40edce6ffab37d8132440b7f6da45adf32173d643c475fe8d1d4", func := "recoup/recouplaw22.ShareFresh", spec := "shareFresh", inPlace := ["slices.overlaps[recoup/api.Term]"], unfollowed := true, recurses := true, plainKeys := false, apart := false }
def ShareFreshSaid : Prop := shareFreshRow.holds Try.pinned (OpenSpec.ofChange shareFreshSpec)

/-- ITS FALSE NEIGHBOUR: 'it returns false'. Refute it at one input. -/
def shareFreshWrong : ChangeSpec := { name := "shareFresh", fn := fun _ => fun
  | [d] => { results := [.lit (.bool false)], args := [d] }
  | _ => none }
def ShareFreshWrongFalsely : Prop := shareFreshRow.holds Try.pinned (OpenSpec.ofChange shareFreshWrong)

/- THE SECOND FORM. 'bulk': how many values and letters a reading holds, each counted each time it is reached (what is shared counts as often as it is met; a slice's spare places count too). A statement '..UptoSaid' is the law's where the arguments, and the package variables that the reading takes, are together of bulk at most 1048576: NARROWER than '..Said'. Prove '..Said' where nothing that the law and all that it calls make is longer than what came in: it says more and counts as full. Else prove '..UptoSaid'. A law counts once. -/
mutual
def uptoBulk {H : Type} : DataW H → Nat
  | .lit (.string bytes) => bytes.length + 1
  | .lit _ => 1
  | .nil => 1
  | .ptr d => uptoBulk d + 1
  | .slice elems spare => uptoBulkAll elems + uptoBulkAll spare + 1
  | .agg parts => uptoBulkAll parts + 1
  | .iface _ d => uptoBulk d + 1
  | .map entries => uptoBulkEntries entries + 1
  | .held _ => 1
def uptoBulkAll {H : Type} : List (DataW H) → Nat
  | [] => 0
  | d :: r => uptoBulk d + uptoBulkAll r
def uptoBulkEntries {H : Type} : List (Lit × DataW H) → Nat
  | [] => 0
  | x :: r => uptoBulkEntry x + uptoBulkEntries r
def uptoBulkEntry {H : Type} : Lit × DataW H → Nat
  | (.string bytes, d) => bytes.length + uptoBulk d + 1
  | (_, d) => uptoBulk d + 1
 end
def uptoSmall : (H : Type) → List (DataW H) → Bool := fun _ ds => decide (uptoBulkAll ds ≤ 1048576)
def OpenSpec.upto (s : _root_.Go.ChangeSpec) : _root_.Go.OpenSpec := { _root_.Go.OpenSpec.ofChange s with cond := some uptoSmall }

/-- 'recouplaw22.ShareBest', WHERE WHAT IT READS IS OF BULK AT MOST 1048576: true; the input reads as it did. -/
def shareBestUptoRow : OpenClaim := { program := "ytnfemjnajfdepaa", sum := "266e6cac1ecd40edce6ffab37d8132440b7f6da45adf32173d643c475fe8d1d4", func := "recoup/recouplaw22.ShareBest", spec := "shareBest", unfollowed := true, recurses := true, plainKeys := false, apart := false, narrowed := true }
def ShareBestUptoSaid : Prop := shareBestUptoRow.holds Try.pinned (OpenSpec.upto shareBestSpec)

/-- 'recouplaw22.ShareShares', WHERE WHAT IT READS IS OF BULK AT MOST 1048576: true; the input reads as it did. -/
def shareSharesUptoRow : OpenClaim := { program := "ytnfemjnajfdepaa", sum := "266e6cac1ecd40edce6ffab37d8132440b7f6da45adf32173d643c475fe8d1d4", func := "recoup/recouplaw22.ShareShares", spec := "shareShares", inPlace := ["slices.overlaps[recoup/api.Term]"], unfollowed := true, recurses := true, plainKeys := false, apart := false, narrowed := true }
def ShareSharesUptoSaid : Prop := shareSharesUptoRow.holds Try.pinned (OpenSpec.upto shareSharesSpec)

/-- 'recouplaw22.ShareOnce', WHERE WHAT IT READS IS OF BULK AT MOST 1048576: true; the input reads as it did. -/
def shareOnceUptoRow : OpenClaim := { program := "ytnfemjnajfdepaa", sum := "266e6cac1ecd40edce6ffab37d8132440b7f6da45adf32173d643c475fe8d1d4", func := "recoup/recouplaw22.ShareOnce", spec := "shareOnce", inPlace := ["slices.overlaps[recoup/api.Term]"], unfollowed := true, recurses := true, plainKeys := false, apart := false, narrowed := true }
def ShareOnceUptoSaid : Prop := shareOnceUptoRow.holds Try.pinned (OpenSpec.upto shareOnceSpec)

/-- 'recouplaw22.ShareLeaves', WHERE WHAT IT READS IS OF BULK AT MOST 1048576: true; the input reads as it did. -/
def shareLeavesUptoRow : OpenClaim := { program := "ytnfemjnajfdepaa", sum := "266e6cac1ecd40edce6ffab37d8132440b7f6da45adf32173d643c475fe8d1d4", func := "recoup/recouplaw22.ShareLeaves", spec := "shareLeaves", inPlace := ["slices.overlaps[recoup/api.Term]"], unfollowed := true, recurses := true, plainKeys := false, apart := false, narrowed := true }
def ShareLeavesUptoSaid : Prop := shareLeavesUptoRow.holds Try.pinned (OpenSpec.upto shareLeavesSpec)

/-- 'recouplaw22.ShareEnds', WHERE WHAT IT READS IS OF BULK AT MOST 1048576: true; the input reads as it did. -/
def shareEndsUptoRow : OpenClaim := { program := "ytnfemjnajfdepaa", sum := "266e6cac1ecd40edce6ffab37d8132440b7f6da45adf32173d643c475fe8d1d4", func := "recoup/recouplaw22.ShareEnds", spec := "shareEnds", inPlace := ["slices.overlaps[recoup/api.Term]"], unfollowed := true, recurses := true, plainKeys := false, apart := false, narrowed := true }
def ShareEndsUptoSaid : Prop := shareEndsUptoRow.holds Try.pinned (OpenSpec.upto shareEndsSpec)

/-- 'recouplaw22.ShareSteps', WHERE WHAT IT READS IS OF BULK AT MOST 1048576: true; the input reads as it did. -/
def shareStepsUptoRow : OpenClaim := { program := "ytnfemjnajfdepaa", sum := "266e6cac1ecd40edce6ffab37d8132440b7f6da45adf32173d643c475fe8d1d4", func := "recoup/recouplaw22.ShareSteps", spec := "shareSteps", inPlace := ["slices.overlaps[recoup/api.Term]"], unfollowed := true, recurses := true, plainKeys := false, apart := false, narrowed := true }
def ShareStepsUptoSaid : Prop := shareStepsUptoRow.holds Try.pinned (OpenSpec.upto shareStepsSpec)

/-- 'recouplaw22.ShareFresh', WHERE WHAT IT READS IS OF BULK AT MOST 1048576: true; the input reads as it did. -/
def shareFreshUptoRow : OpenClaim := { program := "ytnfemjnajfdepaa", sum := "266e6cac1ecd40edce6ffab37d8132440b7f6da45adf32173d643c475fe8d1d4", func := "recoup/recouplaw22.ShareFresh", spec := "shareFresh", inPlace := ["slices.overlaps[recoup/api.Term]"], unfollowed := true, recurses := true, plainKeys := false, apart := false, narrowed := true }
def ShareFreshUptoSaid : Prop := shareFreshUptoRow.holds Try.pinned (OpenSpec.upto shareFreshSpec)

end Rows
end Go.Proofs.Ytnfemjnajfdepaa
