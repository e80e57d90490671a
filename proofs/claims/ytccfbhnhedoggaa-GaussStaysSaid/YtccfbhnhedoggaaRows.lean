/-
  No cell of these rows narrows 'for every input' (looked for: loops, veiled, ifaces, maps, wideKeys, modest, calm, conditions, laid).
  DERIVED. THE GIVEN ROWS OF THIS SEAT. 11 by the template 'for every input the law returns true; each argument reads behind the call as it read before'; 0 by the template 'total and deterministic' (their statements: YtccfbhnhedoggaaTotals.lean).
  GIVEN WITH THE SEED: the statements are not yours to turn. If you find one false, say at which input.
  Laid BY PROGRAM, IN A SANDBOX (cutbox-rows.mjs): the forced cells as the released guide's own fill.sh prints them over the translation 787bcc2159133045… (all of the seat's roots in one cut). By AI agents, Wed Nov 11 2026. No macro, syntax, notation, axiom, sorry.
-/
import Derived.Test.YtccfbhnhedoggaaChecked
import GoSem.Claim
import GoSem.ClaimJoined
import GoSem.ClaimMapViews
import Derived.JoinedTies
import Derived.KernelRfl
namespace Go.Proofs.Ytccfbhnhedoggaa
/- THE CELL 'sum', in the pinned program and in every row, IS THE sha256 OF THE DUMP (.gsa) THAT YtccfbhnhedoggaaProg.lean LOADS. Nothing in Lean hashes anything: it is a label: what it is worth is what the hold of that sum in a sandbox is worth. -/
noncomputable def Try.pinned : Pinned := { name := "ytccfbhnhedoggaa", sum := "787bcc2159133045eedcc37e0961dae4c88c6059255965db0e508da55e37aae4", checked := Try.checked }
namespace Rows
def none {H : Type} : Left H := { results := [], args := [] }

/-- 'recouplaw04.GaussReduces': WHATEVER THE INPUT: true; the input reads as it did. -/
def gaussReducesSpec : ChangeSpec := { name := "gaussReduces", fn := fun _ => fun
  | [d] => { results := [.lit (.bool true)], args := [d] }
  | _ => none }
def gaussReducesRow : OpenClaim := { program := "ytccfbhnhedoggaa", sum := "787bcc2159133045eedcc37e0961dae4c88c6059255965db0e508da55e37aae4", func := "recoup/recouplaw04.GaussReduces", spec := "gaussReduces", inPlace := ["internal/bytealg.MakeNoZero"], unfollowed := true, recurses := true, apart := false }
def GaussReducesSaid : Prop := gaussReducesRow.holds Try.pinned (OpenSpec.ofChange gaussReducesSpec)

/-- ITS FALSE NEIGHBOUR: 'it returns false'. Refute it at one input. -/
def gaussReducesWrong : ChangeSpec := { name := "gaussReduces", fn := fun _ => fun
  | [d] => { results := [.lit (.bool false)], args := [d] }
  | _ => none }
def GaussReducesWrongFalsely : Prop := gaussReducesRow.holds Try.pinned (OpenSpec.ofChange gaussReducesWrong)

/-- 'recouplaw04.GaussInverts': WHATEVER THE INPUT: true; the input reads as it did. -/
def gaussInvertsSpec : ChangeSpec := { name := "gaussInverts", fn := fun _ => fun
  | [d] => { results := [.lit (.bool true)], args := [d] }
  | _ => none }
def gaussInvertsRow : OpenClaim := { program := "ytccfbhnhedoggaa", sum := "787bcc2159133045eedcc37e0961dae4c88c6059255965db0e508da55e37aae4", func := "recoup/recouplaw04.GaussInverts", spec := "gaussInverts", inPlace := ["internal/bytealg.MakeNoZero"], unfollowed := true, recurses := true, apart := false }
def GaussInvertsSaid : Prop := gaussInvertsRow.holds Try.pinned (OpenSpec.ofChange gaussInvertsSpec)

/-- ITS FALSE NEIGHBOUR: 'it returns false'. Refute it at one input. -/
def gaussInvertsWrong : ChangeSpec := { name := "gaussInverts", fn := fun _ => fun
  | [d] => { results := [.lit (.bool false)], args := [d] }
  | _ => none }
def GaussInvertsWrongFalsely : Prop := gaussInvertsRow.holds Try.pinned (OpenSpec.ofChange gaussInvertsWrong)

/-- 'recouplaw04.GaussStays': WHATEVER THE INPUT: true; the input reads as it did. -/
def gaussStaysSpec : ChangeSpec := { name := "gaussStays", fn := fun _ => fun
  | [d1, d2, d3] => { results := [.lit (.bool true)], args := [d1, d2, d3] }
  | _ => none }
def gaussStaysRow : OpenClaim := { program := "ytccfbhnhedoggaa", sum := "787bcc2159133045eedcc37e0961dae4c88c6059255965db0e508da55e37aae4", func := "recoup/recouplaw04.GaussStays", spec := "gaussStays", inPlace := ["internal/bytealg.MakeNoZero"], unfollowed := true, recurses := true, apart := false }
def GaussStaysSaid : Prop := gaussStaysRow.holds Try.pinned (OpenSpec.ofChange gaussStaysSpec)

/-- ITS FALSE NEIGHBOUR: 'it returns false'. Refute it at one input. -/
def gaussStaysWrong : ChangeSpec := { name := "gaussStays", fn := fun _ => fun
  | [d1, d2, d3] => { results := [.lit (.bool false)], args := [d1, d2, d3] }
  | _ => none }
def GaussStaysWrongFalsely : Prop := gaussStaysRow.holds Try.pinned (OpenSpec.ofChange gaussStaysWrong)

/-- 'recouplaw04.GaussProduct': WHATEVER THE INPUT: true; the input reads as it did. -/
def gaussProductSpec : ChangeSpec := { name := "gaussProduct", fn := fun _ => fun
  | [d1, d2] => { results := [.lit (.bool true)], args := [d1, d2] }
  | _ => none }
def gaussProductRow : OpenClaim := { program := "ytccfbhnhedoggaa", sum := "787bcc2159133045eedcc37e0961dae4c88c6059255965db0e508da55e37aae4", func := "recoup/recouplaw04.GaussProduct", spec := "gaussProduct", inPlace := ["internal/bytealg.MakeNoZero"], unfollowed := true, recurses := true, apart := false }
def GaussProductSaid : Prop := gaussProductRow.holds Try.pinned (OpenSpec.ofChange gaussProductSpec)

/-- ITS FALSE NEIGHBOUR: 'it returns false'. Refute it at one input. -/
def gaussProductWrong : ChangeSpec := { name := "gaussProduct", fn := fun _ => fun
  | [d1, d2] => { results := [.lit (.bool false)], args := [d1, d2] }
  | _ => none }
def GaussProductWrongFalsely : Prop := gaussProductRow.holds Try.pinned (OpenSpec.ofChange gaussProductWrong)

/-- 'recouplaw04.GaussBack': WHATEVER THE INPUT: true; the input reads as it did. -/
def gaussBackSpec : ChangeSpec := { name := "gaussBack", fn := fun _ => fun
  | [d] => { results := [.lit (.bool true)], args := [d] }
  | _ => none }
def gaussBackRow : OpenClaim := { program := "ytccfbhnhedoggaa", sum := "787bcc2159133045eedcc37e0961dae4c88c6059255965db0e508da55e37aae4", func := "recoup/recouplaw04.GaussBack", spec := "gaussBack", inPlace := ["internal/bytealg.MakeNoZero"], unfollowed := true, recurses := true, apart := false }
def GaussBackSaid : Prop := gaussBackRow.holds Try.pinned (OpenSpec.ofChange gaussBackSpec)

/-- ITS FALSE NEIGHBOUR: 'it returns false'. Refute it at one input. -/
def gaussBackWrong : ChangeSpec := { name := "gaussBack", fn := fun _ => fun
  | [d] => { results := [.lit (.bool false)], args := [d] }
  | _ => none }
def GaussBackWrongFalsely : Prop := gaussBackRow.holds Try.pinned (OpenSpec.ofChange gaussBackWrong)

/-- 'recouplaw04.GaussSolves': WHATEVER THE INPUT: true; the input reads as it did. -/
def gaussSolvesSpec : ChangeSpec := { name := "gaussSolves", fn := fun _ => fun
  | [d1, d2] => { results := [.lit (.bool true)], args := [d1, d2] }
  | _ => none }
def gaussSolvesRow : OpenClaim := { program := "ytccfbhnhedoggaa", sum := "787bcc2159133045eedcc37e0961dae4c88c6059255965db0e508da55e37aae4", func := "recoup/recouplaw04.GaussSolves", spec := "gaussSolves", inPlace := ["internal/bytealg.MakeNoZero"], unfollowed := true, recurses := true, apart := false }
def GaussSolvesSaid : Prop := gaussSolvesRow.holds Try.pinned (OpenSpec.ofChange gaussSolvesSpec)

/-- ITS FALSE NEIGHBOUR: 'it returns false'. Refute it at one input. -/
def gaussSolvesWrong : ChangeSpec := { name := "gaussSolves", fn := fun _ => fun
  | [d1, d2] => { results := [.lit (.bool false)], args := [d1, d2] }
  | _ => none }
def GaussSolvesWrongFalsely : Prop := gaussSolvesRow.holds Try.pinned (OpenSpec.ofChange gaussSolvesWrong)

/-- 'recouplaw04.GaussSends': WHATEVER THE INPUT: true; the input reads as it did. -/
def gaussSendsSpec : ChangeSpec := { name := "gaussSends", fn := fun _ => fun
  | [d1, d2] => { results := [.lit (.bool true)], args := [d1, d2] }
  | _ => none }
def gaussSendsRow : OpenClaim := { program := "ytccfbhnhedoggaa", sum := "787bcc2159133045eedcc37e0961dae4c88c6059255965db0e508da55e37aae4", func := "recoup/recouplaw04.GaussSends", spec := "gaussSends", inPlace := ["internal/bytealg.MakeNoZero"], unfollowed := true, recurses := true, apart := false }
def GaussSendsSaid : Prop := gaussSendsRow.holds Try.pinned (OpenSpec.ofChange gaussSendsSpec)

/-- ITS FALSE NEIGHBOUR: 'it returns false'. Refute it at one input. -/
def gaussSendsWrong : ChangeSpec := { name := "gaussSends", fn := fun _ => fun
  | [d1, d2] => { results := [.lit (.bool false)], args := [d1, d2] }
  | _ => none }
def GaussSendsWrongFalsely : Prop := gaussSendsRow.holds Try.pinned (OpenSpec.ofChange gaussSendsWrong)

/-- 'recouplaw04.GaussRanks': WHATEVER THE INPUT: true; the input reads as it did. -/
def gaussRanksSpec : ChangeSpec := { name := "gaussRanks", fn := fun _ => fun
  | [d] => { results := [.lit (.bool true)], args := [d] }
  | _ => none }
def gaussRanksRow : OpenClaim := { program := "ytccfbhnhedoggaa", sum := "787bcc2159133045eedcc37e0961dae4c88c6059255965db0e508da55e37aae4", func := "recoup/recouplaw04.GaussRanks", spec := "gaussRanks", inPlace := ["internal/bytealg.MakeNoZero"], unfollowed := true, recurses := true, apart := false }
def GaussRanksSaid : Prop := gaussRanksRow.holds Try.pinned (OpenSpec.ofChange gaussRanksSpec)

/-- ITS FALSE NEIGHBOUR: 'it returns false'. Refute it at one input. -/
def gaussRanksWrong : ChangeSpec := { name := "gaussRanks", fn := fun _ => fun
  | [d] => { results := [.lit (.bool false)], args := [d] }
  | _ => none }
def GaussRanksWrongFalsely : Prop := gaussRanksRow.holds Try.pinned (OpenSpec.ofChange gaussRanksWrong)

/-- 'recouplaw04.GaussCombines': WHATEVER THE INPUT: true; the input reads as it did. -/
def gaussCombinesSpec : ChangeSpec := { name := "gaussCombines", fn := fun _ => fun
  | [d1, d2] => { results := [.lit (.bool true)], args := [d1, d2] }
  | _ => none }
def gaussCombinesRow : OpenClaim := { program := "ytccfbhnhedoggaa", sum := "787bcc2159133045eedcc37e0961dae4c88c6059255965db0e508da55e37aae4", func := "recoup/recouplaw04.GaussCombines", spec := "gaussCombines", inPlace := ["internal/bytealg.MakeNoZero"], unfollowed := true, recurses := true, apart := false }
def GaussCombinesSaid : Prop := gaussCombinesRow.holds Try.pinned (OpenSpec.ofChange gaussCombinesSpec)

/-- ITS FALSE NEIGHBOUR: 'it returns false'. Refute it at one input. -/
def gaussCombinesWrong : ChangeSpec := { name := "gaussCombines", fn := fun _ => fun
  | [d1, d2] => { results := [.lit (.bool false)], args := [d1, d2] }
  | _ => none }
def GaussCombinesWrongFalsely : Prop := gaussCombinesRow.holds Try.pinned (OpenSpec.ofChange gaussCombinesWrong)

/-- 'recouplaw04.GaussPuts': WHATEVER THE INPUT: true; the input reads as it did. -/
def gaussPutsSpec : ChangeSpec := { name := "gaussPuts", fn := fun _ => fun
  | [d1, d2] => { results := [.lit (.bool true)], args := [d1, d2] }
  | _ => none }
def gaussPutsRow : OpenClaim := { program := "ytccfbhnhedoggaa", sum := "787bcc2159133045eedcc37e0961dae4c88c6059255965db0e508da55e37aae4", func := "recoup/recouplaw04.GaussPuts", spec := "gaussPuts", inPlace := ["internal/bytealg.MakeNoZero"], unfollowed := true, recurses := true, apart := false }
def GaussPutsSaid : Prop := gaussPutsRow.holds Try.pinned (OpenSpec.ofChange gaussPutsSpec)

/-- ITS FALSE NEIGHBOUR: 'it returns false'. Refute it at one input. -/
def gaussPutsWrong : ChangeSpec := { name := "gaussPuts", fn := fun _ => fun
  | [d1, d2] => { results := [.lit (.bool false)], args := [d1, d2] }
  | _ => none }
def GaussPutsWrongFalsely : Prop := gaussPutsRow.holds Try.pinned (OpenSpec.ofChange gaussPutsWrong)

/-- 'recouplaw04.GaussFresh': WHATEVER THE INPUT: true; the input reads as it did. -/
def gaussFreshSpec : ChangeSpec := { name := "gaussFresh", fn := fun _ => fun
  | [d1, d2] => { results := [.lit (.bool true)], args := [d1, d2] }
  | _ => none }
def gaussFreshRow : OpenClaim := { program := "ytccfbhnhedoggaa", sum := "787bcc2159133045eedcc37e0961dae4c88c6059255965db0e508da55e37aae4", func := "recoup/recouplaw04.GaussFresh", spec := "gaussFresh", inPlace := ["internal/bytealg.MakeNoZero"], unfollowed := true, recurses := true, apart := false }
def GaussFreshSaid : Prop := gaussFreshRow.holds Try.pinned (OpenSpec.ofChange gaussFreshSpec)

/-- ITS FALSE NEIGHBOUR: 'it returns false'. Refute it at one input. -/
def gaussFreshWrong : ChangeSpec := { name := "gaussFresh", fn := fun _ => fun
  | [d1, d2] => { results := [.lit (.bool false)], args := [d1, d2] }
  | _ => none }
def GaussFreshWrongFalsely : Prop := gaussFreshRow.holds Try.pinned (OpenSpec.ofChange gaussFreshWrong)

/- THE SECOND FORM. 'bulk': how many values and letters a reading holds, each counted each time it is reached (what is shared counts as often as it is met; a slice's spare places count too). A statement '..UptoSaid' is the law's where the arguments, and the package variables that the reading takes, are together of bulk at most 1048576: NARROWER than '..Said'. Prove '..Said' where nothing that the law and all that it calls make is longer than what came in: it says more and counts as full. Else prove '..UptoSaid'. A law counts once. -/
mutual
def uptoBulk {H : Type} : DataW H → Nat
  | .lit (.string bytes) => bytes.length + 1
  | .lit _ => 1
  | .nil => 1
  | .ptr d => uptoBulk d + 1
  | .slice elems spare => uptoBulkAll elems + uptoBulkAll spare + 1
  | .agg parts => uptoBulkAll parts + 1
  | .iface _ d => uptoBulk d + 1
  | .map entries => uptoBulkEntries entries + 1
  | .held _ => 1
def uptoBulkAll {H : Type} : List (DataW H) → Nat
  | [] => 0
  | d :: r => uptoBulk d + uptoBulkAll r
def uptoBulkEntries {H : Type} : List (Lit × DataW H) → Nat
  | [] => 0
  | x :: r => uptoBulkEntry x + uptoBulkEntries r
def uptoBulkEntry {H : Type} : Lit × DataW H → Nat
  | (.string bytes, d) => bytes.length + uptoBulk d + 1
  | (_, d) => uptoBulk d + 1
 end
def uptoSmall : (H : Type) → List (DataW H) → Bool := fun _ ds => decide (uptoBulkAll ds ≤ 1048576)
def OpenSpec.upto (s : _root_.Go.ChangeSpec) : _root_.Go.OpenSpec := { _root_.Go.OpenSpec.ofChange s with cond := some uptoSmall }

/-- 'recouplaw04.GaussReduces', WHERE WHAT IT READS IS OF BULK AT MOST 1048576: true; the input reads as it did. -/
def gaussReducesUptoRow : OpenClaim := { program := "ytccfbhnhedoggaa", sum := "787bcc2159133045eedcc37e0961dae4c88c6059255965db0e508da55e37aae4", func := "recoup/recouplaw04.GaussReduces", spec := "gaussReduces", inPlace := ["internal/bytealg.MakeNoZero"], unfollowed := true, recurses := true, apart := false, narrowed := true }
def GaussReducesUptoSaid : Prop := gaussReducesUptoRow.holds Try.pinned (OpenSpec.upto gaussReducesSpec)

/-- 'recouplaw04.GaussInverts', WHERE WHAT IT READS IS OF BULK AT MOST 1048576: true; the input reads as it did. -/
def gaussInvertsUptoRow : OpenClaim := { program := "ytccfbhnhedoggaa", sum := "787bcc2159133045eedcc37e0961dae4c88c6059255965db0e508da55e37aae4", func := "recoup/recouplaw04.GaussInverts", spec := "gaussInverts", inPlace := ["internal/bytealg.MakeNoZero"], unfollowed := true, recurses := true, apart := false, narrowed := true }
def GaussInvertsUptoSaid : Prop := gaussInvertsUptoRow.holds Try.pinned (OpenSpec.upto gaussInvertsSpec)

/-- 'recouplaw04.GaussStays', WHERE WHAT IT READS IS OF BULK AT MOST 1048576: true; the input reads as it did. -/
def gaussStaysUptoRow : OpenClaim := { program := "ytccfbhnhedoggaa", sum := "787bcc2159133045eedcc37e0961dae4c88c6059255965db0e508da55e37aae4", func := "recoup/recouplaw04.GaussStays", spec := "gaussStays", inPlace := ["internal/bytealg.MakeNoZero"], unfollowed := true, recurses := true, apart := false, narrowed := true }
def GaussStaysUptoSaid : Prop := gaussStaysUptoRow.holds Try.pinned (OpenSpec.upto gaussStaysSpec)

/-- 'recouplaw04.GaussProduct', WHERE WHAT IT READS IS OF BULK AT MOST 1048576: true; the input reads as it did. -/
def gaussProductUptoRow : OpenClaim := { program := "ytccfbhnhedoggaa", sum := "787bcc2159133045eedcc37e0961dae4c88c6059255965db0e508da55e37aae4", func := "recoup/recouplaw04.GaussProduct", spec := "gaussProduct", inPlace := ["internal/bytealg.MakeNoZero"], unfollowed := true, recurses := true, apart := false, narrowed := true }
def GaussProductUptoSaid : Prop := gaussProductUptoRow.holds Try.pinned (OpenSpec.upto gaussProductSpec)

/-- 'recouplaw04.GaussBack', WHERE WHAT IT READS IS OF BULK AT MOST 1048576: true; the input reads as it did. -/
def gaussBackUptoRow : OpenClaim := { program := "ytccfbhnhedoggaa", sum := "787bcc2159133045eedcc37e0961dae4c88c6059255965db0e508da55e37aae4", func := "recoup/recouplaw04.GaussBack", spec := "gaussBack", inPlace := ["internal/bytealg.MakeNoZero"], unfollowed := true, recurses := true, apart := false, narrowed := true }
def GaussBackUptoSaid : Prop := gaussBackUptoRow.holds Try.pinned (OpenSpec.upto gaussBackSpec)

/-- 'recouplaw04.GaussSolves', WHERE WHAT IT READS IS OF BULK AT MOST 1048576: true; the input reads as it did. -/
def gaussSolvesUptoRow : OpenClaim := { program := "ytccfbhnhedoggaa", sum := "787bcc2159133045eedcc37e0961dae4c88c6059255965db0e508da55e37aae4", func := "recoup/recouplaw04.GaussSolves", spec := "gaussSolves", inPlace := ["internal/bytealg.MakeNoZero"], unfollowed := true, recurses := true, apart := false, narrowed := true }
def GaussSolvesUptoSaid : Prop := gaussSolvesUptoRow.holds Try.pinned (OpenSpec.upto gaussSolvesSpec)

/-- 'recouplaw04.GaussSends', WHERE WHAT IT READS IS OF BULK AT MOST 1048576: true; the input reads as it did. -/
def gaussSendsUptoRow : OpenClaim := { program := "ytccfbhnhedoggaa", sum := "787bcc2159133045eedcc37e0961dae4c88c6059255965db0e508da55e37aae4", func := "recoup/recouplaw04.GaussSends", spec := "gaussSends", inPlace := ["internal/bytealg.MakeNoZero"], unfollowed := true, recurses := true, apart := false, narrowed := true }
def GaussSendsUptoSaid : Prop := gaussSendsUptoRow.holds Try.pinned (OpenSpec.upto gaussSendsSpec)

/-- 'recouplaw04.GaussRanks', WHERE WHAT IT READS IS OF BULK AT MOST 1048576: true; the input reads as it did. -/
def gaussRanksUptoRow : OpenClaim := { program := "ytccfbhnhedoggaa", sum := "787bcc2159133045eedcc37e0961dae4c88c6059255965db0e508da55e37aae4", func := "recoup/recouplaw04.GaussRanks", spec := "gaussRanks", inPlace := ["internal/bytealg.MakeNoZero"], unfollowed := true, recurses := true, apart := false, narrowed := true }
def GaussRanksUptoSaid : Prop := gaussRanksUptoRow.holds Try.pinned (OpenSpec.upto gaussRanksSpec)

/-- 'recouplaw04.GaussCombines', WHERE WHAT IT READS IS OF BULK AT MOST 1048576: true; the input reads as it did. -/
def gaussCombinesUptoRow : OpenClaim := { program := "ytccfbhnhedoggaa", sum := "787bcc2159133045eedcc37e0961dae4c88c6059255965db0e508da55e37aae4", func := "recoup/recouplaw04.GaussCombines", spec := "gaussCombines", inPlace := ["internal/bytealg.MakeNoZero"], unfollowed := true, recurses := true, apart := false, narrowed := true }
def GaussCombinesUptoSaid : Prop := gaussCombinesUptoRow.holds Try.pinned (OpenSpec.upto gaussCombinesSpec)

/-- 'recouplaw04.GaussPuts', WHERE WHAT IT READS IS OF BULK AT MOST 1048576: true; the input reads as it did. -/
def gaussPutsUptoRow : OpenClaim := { program := "ytccfbhnhedoggaa", sum := "787bcc2159133045eedcc37e0961dae4c88c6059255965db0e508da55e37aae4", func := "recoup/recouplaw04.GaussPuts", spec := "gaussPuts", inPlace := ["internal/bytealg.MakeNoZero"], unfollowed := true, recurses := true, apart := false, narrowed := true }
def GaussPutsUptoSaid : Prop := gaussPutsUptoRow.holds Try.pinned (OpenSpec.upto gaussPutsSpec)

/-- 'recouplaw04.GaussFresh', WHERE WHAT IT READS IS OF BULK AT MOST 1048576: true; the input reads as it did. -/
def gaussFreshUptoRow : OpenClaim := { program := "ytccfbhnhedoggaa", sum := "787bcc2159133045eedcc37e0961dae4c88c6059255965db0e508da55e37aae4", func := "recoup/recouplaw04.GaussFresh", spec := "gaussFresh", inPlace := ["internal/bytealg.MakeNoZero"], unfollowed := true, recurses := true, apart := false, narrowed := true }
def GaussFreshUptoSaid : Prop := gaussFreshUptoRow.holds Try.pinned (OpenSpec.upto gaussFreshSpec)

end Rows
end Go.Proofs.Ytccfbhnhedoggaa
