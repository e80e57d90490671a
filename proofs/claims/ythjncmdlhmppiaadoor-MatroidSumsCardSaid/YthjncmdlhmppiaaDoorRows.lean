/-
  NARROWER THAN 'FOR EVERY INPUT', by the rows' own cells (each row's printed sentence says how): MatroidRanks: laid · MatroidSpans: laid · MatroidCircuits: laid · MatroidSums: laid · MatroidLeast: laid · MatroidGrows: laid · MatroidNeeds: laid · MatroidCloses: laid · MatroidKept: laid.
  DERIVED. THE GIVEN ROWS OF THIS SEAT. 9 by the template 'for every input the law returns true; each argument reads behind the call as it read before'; 0 by the template 'total and deterministic' (their statements: YthjncmdlhmppiaaDoorTotals.lean).
  GIVEN WITH THE SEED: the statements are not yours to turn. If you find one false, say at which input.
  Laid BY PROGRAM, IN A SANDBOX (cutbox-rows.mjs): the forced cells as the released guide's own fill.sh prints them over the translation 52ebf75cb6836798… (all of the seat's roots in one cut). By AI agents, Wed Nov 11 2026. No macro, syntax, notation, axiom, sorry.
-/
import Derived.Test.YthjncmdlhmppiaaDoorChecked
import GoSem.Claim
import GoSem.ClaimJoined
import GoSem.ClaimMapViews
import Derived.JoinedTies
import Derived.KernelRfl
namespace Go.Proofs.YthjncmdlhmppiaaDoor
/- THE CELL 'sum', in the pinned program and in every row, IS THE sha256 OF THE DUMP (.gsa) THAT YthjncmdlhmppiaaDoorProg.lean LOADS. Nothing in Lean hashes anything: it is a label: what it is worth is what the hold of that sum in a sandbox is worth. -/
noncomputable def Tryd.pinned : Pinned := { name := "ythjncmdlhmppiaadoor", sum := "52ebf75cb6836798cf9f7a3db442dd1fcc0fb0686ef53483d4793c197d9df478", checked := Tryd.checked }
namespace Rows
def none {H : Type} : Left H := { results := [], args := [] }

/- WHAT THE LISTED PACKAGE-LEVEL VARIABLES READ AS WHEN THE CALL BEGINS. Each datum BY PROGRAM (the guide's laid-datum.mjs) off the statement by which the dump's own 'gosem.cut.vars' lays the variable. In a bare row this is a premise. The card (YthjncmdlhmppiaaDoorCards.lean) ties it to the program's text. -/
def laid_math_bits_deBruijn64tab {H : Type} : DataW H := .agg [.lit (.int .u8 0), .lit (.int .u8 1), .lit (.int .u8 56), .lit (.int .u8 2), .lit (.int .u8 57), .lit (.int .u8 49), .lit (.int .u8 28), .lit (.int .u8 3), .lit (.int .u8 61), .lit (.int .u8 58), .lit (.int .u8 42), .lit (.int .u8 50), .lit (.int .u8 38), .lit (.int .u8 29), .lit (.int .u8 17), .lit (.int .u8 4), .lit (.int .u8 62), .lit (.int .u8 47), .lit (.int .u8 59), .lit (.int .u8 36), .lit (.int .u8 45), .lit (.int .u8 43), .lit (.int .u8 51), .lit (.int .u8 22), .lit (.int .u8 53), .lit (.int .u8 39), .lit (.int .u8 33), .lit (.int .u8 30), .lit (.int .u8 24), .lit (.int .u8 18), .lit (.int .u8 12), .lit (.int .u8 5), .lit (.int .u8 63), .lit (.int .u8 55), .lit (.int .u8 48), .lit (.int .u8 27), .lit (.int .u8 60), .lit (.int .u8 41), .lit (.int .u8 37), .lit (.int .u8 16), .lit (.int .u8 46), .lit (.int .u8 35), .lit (.int .u8 44), .lit (.int .u8 21), .lit (.int .u8 52), .lit (.int .u8 32), .lit (.int .u8 23), .lit (.int .u8 11), .lit (.int .u8 54), .lit (.int .u8 26), .lit (.int .u8 40), .lit (.int .u8 15), .lit (.int .u8 34), .lit (.int .u8 20), .lit (.int .u8 31), .lit (.int .u8 10), .lit (.int .u8 25), .lit (.int .u8 14), .lit (.int .u8 19), .lit (.int .u8 9), .lit (.int .u8 13), .lit (.int .u8 8), .lit (.int .u8 7), .lit (.int .u8 6)]

/-- 'recouplaw07.MatroidRanks': WHATEVER THE INPUT: true; the input reads as it did. -/
def matroidRanksSpec : ChangeSpec := { name := "matroidRanks", fn := fun _ => fun
  | [d1, d2] => { results := [.lit (.bool true)], args := [d1, d2] }
  | _ => none }
def matroidRanksRow : OpenClaim := { program := "ythjncmdlhmppiaadoor", sum := "52ebf75cb6836798cf9f7a3db442dd1fcc0fb0686ef53483d4793c197d9df478", func := "recoup/recouplaw07.MatroidRanks", spec := "matroidRanks", inPlace := ["internal/bytealg.MakeNoZero"], unfollowed := true, recurses := true, named := ["math/bits.deBruijn64tab"], apart := false, laid := [("math/bits.deBruijn64tab", laid_math_bits_deBruijn64tab)] }
def MatroidRanksSaid : Prop := matroidRanksRow.holds Tryd.pinned (OpenSpec.ofChange matroidRanksSpec)

/-- ITS FALSE NEIGHBOUR: 'it returns false'. Refute it at one input. -/
def matroidRanksWrong : ChangeSpec := { name := "matroidRanks", fn := fun _ => fun
  | [d1, d2] => { results := [.lit (.bool false)], args := [d1, d2] }
  | _ => none }
def MatroidRanksWrongFalsely : Prop := matroidRanksRow.holds Tryd.pinned (OpenSpec.ofChange matroidRanksWrong)

/-- 'recouplaw07.MatroidSpans': WHATEVER THE INPUT: true; the input reads as it did. -/
def matroidSpansSpec : ChangeSpec := { name := "matroidSpans", fn := fun _ => fun
  | [d1, d2] => { results := [.lit (.bool true)], args := [d1, d2] }
  | _ => none }
def matroidSpansRow : OpenClaim := { program := "ythjncmdlhmppiaadoor", sum := "52ebf75cb6836798cf9f7a3db442dd1fcc0fb0686ef53483d4793c197d9df478", func := "recoup/recouplaw07.MatroidSpans", spec := "matroidSpans", inPlace := ["internal/bytealg.MakeNoZero"], unfollowed := true, recurses := true, named := ["math/bits.deBruijn64tab"], apart := false, laid := [("math/bits.deBruijn64tab", laid_math_bits_deBruijn64tab)] }
def MatroidSpansSaid : Prop := matroidSpansRow.holds Tryd.pinned (OpenSpec.ofChange matroidSpansSpec)

/-- ITS FALSE NEIGHBOUR: 'it returns false'. Refute it at one input. -/
def matroidSpansWrong : ChangeSpec := { name := "matroidSpans", fn := fun _ => fun
  | [d1, d2] => { results := [.lit (.bool false)], args := [d1, d2] }
  | _ => none }
def MatroidSpansWrongFalsely : Prop := matroidSpansRow.holds Tryd.pinned (OpenSpec.ofChange matroidSpansWrong)

/-- 'recouplaw07.MatroidCircuits': WHATEVER THE INPUT: true; the input reads as it did. -/
def matroidCircuitsSpec : ChangeSpec := { name := "matroidCircuits", fn := fun _ => fun
  | [d1, d2, d3] => { results := [.lit (.bool true)], args := [d1, d2, d3] }
  | _ => none }
def matroidCircuitsRow : OpenClaim := { program := "ythjncmdlhmppiaadoor", sum := "52ebf75cb6836798cf9f7a3db442dd1fcc0fb0686ef53483d4793c197d9df478", func := "recoup/recouplaw07.MatroidCircuits", spec := "matroidCircuits", inPlace := ["internal/bytealg.MakeNoZero"], unfollowed := true, recurses := true, named := ["math/bits.deBruijn64tab"], apart := false, laid := [("math/bits.deBruijn64tab", laid_math_bits_deBruijn64tab)] }
def MatroidCircuitsSaid : Prop := matroidCircuitsRow.holds Tryd.pinned (OpenSpec.ofChange matroidCircuitsSpec)

/-- ITS FALSE NEIGHBOUR: 'it returns false'. Refute it at one input. -/
def matroidCircuitsWrong : ChangeSpec := { name := "matroidCircuits", fn := fun _ => fun
  | [d1, d2, d3] => { results := [.lit (.bool false)], args := [d1, d2, d3] }
  | _ => none }
def MatroidCircuitsWrongFalsely : Prop := matroidCircuitsRow.holds Tryd.pinned (OpenSpec.ofChange matroidCircuitsWrong)

/-- 'recouplaw07.MatroidSums': WHATEVER THE INPUT: true; the input reads as it did. -/
def matroidSumsSpec : ChangeSpec := { name := "matroidSums", fn := fun _ => fun
  | [d1, d2, d3] => { results := [.lit (.bool true)], args := [d1, d2, d3] }
  | _ => none }
def matroidSumsRow : OpenClaim := { program := "ythjncmdlhmppiaadoor", sum := "52ebf75cb6836798cf9f7a3db442dd1fcc0fb0686ef53483d4793c197d9df478", func := "recoup/recouplaw07.MatroidSums", spec := "matroidSums", inPlace := ["internal/bytealg.MakeNoZero"], unfollowed := true, recurses := true, named := ["math/bits.deBruijn64tab"], apart := false, laid := [("math/bits.deBruijn64tab", laid_math_bits_deBruijn64tab)] }
def MatroidSumsSaid : Prop := matroidSumsRow.holds Tryd.pinned (OpenSpec.ofChange matroidSumsSpec)

/-- ITS FALSE NEIGHBOUR: 'it returns false'. Refute it at one input. -/
def matroidSumsWrong : ChangeSpec := { name := "matroidSums", fn := fun _ => fun
  | [d1, d2, d3] => { results := [.lit (.bool false)], args := [d1, d2, d3] }
  | _ => none }
def MatroidSumsWrongFalsely : Prop := matroidSumsRow.holds Tryd.pinned (OpenSpec.ofChange matroidSumsWrong)

/-- 'recouplaw07.MatroidLeast': WHATEVER THE INPUT: true; the input reads as it did. -/
def matroidLeastSpec : ChangeSpec := { name := "matroidLeast", fn := fun _ => fun
  | [d1, d2, d3] => { results := [.lit (.bool true)], args := [d1, d2, d3] }
  | _ => none }
def matroidLeastRow : OpenClaim := { program := "ythjncmdlhmppiaadoor", sum := "52ebf75cb6836798cf9f7a3db442dd1fcc0fb0686ef53483d4793c197d9df478", func := "recoup/recouplaw07.MatroidLeast", spec := "matroidLeast", inPlace := ["internal/bytealg.MakeNoZero"], unfollowed := true, recurses := true, named := ["math/bits.deBruijn64tab"], apart := false, laid := [("math/bits.deBruijn64tab", laid_math_bits_deBruijn64tab)] }
def MatroidLeastSaid : Prop := matroidLeastRow.holds Tryd.pinned (OpenSpec.ofChange matroidLeastSpec)

/-- ITS FALSE NEIGHBOUR: 'it returns false'. Refute it at one input. -/
def matroidLeastWrong : ChangeSpec := { name := "matroidLeast", fn := fun _ => fun
  | [d1, d2, d3] => { results := [.lit (.bool false)], args := [d1, d2, d3] }
  | _ => none }
def MatroidLeastWrongFalsely : Prop := matroidLeastRow.holds Tryd.pinned (OpenSpec.ofChange matroidLeastWrong)

/-- 'recouplaw07.MatroidGrows': WHATEVER THE INPUT: true; the input reads as it did. -/
def matroidGrowsSpec : ChangeSpec := { name := "matroidGrows", fn := fun _ => fun
  | [d1, d2, d3] => { results := [.lit (.bool true)], args := [d1, d2, d3] }
  | _ => none }
def matroidGrowsRow : OpenClaim := { program := "ythjncmdlhmppiaadoor", sum := "52ebf75cb6836798cf9f7a3db442dd1fcc0fb0686ef53483d4793c197d9df478", func := "recoup/recouplaw07.MatroidGrows", spec := "matroidGrows", inPlace := ["internal/bytealg.MakeNoZero"], unfollowed := true, recurses := true, named := ["math/bits.deBruijn64tab"], apart := false, laid := [("math/bits.deBruijn64tab", laid_math_bits_deBruijn64tab)] }
def MatroidGrowsSaid : Prop := matroidGrowsRow.holds Tryd.pinned (OpenSpec.ofChange matroidGrowsSpec)

/-- ITS FALSE NEIGHBOUR: 'it returns false'. Refute it at one input. -/
def matroidGrowsWrong : ChangeSpec := { name := "matroidGrows", fn := fun _ => fun
  | [d1, d2, d3] => { results := [.lit (.bool false)], args := [d1, d2, d3] }
  | _ => none }
def MatroidGrowsWrongFalsely : Prop := matroidGrowsRow.holds Tryd.pinned (OpenSpec.ofChange matroidGrowsWrong)

/-- 'recouplaw07.MatroidNeeds': WHATEVER THE INPUT: true; the input reads as it did. -/
def matroidNeedsSpec : ChangeSpec := { name := "matroidNeeds", fn := fun _ => fun
  | [d1, d2] => { results := [.lit (.bool true)], args := [d1, d2] }
  | _ => none }
def matroidNeedsRow : OpenClaim := { program := "ythjncmdlhmppiaadoor", sum := "52ebf75cb6836798cf9f7a3db442dd1fcc0fb0686ef53483d4793c197d9df478", func := "recoup/recouplaw07.MatroidNeeds", spec := "matroidNeeds", inPlace := ["internal/bytealg.MakeNoZero"], unfollowed := true, recurses := true, named := ["math/bits.deBruijn64tab"], apart := false, laid := [("math/bits.deBruijn64tab", laid_math_bits_deBruijn64tab)] }
def MatroidNeedsSaid : Prop := matroidNeedsRow.holds Tryd.pinned (OpenSpec.ofChange matroidNeedsSpec)

/-- ITS FALSE NEIGHBOUR: 'it returns false'. Refute it at one input. -/
def matroidNeedsWrong : ChangeSpec := { name := "matroidNeeds", fn := fun _ => fun
  | [d1, d2] => { results := [.lit (.bool false)], args := [d1, d2] }
  | _ => none }
def MatroidNeedsWrongFalsely : Prop := matroidNeedsRow.holds Tryd.pinned (OpenSpec.ofChange matroidNeedsWrong)

/-- 'recouplaw07.MatroidCloses': WHATEVER THE INPUT: true; the input reads as it did. -/
def matroidClosesSpec : ChangeSpec := { name := "matroidCloses", fn := fun _ => fun
  | [d1, d2] => { results := [.lit (.bool true)], args := [d1, d2] }
  | _ => none }
def matroidClosesRow : OpenClaim := { program := "ythjncmdlhmppiaadoor", sum := "52ebf75cb6836798cf9f7a3db442dd1fcc0fb0686ef53483d4793c197d9df478", func := "recoup/recouplaw07.MatroidCloses", spec := "matroidCloses", inPlace := ["internal/bytealg.MakeNoZero"], unfollowed := true, recurses := true, named := ["math/bits.deBruijn64tab"], apart := false, laid := [("math/bits.deBruijn64tab", laid_math_bits_deBruijn64tab)] }
def MatroidClosesSaid : Prop := matroidClosesRow.holds Tryd.pinned (OpenSpec.ofChange matroidClosesSpec)

/-- ITS FALSE NEIGHBOUR: 'it returns false'. Refute it at one input. -/
def matroidClosesWrong : ChangeSpec := { name := "matroidCloses", fn := fun _ => fun
  | [d1, d2] => { results := [.lit (.bool false)], args := [d1, d2] }
  | _ => none }
def MatroidClosesWrongFalsely : Prop := matroidClosesRow.holds Tryd.pinned (OpenSpec.ofChange matroidClosesWrong)

/-- 'recouplaw07.MatroidKept': WHATEVER THE INPUT: true; the input reads as it did. -/
def matroidKeptSpec : ChangeSpec := { name := "matroidKept", fn := fun _ => fun
  | [d1, d2, d3] => { results := [.lit (.bool true)], args := [d1, d2, d3] }
  | _ => none }
def matroidKeptRow : OpenClaim := { program := "ythjncmdlhmppiaadoor", sum := "52ebf75cb6836798cf9f7a3db442dd1fcc0fb0686ef53483d4793c197d9df478", func := "recoup/recouplaw07.MatroidKept", spec := "matroidKept", inPlace := ["internal/bytealg.MakeNoZero"], unfollowed := true, recurses := true, named := ["math/bits.deBruijn64tab"], apart := false, laid := [("math/bits.deBruijn64tab", laid_math_bits_deBruijn64tab)] }
def MatroidKeptSaid : Prop := matroidKeptRow.holds Tryd.pinned (OpenSpec.ofChange matroidKeptSpec)

/-- ITS FALSE NEIGHBOUR: 'it returns false'. Refute it at one input. -/
def matroidKeptWrong : ChangeSpec := { name := "matroidKept", fn := fun _ => fun
  | [d1, d2, d3] => { results := [.lit (.bool false)], args := [d1, d2, d3] }
  | _ => none }
def MatroidKeptWrongFalsely : Prop := matroidKeptRow.holds Tryd.pinned (OpenSpec.ofChange matroidKeptWrong)

/- THE SECOND FORM. 'bulk': how many values and letters a reading holds, each counted each time it is reached (what is shared counts as often as it is met; a slice's spare places count too). A statement '..UptoSaid' is the law's where the arguments, and the package variables that the reading takes, are together of bulk at most 1048576: NARROWER than '..Said'. Prove '..Said' where nothing that the law and all that it calls make is longer than what came in: it says more and counts as full. Else prove '..UptoSaid'. A law counts once. -/
mutual
def uptoBulk {H : Type} : DataW H → Nat
  | .lit (.string bytes) => bytes.length + 1
  | .lit _ => 1
  | .nil => 1
  | .ptr d => uptoBulk d + 1
  | .slice elems spare => uptoBulkAll elems + uptoBulkAll spare + 1
  | .agg parts => uptoBulkAll parts + 1
  | .iface _ d => uptoBulk d + 1
  | .map entries => uptoBulkEntries entries + 1
  | .held _ => 1
def uptoBulkAll {H : Type} : List (DataW H) → Nat
  | [] => 0
  | d :: r => uptoBulk d + uptoBulkAll r
def uptoBulkEntries {H : Type} : List (Lit × DataW H) → Nat
  | [] => 0
  | x :: r => uptoBulkEntry x + uptoBulkEntries r
def uptoBulkEntry {H : Type} : Lit × DataW H → Nat
  | (.string bytes, d) => bytes.length + uptoBulk d + 1
  | (_, d) => uptoBulk d + 1
 end
def uptoSmall : (H : Type) → List (DataW H) → Bool := fun _ ds => decide (uptoBulkAll ds ≤ 1048576)
def OpenSpec.upto (s : _root_.Go.ChangeSpec) : _root_.Go.OpenSpec := { _root_.Go.OpenSpec.ofChange s with cond := some uptoSmall }

/-- 'recouplaw07.MatroidRanks', WHERE WHAT IT READS IS OF BULK AT MOST 1048576: true; the input reads as it did. -/
def matroidRanksUptoRow : OpenClaim := { program := "ythjncmdlhmppiaadoor", sum := "52ebf75cb6836798cf9f7a3db442dd1fcc0fb0686ef53483d4793c197d9df478", func := "recoup/recouplaw07.MatroidRanks", spec := "matroidRanks", inPlace := ["internal/bytealg.MakeNoZero"], unfollowed := true, recurses := true, named := ["math/bits.deBruijn64tab"], apart := false, laid := [("math/bits.deBruijn64tab", laid_math_bits_deBruijn64tab)], narrowed := true }
def MatroidRanksUptoSaid : Prop := matroidRanksUptoRow.holds Tryd.pinned (OpenSpec.upto matroidRanksSpec)

/-- 'recouplaw07.MatroidSpans', WHERE WHAT IT READS IS OF BULK AT MOST 1048576: true; the input reads as it did. -/
def matroidSpansUptoRow : OpenClaim := { program := "ythjncmdlhmppiaadoor", sum := "52ebf75cb6836798cf9f7a3db442dd1fcc0fb0686ef53483d4793c197d9df478", func := "recoup/recouplaw07.MatroidSpans", spec := "matroidSpans", inPlace := ["internal/bytealg.MakeNoZero"], unfollowed := true, recurses := true, named := ["math/bits.deBruijn64tab"], apart := false, laid := [("math/bits.deBruijn64tab", laid_math_bits_deBruijn64tab)], narrowed := true }
def MatroidSpansUptoSaid : Prop := matroidSpansUptoRow.holds Tryd.pinned (OpenSpec.upto matroidSpansSpec)

/-- 'recouplaw07.MatroidCircuits', WHERE WHAT IT READS IS OF BULK AT MOST 1048576: true; the input reads as it did. -/
def matroidCircuitsUptoRow : OpenClaim := { program := "ythjncmdlhmppiaadoor", sum := "52ebf75cb6836798cf9f7a3db442dd1fcc0fb0686ef53483d4793c197d9df478", func := "recoup/recouplaw07.MatroidCircuits", spec := "matroidCircuits", inPlace := ["internal/bytealg.MakeNoZero"], unfollowed := true, recurses := true, named := ["math/bits.deBruijn64tab"], apart := false, laid := [("math/bits.deBruijn64tab", laid_math_bits_deBruijn64tab)], narrowed := true }
def MatroidCircuitsUptoSaid : Prop := matroidCircuitsUptoRow.holds Tryd.pinned (OpenSpec.upto matroidCircuitsSpec)

/-- 'recouplaw07.MatroidSums', WHERE WHAT IT READS IS OF BULK AT MOST 1048576: true; the input reads as it did. -/
def matroidSumsUptoRow : OpenClaim := { program := "ythjncmdlhmppiaadoor", sum := "52ebf75cb6836798cf9f7a3db442dd1fcc0fb0686ef53483d4793c197d9df478", func := "recoup/recouplaw07.MatroidSums", spec := "matroidSums", inPlace := ["internal/bytealg.MakeNoZero"], unfollowed := true, recurses := true, named := ["math/bits.deBruijn64tab"], apart := false, laid := [("math/bits.deBruijn64tab", laid_math_bits_deBruijn64tab)], narrowed := true }
def MatroidSumsUptoSaid : Prop := matroidSumsUptoRow.holds Tryd.pinned (OpenSpec.upto matroidSumsSpec)

/-- 'recouplaw07.MatroidLeast', WHERE WHAT IT READS IS OF BULK AT MOST 1048576: true; the input reads as it did. -/
def matroidLeastUptoRow : OpenClaim := { program := "ythjncmdlhmppiaadoor", sum := "52ebf75cb6836798cf9f7a3db442dd1fcc0fb0686ef53483d4793c197d9df478", func := "recoup/recouplaw07.MatroidLeast", spec := "matroidLeast", inPlace := ["internal/bytealg.MakeNoZero"], unfollowed := true, recurses := true, named := ["math/bits.deBruijn64tab"], apart := false, laid := [("math/bits.deBruijn64tab", laid_math_bits_deBruijn64tab)], narrowed := true }
def MatroidLeastUptoSaid : Prop := matroidLeastUptoRow.holds Tryd.pinned (OpenSpec.upto matroidLeastSpec)

/-- 'recouplaw07.MatroidGrows', WHERE WHAT IT READS IS OF BULK AT MOST 1048576: true; the input reads as it did. -/
def matroidGrowsUptoRow : OpenClaim := { program := "ythjncmdlhmppiaadoor", sum := "52ebf75cb6836798cf9f7a3db442dd1fcc0fb0686ef53483d4793c197d9df478", func := "recoup/recouplaw07.MatroidGrows", spec := "matroidGrows", inPlace := ["internal/bytealg.MakeNoZero"], unfollowed := true, recurses := true, named := ["math/bits.deBruijn64tab"], apart := false, laid := [("math/bits.deBruijn64tab", laid_math_bits_deBruijn64tab)], narrowed := true }
def MatroidGrowsUptoSaid : Prop := matroidGrowsUptoRow.holds Tryd.pinned (OpenSpec.upto matroidGrowsSpec)

/-- 'recouplaw07.MatroidNeeds', WHERE WHAT IT READS IS OF BULK AT MOST 1048576: true; the input reads as it did. -/
def matroidNeedsUptoRow : OpenClaim := { program := "ythjncmdlhmppiaadoor", sum := "52ebf75cb6836798cf9f7a3db442dd1fcc0fb0686ef53483d4793c197d9df478", func := "recoup/recouplaw07.MatroidNeeds", spec := "matroidNeeds", inPlace := ["internal/bytealg.MakeNoZero"], unfollowed := true, recurses := true, named := ["math/bits.deBruijn64tab"], apart := false, laid := [("math/bits.deBruijn64tab", laid_math_bits_deBruijn64tab)], narrowed := true }
def MatroidNeedsUptoSaid : Prop := matroidNeedsUptoRow.holds Tryd.pinned (OpenSpec.upto matroidNeedsSpec)

/-- 'recouplaw07.MatroidCloses', WHERE WHAT IT READS IS OF BULK AT MOST 1048576: true; the input reads as it did. -/
def matroidClosesUptoRow : OpenClaim := { program := "ythjncmdlhmppiaadoor", sum := "52ebf75cb6836798cf9f7a3db442dd1fcc0fb0686ef53483d4793c197d9df478", func := "recoup/recouplaw07.MatroidCloses", spec := "matroidCloses", inPlace := ["internal/bytealg.MakeNoZero"], unfollowed := true, recurses := true, named := ["math/bits.deBruijn64tab"], apart := false, laid := [("math/bits.deBruijn64tab", laid_math_bits_deBruijn64tab)], narrowed := true }
def MatroidClosesUptoSaid : Prop := matroidClosesUptoRow.holds Tryd.pinned (OpenSpec.upto matroidClosesSpec)

/-- 'recouplaw07.MatroidKept', WHERE WHAT IT READS IS OF BULK AT MOST 1048576: true; the input reads as it did. -/
def matroidKeptUptoRow : OpenClaim := { program := "ythjncmdlhmppiaadoor", sum := "52ebf75cb6836798cf9f7a3db442dd1fcc0fb0686ef53483d4793c197d9df478", func := "recoup/recouplaw07.MatroidKept", spec := "matroidKept", inPlace := ["internal/bytealg.MakeNoZero"], unfollowed := true, recurses := true, named := ["math/bits.deBruijn64tab"], apart := false, laid := [("math/bits.deBruijn64tab", laid_math_bits_deBruijn64tab)], narrowed := true }
def MatroidKeptUptoSaid : Prop := matroidKeptUptoRow.holds Tryd.pinned (OpenSpec.upto matroidKeptSpec)

end Rows
end Go.Proofs.YthjncmdlhmppiaaDoor
