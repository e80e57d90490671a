/-
  NARROWER THAN 'FOR EVERY INPUT', by the rows' own cells (each row's printed sentence says how): LocalGroups: laid · LocalLeast: laid · LocalPuts: laid · LocalFewest: laid · LocalFresh: laid · LocalWithin: laid.
  DERIVED. THE GIVEN ROWS OF THIS SEAT. 6 by the template 'for every input the law returns true; each argument reads behind the call as it read before'; 0 by the template 'total and deterministic' (their statements: YtjgcocfnilhggaaDoorTotals.lean).
  GIVEN WITH THE SEED: the statements are not yours to turn. If you find one false, say at which input.
  Laid BY PROGRAM, IN A SANDBOX (cutbox-rows.mjs): the forced cells as the released guide's own fill.sh prints them over the translation 28814fb540639fec… (all of the seat's roots in one cut). By AI agents, Wed Nov 11 2026. No macro, syntax, notation, axiom, sorry.
-/
import Derived.Test.YtjgcocfnilhggaaDoorChecked
import GoSem.Claim
import GoSem.ClaimJoined
import GoSem.ClaimMapViews
import Derived.JoinedTies
import Derived.KernelRfl
namespace Go.Proofs.YtjgcocfnilhggaaDoor
/- THE CELL 'sum', in the pinned program and in every row, IS THE sha256 OF THE DUMP (.gsa) THAT YtjgcocfnilhggaaDoorProg.lean LOADS. Nothing in Lean hashes anything: it is a label: what it is worth is what the hold of that sum in a sandbox is worth. -/
noncomputable def Tryd.pinned : Pinned := { name := "ytjgcocfnilhggaadoor", sum := "28814fb540639fecfcde9dc8b1fab06f2d149d69e78c2adada82864f9b3151ab", checked := Tryd.checked }
namespace Rows
def none {H : Type} : Left H := { results := [], args := [] }

/- WHAT THE LISTED PACKAGE-LEVEL VARIABLES READ AS WHEN THE CALL BEGINS. Each datum BY PROGRAM (the guide's laid-datum.mjs) off the statement by which the dump's own 'gosem.cut.vars' lays the variable. In a bare row this is a premise. The card (YtjgcocfnilhggaaDoorCards.lean) ties it to the program's text. -/
def laid_math_bits_deBruijn64tab {H : Type} : DataW H := .agg [.lit (.int .u8 0), .lit (.int .u8 1), .lit (.int .u8 56), .lit (.int .u8 2), .lit (.int .u8 57), .lit (.int .u8 49), .lit (.int .u8 28), .lit (.int .u8 3), .lit (.int .u8 61), .lit (.int .u8 58), .lit (.int .u8 42), .lit (.int .u8 50), .lit (.int .u8 38), .lit (.int .u8 29), .lit (.int .u8 17), .lit (.int .u8 4), .lit (.int .u8 62), .lit (.int .u8 47), .lit (.int .u8 59), .lit (.int .u8 36), .lit (.int .u8 45), .lit (.int .u8 43), .lit (.int .u8 51), .lit (.int .u8 22), .lit (.int .u8 53), .lit (.int .u8 39), .lit (.int .u8 33), .lit (.int .u8 30), .lit (.int .u8 24), .lit (.int .u8 18), .lit (.int .u8 12), .lit (.int .u8 5), .lit (.int .u8 63), .lit (.int .u8 55), .lit (.int .u8 48), .lit (.int .u8 27), .lit (.int .u8 60), .lit (.int .u8 41), .lit (.int .u8 37), .lit (.int .u8 16), .lit (.int .u8 46), .lit (.int .u8 35), .lit (.int .u8 44), .lit (.int .u8 21), .lit (.int .u8 52), .lit (.int .u8 32), .lit (.int .u8 23), .lit (.int .u8 11), .lit (.int .u8 54), .lit (.int .u8 26), .lit (.int .u8 40), .lit (.int .u8 15), .lit (.int .u8 34), .lit (.int .u8 20), .lit (.int .u8 31), .lit (.int .u8 10), .lit (.int .u8 25), .lit (.int .u8 14), .lit (.int .u8 19), .lit (.int .u8 9), .lit (.int .u8 13), .lit (.int .u8 8), .lit (.int .u8 7), .lit (.int .u8 6)]

/-- 'recouplaw19.LocalGroups': WHATEVER THE INPUT: true; the input reads as it did. -/
def localGroupsSpec : ChangeSpec := { name := "localGroups", fn := fun _ => fun
  | [d1, d2] => { results := [.lit (.bool true)], args := [d1, d2] }
  | _ => none }
def localGroupsRow : OpenClaim := { program := "ytjgcocfnilhggaadoor", sum := "28814fb540639fecfcde9dc8b1fab06f2d149d69e78c2adada82864f9b3151ab", func := "recoup/recouplaw19.LocalGroups", spec := "localGroups", inPlace := ["internal/bytealg.MakeNoZero"], unfollowed := true, recurses := true, named := ["math/bits.deBruijn64tab"], apart := false, laid := [("math/bits.deBruijn64tab", laid_math_bits_deBruijn64tab)] }
def LocalGroupsSaid : Prop := localGroupsRow.holds Tryd.pinned (OpenSpec.ofChange localGroupsSpec)

/-- ITS FALSE NEIGHBOUR: 'it returns false'. Refute it at one input. -/
def localGroupsWrong : ChangeSpec := { name := "localGroups", fn := fun _ => fun
  | [d1, d2] => { results := [.lit (.bool false)], args := [d1, d2] }
  | _ => none }
def LocalGroupsWrongFalsely : Prop := localGroupsRow.holds Tryd.pinned (OpenSpec.ofChange localGroupsWrong)

/-- 'recouplaw19.LocalLeast': WHATEVER THE INPUT: true; the input reads as it did. -/
def localLeastSpec : ChangeSpec := { name := "localLeast", fn := fun _ => fun
  | [d1, d2] => { results := [.lit (.bool true)], args := [d1, d2] }
  | _ => none }
def localLeastRow : OpenClaim := { program := "ytjgcocfnilhggaadoor", sum := "28814fb540639fecfcde9dc8b1fab06f2d149d69e78c2adada82864f9b3151ab", func := "recoup/recouplaw19.LocalLeast", spec := "localLeast", inPlace := ["internal/bytealg.MakeNoZero"], unfollowed := true, recurses := true, named := ["math/bits.deBruijn64tab"], apart := false, laid := [("math/bits.deBruijn64tab", laid_math_bits_deBruijn64tab)] }
def LocalLeastSaid : Prop := localLeastRow.holds Tryd.pinned (OpenSpec.ofChange localLeastSpec)

/-- ITS FALSE NEIGHBOUR: 'it returns false'. Refute it at one input. -/
def localLeastWrong : ChangeSpec := { name := "localLeast", fn := fun _ => fun
  | [d1, d2] => { results := [.lit (.bool false)], args := [d1, d2] }
  | _ => none }
def LocalLeastWrongFalsely : Prop := localLeastRow.holds Tryd.pinned (OpenSpec.ofChange localLeastWrong)

/-- 'recouplaw19.LocalPuts': WHATEVER THE INPUT: true; the input reads as it did. -/
def localPutsSpec : ChangeSpec := { name := "localPuts", fn := fun _ => fun
  | [d1, d2] => { results := [.lit (.bool true)], args := [d1, d2] }
  | _ => none }
def localPutsRow : OpenClaim := { program := "ytjgcocfnilhggaadoor", sum := "28814fb540639fecfcde9dc8b1fab06f2d149d69e78c2adada82864f9b3151ab", func := "recoup/recouplaw19.LocalPuts", spec := "localPuts", inPlace := ["internal/bytealg.MakeNoZero"], unfollowed := true, recurses := true, named := ["math/bits.deBruijn64tab"], apart := false, laid := [("math/bits.deBruijn64tab", laid_math_bits_deBruijn64tab)] }
def LocalPutsSaid : Prop := localPutsRow.holds Tryd.pinned (OpenSpec.ofChange localPutsSpec)

/-- ITS FALSE NEIGHBOUR: 'it returns false'. Refute it at one input. -/
def localPutsWrong : ChangeSpec := { name := "localPuts", fn := fun _ => fun
  | [d1, d2] => { results := [.lit (.bool false)], args := [d1, d2] }
  | _ => none }
def LocalPutsWrongFalsely : Prop := localPutsRow.holds Tryd.pinned (OpenSpec.ofChange localPutsWrong)

/-- 'recouplaw19.LocalFewest': WHATEVER THE INPUT: true; the input reads as it did. -/
def localFewestSpec : ChangeSpec := { name := "localFewest", fn := fun _ => fun
  | [d1, d2, d3] => { results := [.lit (.bool true)], args := [d1, d2, d3] }
  | _ => none }
def localFewestRow : OpenClaim := { program := "ytjgcocfnilhggaadoor", sum := "28814fb540639fecfcde9dc8b1fab06f2d149d69e78c2adada82864f9b3151ab", func := "recoup/recouplaw19.LocalFewest", spec := "localFewest", inPlace := ["internal/bytealg.MakeNoZero"], unfollowed := true, recurses := true, named := ["math/bits.deBruijn64tab"], apart := false, laid := [("math/bits.deBruijn64tab", laid_math_bits_deBruijn64tab)] }
def LocalFewestSaid : Prop := localFewestRow.holds Tryd.pinned (OpenSpec.ofChange localFewestSpec)

/-- ITS FALSE NEIGHBOUR: 'it returns false'. Refute it at one input. -/
def localFewestWrong : ChangeSpec := { name := "localFewest", fn := fun _ => fun
  | [d1, d2, d3] => { results := [.lit (.bool false)], args := [d1, d2, d3] }
  | _ => none }
def LocalFewestWrongFalsely : Prop := localFewestRow.holds Tryd.pinned (OpenSpec.ofChange localFewestWrong)

/-- 'recouplaw19.LocalFresh': WHATEVER THE INPUT: true; the input reads as it did. -/
def localFreshSpec : ChangeSpec := { name := "localFresh", fn := fun _ => fun
  | [d1, d2] => { results := [.lit (.bool true)], args := [d1, d2] }
  | _ => none }
def localFreshRow : OpenClaim := { program := "ytjgcocfnilhggaadoor", sum := "28814fb540639fecfcde9dc8b1fab06f2d149d69e78c2adada82864f9b3151ab", func := "recoup/recouplaw19.LocalFresh", spec := "localFresh", inPlace := ["internal/bytealg.MakeNoZero"], unfollowed := true, recurses := true, named := ["math/bits.deBruijn64tab"], apart := false, laid := [("math/bits.deBruijn64tab", laid_math_bits_deBruijn64tab)] }
def LocalFreshSaid : Prop := localFreshRow.holds Tryd.pinned (OpenSpec.ofChange localFreshSpec)

/-- ITS FALSE NEIGHBOUR: 'it returns false'. Refute it at one input. -/
def localFreshWrong : ChangeSpec := { name := "localFresh", fn := fun _ => fun
  | [d1, d2] => { results := [.lit (.bool false)], args := [d1, d2] }
  | _ => none }
def LocalFreshWrongFalsely : Prop := localFreshRow.holds Tryd.pinned (OpenSpec.ofChange localFreshWrong)

/-- 'recouplaw19.LocalWithin': WHATEVER THE INPUT: true; the input reads as it did. -/
def localWithinSpec : ChangeSpec := { name := "localWithin", fn := fun _ => fun
  | [d1, d2] => { results := [.lit (.bool true)], args := [d1, d2] }
  | _ => none }
def localWithinRow : OpenClaim := { program := "ytjgcocfnilhggaadoor", sum := "28814fb540639fecfcde9dc8b1fab06f2d149d69e78c2adada82864f9b3151ab", func := "recoup/recouplaw19.LocalWithin", spec := "localWithin", inPlace := ["internal/bytealg.MakeNoZero"], unfollowed := true, recurses := true, named := ["math/bits.deBruijn64tab"], apart := false, laid := [("math/bits.deBruijn64tab", laid_math_bits_deBruijn64tab)] }
def LocalWithinSaid : Prop := localWithinRow.holds Tryd.pinned (OpenSpec.ofChange localWithinSpec)

/-- ITS FALSE NEIGHBOUR: 'it returns false'. Refute it at one input. -/
def localWithinWrong : ChangeSpec := { name := "localWithin", fn := fun _ => fun
  | [d1, d2] => { results := [.lit (.bool false)], args := [d1, d2] }
  | _ => none }
def LocalWithinWrongFalsely : Prop := localWithinRow.holds Tryd.pinned (OpenSpec.ofChange localWithinWrong)

/- THE SECOND FORM. 'bulk': how many values and letters a reading holds, each counted each time it is reached (what is shared counts as often as it is met; a slice's spare places count too). A statement '..UptoSaid' is the law's where the arguments, and the package variables that the reading takes, are together of bulk at most 1048576: NARROWER than '..Said'. Prove '..Said' where nothing that the law and all that it calls make is longer than what came in: it says more and counts as full. Else prove '..UptoSaid'. A law counts once. -/
mutual
def uptoBulk {H : Type} : DataW H → Nat
  | .lit (.string bytes) => bytes.length + 1
  | .lit _ => 1
  | .nil => 1
  | .ptr d => uptoBulk d + 1
  | .slice elems spare => uptoBulkAll elems + uptoBulkAll spare + 1
  | .agg parts => uptoBulkAll parts + 1
  | .iface _ d => uptoBulk d + 1
  | .map entries => uptoBulkEntries entries + 1
  | .held _ => 1
def uptoBulkAll {H : Type} : List (DataW H) → Nat
  | [] => 0
  | d :: r => uptoBulk d + uptoBulkAll r
def uptoBulkEntries {H : Type} : List (Lit × DataW H) → Nat
  | [] => 0
  | x :: r => uptoBulkEntry x + uptoBulkEntries r
def uptoBulkEntry {H : Type} : Lit × DataW H → Nat
  | (.string bytes, d) => bytes.length + uptoBulk d + 1
  | (_, d) => uptoBulk d + 1
 end
def uptoSmall : (H : Type) → List (DataW H) → Bool := fun _ ds => decide (uptoBulkAll ds ≤ 1048576)
def OpenSpec.upto (s : _root_.Go.ChangeSpec) : _root_.Go.OpenSpec := { _root_.Go.OpenSpec.ofChange s with cond := some uptoSmall }

/-- 'recouplaw19.LocalGroups', WHERE WHAT IT READS IS OF BULK AT MOST 1048576: true; the input reads as it did. -/
def localGroupsUptoRow : OpenClaim := { program := "ytjgcocfnilhggaadoor", sum := "28814fb540639fecfcde9dc8b1fab06f2d149d69e78c2adada82864f9b3151ab", func := "recoup/recouplaw19.LocalGroups", spec := "localGroups", inPlace := ["internal/bytealg.MakeNoZero"], unfollowed := true, recurses := true, named := ["math/bits.deBruijn64tab"], apart := false, laid := [("math/bits.deBruijn64tab", laid_math_bits_deBruijn64tab)], narrowed := true }
def LocalGroupsUptoSaid : Prop := localGroupsUptoRow.holds Tryd.pinned (OpenSpec.upto localGroupsSpec)

/-- 'recouplaw19.LocalLeast', WHERE WHAT IT READS IS OF BULK AT MOST 1048576: true; the input reads as it did. -/
def localLeastUptoRow : OpenClaim := { program := "ytjgcocfnilhggaadoor", sum := "28814fb540639fecfcde9dc8b1fab06f2d149d69e78c2adada82864f9b3151ab", func := "recoup/recouplaw19.LocalLeast", spec := "localLeast", inPlace := ["internal/bytealg.MakeNoZero"], unfollowed := true, recurses := true, named := ["math/bits.deBruijn64tab"], apart := false, laid := [("math/bits.deBruijn64tab", laid_math_bits_deBruijn64tab)], narrowed := true }
def LocalLeastUptoSaid : Prop := localLeastUptoRow.holds Tryd.pinned (OpenSpec.upto localLeastSpec)

/-- 'recouplaw19.LocalPuts', WHERE WHAT IT READS IS OF BULK AT MOST 1048576: true; the input reads as it did. -/
def localPutsUptoRow : OpenClaim := { program := "ytjgcocfnilhggaadoor", sum := "28814fb540639fecfcde9dc8b1fab06f2d149d69e78c2adada82864f9b3151ab", func := "recoup/recouplaw19.LocalPuts", spec := "localPuts", inPlace := ["internal/bytealg.MakeNoZero"], unfollowed := true, recurses := true, named := ["math/bits.deBruijn64tab"], apart := false, laid := [("math/bits.deBruijn64tab", laid_math_bits_deBruijn64tab)], narrowed := true }
def LocalPutsUptoSaid : Prop := localPutsUptoRow.holds Tryd.pinned (OpenSpec.upto localPutsSpec)

/-- 'recouplaw19.LocalFewest', WHERE WHAT IT READS IS OF BULK AT MOST 1048576: true; the input reads as it did. -/
def localFewestUptoRow : OpenClaim := { program := "ytjgcocfnilhggaadoor", sum := "28814fb540639fecfcde9dc8b1fab06f2d149d69e78c2adada82864f9b3151ab", func := "recoup/recouplaw19.LocalFewest", spec := "localFewest", inPlace := ["internal/bytealg.MakeNoZero"], unfollowed := true, recurses := true, named := ["math/bits.deBruijn64tab"], apart := false, laid := [("math/bits.deBruijn64tab", laid_math_bits_deBruijn64tab)], narrowed := true }
def LocalFewestUptoSaid : Prop := localFewestUptoRow.holds Tryd.pinned (OpenSpec.upto localFewestSpec)

/-- 'recouplaw19.LocalFresh', WHERE WHAT IT READS IS OF BULK AT MOST 1048576: true; the input reads as it did. -/
def localFreshUptoRow : OpenClaim := { program := "ytjgcocfnilhggaadoor", sum := "28814fb540639fecfcde9dc8b1fab06f2d149d69e78c2adada82864f9b3151ab", func := "recoup/recouplaw19.LocalFresh", spec := "localFresh", inPlace := ["internal/bytealg.MakeNoZero"], unfollowed := true, recurses := true, named := ["math/bits.deBruijn64tab"], apart := false, laid := [("math/bits.deBruijn64tab", laid_math_bits_deBruijn64tab)], narrowed := true }
def LocalFreshUptoSaid : Prop := localFreshUptoRow.holds Tryd.pinned (OpenSpec.upto localFreshSpec)

/-- 'recouplaw19.LocalWithin', WHERE WHAT IT READS IS OF BULK AT MOST 1048576: true; the input reads as it did. -/
def localWithinUptoRow : OpenClaim := { program := "ytjgcocfnilhggaadoor", sum := "28814fb540639fecfcde9dc8b1fab06f2d149d69e78c2adada82864f9b3151ab", func := "recoup/recouplaw19.LocalWithin", spec := "localWithin", inPlace := ["internal/bytealg.MakeNoZero"], unfollowed := true, recurses := true, named := ["math/bits.deBruijn64tab"], apart := false, laid := [("math/bits.deBruijn64tab", laid_math_bits_deBruijn64tab)], narrowed := true }
def LocalWithinUptoSaid : Prop := localWithinUptoRow.holds Tryd.pinned (OpenSpec.upto localWithinSpec)

end Rows
end Go.Proofs.YtjgcocfnilhggaaDoor
