/-
  NARROWER THAN 'FOR EVERY INPUT', by the rows' own cells (each row's printed sentence says how): SubsetNexts: laid · SubsetLists: laid · SubsetPlaces: laid · SubsetPascal: laid · SubsetAll: laid · SubsetBack: laid.
  DERIVED. THE GIVEN ROWS OF THIS SEAT. 6 by the template 'for every input the law returns true; each argument reads behind the call as it read before'; 0 by the template 'total and deterministic' (their statements: YtagghjljbedfdaaDoorTotals.lean).
  GIVEN WITH THE SEED: the statements are not yours to turn. If you find one false, say at which input.
  Laid BY PROGRAM, IN A SANDBOX (cutbox-rows.mjs): the forced cells as the released guide's own fill.sh prints them over the translation 8e9390dd352ff62d… (all of the seat's roots in one cut). By AI agents, Wed Nov 11 2026. No macro, syntax, notation, axiom, sorry.
-/
import Derived.Test.YtagghjljbedfdaaDoorChecked
import GoSem.Claim
import GoSem.ClaimJoined
import GoSem.ClaimMapViews
import Derived.JoinedTies
import Derived.KernelRfl
namespace Go.Proofs.YtagghjljbedfdaaDoor
/- THE CELL 'sum', in the pinned program and in every row, IS THE sha256 OF THE DUMP (.gsa) THAT YtagghjljbedfdaaDoorProg.lean LOADS. Nothing in Lean hashes anything: it is a label: what it is worth is what the hold of that sum in a sandbox is worth. -/
noncomputable def Tryd.pinned : Pinned := { name := "ytagghjljbedfdaadoor", sum := "8e9390dd352ff62d5e48e66310d9a921dee1aa98a182bbc030394065db5ea6b7", checked := Tryd.checked }
namespace Rows
def none {H : Type} : Left H := { results := [], args := [] }

/- WHAT THE LISTED PACKAGE-LEVEL VARIABLES READ AS WHEN THE CALL BEGINS. Each datum BY PROGRAM (the guide's laid-datum.mjs) off the statement by which the dump's own 'gosem.cut.vars' lays the variable. In a bare row this is a premise. The card (YtagghjljbedfdaaDoorCards.lean) ties it to the program's text. -/
def laid_math_bits_deBruijn64tab {H : Type} : DataW H := .agg [.lit (.int .u8 0), .lit (.int .u8 1), .lit (.int .u8 56), .lit (.int .u8 2), .lit (.int .u8 57), .lit (.int .u8 49), .lit (.int .u8 28), .lit (.int .u8 3), .lit (.int .u8 61), .lit (.int .u8 58), .lit (.int .u8 42), .lit (.int .u8 50), .lit (.int .u8 38), .lit (.int .u8 29), .lit (.int .u8 17), .lit (.int .u8 4), .lit (.int .u8 62), .lit (.int .u8 47), .lit (.int .u8 59), .lit (.int .u8 36), .lit (.int .u8 45), .lit (.int .u8 43), .lit (.int .u8 51), .lit (.int .u8 22), .lit (.int .u8 53), .lit (.int .u8 39), .lit (.int .u8 33), .lit (.int .u8 30), .lit (.int .u8 24), .lit (.int .u8 18), .lit (.int .u8 12), .lit (.int .u8 5), .lit (.int .u8 63), .lit (.int .u8 55), .lit (.int .u8 48), .lit (.int .u8 27), .lit (.int .u8 60), .lit (.int .u8 41), .lit (.int .u8 37), .lit (.int .u8 16), .lit (.int .u8 46), .lit (.int .u8 35), .lit (.int .u8 44), .lit (.int .u8 21), .lit (.int .u8 52), .lit (.int .u8 32), .lit (.int .u8 23), .lit (.int .u8 11), .lit (.int .u8 54), .lit (.int .u8 26), .lit (.int .u8 40), .lit (.int .u8 15), .lit (.int .u8 34), .lit (.int .u8 20), .lit (.int .u8 31), .lit (.int .u8 10), .lit (.int .u8 25), .lit (.int .u8 14), .lit (.int .u8 19), .lit (.int .u8 9), .lit (.int .u8 13), .lit (.int .u8 8), .lit (.int .u8 7), .lit (.int .u8 6)]

/-- 'recouplaw06.SubsetNexts': WHATEVER THE INPUT: true; the input reads as it did. -/
def subsetNextsSpec : ChangeSpec := { name := "subsetNexts", fn := fun _ => fun
  | [d1, d2] => { results := [.lit (.bool true)], args := [d1, d2] }
  | _ => none }
def subsetNextsRow : OpenClaim := { program := "ytagghjljbedfdaadoor", sum := "8e9390dd352ff62d5e48e66310d9a921dee1aa98a182bbc030394065db5ea6b7", func := "recoup/recouplaw06.SubsetNexts", spec := "subsetNexts", named := ["math/bits.deBruijn64tab"], apart := false, laid := [("math/bits.deBruijn64tab", laid_math_bits_deBruijn64tab)] }
def SubsetNextsSaid : Prop := subsetNextsRow.holds Tryd.pinned (OpenSpec.ofChange subsetNextsSpec)

/-- ITS FALSE NEIGHBOUR: 'it returns false'. Refute it at one input. -/
def subsetNextsWrong : ChangeSpec := { name := "subsetNexts", fn := fun _ => fun
  | [d1, d2] => { results := [.lit (.bool false)], args := [d1, d2] }
  | _ => none }
def SubsetNextsWrongFalsely : Prop := subsetNextsRow.holds Tryd.pinned (OpenSpec.ofChange subsetNextsWrong)

/-- 'recouplaw06.SubsetLists': WHATEVER THE INPUT: true; the input reads as it did. -/
def subsetListsSpec : ChangeSpec := { name := "subsetLists", fn := fun _ => fun
  | [d1, d2, d3] => { results := [.lit (.bool true)], args := [d1, d2, d3] }
  | _ => none }
def subsetListsRow : OpenClaim := { program := "ytagghjljbedfdaadoor", sum := "8e9390dd352ff62d5e48e66310d9a921dee1aa98a182bbc030394065db5ea6b7", func := "recoup/recouplaw06.SubsetLists", spec := "subsetLists", named := ["math/bits.deBruijn64tab"], apart := false, laid := [("math/bits.deBruijn64tab", laid_math_bits_deBruijn64tab)] }
def SubsetListsSaid : Prop := subsetListsRow.holds Tryd.pinned (OpenSpec.ofChange subsetListsSpec)

/-- ITS FALSE NEIGHBOUR: 'it returns false'. Refute it at one input. -/
def subsetListsWrong : ChangeSpec := { name := "subsetLists", fn := fun _ => fun
  | [d1, d2, d3] => { results := [.lit (.bool false)], args := [d1, d2, d3] }
  | _ => none }
def SubsetListsWrongFalsely : Prop := subsetListsRow.holds Tryd.pinned (OpenSpec.ofChange subsetListsWrong)

/-- 'recouplaw06.SubsetPlaces': WHATEVER THE INPUT: true; the input reads as it did. -/
def subsetPlacesSpec : ChangeSpec := { name := "subsetPlaces", fn := fun _ => fun
  | [d1, d2, d3] => { results := [.lit (.bool true)], args := [d1, d2, d3] }
  | _ => none }
def subsetPlacesRow : OpenClaim := { program := "ytagghjljbedfdaadoor", sum := "8e9390dd352ff62d5e48e66310d9a921dee1aa98a182bbc030394065db5ea6b7", func := "recoup/recouplaw06.SubsetPlaces", spec := "subsetPlaces", named := ["math/bits.deBruijn64tab"], apart := false, laid := [("math/bits.deBruijn64tab", laid_math_bits_deBruijn64tab)] }
def SubsetPlacesSaid : Prop := subsetPlacesRow.holds Tryd.pinned (OpenSpec.ofChange subsetPlacesSpec)

/-- ITS FALSE NEIGHBOUR: 'it returns false'. Refute it at one input. -/
def subsetPlacesWrong : ChangeSpec := { name := "subsetPlaces", fn := fun _ => fun
  | [d1, d2, d3] => { results := [.lit (.bool false)], args := [d1, d2, d3] }
  | _ => none }
def SubsetPlacesWrongFalsely : Prop := subsetPlacesRow.holds Tryd.pinned (OpenSpec.ofChange subsetPlacesWrong)

/-- 'recouplaw06.SubsetPascal': WHATEVER THE INPUT: true; the input reads as it did. -/
def subsetPascalSpec : ChangeSpec := { name := "subsetPascal", fn := fun _ => fun
  | [d1, d2] => { results := [.lit (.bool true)], args := [d1, d2] }
  | _ => none }
def subsetPascalRow : OpenClaim := { program := "ytagghjljbedfdaadoor", sum := "8e9390dd352ff62d5e48e66310d9a921dee1aa98a182bbc030394065db5ea6b7", func := "recoup/recouplaw06.SubsetPascal", spec := "subsetPascal", named := ["math/bits.deBruijn64tab"], apart := false, laid := [("math/bits.deBruijn64tab", laid_math_bits_deBruijn64tab)] }
def SubsetPascalSaid : Prop := subsetPascalRow.holds Tryd.pinned (OpenSpec.ofChange subsetPascalSpec)

/-- ITS FALSE NEIGHBOUR: 'it returns false'. Refute it at one input. -/
def subsetPascalWrong : ChangeSpec := { name := "subsetPascal", fn := fun _ => fun
  | [d1, d2] => { results := [.lit (.bool false)], args := [d1, d2] }
  | _ => none }
def SubsetPascalWrongFalsely : Prop := subsetPascalRow.holds Tryd.pinned (OpenSpec.ofChange subsetPascalWrong)

/-- 'recouplaw06.SubsetAll': WHATEVER THE INPUT: true; the input reads as it did. -/
def subsetAllSpec : ChangeSpec := { name := "subsetAll", fn := fun _ => fun
  | [d1, d2, d3] => { results := [.lit (.bool true)], args := [d1, d2, d3] }
  | _ => none }
def subsetAllRow : OpenClaim := { program := "ytagghjljbedfdaadoor", sum := "8e9390dd352ff62d5e48e66310d9a921dee1aa98a182bbc030394065db5ea6b7", func := "recoup/recouplaw06.SubsetAll", spec := "subsetAll", unfollowed := true, recurses := true, named := ["math/bits.deBruijn64tab"], apart := false, laid := [("math/bits.deBruijn64tab", laid_math_bits_deBruijn64tab)] }
def SubsetAllSaid : Prop := subsetAllRow.holds Tryd.pinned (OpenSpec.ofChange subsetAllSpec)

/-- ITS FALSE NEIGHBOUR: 'it returns false'. Refute it at one input. -/
def subsetAllWrong : ChangeSpec := { name := "subsetAll", fn := fun _ => fun
  | [d1, d2, d3] => { results := [.lit (.bool false)], args := [d1, d2, d3] }
  | _ => none }
def SubsetAllWrongFalsely : Prop := subsetAllRow.holds Tryd.pinned (OpenSpec.ofChange subsetAllWrong)

/-- 'recouplaw06.SubsetBack': WHATEVER THE INPUT: true; the input reads as it did. -/
def subsetBackSpec : ChangeSpec := { name := "subsetBack", fn := fun _ => fun
  | [d] => { results := [.lit (.bool true)], args := [d] }
  | _ => none }
def subsetBackRow : OpenClaim := { program := "ytagghjljbedfdaadoor", sum := "8e9390dd352ff62d5e48e66310d9a921dee1aa98a182bbc030394065db5ea6b7", func := "recoup/recouplaw06.SubsetBack", spec := "subsetBack", named := ["math/bits.deBruijn64tab"], apart := false, laid := [("math/bits.deBruijn64tab", laid_math_bits_deBruijn64tab)] }
def SubsetBackSaid : Prop := subsetBackRow.holds Tryd.pinned (OpenSpec.ofChange subsetBackSpec)

/-- ITS FALSE NEIGHBOUR: 'it returns false'. Refute it at one input. -/
def subsetBackWrong : ChangeSpec := { name := "subsetBack", fn := fun _ => fun
  | [d] => { results := [.lit (.bool false)], args := [d] }
  | _ => none }
def SubsetBackWrongFalsely : Prop := subsetBackRow.holds Tryd.pinned (OpenSpec.ofChange subsetBackWrong)

/- THE SECOND FORM. 'bulk': how many values and letters a reading holds, each counted each time it is reached (what is shared counts as often as it is met; a slice's spare places count too). A statement '..UptoSaid' is the law's where the arguments, and the package variables that the reading takes, are together of bulk at most 1048576: NARROWER than '..Said'. Prove '..Said' where nothing that the law and all that it calls make is longer than what came in: it says more and counts as full. Else prove '..UptoSaid'. A law counts once. -/
mutual
def uptoBulk {H : Type} : DataW H → Nat
  | .lit (.string bytes) => bytes.length + 1
  | .lit _ => 1
  | .nil => 1
  | .ptr d => uptoBulk d + 1
  | .slice elems spare => uptoBulkAll elems + uptoBulkAll spare + 1
  | .agg parts => uptoBulkAll parts + 1
  | .iface _ d => uptoBulk d + 1
  | .map entries => uptoBulkEntries entries + 1
  | .held _ => 1
def uptoBulkAll {H : Type} : List (DataW H) → Nat
  | [] => 0
  | d :: r => uptoBulk d + uptoBulkAll r
def uptoBulkEntries {H : Type} : List (Lit × DataW H) → Nat
  | [] => 0
  | x :: r => uptoBulkEntry x + uptoBulkEntries r
def uptoBulkEntry {H : Type} : Lit × DataW H → Nat
  | (.string bytes, d) => bytes.length + uptoBulk d + 1
  | (_, d) => uptoBulk d + 1
 end
def uptoSmall : (H : Type) → List (DataW H) → Bool := fun _ ds => decide (uptoBulkAll ds ≤ 1048576)
def OpenSpec.upto (s : _root_.Go.ChangeSpec) : _root_.Go.OpenSpec := { _root_.Go.OpenSpec.ofChange s with cond := some uptoSmall }

/-- 'recouplaw06.SubsetNexts', WHERE WHAT IT READS IS OF BULK AT MOST 1048576: true; the input reads as it did. -/
def subsetNextsUptoRow : OpenClaim := { program := "ytagghjljbedfdaadoor", sum := "8e9390dd352ff62d5e48e66310d9a921dee1aa98a182bbc030394065db5ea6b7", func := "recoup/recouplaw06.SubsetNexts", spec := "subsetNexts", named := ["math/bits.deBruijn64tab"], apart := false, laid := [("math/bits.deBruijn64tab", laid_math_bits_deBruijn64tab)], narrowed := true }
def SubsetNextsUptoSaid : Prop := subsetNextsUptoRow.holds Tryd.pinned (OpenSpec.upto subsetNextsSpec)

/-- 'recouplaw06.SubsetLists', WHERE WHAT IT READS IS OF BULK AT MOST 1048576: true; the input reads as it did. -/
def subsetListsUptoRow : OpenClaim := { program := "ytagghjljbedfdaadoor", sum := "8e9390dd352ff62d5e48e66310d9a921dee1aa98a182bbc030394065db5ea6b7", func := "recoup/recouplaw06.SubsetLists", spec := "subsetLists", named := ["math/bits.deBruijn64tab"], apart := false, laid := [("math/bits.deBruijn64tab", laid_math_bits_deBruijn64tab)], narrowed := true }
def SubsetListsUptoSaid : Prop := subsetListsUptoRow.holds Tryd.pinned (OpenSpec.upto subsetListsSpec)

/-- 'recouplaw06.SubsetPlaces', WHERE WHAT IT READS IS OF BULK AT MOST 1048576: true; the input reads as it did. -/
def subsetPlacesUptoRow : OpenClaim := { program := "ytagghjljbedfdaadoor", sum := "8e9390dd352ff62d5e48e66310d9a921dee1aa98a182bbc030394065db5ea6b7", func := "recoup/recouplaw06.SubsetPlaces", spec := "subsetPlaces", named := ["math/bits.deBruijn64tab"], apart := false, laid := [("math/bits.deBruijn64tab", laid_math_bits_deBruijn64tab)], narrowed := true }
def SubsetPlacesUptoSaid : Prop := subsetPlacesUptoRow.holds Tryd.pinned (OpenSpec.upto subsetPlacesSpec)

/-- 'recouplaw06.SubsetPascal', WHERE WHAT IT READS IS OF BULK AT MOST 1048576: true; the input reads as it did. -/
def subsetPascalUptoRow : OpenClaim := { program := "ytagghjljbedfdaadoor", sum := "8e9390dd352ff62d5e48e66310d9a921dee1aa98a182bbc030394065db5ea6b7", func := "recoup/recouplaw06.SubsetPascal", spec := "subsetPascal", named := ["math/bits.deBruijn64tab"], apart := false, laid := [("math/bits.deBruijn64tab", laid_math_bits_deBruijn64tab)], narrowed := true }
def SubsetPascalUptoSaid : Prop := subsetPascalUptoRow.holds Tryd.pinned (OpenSpec.upto subsetPascalSpec)

/-- 'recouplaw06.SubsetAll', WHERE WHAT IT READS IS OF BULK AT MOST 1048576: true; the input reads as it did. -/
def subsetAllUptoRow : OpenClaim := { program := "ytagghjljbedfdaadoor", sum := "8e9390dd352ff62d5e48e66310d9a921dee1aa98a182bbc030394065db5ea6b7", func := "recoup/recouplaw06.SubsetAll", spec := "subsetAll", unfollowed := true, recurses := true, named := ["math/bits.deBruijn64tab"], apart := false, laid := [("math/bits.deBruijn64tab", laid_math_bits_deBruijn64tab)], narrowed := true }
def SubsetAllUptoSaid : Prop := subsetAllUptoRow.holds Tryd.pinned (OpenSpec.upto subsetAllSpec)

/-- 'recouplaw06.SubsetBack', WHERE WHAT IT READS IS OF BULK AT MOST 1048576: true; the input reads as it did. -/
def subsetBackUptoRow : OpenClaim := { program := "ytagghjljbedfdaadoor", sum := "8e9390dd352ff62d5e48e66310d9a921dee1aa98a182bbc030394065db5ea6b7", func := "recoup/recouplaw06.SubsetBack", spec := "subsetBack", named := ["math/bits.deBruijn64tab"], apart := false, laid := [("math/bits.deBruijn64tab", laid_math_bits_deBruijn64tab)], narrowed := true }
def SubsetBackUptoSaid : Prop := subsetBackUptoRow.holds Tryd.pinned (OpenSpec.upto subsetBackSpec)

end Rows
end Go.Proofs.YtagghjljbedfdaaDoor
