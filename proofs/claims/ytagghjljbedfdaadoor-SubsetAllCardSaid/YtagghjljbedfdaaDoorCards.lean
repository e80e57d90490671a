/-
  DERIVED. GIVEN WITH THE SEED: THE CARDS: each row of YtagghjljbedfdaaDoorRows.lean that lists a variable, with what it lists TIED to the program's text (the seventh form; the later family's looks); each row that meets fmt, with fmt's text TOLD by the authors' own Lean function (tested against real Go, not proved from fmt's source: count such statements apart). THE CARD IS WHAT COUNTS. Prove the row's statement (the work); the ties are given (YtagghjljbedfdaaDoorTie.lean); close each card by the builder's one call (the guide's Derived/Test/ToyasCard.lean, 'card_holds'). Laid BY PROGRAM, IN A SANDBOX (cutbox-door.mjs). By AI agents, Wed Nov 11 2026. No macro, syntax, notation, axiom, sorry.
-/
import Derived.Test.YtagghjljbedfdaaDoorRows
import GoSem.ClaimSeven
namespace Go.Proofs.YtagghjljbedfdaaDoor
namespace Rows

/-- THE TIED CARD OF 'recouplaw06.SubsetNexts'. -/
def subsetNextsCard : Claim7 := { stood := { row := subsetNextsRow, standIns := [], harness := (true, "d33b09549111a95823846c9505b334bb440c3b1d4a1423f7cea57d0abca6f158"), looks := false }, kinds := [], alts := [], laidByText := true, laidKinds := [.data], laidTests := true, laidLooks := .later }
def SubsetNextsCardSaid : Prop := Claim7.holds Tryd.pinned (.plain (OpenSpec.ofChange subsetNextsSpec)) subsetNextsCard

/-- THE TIED CARD OF 'recouplaw06.SubsetLists'. -/
def subsetListsCard : Claim7 := { stood := { row := subsetListsRow, standIns := [], harness := (true, "d33b09549111a95823846c9505b334bb440c3b1d4a1423f7cea57d0abca6f158"), looks := false }, kinds := [], alts := [], laidByText := true, laidKinds := [.data], laidTests := true, laidLooks := .later }
def SubsetListsCardSaid : Prop := Claim7.holds Tryd.pinned (.plain (OpenSpec.ofChange subsetListsSpec)) subsetListsCard

/-- THE TIED CARD OF 'recouplaw06.SubsetPlaces'. -/
def subsetPlacesCard : Claim7 := { stood := { row := subsetPlacesRow, standIns := [], harness := (true, "d33b09549111a95823846c9505b334bb440c3b1d4a1423f7cea57d0abca6f158"), looks := false }, kinds := [], alts := [], laidByText := true, laidKinds := [.data], laidTests := true, laidLooks := .later }
def SubsetPlacesCardSaid : Prop := Claim7.holds Tryd.pinned (.plain (OpenSpec.ofChange subsetPlacesSpec)) subsetPlacesCard

/-- THE TIED CARD OF 'recouplaw06.SubsetPascal'. -/
def subsetPascalCard : Claim7 := { stood := { row := subsetPascalRow, standIns := [], harness := (true, "d33b09549111a95823846c9505b334bb440c3b1d4a1423f7cea57d0abca6f158"), looks := false }, kinds := [], alts := [], laidByText := true, laidKinds := [.data], laidTests := true, laidLooks := .later }
def SubsetPascalCardSaid : Prop := Claim7.holds Tryd.pinned (.plain (OpenSpec.ofChange subsetPascalSpec)) subsetPascalCard

/-- THE TIED CARD OF 'recouplaw06.SubsetAll'. -/
def subsetAllCard : Claim7 := { stood := { row := subsetAllRow, standIns := [], harness := (true, "d33b09549111a95823846c9505b334bb440c3b1d4a1423f7cea57d0abca6f158"), looks := false }, kinds := [], alts := [], laidByText := true, laidKinds := [.data], laidTests := true, laidLooks := .later }
def SubsetAllCardSaid : Prop := Claim7.holds Tryd.pinned (.plain (OpenSpec.ofChange subsetAllSpec)) subsetAllCard

/-- THE TIED CARD OF 'recouplaw06.SubsetBack'. -/
def subsetBackCard : Claim7 := { stood := { row := subsetBackRow, standIns := [], harness := (true, "d33b09549111a95823846c9505b334bb440c3b1d4a1423f7cea57d0abca6f158"), looks := false }, kinds := [], alts := [], laidByText := true, laidKinds := [.data], laidTests := true, laidLooks := .later }
def SubsetBackCardSaid : Prop := Claim7.holds Tryd.pinned (.plain (OpenSpec.ofChange subsetBackSpec)) subsetBackCard

/-- THE SECOND FORM's CARD OF 'recouplaw06.SubsetNexts'. -/
def subsetNextsUptoCard : Claim7 := { stood := { row := subsetNextsUptoRow, standIns := [], harness := (true, "d33b09549111a95823846c9505b334bb440c3b1d4a1423f7cea57d0abca6f158"), looks := false }, kinds := [], alts := [], laidByText := true, laidKinds := [.data], laidTests := true, laidLooks := .later }
def SubsetNextsUptoCardSaid : Prop := Claim7.holds Tryd.pinned (.plain (OpenSpec.upto subsetNextsSpec)) subsetNextsUptoCard

/-- THE SECOND FORM's CARD OF 'recouplaw06.SubsetLists'. -/
def subsetListsUptoCard : Claim7 := { stood := { row := subsetListsUptoRow, standIns := [], harness := (true, "d33b09549111a95823846c9505b334bb440c3b1d4a1423f7cea57d0abca6f158"), looks := false }, kinds := [], alts := [], laidByText := true, laidKinds := [.data], laidTests := true, laidLooks := .later }
def SubsetListsUptoCardSaid : Prop := Claim7.holds Tryd.pinned (.plain (OpenSpec.upto subsetListsSpec)) subsetListsUptoCard

/-- THE SECOND FORM's CARD OF 'recouplaw06.SubsetPlaces'. -/
def subsetPlacesUptoCard : Claim7 := { stood := { row := subsetPlacesUptoRow, standIns := [], harness := (true, "d33b09549111a95823846c9505b334bb440c3b1d4a1423f7cea57d0abca6f158"), looks := false }, kinds := [], alts := [], laidByText := true, laidKinds := [.data], laidTests := true, laidLooks := .later }
def SubsetPlacesUptoCardSaid : Prop := Claim7.holds Tryd.pinned (.plain (OpenSpec.upto subsetPlacesSpec)) subsetPlacesUptoCard

/-- THE SECOND FORM's CARD OF 'recouplaw06.SubsetPascal'. -/
def subsetPascalUptoCard : Claim7 := { stood := { row := subsetPascalUptoRow, standIns := [], harness := (true, "d33b09549111a95823846c9505b334bb440c3b1d4a1423f7cea57d0abca6f158"), looks := false }, kinds := [], alts := [], laidByText := true, laidKinds := [.data], laidTests := true, laidLooks := .later }
def SubsetPascalUptoCardSaid : Prop := Claim7.holds Tryd.pinned (.plain (OpenSpec.upto subsetPascalSpec)) subsetPascalUptoCard

/-- THE SECOND FORM's CARD OF 'recouplaw06.SubsetAll'. -/
def subsetAllUptoCard : Claim7 := { stood := { row := subsetAllUptoRow, standIns := [], harness := (true, "d33b09549111a95823846c9505b334bb440c3b1d4a1423f7cea57d0abca6f158"), looks := false }, kinds := [], alts := [], laidByText := true, laidKinds := [.data], laidTests := true, laidLooks := .later }
def SubsetAllUptoCardSaid : Prop := Claim7.holds Tryd.pinned (.plain (OpenSpec.upto subsetAllSpec)) subsetAllUptoCard

/-- THE SECOND FORM's CARD OF 'recouplaw06.SubsetBack'. -/
def subsetBackUptoCard : Claim7 := { stood := { row := subsetBackUptoRow, standIns := [], harness := (true, "d33b09549111a95823846c9505b334bb440c3b1d4a1423f7cea57d0abca6f158"), looks := false }, kinds := [], alts := [], laidByText := true, laidKinds := [.data], laidTests := true, laidLooks := .later }
def SubsetBackUptoCardSaid : Prop := Claim7.holds Tryd.pinned (.plain (OpenSpec.upto subsetBackSpec)) subsetBackUptoCard
end Rows
end Go.Proofs.YtagghjljbedfdaaDoor
