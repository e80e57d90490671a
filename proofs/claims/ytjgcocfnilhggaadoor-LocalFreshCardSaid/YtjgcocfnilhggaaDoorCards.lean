/-
  DERIVED. GIVEN WITH THE SEED: THE CARDS: each row of YtjgcocfnilhggaaDoorRows.lean that lists a variable, with what it lists TIED to the program's text (the seventh form; the later family's looks); each row that meets fmt, with fmt's text TOLD by the authors' own Lean function (tested against real Go, not proved from fmt's source: count such statements apart). THE CARD IS WHAT COUNTS. Prove the row's statement (the work); the ties are given (YtjgcocfnilhggaaDoorTie.lean); close each card by the builder's one call (the guide's Derived/Test/ToyasCard.lean, 'card_holds'). Laid BY PROGRAM, IN A SANDBOX (cutbox-door.mjs). By AI agents, Wed Nov 11 2026. No macro, syntax, notation, axiom, sorry.
-/
import Derived.Test.YtjgcocfnilhggaaDoorRows
import GoSem.ClaimSeven
namespace Go.Proofs.YtjgcocfnilhggaaDoor
namespace Rows

/-- THE TIED CARD OF 'recouplaw19.LocalGroups'. -/
def localGroupsCard : Claim7 := { stood := { row := localGroupsRow, standIns := [], harness := (true, "93e2fdfd4300ac0036853376af19a175c3f76838435f0cef2f4ddd9f0d139315"), looks := false }, kinds := [], alts := [], laidByText := true, laidKinds := [.data], laidTests := true, laidLooks := .later }
def LocalGroupsCardSaid : Prop := Claim7.holds Tryd.pinned (.plain (OpenSpec.ofChange localGroupsSpec)) localGroupsCard

/-- THE TIED CARD OF 'recouplaw19.LocalLeast'. -/
def localLeastCard : Claim7 := { stood := { row := localLeastRow, standIns := [], harness := (true, "93e2fdfd4300ac0036853376af19a175c3f76838435f0cef2f4ddd9f0d139315"), looks := false }, kinds := [], alts := [], laidByText := true, laidKinds := [.data], laidTests := true, laidLooks := .later }
def LocalLeastCardSaid : Prop := Claim7.holds Tryd.pinned (.plain (OpenSpec.ofChange localLeastSpec)) localLeastCard

/-- THE TIED CARD OF 'recouplaw19.LocalPuts'. -/
def localPutsCard : Claim7 := { stood := { row := localPutsRow, standIns := [], harness := (true, "93e2fdfd4300ac0036853376af19a175c3f76838435f0cef2f4ddd9f0d139315"), looks := false }, kinds := [], alts := [], laidByText := true, laidKinds := [.data], laidTests := true, laidLooks := .later }
def LocalPutsCardSaid : Prop := Claim7.holds Tryd.pinned (.plain (OpenSpec.ofChange localPutsSpec)) localPutsCard

/-- THE TIED CARD OF 'recouplaw19.LocalFewest'. -/
def localFewestCard : Claim7 := { stood := { row := localFewestRow, standIns := [], harness := (true, "93e2fdfd4300ac0036853376af19a175c3f76838435f0cef2f4ddd9f0d139315"), looks := false }, kinds := [], alts := [], laidByText := true, laidKinds := [.data], laidTests := true, laidLooks := .later }
def LocalFewestCardSaid : Prop := Claim7.holds Tryd.pinned (.plain (OpenSpec.ofChange localFewestSpec)) localFewestCard

/-- THE TIED CARD OF 'recouplaw19.LocalFresh'. -/
def localFreshCard : Claim7 := { stood := { row := localFreshRow, standIns := [], harness := (true, "93e2fdfd4300ac0036853376af19a175c3f76838435f0cef2f4ddd9f0d139315"), looks := false }, kinds := [], alts := [], laidByText := true, laidKinds := [.data], laidTests := true, laidLooks := .later }
def LocalFreshCardSaid : Prop := Claim7.holds Tryd.pinned (.plain (OpenSpec.ofChange localFreshSpec)) localFreshCard

/-- THE TIED CARD OF 'recouplaw19.LocalWithin'. -/
def localWithinCard : Claim7 := { stood := { row := localWithinRow, standIns := [], harness := (true, "93e2fdfd4300ac0036853376af19a175c3f76838435f0cef2f4ddd9f0d139315"), looks := false }, kinds := [], alts := [], laidByText := true, laidKinds := [.data], laidTests := true, laidLooks := .later }
def LocalWithinCardSaid : Prop := Claim7.holds Tryd.pinned (.plain (OpenSpec.ofChange localWithinSpec)) localWithinCard

/-- THE SECOND FORM's CARD OF 'recouplaw19.LocalGroups'. -/
def localGroupsUptoCard : Claim7 := { stood := { row := localGroupsUptoRow, standIns := [], harness := (true, "93e2fdfd4300ac0036853376af19a175c3f76838435f0cef2f4ddd9f0d139315"), looks := false }, kinds := [], alts := [], laidByText := true, laidKinds := [.data], laidTests := true, laidLooks := .later }
def LocalGroupsUptoCardSaid : Prop := Claim7.holds Tryd.pinned (.plain (OpenSpec.upto localGroupsSpec)) localGroupsUptoCard

/-- THE SECOND FORM's CARD OF 'recouplaw19.LocalLeast'. -/
def localLeastUptoCard : Claim7 := { stood := { row := localLeastUptoRow, standIns := [], harness := (true, "93e2fdfd4300ac0036853376af19a175c3f76838435f0cef2f4ddd9f0d139315"), looks := false }, kinds := [], alts := [], laidByText := true, laidKinds := [.data], laidTests := true, laidLooks := .later }
def LocalLeastUptoCardSaid : Prop := Claim7.holds Tryd.pinned (.plain (OpenSpec.upto localLeastSpec)) localLeastUptoCard

/-- THE SECOND FORM's CARD OF 'recouplaw19.LocalPuts'. -/
def localPutsUptoCard : Claim7 := { stood := { row := localPutsUptoRow, standIns := [], harness := (true, "93e2fdfd4300ac0036853376af19a175c3f76838435f0cef2f4ddd9f0d139315"), looks := false }, kinds := [], alts := [], laidByText := true, laidKinds := [.data], laidTests := true, laidLooks := .later }
def LocalPutsUptoCardSaid : Prop := Claim7.holds Tryd.pinned (.plain (OpenSpec.upto localPutsSpec)) localPutsUptoCard

/-- THE SECOND FORM's CARD OF 'recouplaw19.LocalFewest'. -/
def localFewestUptoCard : Claim7 := { stood := { row := localFewestUptoRow, standIns := [], harness := (true, "93e2fdfd4300ac0036853376af19a175c3f76838435f0cef2f4ddd9f0d139315"), looks := false }, kinds := [], alts := [], laidByText := true, laidKinds := [.data], laidTests := true, laidLooks := .later }
def LocalFewestUptoCardSaid : Prop := Claim7.holds Tryd.pinned (.plain (OpenSpec.upto localFewestSpec)) localFewestUptoCard

/-- THE SECOND FORM's CARD OF 'recouplaw19.LocalFresh'. -/
def localFreshUptoCard : Claim7 := { stood := { row := localFreshUptoRow, standIns := [], harness := (true, "93e2fdfd4300ac0036853376af19a175c3f76838435f0cef2f4ddd9f0d139315"), looks := false }, kinds := [], alts := [], laidByText := true, laidKinds := [.data], laidTests := true, laidLooks := .later }
def LocalFreshUptoCardSaid : Prop := Claim7.holds Tryd.pinned (.plain (OpenSpec.upto localFreshSpec)) localFreshUptoCard

/-- THE SECOND FORM's CARD OF 'recouplaw19.LocalWithin'. -/
def localWithinUptoCard : Claim7 := { stood := { row := localWithinUptoRow, standIns := [], harness := (true, "93e2fdfd4300ac0036853376af19a175c3f76838435f0cef2f4ddd9f0d139315"), looks := false }, kinds := [], alts := [], laidByText := true, laidKinds := [.data], laidTests := true, laidLooks := .later }
def LocalWithinUptoCardSaid : Prop := Claim7.holds Tryd.pinned (.plain (OpenSpec.upto localWithinSpec)) localWithinUptoCard
end Rows
end Go.Proofs.YtjgcocfnilhggaaDoor
