/-
  DERIVED. GIVEN WITH THE SEED: THE CARDS: each row of YtkagobkedifhkaaDoorRows.lean that lists a variable, with what it lists TIED to the program's text (the seventh form; the later family's looks); each row that meets fmt, with fmt's text TOLD by the authors' own Lean function (tested against real Go, not proved from fmt's source: count such statements apart). THE CARD IS WHAT COUNTS. Prove the row's statement (the work); the ties are given (YtkagobkedifhkaaDoorTie.lean); close each card by the builder's one call (the guide's Derived/Test/ToyasCard.lean, 'card_holds'). Laid BY PROGRAM, IN A SANDBOX (cutbox-door.mjs). By AI agents, Wed Nov 11 2026. No macro, syntax, notation, axiom, sorry.
-/
import Derived.Test.YtkagobkedifhkaaDoorRows
import GoSem.ClaimSeven
namespace Go.Proofs.YtkagobkedifhkaaDoor
namespace Rows

/-- THE TIED CARD OF 'recouplaw18.VerdictSays'. -/
def verdictSaysCard : Claim7 := { stood := { row := verdictSaysRow, standIns := [], harness := (true, "163fb2a85cf09980fcccfd9cca19cb58add400127178a40a6a014b58d1514209"), looks := false }, kinds := [], alts := [], laidByText := true, laidKinds := [.data], laidTests := true, laidLooks := .later }
def VerdictSaysCardSaid : Prop := Claim7.holds Tryd.pinned (.plain (OpenSpec.ofChange verdictSaysSpec)) verdictSaysCard

/-- THE TIED CARD OF 'recouplaw18.VerdictFatal'. -/
def verdictFatalCard : Claim7 := { stood := { row := verdictFatalRow, standIns := [], harness := (true, "163fb2a85cf09980fcccfd9cca19cb58add400127178a40a6a014b58d1514209"), looks := false }, kinds := [], alts := [], laidByText := true, laidKinds := [.data], laidTests := true, laidLooks := .later }
def VerdictFatalCardSaid : Prop := Claim7.holds Tryd.pinned (.plain (OpenSpec.ofChange verdictFatalSpec)) verdictFatalCard

/-- THE TIED CARD OF 'recouplaw18.VerdictFewer'. -/
def verdictFewerCard : Claim7 := { stood := { row := verdictFewerRow, standIns := [], harness := (true, "163fb2a85cf09980fcccfd9cca19cb58add400127178a40a6a014b58d1514209"), looks := false }, kinds := [], alts := [], laidByText := true, laidKinds := [.data], laidTests := true, laidLooks := .later }
def VerdictFewerCardSaid : Prop := Claim7.holds Tryd.pinned (.plain (OpenSpec.ofChange verdictFewerSpec)) verdictFewerCard

/-- THE TIED CARD OF 'recouplaw18.VerdictDecodes'. -/
def verdictDecodesCard : Claim7 := { stood := { row := verdictDecodesRow, standIns := [], harness := (true, "163fb2a85cf09980fcccfd9cca19cb58add400127178a40a6a014b58d1514209"), looks := false }, kinds := [], alts := [], laidByText := true, laidKinds := [.data], laidTests := true, laidLooks := .later }
def VerdictDecodesCardSaid : Prop := Claim7.holds Tryd.pinned (.plain (OpenSpec.ofChange verdictDecodesSpec)) verdictDecodesCard

/-- THE TIED CARD OF 'recouplaw18.VerdictGives'. -/
def verdictGivesCard : Claim7 := { stood := { row := verdictGivesRow, standIns := [], harness := (true, "163fb2a85cf09980fcccfd9cca19cb58add400127178a40a6a014b58d1514209"), looks := false }, kinds := [], alts := [], laidByText := true, laidKinds := [.data], laidTests := true, laidLooks := .later }
def VerdictGivesCardSaid : Prop := Claim7.holds Tryd.pinned (.plain (OpenSpec.ofChange verdictGivesSpec)) verdictGivesCard

/-- THE TIED CARD OF 'recouplaw18.VerdictFresh'. -/
def verdictFreshCard : Claim7 := { stood := { row := verdictFreshRow, standIns := [], harness := (true, "163fb2a85cf09980fcccfd9cca19cb58add400127178a40a6a014b58d1514209"), looks := false }, kinds := [], alts := [], laidByText := true, laidKinds := [.data], laidTests := true, laidLooks := .later }
def VerdictFreshCardSaid : Prop := Claim7.holds Tryd.pinned (.plain (OpenSpec.ofChange verdictFreshSpec)) verdictFreshCard

/-- THE SECOND FORM's CARD OF 'recouplaw18.VerdictSays'. -/
def verdictSaysUptoCard : Claim7 := { stood := { row := verdictSaysUptoRow, standIns := [], harness := (true, "163fb2a85cf09980fcccfd9cca19cb58add400127178a40a6a014b58d1514209"), looks := false }, kinds := [], alts := [], laidByText := true, laidKinds := [.data], laidTests := true, laidLooks := .later }
def VerdictSaysUptoCardSaid : Prop := Claim7.holds Tryd.pinned (.plain (OpenSpec.upto verdictSaysSpec)) verdictSaysUptoCard

/-- THE SECOND FORM's CARD OF 'recouplaw18.VerdictFatal'. -/
def verdictFatalUptoCard : Claim7 := { stood := { row := verdictFatalUptoRow, standIns := [], harness := (true, "163fb2a85cf09980fcccfd9cca19cb58add400127178a40a6a014b58d1514209"), looks := false }, kinds := [], alts := [], laidByText := true, laidKinds := [.data], laidTests := true, laidLooks := .later }
def VerdictFatalUptoCardSaid : Prop := Claim7.holds Tryd.pinned (.plain (OpenSpec.upto verdictFatalSpec)) verdictFatalUptoCard

/-- THE SECOND FORM's CARD OF 'recouplaw18.VerdictFewer'. -/
def verdictFewerUptoCard : Claim7 := { stood := { row := verdictFewerUptoRow, standIns := [], harness := (true, "163fb2a85cf09980fcccfd9cca19cb58add400127178a40a6a014b58d1514209"), looks := false }, kinds := [], alts := [], laidByText := true, laidKinds := [.data], laidTests := true, laidLooks := .later }
def VerdictFewerUptoCardSaid : Prop := Claim7.holds Tryd.pinned (.plain (OpenSpec.upto verdictFewerSpec)) verdictFewerUptoCard

/-- THE SECOND FORM's CARD OF 'recouplaw18.VerdictDecodes'. -/
def verdictDecodesUptoCard : Claim7 := { stood := { row := verdictDecodesUptoRow, standIns := [], harness := (true, "163fb2a85cf09980fcccfd9cca19cb58add400127178a40a6a014b58d1514209"), looks := false }, kinds := [], alts := [], laidByText := true, laidKinds := [.data], laidTests := true, laidLooks := .later }
def VerdictDecodesUptoCardSaid : Prop := Claim7.holds Tryd.pinned (.plain (OpenSpec.upto verdictDecodesSpec)) verdictDecodesUptoCard

/-- THE SECOND FORM's CARD OF 'recouplaw18.VerdictGives'. -/
def verdictGivesUptoCard : Claim7 := { stood := { row := verdictGivesUptoRow, standIns := [], harness := (true, "163fb2a85cf09980fcccfd9cca19cb58add400127178a40a6a014b58d1514209"), looks := false }, kinds := [], alts := [], laidByText := true, laidKinds := [.data], laidTests := true, laidLooks := .later }
def VerdictGivesUptoCardSaid : Prop := Claim7.holds Tryd.pinned (.plain (OpenSpec.upto verdictGivesSpec)) verdictGivesUptoCard

/-- THE SECOND FORM's CARD OF 'recouplaw18.VerdictFresh'. -/
def verdictFreshUptoCard : Claim7 := { stood := { row := verdictFreshUptoRow, standIns := [], harness := (true, "163fb2a85cf09980fcccfd9cca19cb58add400127178a40a6a014b58d1514209"), looks := false }, kinds := [], alts := [], laidByText := true, laidKinds := [.data], laidTests := true, laidLooks := .later }
def VerdictFreshUptoCardSaid : Prop := Claim7.holds Tryd.pinned (.plain (OpenSpec.upto verdictFreshSpec)) verdictFreshUptoCard
end Rows
end Go.Proofs.YtkagobkedifhkaaDoor
