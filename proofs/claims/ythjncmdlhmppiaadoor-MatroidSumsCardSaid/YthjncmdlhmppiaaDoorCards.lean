/-
  DERIVED. GIVEN WITH THE SEED: THE CARDS: each row of YthjncmdlhmppiaaDoorRows.lean that lists a variable, with what it lists TIED to the program's text (the seventh form; the later family's looks); each row that meets fmt, with fmt's text TOLD by the authors' own Lean function (tested against real Go, not proved from fmt's source: count such statements apart). THE CARD IS WHAT COUNTS. Prove the row's statement (the work); the ties are given (YthjncmdlhmppiaaDoorTie.lean); close each card by the builder's one call (the guide's Derived/Test/ToyasCard.lean, 'card_holds'). Laid BY PROGRAM, IN A SANDBOX (cutbox-door.mjs). By AI agents, Wed Nov 11 2026. No macro, syntax, notation, axiom, sorry.
-/
import Derived.Test.YthjncmdlhmppiaaDoorRows
import GoSem.ClaimSeven
namespace Go.Proofs.YthjncmdlhmppiaaDoor
namespace Rows

/-- THE TIED CARD OF 'recouplaw07.MatroidRanks'. -/
def matroidRanksCard : Claim7 := { stood := { row := matroidRanksRow, standIns := [], harness := (true, "bb888976e2f1a1234c7370fa0a0137c46adf47eb653b29f614665e66bfe8d886"), looks := false }, kinds := [], alts := [], laidByText := true, laidKinds := [.data], laidTests := true, laidLooks := .later }
def MatroidRanksCardSaid : Prop := Claim7.holds Tryd.pinned (.plain (OpenSpec.ofChange matroidRanksSpec)) matroidRanksCard

/-- THE TIED CARD OF 'recouplaw07.MatroidSpans'. -/
def matroidSpansCard : Claim7 := { stood := { row := matroidSpansRow, standIns := [], harness := (true, "bb888976e2f1a1234c7370fa0a0137c46adf47eb653b29f614665e66bfe8d886"), looks := false }, kinds := [], alts := [], laidByText := true, laidKinds := [.data], laidTests := true, laidLooks := .later }
def MatroidSpansCardSaid : Prop := Claim7.holds Tryd.pinned (.plain (OpenSpec.ofChange matroidSpansSpec)) matroidSpansCard

/-- THE TIED CARD OF 'recouplaw07.MatroidCircuits'. -/
def matroidCircuitsCard : Claim7 := { stood := { row := matroidCircuitsRow, standIns := [], harness := (true, "bb888976e2f1a1234c7370fa0a0137c46adf47eb653b29f614665e66bfe8d886"), looks := false }, kinds := [], alts := [], laidByText := true, laidKinds := [.data], laidTests := true, laidLooks := .later }
def MatroidCircuitsCardSaid : Prop := Claim7.holds Tryd.pinned (.plain (OpenSpec.ofChange matroidCircuitsSpec)) matroidCircuitsCard

/-- THE TIED CARD OF 'recouplaw07.MatroidSums'. -/
def matroidSumsCard : Claim7 := { stood := { row := matroidSumsRow, standIns := [], harness := (true, "bb888976e2f1a1234c7370fa0a0137c46adf47eb653b29f614665e66bfe8d886"), looks := false }, kinds := [], alts := [], laidByText := true, laidKinds := [.data], laidTests := true, laidLooks := .later }
def MatroidSumsCardSaid : Prop := Claim7.holds Tryd.pinned (.plain (OpenSpec.ofChange matroidSumsSpec)) matroidSumsCard

/-- THE TIED CARD OF 'recouplaw07.MatroidLeast'. -/
def matroidLeastCard : Claim7 := { stood := { row := matroidLeastRow, standIns := [], harness := (true, "bb888976e2f1a1234c7370fa0a0137c46adf47eb653b29f614665e66bfe8d886"), looks := false }, kinds := [], alts := [], laidByText := true, laidKinds := [.data], laidTests := true, laidLooks := .later }
def MatroidLeastCardSaid : Prop := Claim7.holds Tryd.pinned (.plain (OpenSpec.ofChange matroidLeastSpec)) matroidLeastCard

/-- THE TIED CARD OF 'recouplaw07.MatroidGrows'. -/
def matroidGrowsCard : Claim7 := { stood := { row := matroidGrowsRow, standIns := [], harness := (true, "bb888976e2f1a1234c7370fa0a0137c46adf47eb653b29f614665e66bfe8d886"), looks := false }, kinds := [], alts := [], laidByText := true, laidKinds := [.data], laidTests := true, laidLooks := .later }
def MatroidGrowsCardSaid : Prop := Claim7.holds Tryd.pinned (.plain (OpenSpec.ofChange matroidGrowsSpec)) matroidGrowsCard

/-- THE TIED CARD OF 'recouplaw07.MatroidNeeds'. -/
def matroidNeedsCard : Claim7 := { stood := { row := matroidNeedsRow, standIns := [], harness := (true, "bb888976e2f1a1234c7370fa0a0137c46adf47eb653b29f614665e66bfe8d886"), looks := false }, kinds := [], alts := [], laidByText := true, laidKinds := [.data], laidTests := true, laidLooks := .later }
def MatroidNeedsCardSaid : Prop := Claim7.holds Tryd.pinned (.plain (OpenSpec.ofChange matroidNeedsSpec)) matroidNeedsCard

/-- THE TIED CARD OF 'recouplaw07.MatroidCloses'. -/
def matroidClosesCard : Claim7 := { stood := { row := matroidClosesRow, standIns := [], harness := (true, "bb888976e2f1a1234c7370fa0a0137c46adf47eb653b29f614665e66bfe8d886"), looks := false }, kinds := [], alts := [], laidByText := true, laidKinds := [.data], laidTests := true, laidLooks := .later }
def MatroidClosesCardSaid : Prop := Claim7.holds Tryd.pinned (.plain (OpenSpec.ofChange matroidClosesSpec)) matroidClosesCard

/-- THE TIED CARD OF 'recouplaw07.MatroidKept'. -/
def matroidKeptCard : Claim7 := { stood := { row := matroidKeptRow, standIns := [], harness := (true, "bb888976e2f1a1234c7370fa0a0137c46adf47eb653b29f614665e66bfe8d886"), looks := false }, kinds := [], alts := [], laidByText := true, laidKinds := [.data], laidTests := true, laidLooks := .later }
def MatroidKeptCardSaid : Prop := Claim7.holds Tryd.pinned (.plain (OpenSpec.ofChange matroidKeptSpec)) matroidKeptCard

/-- THE SECOND FORM's CARD OF 'recouplaw07.MatroidRanks'. -/
def matroidRanksUptoCard : Claim7 := { stood := { row := matroidRanksUptoRow, standIns := [], harness := (true, "bb888976e2f1a1234c7370fa0a0137c46adf47eb653b29f614665e66bfe8d886"), looks := false }, kinds := [], alts := [], laidByText := true, laidKinds := [.data], laidTests := true, laidLooks := .later }
def MatroidRanksUptoCardSaid : Prop := Claim7.holds Tryd.pinned (.plain (OpenSpec.upto matroidRanksSpec)) matroidRanksUptoCard

/-- THE SECOND FORM's CARD OF 'recouplaw07.MatroidSpans'. -/
def matroidSpansUptoCard : Claim7 := { stood := { row := matroidSpansUptoRow, standIns := [], harness := (true, "bb888976e2f1a1234c7370fa0a0137c46adf47eb653b29f614665e66bfe8d886"), looks := false }, kinds := [], alts := [], laidByText := true, laidKinds := [.data], laidTests := true, laidLooks := .later }
def MatroidSpansUptoCardSaid : Prop := Claim7.holds Tryd.pinned (.plain (OpenSpec.upto matroidSpansSpec)) matroidSpansUptoCard

/-- THE SECOND FORM's CARD OF 'recouplaw07.MatroidCircuits'. -/
def matroidCircuitsUptoCard : Claim7 := { stood := { row := matroidCircuitsUptoRow, standIns := [], harness := (true, "bb888976e2f1a1234c7370fa0a0137c46adf47eb653b29f614665e66bfe8d886"), looks := false }, kinds := [], alts := [], laidByText := true, laidKinds := [.data], laidTests := true, laidLooks := .later }
def MatroidCircuitsUptoCardSaid : Prop := Claim7.holds Tryd.pinned (.plain (OpenSpec.upto matroidCircuitsSpec)) matroidCircuitsUptoCard

/-- THE SECOND FORM's CARD OF 'recouplaw07.MatroidSums'. -/
def matroidSumsUptoCard : Claim7 := { stood := { row := matroidSumsUptoRow, standIns := [], harness := (true, "bb888976e2f1a1234c7370fa0a0137c46adf47eb653b29f614665e66bfe8d886"), looks := false }, kinds := [], alts := [], laidByText := true, laidKinds := [.data], laidTests := true, laidLooks := .later }
def MatroidSumsUptoCardSaid : Prop := Claim7.holds Tryd.pinned (.plain (OpenSpec.upto matroidSumsSpec)) matroidSumsUptoCard

/-- THE SECOND FORM's CARD OF 'recouplaw07.MatroidLeast'. -/
def matroidLeastUptoCard : Claim7 := { stood := { row := matroidLeastUptoRow, standIns := [], harness := (true, "bb888976e2f1a1234c7370fa0a0137c46adf47eb653b29f614665e66bfe8d886"), looks := false }, kinds := [], alts := [], laidByText := true, laidKinds := [.data], laidTests := true, laidLooks := .later }
def MatroidLeastUptoCardSaid : Prop := Claim7.holds Tryd.pinned (.plain (OpenSpec.upto matroidLeastSpec)) matroidLeastUptoCard

/-- THE SECOND FORM's CARD OF 'recouplaw07.MatroidGrows'. -/
def matroidGrowsUptoCard : Claim7 := { stood := { row := matroidGrowsUptoRow, standIns := [], harness := (true, "bb888976e2f1a1234c7370fa0a0137c46adf47eb653b29f614665e66bfe8d886"), looks := false }, kinds := [], alts := [], laidByText := true, laidKinds := [.data], laidTests := true, laidLooks := .later }
def MatroidGrowsUptoCardSaid : Prop := Claim7.holds Tryd.pinned (.plain (OpenSpec.upto matroidGrowsSpec)) matroidGrowsUptoCard

/-- THE SECOND FORM's CARD OF 'recouplaw07.MatroidNeeds'. -/
def matroidNeedsUptoCard : Claim7 := { stood := { row := matroidNeedsUptoRow, standIns := [], harness := (true, "bb888976e2f1a1234c7370fa0a0137c46adf47eb653b29f614665e66bfe8d886"), looks := false }, kinds := [], alts := [], laidByText := true, laidKinds := [.data], laidTests := true, laidLooks := .later }
def MatroidNeedsUptoCardSaid : Prop := Claim7.holds Tryd.pinned (.plain (OpenSpec.upto matroidNeedsSpec)) matroidNeedsUptoCard

/-- THE SECOND FORM's CARD OF 'recouplaw07.MatroidCloses'. -/
def matroidClosesUptoCard : Claim7 := { stood := { row := matroidClosesUptoRow, standIns := [], harness := (true, "bb888976e2f1a1234c7370fa0a0137c46adf47eb653b29f614665e66bfe8d886"), looks := false }, kinds := [], alts := [], laidByText := true, laidKinds := [.data], laidTests := true, laidLooks := .later }
def MatroidClosesUptoCardSaid : Prop := Claim7.holds Tryd.pinned (.plain (OpenSpec.upto matroidClosesSpec)) matroidClosesUptoCard

/-- THE SECOND FORM's CARD OF 'recouplaw07.MatroidKept'. -/
def matroidKeptUptoCard : Claim7 := { stood := { row := matroidKeptUptoRow, standIns := [], harness := (true, "bb888976e2f1a1234c7370fa0a0137c46adf47eb653b29f614665e66bfe8d886"), looks := false }, kinds := [], alts := [], laidByText := true, laidKinds := [.data], laidTests := true, laidLooks := .later }
def MatroidKeptUptoCardSaid : Prop := Claim7.holds Tryd.pinned (.plain (OpenSpec.upto matroidKeptSpec)) matroidKeptUptoCard
end Rows
end Go.Proofs.YthjncmdlhmppiaaDoor
