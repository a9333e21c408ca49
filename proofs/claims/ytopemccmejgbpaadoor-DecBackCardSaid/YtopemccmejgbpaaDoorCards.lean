/-
  DERIVED. GIVEN WITH THE SEED: THE CARDS: each row of YtopemccmejgbpaaDoorRows.lean that lists a variable, with what it lists TIED to the program's text (the seventh form; the later family's looks); each row that meets fmt, with fmt's text TOLD by the authors' own Lean function (tested against real Go, not proved from fmt's source: count such statements apart). THE CARD IS WHAT COUNTS. Prove the row's statement (the work); the ties are given (YtopemccmejgbpaaDoorTie.lean); close each card by the builder's one call (the guide's Derived/Test/ToyasCard.lean, 'card_holds'). Laid BY PROGRAM, IN A SANDBOX (cutbox-door.mjs). By AI agents, Wed Nov 11 2026. No macro, syntax, notation, axiom, sorry.
-/
import Derived.Test.YtopemccmejgbpaaDoorRows
import GoSem.ClaimSeven
namespace Go.Proofs.YtopemccmejgbpaaDoor
namespace Rows

/-- THE TIED CARD OF 'lockkeeperlaw05.DecTexts'. -/
def decTextsCard : Claim7 := { stood := { row := decTextsRow, standIns := [], harness := (true, "2a5a02a2d3a64317b767e2e88f267cc6347a83321a4ab2879434b1706eb7a889"), looks := true }, kinds := [], alts := [], laidByText := true, laidKinds := [.data, .data, .data, .data, .sentinel, .sentinel, .data, .pinned], laidTests := true, laidLooks := .later }
def DecTextsCardSaid : Prop := Claim7.holds Tryd.pinned (.plain (OpenSpec.ofChange decTextsSpec)) decTextsCard

/-- THE TIED CARD OF 'lockkeeperlaw05.DecLists'. -/
def decListsCard : Claim7 := { stood := { row := decListsRow, standIns := [], harness := (true, "2a5a02a2d3a64317b767e2e88f267cc6347a83321a4ab2879434b1706eb7a889"), looks := true }, kinds := [], alts := [], laidByText := true, laidKinds := [.data, .data, .data, .data, .sentinel, .sentinel, .data, .pinned], laidTests := true, laidLooks := .later }
def DecListsCardSaid : Prop := Claim7.holds Tryd.pinned (.plain (OpenSpec.ofChange decListsSpec)) decListsCard

/-- THE TIED CARD OF 'lockkeeperlaw05.DecBack'. -/
def decBackCard : Claim7 := { stood := { row := decBackRow, standIns := [], harness := (true, "2a5a02a2d3a64317b767e2e88f267cc6347a83321a4ab2879434b1706eb7a889"), looks := true }, kinds := [], alts := [], laidByText := true, laidKinds := [.data, .data, .data, .data, .sentinel, .sentinel, .data, .pinned], laidTests := true, laidLooks := .later }
def DecBackCardSaid : Prop := Claim7.holds Tryd.pinned (.plain (OpenSpec.ofChange decBackSpec)) decBackCard

/-- THE SECOND FORM's CARD OF 'lockkeeperlaw05.DecTexts'. -/
def decTextsUptoCard : Claim7 := { stood := { row := decTextsUptoRow, standIns := [], harness := (true, "2a5a02a2d3a64317b767e2e88f267cc6347a83321a4ab2879434b1706eb7a889"), looks := true }, kinds := [], alts := [], laidByText := true, laidKinds := [.data, .data, .data, .data, .sentinel, .sentinel, .data, .pinned], laidTests := true, laidLooks := .later }
def DecTextsUptoCardSaid : Prop := Claim7.holds Tryd.pinned (.plain (OpenSpec.upto decTextsSpec)) decTextsUptoCard

/-- THE SECOND FORM's CARD OF 'lockkeeperlaw05.DecLists'. -/
def decListsUptoCard : Claim7 := { stood := { row := decListsUptoRow, standIns := [], harness := (true, "2a5a02a2d3a64317b767e2e88f267cc6347a83321a4ab2879434b1706eb7a889"), looks := true }, kinds := [], alts := [], laidByText := true, laidKinds := [.data, .data, .data, .data, .sentinel, .sentinel, .data, .pinned], laidTests := true, laidLooks := .later }
def DecListsUptoCardSaid : Prop := Claim7.holds Tryd.pinned (.plain (OpenSpec.upto decListsSpec)) decListsUptoCard

/-- THE SECOND FORM's CARD OF 'lockkeeperlaw05.DecBack'. -/
def decBackUptoCard : Claim7 := { stood := { row := decBackUptoRow, standIns := [], harness := (true, "2a5a02a2d3a64317b767e2e88f267cc6347a83321a4ab2879434b1706eb7a889"), looks := true }, kinds := [], alts := [], laidByText := true, laidKinds := [.data, .data, .data, .data, .sentinel, .sentinel, .data, .pinned], laidTests := true, laidLooks := .later }
def DecBackUptoCardSaid : Prop := Claim7.holds Tryd.pinned (.plain (OpenSpec.upto decBackSpec)) decBackUptoCard
end Rows
end Go.Proofs.YtopemccmejgbpaaDoor
