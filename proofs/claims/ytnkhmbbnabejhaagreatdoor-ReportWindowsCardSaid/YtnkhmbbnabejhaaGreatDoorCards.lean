/-
  DERIVED. GIVEN WITH THE SEED: THE CARDS: each row of YtnkhmbbnabejhaaGreatDoorRows.lean that lists a variable, with what it lists TIED to the program's text (the seventh form; the later family's looks); each row that meets fmt, with fmt's text TOLD by the authors' own Lean function (tested against real Go, not proved from fmt's source: count such statements apart). THE CARD IS WHAT COUNTS. Prove the row's statement (the work); the ties are given (YtnkhmbbnabejhaaGreatDoorTie.lean); close each card by the builder's one call (the guide's Derived/Test/ToyasCard.lean, 'card_holds'). Laid BY PROGRAM, IN A SANDBOX (cutbox-door.mjs). By AI agents, Wed Nov 11 2026. No macro, syntax, notation, axiom, sorry.
-/
import Derived.Test.YtnkhmbbnabejhaaGreatDoorRows
import GoSem.ClaimSeven
namespace Go.Proofs.YtnkhmbbnabejhaaGreatDoor
namespace Rows

/-- THE TIED CARD OF 'lockkeeperlaw45.ReportLines'. -/
def reportLinesCard : Claim7 := { stood := { row := reportLinesRow, standIns := [], harness := (true, "516b654326a92288f701a84ce9001f824d42408cd503249d319e49a24adfbec2"), looks := true }, kinds := [], alts := [], laidByText := true, laidKinds := [.data, .data, .data, .sentinel, .sentinel], laidTests := true, laidLooks := .later }
def ReportLinesCardSaid : Prop := Claim7.holds Tryz.pinned (.plain (OpenSpec.ofChange reportLinesSpec)) reportLinesCard

/-- THE TIED CARD OF 'lockkeeperlaw45.ReportWindows'. -/
def reportWindowsCard : Claim7 := { stood := { row := reportWindowsRow, standIns := [], harness := (true, "516b654326a92288f701a84ce9001f824d42408cd503249d319e49a24adfbec2"), looks := true }, kinds := [], alts := [], laidByText := true, laidKinds := [.data, .data, .data, .sentinel, .sentinel], laidTests := true, laidLooks := .later }
def ReportWindowsCardSaid : Prop := Claim7.holds Tryz.pinned (.plain (OpenSpec.ofChange reportWindowsSpec)) reportWindowsCard

/-- THE SECOND FORM's CARD OF 'lockkeeperlaw45.ReportLines'. -/
def reportLinesUptoCard : Claim7 := { stood := { row := reportLinesUptoRow, standIns := [], harness := (true, "516b654326a92288f701a84ce9001f824d42408cd503249d319e49a24adfbec2"), looks := true }, kinds := [], alts := [], laidByText := true, laidKinds := [.data, .data, .data, .sentinel, .sentinel], laidTests := true, laidLooks := .later }
def ReportLinesUptoCardSaid : Prop := Claim7.holds Tryz.pinned (.plain (OpenSpec.upto reportLinesSpec)) reportLinesUptoCard

/-- THE SECOND FORM's CARD OF 'lockkeeperlaw45.ReportWindows'. -/
def reportWindowsUptoCard : Claim7 := { stood := { row := reportWindowsUptoRow, standIns := [], harness := (true, "516b654326a92288f701a84ce9001f824d42408cd503249d319e49a24adfbec2"), looks := true }, kinds := [], alts := [], laidByText := true, laidKinds := [.data, .data, .data, .sentinel, .sentinel], laidTests := true, laidLooks := .later }
def ReportWindowsUptoCardSaid : Prop := Claim7.holds Tryz.pinned (.plain (OpenSpec.upto reportWindowsSpec)) reportWindowsUptoCard
end Rows
end Go.Proofs.YtnkhmbbnabejhaaGreatDoor
