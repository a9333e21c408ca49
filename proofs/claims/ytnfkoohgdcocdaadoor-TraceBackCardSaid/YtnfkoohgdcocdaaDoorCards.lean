/-
  DERIVED. GIVEN WITH THE SEED: THE CARDS: each row of YtnfkoohgdcocdaaDoorRows.lean that lists a variable, with what it lists TIED to the program's text (the seventh form; the later family's looks); each row that meets fmt, with fmt's text TOLD by the authors' own Lean function (tested against real Go, not proved from fmt's source: count such statements apart). THE CARD IS WHAT COUNTS. Prove the row's statement (the work); the ties are given (YtnfkoohgdcocdaaDoorTie.lean); close each card by the builder's one call (the guide's Derived/Test/ToyasCard.lean, 'card_holds'). Laid BY PROGRAM, IN A SANDBOX (cutbox-door.mjs). By AI agents, Wed Nov 11 2026. No macro, syntax, notation, axiom, sorry.
-/
import Derived.Test.YtnfkoohgdcocdaaDoorRows
import GoSem.ClaimSeven
namespace Go.Proofs.YtnfkoohgdcocdaaDoor
namespace Rows

/-- THE TIED CARD OF 'lockkeeperlaw39.TraceLines'. -/
def traceLinesCard : Claim7 := { stood := { row := traceLinesRow, standIns := [], harness := (true, "4d6bec6496596d1e308a999f11d2983c701f5153bebfa128ad0defe17c9d7dca"), looks := true }, kinds := [], alts := [], laidByText := true, laidKinds := [.data, .data, .data, .sentinel, .sentinel, .widerDeep], laidTests := true, laidLooks := .later }
def TraceLinesCardSaid : Prop := Claim7.holds Tryd.pinned (.plain (OpenSpec.ofChange traceLinesSpec)) traceLinesCard

/-- THE TIED CARD OF 'lockkeeperlaw39.TraceBack'. -/
def traceBackCard : Claim7 := { stood := { row := traceBackRow, standIns := [], harness := (true, "4d6bec6496596d1e308a999f11d2983c701f5153bebfa128ad0defe17c9d7dca"), looks := true }, kinds := [], alts := [], laidByText := true, laidKinds := [.data, .data, .data, .sentinel, .sentinel, .widerDeep], laidTests := true, laidLooks := .later }
def TraceBackCardSaid : Prop := Claim7.holds Tryd.pinned (.plain (OpenSpec.ofChange traceBackSpec)) traceBackCard

/-- THE TIED CARD OF 'lockkeeperlaw39.TraceTexts'. -/
def traceTextsCard : Claim7 := { stood := { row := traceTextsRow, standIns := [], harness := (true, "4d6bec6496596d1e308a999f11d2983c701f5153bebfa128ad0defe17c9d7dca"), looks := true }, kinds := [], alts := [], laidByText := true, laidKinds := [.data, .data, .data, .sentinel, .sentinel, .widerDeep], laidTests := true, laidLooks := .later }
def TraceTextsCardSaid : Prop := Claim7.holds Tryd.pinned (.plain (OpenSpec.ofChange traceTextsSpec)) traceTextsCard

/-- THE TIED CARD OF 'lockkeeperlaw28.ConfRows'. -/
def confRowsCard : Claim7 := { stood := { row := confRowsRow, standIns := [], harness := (true, "4d6bec6496596d1e308a999f11d2983c701f5153bebfa128ad0defe17c9d7dca"), looks := true }, kinds := [], alts := [], laidByText := true, laidKinds := [.data, .data, .data, .sentinel, .sentinel, .widerDeep], laidTests := true, laidLooks := .later }
def ConfRowsCardSaid : Prop := Claim7.holds Tryd.pinned (.plain (OpenSpec.ofChange confRowsSpec)) confRowsCard

/-- THE TIED CARD OF 'lockkeeperlaw28.ConfBack'. -/
def confBackCard : Claim7 := { stood := { row := confBackRow, standIns := [], harness := (true, "4d6bec6496596d1e308a999f11d2983c701f5153bebfa128ad0defe17c9d7dca"), looks := true }, kinds := [], alts := [], laidByText := true, laidKinds := [.data, .data, .data, .sentinel, .sentinel, .widerDeep], laidTests := true, laidLooks := .later }
def ConfBackCardSaid : Prop := Claim7.holds Tryd.pinned (.plain (OpenSpec.ofChange confBackSpec)) confBackCard

/-- THE TIED CARD OF 'lockkeeperlaw28.ConfChecks'. -/
def confChecksCard : Claim7 := { stood := { row := confChecksRow, standIns := [], harness := (true, "4d6bec6496596d1e308a999f11d2983c701f5153bebfa128ad0defe17c9d7dca"), looks := true }, kinds := [], alts := [], laidByText := true, laidKinds := [.data, .data, .data, .sentinel, .sentinel, .widerDeep], laidTests := true, laidLooks := .later }
def ConfChecksCardSaid : Prop := Claim7.holds Tryd.pinned (.plain (OpenSpec.ofChange confChecksSpec)) confChecksCard

/-- THE TIED CARD OF 'lockkeeperlaw18.KnobTexts'. -/
def knobTextsCard : Claim7 := { stood := { row := knobTextsRow, standIns := [], harness := (true, "4d6bec6496596d1e308a999f11d2983c701f5153bebfa128ad0defe17c9d7dca"), looks := true }, kinds := [], alts := [], laidByText := true, laidKinds := [.data, .data, .data, .sentinel, .sentinel, .widerDeep], laidTests := true, laidLooks := .later }
def KnobTextsCardSaid : Prop := Claim7.holds Tryd.pinned (.plain (OpenSpec.ofChange knobTextsSpec)) knobTextsCard

/-- THE TIED CARD OF 'lockkeeperlaw18.KnobBack'. -/
def knobBackCard : Claim7 := { stood := { row := knobBackRow, standIns := [], harness := (true, "4d6bec6496596d1e308a999f11d2983c701f5153bebfa128ad0defe17c9d7dca"), looks := true }, kinds := [], alts := [], laidByText := true, laidKinds := [.data, .data, .data, .sentinel, .sentinel, .widerDeep], laidTests := true, laidLooks := .later }
def KnobBackCardSaid : Prop := Claim7.holds Tryd.pinned (.plain (OpenSpec.ofChange knobBackSpec)) knobBackCard

/-- THE TIED CARD OF 'lockkeeperlaw18.KnobChecks'. -/
def knobChecksCard : Claim7 := { stood := { row := knobChecksRow, standIns := [], harness := (true, "4d6bec6496596d1e308a999f11d2983c701f5153bebfa128ad0defe17c9d7dca"), looks := true }, kinds := [], alts := [], laidByText := true, laidKinds := [.data, .data, .data, .sentinel, .sentinel, .widerDeep], laidTests := true, laidLooks := .later }
def KnobChecksCardSaid : Prop := Claim7.holds Tryd.pinned (.plain (OpenSpec.ofChange knobChecksSpec)) knobChecksCard

/-- THE TIED CARD OF 'lockkeeperlaw45.ReportReads'. -/
def reportReadsCard : Claim7 := { stood := { row := reportReadsRow, standIns := [], harness := (true, "4d6bec6496596d1e308a999f11d2983c701f5153bebfa128ad0defe17c9d7dca"), looks := true }, kinds := [], alts := [], laidByText := true, laidKinds := [.data, .data, .data, .sentinel, .sentinel], laidTests := true, laidLooks := .later }
def ReportReadsCardSaid : Prop := Claim7.holds Tryd.pinned (.plain (OpenSpec.ofChange reportReadsSpec)) reportReadsCard

/-- THE SECOND FORM's CARD OF 'lockkeeperlaw39.TraceLines'. -/
def traceLinesUptoCard : Claim7 := { stood := { row := traceLinesUptoRow, standIns := [], harness := (true, "4d6bec6496596d1e308a999f11d2983c701f5153bebfa128ad0defe17c9d7dca"), looks := true }, kinds := [], alts := [], laidByText := true, laidKinds := [.data, .data, .data, .sentinel, .sentinel, .widerDeep], laidTests := true, laidLooks := .later }
def TraceLinesUptoCardSaid : Prop := Claim7.holds Tryd.pinned (.plain (OpenSpec.upto traceLinesSpec)) traceLinesUptoCard

/-- THE SECOND FORM's CARD OF 'lockkeeperlaw39.TraceBack'. -/
def traceBackUptoCard : Claim7 := { stood := { row := traceBackUptoRow, standIns := [], harness := (true, "4d6bec6496596d1e308a999f11d2983c701f5153bebfa128ad0defe17c9d7dca"), looks := true }, kinds := [], alts := [], laidByText := true, laidKinds := [.data, .data, .data, .sentinel, .sentinel, .widerDeep], laidTests := true, laidLooks := .later }
def TraceBackUptoCardSaid : Prop := Claim7.holds Tryd.pinned (.plain (OpenSpec.upto traceBackSpec)) traceBackUptoCard

/-- THE SECOND FORM's CARD OF 'lockkeeperlaw39.TraceTexts'. -/
def traceTextsUptoCard : Claim7 := { stood := { row := traceTextsUptoRow, standIns := [], harness := (true, "4d6bec6496596d1e308a999f11d2983c701f5153bebfa128ad0defe17c9d7dca"), looks := true }, kinds := [], alts := [], laidByText := true, laidKinds := [.data, .data, .data, .sentinel, .sentinel, .widerDeep], laidTests := true, laidLooks := .later }
def TraceTextsUptoCardSaid : Prop := Claim7.holds Tryd.pinned (.plain (OpenSpec.upto traceTextsSpec)) traceTextsUptoCard

/-- THE SECOND FORM's CARD OF 'lockkeeperlaw28.ConfRows'. -/
def confRowsUptoCard : Claim7 := { stood := { row := confRowsUptoRow, standIns := [], harness := (true, "4d6bec6496596d1e308a999f11d2983c701f5153bebfa128ad0defe17c9d7dca"), looks := true }, kinds := [], alts := [], laidByText := true, laidKinds := [.data, .data, .data, .sentinel, .sentinel, .widerDeep], laidTests := true, laidLooks := .later }
def ConfRowsUptoCardSaid : Prop := Claim7.holds Tryd.pinned (.plain (OpenSpec.upto confRowsSpec)) confRowsUptoCard

/-- THE SECOND FORM's CARD OF 'lockkeeperlaw28.ConfBack'. -/
def confBackUptoCard : Claim7 := { stood := { row := confBackUptoRow, standIns := [], harness := (true, "4d6bec6496596d1e308a999f11d2983c701f5153bebfa128ad0defe17c9d7dca"), looks := true }, kinds := [], alts := [], laidByText := true, laidKinds := [.data, .data, .data, .sentinel, .sentinel, .widerDeep], laidTests := true, laidLooks := .later }
def ConfBackUptoCardSaid : Prop := Claim7.holds Tryd.pinned (.plain (OpenSpec.upto confBackSpec)) confBackUptoCard

/-- THE SECOND FORM's CARD OF 'lockkeeperlaw28.ConfChecks'. -/
def confChecksUptoCard : Claim7 := { stood := { row := confChecksUptoRow, standIns := [], harness := (true, "4d6bec6496596d1e308a999f11d2983c701f5153bebfa128ad0defe17c9d7dca"), looks := true }, kinds := [], alts := [], laidByText := true, laidKinds := [.data, .data, .data, .sentinel, .sentinel, .widerDeep], laidTests := true, laidLooks := .later }
def ConfChecksUptoCardSaid : Prop := Claim7.holds Tryd.pinned (.plain (OpenSpec.upto confChecksSpec)) confChecksUptoCard

/-- THE SECOND FORM's CARD OF 'lockkeeperlaw18.KnobTexts'. -/
def knobTextsUptoCard : Claim7 := { stood := { row := knobTextsUptoRow, standIns := [], harness := (true, "4d6bec6496596d1e308a999f11d2983c701f5153bebfa128ad0defe17c9d7dca"), looks := true }, kinds := [], alts := [], laidByText := true, laidKinds := [.data, .data, .data, .sentinel, .sentinel, .widerDeep], laidTests := true, laidLooks := .later }
def KnobTextsUptoCardSaid : Prop := Claim7.holds Tryd.pinned (.plain (OpenSpec.upto knobTextsSpec)) knobTextsUptoCard

/-- THE SECOND FORM's CARD OF 'lockkeeperlaw18.KnobBack'. -/
def knobBackUptoCard : Claim7 := { stood := { row := knobBackUptoRow, standIns := [], harness := (true, "4d6bec6496596d1e308a999f11d2983c701f5153bebfa128ad0defe17c9d7dca"), looks := true }, kinds := [], alts := [], laidByText := true, laidKinds := [.data, .data, .data, .sentinel, .sentinel, .widerDeep], laidTests := true, laidLooks := .later }
def KnobBackUptoCardSaid : Prop := Claim7.holds Tryd.pinned (.plain (OpenSpec.upto knobBackSpec)) knobBackUptoCard

/-- THE SECOND FORM's CARD OF 'lockkeeperlaw18.KnobChecks'. -/
def knobChecksUptoCard : Claim7 := { stood := { row := knobChecksUptoRow, standIns := [], harness := (true, "4d6bec6496596d1e308a999f11d2983c701f5153bebfa128ad0defe17c9d7dca"), looks := true }, kinds := [], alts := [], laidByText := true, laidKinds := [.data, .data, .data, .sentinel, .sentinel, .widerDeep], laidTests := true, laidLooks := .later }
def KnobChecksUptoCardSaid : Prop := Claim7.holds Tryd.pinned (.plain (OpenSpec.upto knobChecksSpec)) knobChecksUptoCard

/-- THE SECOND FORM's CARD OF 'lockkeeperlaw45.ReportReads'. -/
def reportReadsUptoCard : Claim7 := { stood := { row := reportReadsUptoRow, standIns := [], harness := (true, "4d6bec6496596d1e308a999f11d2983c701f5153bebfa128ad0defe17c9d7dca"), looks := true }, kinds := [], alts := [], laidByText := true, laidKinds := [.data, .data, .data, .sentinel, .sentinel], laidTests := true, laidLooks := .later }
def ReportReadsUptoCardSaid : Prop := Claim7.holds Tryd.pinned (.plain (OpenSpec.upto reportReadsSpec)) reportReadsUptoCard
end Rows
end Go.Proofs.YtnfkoohgdcocdaaDoor
