/-
  DERIVED. GIVEN WITH THE SEED: THE CARDS: each row of YtcojpllfkobkeaaDoorRows.lean that lists a variable, with what it lists TIED to the program's text (the seventh form; the later family's looks); each row that meets fmt, with fmt's text TOLD by the authors' own Lean function (tested against real Go, not proved from fmt's source: count such statements apart). THE CARD IS WHAT COUNTS. Prove the row's statement (the work); the ties are given (YtcojpllfkobkeaaDoorTie.lean); close each card by the builder's one call (the guide's Derived/Test/ToyasCard.lean, 'card_holds'). Laid BY PROGRAM, IN A SANDBOX (cutbox-door.mjs). By AI agents, Wed Nov 11 2026. No macro, syntax, notation, axiom, sorry.
-/
import Derived.Test.YtcojpllfkobkeaaDoorRows
import GoSem.ClaimSeven
namespace Go.Proofs.YtcojpllfkobkeaaDoor
namespace Rows

/-- THE TIED CARD OF 'lockkeeperlaw08.LevelTells'. -/
def levelTellsCard : Claim7 := { stood := { row := levelTellsRow, standIns := [], harness := (true, "077bf5a170dd51df64a6b7028f758c290a899b7d3ba6bd7009d5797a5717ecbe"), looks := true }, kinds := [], alts := [], laidByText := true, laidKinds := [.data, .data, .data, .sentinel, .sentinel], laidTests := true, laidLooks := .later }
def LevelTellsCardSaid : Prop := Claim7.holds Tryd.pinned (.plain (OpenSpec.ofChange levelTellsSpec)) levelTellsCard

/-- THE TIED CARD OF 'lockkeeperlaw08.LevelTexts'. -/
def levelTextsCard : Claim7 := { stood := { row := levelTextsRow, standIns := [], harness := (true, "077bf5a170dd51df64a6b7028f758c290a899b7d3ba6bd7009d5797a5717ecbe"), looks := true }, kinds := [], alts := [], laidByText := true, laidKinds := [.data, .data, .data, .sentinel, .sentinel], laidTests := true, laidLooks := .later }
def LevelTextsCardSaid : Prop := Claim7.holds Tryd.pinned (.plain (OpenSpec.ofChange levelTextsSpec)) levelTextsCard

/-- THE TIED CARD OF 'lockkeeperlaw08.LevelBack'. -/
def levelBackCard : Claim7 := { stood := { row := levelBackRow, standIns := [], harness := (true, "077bf5a170dd51df64a6b7028f758c290a899b7d3ba6bd7009d5797a5717ecbe"), looks := true }, kinds := [], alts := [], laidByText := true, laidKinds := [.data, .data, .data, .sentinel, .sentinel], laidTests := true, laidLooks := .later }
def LevelBackCardSaid : Prop := Claim7.holds Tryd.pinned (.plain (OpenSpec.ofChange levelBackSpec)) levelBackCard

/-- THE SECOND FORM's CARD OF 'lockkeeperlaw08.LevelTells'. -/
def levelTellsUptoCard : Claim7 := { stood := { row := levelTellsUptoRow, standIns := [], harness := (true, "077bf5a170dd51df64a6b7028f758c290a899b7d3ba6bd7009d5797a5717ecbe"), looks := true }, kinds := [], alts := [], laidByText := true, laidKinds := [.data, .data, .data, .sentinel, .sentinel], laidTests := true, laidLooks := .later }
def LevelTellsUptoCardSaid : Prop := Claim7.holds Tryd.pinned (.plain (OpenSpec.upto levelTellsSpec)) levelTellsUptoCard

/-- THE SECOND FORM's CARD OF 'lockkeeperlaw08.LevelTexts'. -/
def levelTextsUptoCard : Claim7 := { stood := { row := levelTextsUptoRow, standIns := [], harness := (true, "077bf5a170dd51df64a6b7028f758c290a899b7d3ba6bd7009d5797a5717ecbe"), looks := true }, kinds := [], alts := [], laidByText := true, laidKinds := [.data, .data, .data, .sentinel, .sentinel], laidTests := true, laidLooks := .later }
def LevelTextsUptoCardSaid : Prop := Claim7.holds Tryd.pinned (.plain (OpenSpec.upto levelTextsSpec)) levelTextsUptoCard

/-- THE SECOND FORM's CARD OF 'lockkeeperlaw08.LevelBack'. -/
def levelBackUptoCard : Claim7 := { stood := { row := levelBackUptoRow, standIns := [], harness := (true, "077bf5a170dd51df64a6b7028f758c290a899b7d3ba6bd7009d5797a5717ecbe"), looks := true }, kinds := [], alts := [], laidByText := true, laidKinds := [.data, .data, .data, .sentinel, .sentinel], laidTests := true, laidLooks := .later }
def LevelBackUptoCardSaid : Prop := Claim7.holds Tryd.pinned (.plain (OpenSpec.upto levelBackSpec)) levelBackUptoCard
end Rows
end Go.Proofs.YtcojpllfkobkeaaDoor
