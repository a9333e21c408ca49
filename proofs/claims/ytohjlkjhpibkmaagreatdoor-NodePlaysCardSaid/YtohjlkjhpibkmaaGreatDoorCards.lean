/-
  DERIVED. GIVEN WITH THE SEED: THE CARDS: each row of YtohjlkjhpibkmaaGreatDoorRows.lean that lists a variable, with what it lists TIED to the program's text (the seventh form; the later family's looks); each row that meets fmt, with fmt's text TOLD by the authors' own Lean function (tested against real Go, not proved from fmt's source: count such statements apart). THE CARD IS WHAT COUNTS. Prove the row's statement (the work); the ties are given (YtohjlkjhpibkmaaGreatDoorTie.lean); close each card by the builder's one call (the guide's Derived/Test/ToyasCard.lean, 'card_holds'). Laid BY PROGRAM, IN A SANDBOX (cutbox-door.mjs). By AI agents, Wed Nov 11 2026. No macro, syntax, notation, axiom, sorry.
-/
import Derived.Test.YtohjlkjhpibkmaaGreatDoorRows
import GoSem.ClaimSeven
namespace Go.Proofs.YtohjlkjhpibkmaaGreatDoor
namespace Rows

/-- THE TIED CARD OF 'lockkeeperlaw35.NodeBounds'. -/
def nodeBoundsCard : Claim7 := { stood := { row := nodeBoundsRow, standIns := [], harness := (true, "1d7782d94166bd24611b28d86d543569072fb17d21890aae93bda4ab5a4ab09a"), looks := false }, kinds := [], alts := [], laidByText := true, laidKinds := [.data, .widerDeep], laidTests := true, laidLooks := .later }
def NodeBoundsCardSaid : Prop := Claim7.holds Tryz.pinned (.plain (OpenSpec.ofChange nodeBoundsSpec)) nodeBoundsCard

/-- THE TIED CARD OF 'lockkeeperlaw35.NodeOne'. -/
def nodeOneCard : Claim7 := { stood := { row := nodeOneRow, standIns := [], harness := (true, "1d7782d94166bd24611b28d86d543569072fb17d21890aae93bda4ab5a4ab09a"), looks := false }, kinds := [], alts := [], laidByText := true, laidKinds := [.data, .widerDeep], laidTests := true, laidLooks := .later }
def NodeOneCardSaid : Prop := Claim7.holds Tryz.pinned (.plain (OpenSpec.ofChange nodeOneSpec)) nodeOneCard

/-- THE TIED CARD OF 'lockkeeperlaw35.NodeMonotone'. -/
def nodeMonotoneCard : Claim7 := { stood := { row := nodeMonotoneRow, standIns := [], harness := (true, "1d7782d94166bd24611b28d86d543569072fb17d21890aae93bda4ab5a4ab09a"), looks := false }, kinds := [], alts := [], laidByText := true, laidKinds := [.data, .widerDeep], laidTests := true, laidLooks := .later }
def NodeMonotoneCardSaid : Prop := Claim7.holds Tryz.pinned (.plain (OpenSpec.ofChange nodeMonotoneSpec)) nodeMonotoneCard

/-- THE TIED CARD OF 'lockkeeperlaw35.NodeEpochs'. -/
def nodeEpochsCard : Claim7 := { stood := { row := nodeEpochsRow, standIns := [], harness := (true, "1d7782d94166bd24611b28d86d543569072fb17d21890aae93bda4ab5a4ab09a"), looks := false }, kinds := [], alts := [], laidByText := true, laidKinds := [.data, .widerDeep], laidTests := true, laidLooks := .later }
def NodeEpochsCardSaid : Prop := Claim7.holds Tryz.pinned (.plain (OpenSpec.ofChange nodeEpochsSpec)) nodeEpochsCard

/-- THE TIED CARD OF 'lockkeeperlaw35.NodePlays'. -/
def nodePlaysCard : Claim7 := { stood := { row := nodePlaysRow, standIns := [], harness := (true, "1d7782d94166bd24611b28d86d543569072fb17d21890aae93bda4ab5a4ab09a"), looks := false }, kinds := [], alts := [], laidByText := true, laidKinds := [.data, .widerDeep], laidTests := true, laidLooks := .later }
def NodePlaysCardSaid : Prop := Claim7.holds Tryz.pinned (.plain (OpenSpec.ofChange nodePlaysSpec)) nodePlaysCard

/-- THE TIED CARD OF 'lockkeeperlaw35.NodeNobody'. -/
def nodeNobodyCard : Claim7 := { stood := { row := nodeNobodyRow, standIns := [], harness := (true, "1d7782d94166bd24611b28d86d543569072fb17d21890aae93bda4ab5a4ab09a"), looks := false }, kinds := [], alts := [], laidByText := true, laidKinds := [.data, .widerDeep], laidTests := true, laidLooks := .later }
def NodeNobodyCardSaid : Prop := Claim7.holds Tryz.pinned (.plain (OpenSpec.ofChange nodeNobodySpec)) nodeNobodyCard

/-- THE SECOND FORM's CARD OF 'lockkeeperlaw35.NodeBounds'. -/
def nodeBoundsUptoCard : Claim7 := { stood := { row := nodeBoundsUptoRow, standIns := [], harness := (true, "1d7782d94166bd24611b28d86d543569072fb17d21890aae93bda4ab5a4ab09a"), looks := false }, kinds := [], alts := [], laidByText := true, laidKinds := [.data, .widerDeep], laidTests := true, laidLooks := .later }
def NodeBoundsUptoCardSaid : Prop := Claim7.holds Tryz.pinned (.plain (OpenSpec.upto nodeBoundsSpec)) nodeBoundsUptoCard

/-- THE SECOND FORM's CARD OF 'lockkeeperlaw35.NodeOne'. -/
def nodeOneUptoCard : Claim7 := { stood := { row := nodeOneUptoRow, standIns := [], harness := (true, "1d7782d94166bd24611b28d86d543569072fb17d21890aae93bda4ab5a4ab09a"), looks := false }, kinds := [], alts := [], laidByText := true, laidKinds := [.data, .widerDeep], laidTests := true, laidLooks := .later }
def NodeOneUptoCardSaid : Prop := Claim7.holds Tryz.pinned (.plain (OpenSpec.upto nodeOneSpec)) nodeOneUptoCard

/-- THE SECOND FORM's CARD OF 'lockkeeperlaw35.NodeMonotone'. -/
def nodeMonotoneUptoCard : Claim7 := { stood := { row := nodeMonotoneUptoRow, standIns := [], harness := (true, "1d7782d94166bd24611b28d86d543569072fb17d21890aae93bda4ab5a4ab09a"), looks := false }, kinds := [], alts := [], laidByText := true, laidKinds := [.data, .widerDeep], laidTests := true, laidLooks := .later }
def NodeMonotoneUptoCardSaid : Prop := Claim7.holds Tryz.pinned (.plain (OpenSpec.upto nodeMonotoneSpec)) nodeMonotoneUptoCard

/-- THE SECOND FORM's CARD OF 'lockkeeperlaw35.NodeEpochs'. -/
def nodeEpochsUptoCard : Claim7 := { stood := { row := nodeEpochsUptoRow, standIns := [], harness := (true, "1d7782d94166bd24611b28d86d543569072fb17d21890aae93bda4ab5a4ab09a"), looks := false }, kinds := [], alts := [], laidByText := true, laidKinds := [.data, .widerDeep], laidTests := true, laidLooks := .later }
def NodeEpochsUptoCardSaid : Prop := Claim7.holds Tryz.pinned (.plain (OpenSpec.upto nodeEpochsSpec)) nodeEpochsUptoCard

/-- THE SECOND FORM's CARD OF 'lockkeeperlaw35.NodePlays'. -/
def nodePlaysUptoCard : Claim7 := { stood := { row := nodePlaysUptoRow, standIns := [], harness := (true, "1d7782d94166bd24611b28d86d543569072fb17d21890aae93bda4ab5a4ab09a"), looks := false }, kinds := [], alts := [], laidByText := true, laidKinds := [.data, .widerDeep], laidTests := true, laidLooks := .later }
def NodePlaysUptoCardSaid : Prop := Claim7.holds Tryz.pinned (.plain (OpenSpec.upto nodePlaysSpec)) nodePlaysUptoCard

/-- THE SECOND FORM's CARD OF 'lockkeeperlaw35.NodeNobody'. -/
def nodeNobodyUptoCard : Claim7 := { stood := { row := nodeNobodyUptoRow, standIns := [], harness := (true, "1d7782d94166bd24611b28d86d543569072fb17d21890aae93bda4ab5a4ab09a"), looks := false }, kinds := [], alts := [], laidByText := true, laidKinds := [.data, .widerDeep], laidTests := true, laidLooks := .later }
def NodeNobodyUptoCardSaid : Prop := Claim7.holds Tryz.pinned (.plain (OpenSpec.upto nodeNobodySpec)) nodeNobodyUptoCard
end Rows
end Go.Proofs.YtohjlkjhpibkmaaGreatDoor
