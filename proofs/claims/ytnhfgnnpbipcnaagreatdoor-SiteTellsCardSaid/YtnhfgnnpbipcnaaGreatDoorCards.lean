/-
  DERIVED. GIVEN WITH THE SEED: THE CARDS: each row of YtnhfgnnpbipcnaaGreatDoorRows.lean that lists a variable, with what it lists TIED to the program's text (the seventh form; the later family's looks); each row that meets fmt, with fmt's text TOLD by the authors' own Lean function (tested against real Go, not proved from fmt's source: count such statements apart). THE CARD IS WHAT COUNTS. Prove the row's statement (the work); the ties are given (YtnhfgnnpbipcnaaGreatDoorTie.lean); close each card by the builder's one call (the guide's Derived/Test/ToyasCard.lean, 'card_holds'). Laid BY PROGRAM, IN A SANDBOX (cutbox-door.mjs). By AI agents, Wed Nov 11 2026. No macro, syntax, notation, axiom, sorry.
-/
import Derived.Test.YtnhfgnnpbipcnaaGreatDoorRows
import GoSem.ClaimSeven
namespace Go.Proofs.YtnhfgnnpbipcnaaGreatDoor
namespace Rows

/-- THE TIED CARD OF 'lockkeeperlaw30.SiteTells'. -/
def siteTellsCard : Claim7 := { stood := { row := siteTellsRow, standIns := [], harness := (true, "5621ebf4a47a9584ba90f621124e6d6631329c0e558425b86cb85ed25745e1a6"), looks := true }, kinds := [], alts := [], laidByText := true, laidKinds := [.data, .data, .data, .sentinel, .sentinel, .data, .widerDeep], laidTests := true, laidLooks := .later }
def SiteTellsCardSaid : Prop := Claim7.holds Tryz.pinned (.plain (OpenSpec.ofChange siteTellsSpec)) siteTellsCard

/-- THE TIED CARD OF 'lockkeeperlaw30.SiteParses'. -/
def siteParsesCard : Claim7 := { stood := { row := siteParsesRow, standIns := [], harness := (true, "5621ebf4a47a9584ba90f621124e6d6631329c0e558425b86cb85ed25745e1a6"), looks := true }, kinds := [], alts := [], laidByText := true, laidKinds := [.data, .data, .data, .sentinel, .sentinel, .data, .widerDeep], laidTests := true, laidLooks := .later }
def SiteParsesCardSaid : Prop := Claim7.holds Tryz.pinned (.plain (OpenSpec.ofChange siteParsesSpec)) siteParsesCard

/-- THE TIED CARD OF 'lockkeeperlaw30.SiteBack'. -/
def siteBackCard : Claim7 := { stood := { row := siteBackRow, standIns := [], harness := (true, "5621ebf4a47a9584ba90f621124e6d6631329c0e558425b86cb85ed25745e1a6"), looks := true }, kinds := [], alts := [], laidByText := true, laidKinds := [.data, .data, .data, .sentinel, .sentinel, .data, .widerDeep], laidTests := true, laidLooks := .later }
def SiteBackCardSaid : Prop := Claim7.holds Tryz.pinned (.plain (OpenSpec.ofChange siteBackSpec)) siteBackCard

/-- THE TIED CARD OF 'lockkeeperlaw30.SiteMany'. -/
def siteManyCard : Claim7 := { stood := { row := siteManyRow, standIns := [], harness := (true, "5621ebf4a47a9584ba90f621124e6d6631329c0e558425b86cb85ed25745e1a6"), looks := true }, kinds := [], alts := [], laidByText := true, laidKinds := [.data, .data, .data, .sentinel, .sentinel, .data, .widerDeep], laidTests := true, laidLooks := .later }
def SiteManyCardSaid : Prop := Claim7.holds Tryz.pinned (.plain (OpenSpec.ofChange siteManySpec)) siteManyCard

/-- THE SECOND FORM's CARD OF 'lockkeeperlaw30.SiteTells'. -/
def siteTellsUptoCard : Claim7 := { stood := { row := siteTellsUptoRow, standIns := [], harness := (true, "5621ebf4a47a9584ba90f621124e6d6631329c0e558425b86cb85ed25745e1a6"), looks := true }, kinds := [], alts := [], laidByText := true, laidKinds := [.data, .data, .data, .sentinel, .sentinel, .data, .widerDeep], laidTests := true, laidLooks := .later }
def SiteTellsUptoCardSaid : Prop := Claim7.holds Tryz.pinned (.plain (OpenSpec.upto siteTellsSpec)) siteTellsUptoCard

/-- THE SECOND FORM's CARD OF 'lockkeeperlaw30.SiteParses'. -/
def siteParsesUptoCard : Claim7 := { stood := { row := siteParsesUptoRow, standIns := [], harness := (true, "5621ebf4a47a9584ba90f621124e6d6631329c0e558425b86cb85ed25745e1a6"), looks := true }, kinds := [], alts := [], laidByText := true, laidKinds := [.data, .data, .data, .sentinel, .sentinel, .data, .widerDeep], laidTests := true, laidLooks := .later }
def SiteParsesUptoCardSaid : Prop := Claim7.holds Tryz.pinned (.plain (OpenSpec.upto siteParsesSpec)) siteParsesUptoCard

/-- THE SECOND FORM's CARD OF 'lockkeeperlaw30.SiteBack'. -/
def siteBackUptoCard : Claim7 := { stood := { row := siteBackUptoRow, standIns := [], harness := (true, "5621ebf4a47a9584ba90f621124e6d6631329c0e558425b86cb85ed25745e1a6"), looks := true }, kinds := [], alts := [], laidByText := true, laidKinds := [.data, .data, .data, .sentinel, .sentinel, .data, .widerDeep], laidTests := true, laidLooks := .later }
def SiteBackUptoCardSaid : Prop := Claim7.holds Tryz.pinned (.plain (OpenSpec.upto siteBackSpec)) siteBackUptoCard

/-- THE SECOND FORM's CARD OF 'lockkeeperlaw30.SiteMany'. -/
def siteManyUptoCard : Claim7 := { stood := { row := siteManyUptoRow, standIns := [], harness := (true, "5621ebf4a47a9584ba90f621124e6d6631329c0e558425b86cb85ed25745e1a6"), looks := true }, kinds := [], alts := [], laidByText := true, laidKinds := [.data, .data, .data, .sentinel, .sentinel, .data, .widerDeep], laidTests := true, laidLooks := .later }
def SiteManyUptoCardSaid : Prop := Claim7.holds Tryz.pinned (.plain (OpenSpec.upto siteManySpec)) siteManyUptoCard
end Rows
end Go.Proofs.YtnhfgnnpbipcnaaGreatDoor
