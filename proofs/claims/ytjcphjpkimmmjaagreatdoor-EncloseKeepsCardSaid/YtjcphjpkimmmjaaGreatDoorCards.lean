/-
  DERIVED. GIVEN WITH THE SEED: THE CARDS: each row of YtjcphjpkimmmjaaGreatDoorRows.lean that lists a variable, with what it lists TIED to the program's text (the seventh form; the later family's looks); each row that meets fmt, with fmt's text TOLD by the authors' own Lean function (tested against real Go, not proved from fmt's source: count such statements apart). THE CARD IS WHAT COUNTS. Prove the row's statement (the work); the ties are given (YtjcphjpkimmmjaaGreatDoorTie.lean); close each card by the builder's one call (the guide's Derived/Test/ToyasCard.lean, 'card_holds'). Laid BY PROGRAM, IN A SANDBOX (cutbox-door.mjs). By AI agents, Wed Nov 11 2026. No macro, syntax, notation, axiom, sorry.
-/
import Derived.Test.YtjcphjpkimmmjaaGreatDoorRows
import GoSem.ClaimSeven
namespace Go.Proofs.YtjcphjpkimmmjaaGreatDoor
namespace Rows

/-- THE TIED CARD OF 'integraphlaw08.EncloseGrids'. -/
def encloseGridsCard : Claim7 := { stood := { row := encloseGridsRow, standIns := [], harness := (true, "cf78c4e6c1ac7b9d94aed50302f1e7380b4c017140f2ae4993d9de171b50ee1d"), looks := true }, kinds := [], alts := [], laidByText := true, laidKinds := [.data, .data, .data, .sentinel, .sentinel], laidTests := true, laidLooks := .later }
def EncloseGridsCardSaid : Prop := Claim7.holds Tryz.pinned (.plain (OpenSpec.ofChange encloseGridsSpec)) encloseGridsCard

/-- THE TIED CARD OF 'integraphlaw08.EncloseSeries'. -/
def encloseSeriesCard : Claim7 := { stood := { row := encloseSeriesRow, standIns := [], harness := (true, "cf78c4e6c1ac7b9d94aed50302f1e7380b4c017140f2ae4993d9de171b50ee1d"), looks := true }, kinds := [], alts := [], laidByText := true, laidKinds := [.data, .data, .data, .sentinel, .sentinel], laidTests := true, laidLooks := .later }
def EncloseSeriesCardSaid : Prop := Claim7.holds Tryz.pinned (.plain (OpenSpec.ofChange encloseSeriesSpec)) encloseSeriesCard

/-- THE TIED CARD OF 'integraphlaw08.EncloseTaylors'. -/
def encloseTaylorsCard : Claim7 := { stood := { row := encloseTaylorsRow, standIns := [], harness := (true, "cf78c4e6c1ac7b9d94aed50302f1e7380b4c017140f2ae4993d9de171b50ee1d"), looks := true }, kinds := [], alts := [], laidByText := true, laidKinds := [.data, .data, .data, .sentinel, .sentinel], laidTests := true, laidLooks := .later }
def EncloseTaylorsCardSaid : Prop := Claim7.holds Tryz.pinned (.plain (OpenSpec.ofChange encloseTaylorsSpec)) encloseTaylorsCard

/-- THE TIED CARD OF 'integraphlaw08.EncloseBounds'. -/
def encloseBoundsCard : Claim7 := { stood := { row := encloseBoundsRow, standIns := [], harness := (true, "cf78c4e6c1ac7b9d94aed50302f1e7380b4c017140f2ae4993d9de171b50ee1d"), looks := true }, kinds := [], alts := [], laidByText := true, laidKinds := [.data, .data, .data, .sentinel, .sentinel], laidTests := true, laidLooks := .later }
def EncloseBoundsCardSaid : Prop := Claim7.holds Tryz.pinned (.plain (OpenSpec.ofChange encloseBoundsSpec)) encloseBoundsCard

/-- THE TIED CARD OF 'integraphlaw08.EncloseKeeps'. -/
def encloseKeepsCard : Claim7 := { stood := { row := encloseKeepsRow, standIns := [], harness := (true, "cf78c4e6c1ac7b9d94aed50302f1e7380b4c017140f2ae4993d9de171b50ee1d"), looks := true }, kinds := [], alts := [], laidByText := true, laidKinds := [.data, .data, .data, .sentinel, .sentinel], laidTests := true, laidLooks := .later }
def EncloseKeepsCardSaid : Prop := Claim7.holds Tryz.pinned (.plain (OpenSpec.ofChange encloseKeepsSpec)) encloseKeepsCard

/-- THE TIED CARD OF 'integraphlaw08.EncloseNested'. -/
def encloseNestedCard : Claim7 := { stood := { row := encloseNestedRow, standIns := [], harness := (true, "cf78c4e6c1ac7b9d94aed50302f1e7380b4c017140f2ae4993d9de171b50ee1d"), looks := true }, kinds := [], alts := [], laidByText := true, laidKinds := [.data, .data, .data, .sentinel, .sentinel], laidTests := true, laidLooks := .later }
def EncloseNestedCardSaid : Prop := Claim7.holds Tryz.pinned (.plain (OpenSpec.ofChange encloseNestedSpec)) encloseNestedCard

/-- THE TIED CARD OF 'integraphlaw08.EncloseChecks'. -/
def encloseChecksCard : Claim7 := { stood := { row := encloseChecksRow, standIns := [], harness := (true, "cf78c4e6c1ac7b9d94aed50302f1e7380b4c017140f2ae4993d9de171b50ee1d"), looks := true }, kinds := [], alts := [], laidByText := true, laidKinds := [.data, .data, .data, .sentinel, .sentinel], laidTests := true, laidLooks := .later }
def EncloseChecksCardSaid : Prop := Claim7.holds Tryz.pinned (.plain (OpenSpec.ofChange encloseChecksSpec)) encloseChecksCard

/-- THE TIED CARD OF 'integraphlaw08.EncloseMeets'. -/
def encloseMeetsCard : Claim7 := { stood := { row := encloseMeetsRow, standIns := [], harness := (true, "cf78c4e6c1ac7b9d94aed50302f1e7380b4c017140f2ae4993d9de171b50ee1d"), looks := true }, kinds := [], alts := [], laidByText := true, laidKinds := [.data, .data, .data, .sentinel, .sentinel], laidTests := true, laidLooks := .later }
def EncloseMeetsCardSaid : Prop := Claim7.holds Tryz.pinned (.plain (OpenSpec.ofChange encloseMeetsSpec)) encloseMeetsCard

/-- THE TIED CARD OF 'integraphlaw08.EncloseChains'. -/
def encloseChainsCard : Claim7 := { stood := { row := encloseChainsRow, standIns := [], harness := (true, "cf78c4e6c1ac7b9d94aed50302f1e7380b4c017140f2ae4993d9de171b50ee1d"), looks := true }, kinds := [], alts := [], laidByText := true, laidKinds := [.data, .data, .data, .sentinel, .sentinel], laidTests := true, laidLooks := .later }
def EncloseChainsCardSaid : Prop := Claim7.holds Tryz.pinned (.plain (OpenSpec.ofChange encloseChainsSpec)) encloseChainsCard

/-- THE TIED CARD OF 'integraphlaw08.EncloseRational'. -/
def encloseRationalCard : Claim7 := { stood := { row := encloseRationalRow, standIns := [], harness := (true, "cf78c4e6c1ac7b9d94aed50302f1e7380b4c017140f2ae4993d9de171b50ee1d"), looks := true }, kinds := [], alts := [], laidByText := true, laidKinds := [.data, .data, .data, .sentinel, .sentinel], laidTests := true, laidLooks := .later }
def EncloseRationalCardSaid : Prop := Claim7.holds Tryz.pinned (.plain (OpenSpec.ofChange encloseRationalSpec)) encloseRationalCard

/-- THE TIED CARD OF 'integraphlaw08.EnclosePlaces'. -/
def enclosePlacesCard : Claim7 := { stood := { row := enclosePlacesRow, standIns := [], harness := (true, "cf78c4e6c1ac7b9d94aed50302f1e7380b4c017140f2ae4993d9de171b50ee1d"), looks := true }, kinds := [], alts := [], laidByText := true, laidKinds := [.data, .data, .data, .sentinel, .sentinel], laidTests := true, laidLooks := .later }
def EnclosePlacesCardSaid : Prop := Claim7.holds Tryz.pinned (.plain (OpenSpec.ofChange enclosePlacesSpec)) enclosePlacesCard

/-- THE TIED CARD OF 'integraphlaw08.EncloseAccepts'. -/
def encloseAcceptsCard : Claim7 := { stood := { row := encloseAcceptsRow, standIns := [], harness := (true, "cf78c4e6c1ac7b9d94aed50302f1e7380b4c017140f2ae4993d9de171b50ee1d"), looks := true }, kinds := [], alts := [], laidByText := true, laidKinds := [.data, .data, .data, .sentinel, .sentinel], laidTests := true, laidLooks := .later }
def EncloseAcceptsCardSaid : Prop := Claim7.holds Tryz.pinned (.plain (OpenSpec.ofChange encloseAcceptsSpec)) encloseAcceptsCard

/-- THE SECOND FORM's CARD OF 'integraphlaw08.EncloseGrids'. -/
def encloseGridsUptoCard : Claim7 := { stood := { row := encloseGridsUptoRow, standIns := [], harness := (true, "cf78c4e6c1ac7b9d94aed50302f1e7380b4c017140f2ae4993d9de171b50ee1d"), looks := true }, kinds := [], alts := [], laidByText := true, laidKinds := [.data, .data, .data, .sentinel, .sentinel], laidTests := true, laidLooks := .later }
def EncloseGridsUptoCardSaid : Prop := Claim7.holds Tryz.pinned (.plain (OpenSpec.upto encloseGridsSpec)) encloseGridsUptoCard

/-- THE SECOND FORM's CARD OF 'integraphlaw08.EncloseSeries'. -/
def encloseSeriesUptoCard : Claim7 := { stood := { row := encloseSeriesUptoRow, standIns := [], harness := (true, "cf78c4e6c1ac7b9d94aed50302f1e7380b4c017140f2ae4993d9de171b50ee1d"), looks := true }, kinds := [], alts := [], laidByText := true, laidKinds := [.data, .data, .data, .sentinel, .sentinel], laidTests := true, laidLooks := .later }
def EncloseSeriesUptoCardSaid : Prop := Claim7.holds Tryz.pinned (.plain (OpenSpec.upto encloseSeriesSpec)) encloseSeriesUptoCard

/-- THE SECOND FORM's CARD OF 'integraphlaw08.EncloseTaylors'. -/
def encloseTaylorsUptoCard : Claim7 := { stood := { row := encloseTaylorsUptoRow, standIns := [], harness := (true, "cf78c4e6c1ac7b9d94aed50302f1e7380b4c017140f2ae4993d9de171b50ee1d"), looks := true }, kinds := [], alts := [], laidByText := true, laidKinds := [.data, .data, .data, .sentinel, .sentinel], laidTests := true, laidLooks := .later }
def EncloseTaylorsUptoCardSaid : Prop := Claim7.holds Tryz.pinned (.plain (OpenSpec.upto encloseTaylorsSpec)) encloseTaylorsUptoCard

/-- THE SECOND FORM's CARD OF 'integraphlaw08.EncloseBounds'. -/
def encloseBoundsUptoCard : Claim7 := { stood := { row := encloseBoundsUptoRow, standIns := [], harness := (true, "cf78c4e6c1ac7b9d94aed50302f1e7380b4c017140f2ae4993d9de171b50ee1d"), looks := true }, kinds := [], alts := [], laidByText := true, laidKinds := [.data, .data, .data, .sentinel, .sentinel], laidTests := true, laidLooks := .later }
def EncloseBoundsUptoCardSaid : Prop := Claim7.holds Tryz.pinned (.plain (OpenSpec.upto encloseBoundsSpec)) encloseBoundsUptoCard

/-- THE SECOND FORM's CARD OF 'integraphlaw08.EncloseKeeps'. -/
def encloseKeepsUptoCard : Claim7 := { stood := { row := encloseKeepsUptoRow, standIns := [], harness := (true, "cf78c4e6c1ac7b9d94aed50302f1e7380b4c017140f2ae4993d9de171b50ee1d"), looks := true }, kinds := [], alts := [], laidByText := true, laidKinds := [.data, .data, .data, .sentinel, .sentinel], laidTests := true, laidLooks := .later }
def EncloseKeepsUptoCardSaid : Prop := Claim7.holds Tryz.pinned (.plain (OpenSpec.upto encloseKeepsSpec)) encloseKeepsUptoCard

/-- THE SECOND FORM's CARD OF 'integraphlaw08.EncloseNested'. -/
def encloseNestedUptoCard : Claim7 := { stood := { row := encloseNestedUptoRow, standIns := [], harness := (true, "cf78c4e6c1ac7b9d94aed50302f1e7380b4c017140f2ae4993d9de171b50ee1d"), looks := true }, kinds := [], alts := [], laidByText := true, laidKinds := [.data, .data, .data, .sentinel, .sentinel], laidTests := true, laidLooks := .later }
def EncloseNestedUptoCardSaid : Prop := Claim7.holds Tryz.pinned (.plain (OpenSpec.upto encloseNestedSpec)) encloseNestedUptoCard

/-- THE SECOND FORM's CARD OF 'integraphlaw08.EncloseChecks'. -/
def encloseChecksUptoCard : Claim7 := { stood := { row := encloseChecksUptoRow, standIns := [], harness := (true, "cf78c4e6c1ac7b9d94aed50302f1e7380b4c017140f2ae4993d9de171b50ee1d"), looks := true }, kinds := [], alts := [], laidByText := true, laidKinds := [.data, .data, .data, .sentinel, .sentinel], laidTests := true, laidLooks := .later }
def EncloseChecksUptoCardSaid : Prop := Claim7.holds Tryz.pinned (.plain (OpenSpec.upto encloseChecksSpec)) encloseChecksUptoCard

/-- THE SECOND FORM's CARD OF 'integraphlaw08.EncloseMeets'. -/
def encloseMeetsUptoCard : Claim7 := { stood := { row := encloseMeetsUptoRow, standIns := [], harness := (true, "cf78c4e6c1ac7b9d94aed50302f1e7380b4c017140f2ae4993d9de171b50ee1d"), looks := true }, kinds := [], alts := [], laidByText := true, laidKinds := [.data, .data, .data, .sentinel, .sentinel], laidTests := true, laidLooks := .later }
def EncloseMeetsUptoCardSaid : Prop := Claim7.holds Tryz.pinned (.plain (OpenSpec.upto encloseMeetsSpec)) encloseMeetsUptoCard

/-- THE SECOND FORM's CARD OF 'integraphlaw08.EncloseChains'. -/
def encloseChainsUptoCard : Claim7 := { stood := { row := encloseChainsUptoRow, standIns := [], harness := (true, "cf78c4e6c1ac7b9d94aed50302f1e7380b4c017140f2ae4993d9de171b50ee1d"), looks := true }, kinds := [], alts := [], laidByText := true, laidKinds := [.data, .data, .data, .sentinel, .sentinel], laidTests := true, laidLooks := .later }
def EncloseChainsUptoCardSaid : Prop := Claim7.holds Tryz.pinned (.plain (OpenSpec.upto encloseChainsSpec)) encloseChainsUptoCard

/-- THE SECOND FORM's CARD OF 'integraphlaw08.EncloseRational'. -/
def encloseRationalUptoCard : Claim7 := { stood := { row := encloseRationalUptoRow, standIns := [], harness := (true, "cf78c4e6c1ac7b9d94aed50302f1e7380b4c017140f2ae4993d9de171b50ee1d"), looks := true }, kinds := [], alts := [], laidByText := true, laidKinds := [.data, .data, .data, .sentinel, .sentinel], laidTests := true, laidLooks := .later }
def EncloseRationalUptoCardSaid : Prop := Claim7.holds Tryz.pinned (.plain (OpenSpec.upto encloseRationalSpec)) encloseRationalUptoCard

/-- THE SECOND FORM's CARD OF 'integraphlaw08.EnclosePlaces'. -/
def enclosePlacesUptoCard : Claim7 := { stood := { row := enclosePlacesUptoRow, standIns := [], harness := (true, "cf78c4e6c1ac7b9d94aed50302f1e7380b4c017140f2ae4993d9de171b50ee1d"), looks := true }, kinds := [], alts := [], laidByText := true, laidKinds := [.data, .data, .data, .sentinel, .sentinel], laidTests := true, laidLooks := .later }
def EnclosePlacesUptoCardSaid : Prop := Claim7.holds Tryz.pinned (.plain (OpenSpec.upto enclosePlacesSpec)) enclosePlacesUptoCard

/-- THE SECOND FORM's CARD OF 'integraphlaw08.EncloseAccepts'. -/
def encloseAcceptsUptoCard : Claim7 := { stood := { row := encloseAcceptsUptoRow, standIns := [], harness := (true, "cf78c4e6c1ac7b9d94aed50302f1e7380b4c017140f2ae4993d9de171b50ee1d"), looks := true }, kinds := [], alts := [], laidByText := true, laidKinds := [.data, .data, .data, .sentinel, .sentinel], laidTests := true, laidLooks := .later }
def EncloseAcceptsUptoCardSaid : Prop := Claim7.holds Tryz.pinned (.plain (OpenSpec.upto encloseAcceptsSpec)) encloseAcceptsUptoCard
end Rows
end Go.Proofs.YtjcphjpkimmmjaaGreatDoor
