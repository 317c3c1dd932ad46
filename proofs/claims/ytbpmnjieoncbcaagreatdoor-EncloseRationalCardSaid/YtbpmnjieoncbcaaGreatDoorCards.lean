/-
  DERIVED. GIVEN WITH THE SEED: THE CARDS: each row of YtbpmnjieoncbcaaGreatDoorRows.lean that lists a variable, with what it lists TIED to the program's text (the seventh form; the later family's looks); each row that meets fmt, with fmt's text TOLD by the authors' own Lean function (tested against real Go, not proved from fmt's source: count such statements apart). THE CARD IS WHAT COUNTS. Prove the row's statement (the work); the ties are given (YtbpmnjieoncbcaaGreatDoorTie.lean); close each card by the builder's one call (the guide's Derived/Test/ToyasCard.lean, 'card_holds'). Laid BY PROGRAM, IN A SANDBOX (cutbox-door.mjs). By AI agents, Wed Nov 11 2026. No macro, syntax, notation, axiom, sorry.
-/
import Derived.Test.YtbpmnjieoncbcaaGreatDoorRows
import GoSem.ClaimSeven
namespace Go.Proofs.YtbpmnjieoncbcaaGreatDoor
namespace Rows

/-- THE TIED CARD OF 'integraphlaw08.EncloseNested'. -/
def encloseNestedCard : Claim7 := { stood := { row := encloseNestedRow, standIns := [], harness := (true, "e7a47d4e8686cc4facee2a3758277f3942a66852a9ac0d33b1e3d7fea33e2a59"), looks := true }, kinds := [], alts := [], laidByText := true, laidKinds := [.data, .data, .data, .sentinel, .sentinel], laidTests := true, laidLooks := .later }
def EncloseNestedCardSaid : Prop := Claim7.holds Tryz.pinned (.plain (OpenSpec.ofChange encloseNestedSpec)) encloseNestedCard

/-- THE TIED CARD OF 'integraphlaw08.EncloseChains'. -/
def encloseChainsCard : Claim7 := { stood := { row := encloseChainsRow, standIns := [], harness := (true, "e7a47d4e8686cc4facee2a3758277f3942a66852a9ac0d33b1e3d7fea33e2a59"), looks := true }, kinds := [], alts := [], laidByText := true, laidKinds := [.data, .data, .data, .sentinel, .sentinel], laidTests := true, laidLooks := .later }
def EncloseChainsCardSaid : Prop := Claim7.holds Tryz.pinned (.plain (OpenSpec.ofChange encloseChainsSpec)) encloseChainsCard

/-- THE TIED CARD OF 'integraphlaw08.EncloseRational'. -/
def encloseRationalCard : Claim7 := { stood := { row := encloseRationalRow, standIns := [], harness := (true, "e7a47d4e8686cc4facee2a3758277f3942a66852a9ac0d33b1e3d7fea33e2a59"), looks := true }, kinds := [], alts := [], laidByText := true, laidKinds := [.data, .data, .data, .sentinel, .sentinel], laidTests := true, laidLooks := .later }
def EncloseRationalCardSaid : Prop := Claim7.holds Tryz.pinned (.plain (OpenSpec.ofChange encloseRationalSpec)) encloseRationalCard

/-- THE TIED CARD OF 'integraphlaw08.EncloseAccepts'. -/
def encloseAcceptsCard : Claim7 := { stood := { row := encloseAcceptsRow, standIns := [], harness := (true, "e7a47d4e8686cc4facee2a3758277f3942a66852a9ac0d33b1e3d7fea33e2a59"), looks := true }, kinds := [], alts := [], laidByText := true, laidKinds := [.data, .data, .data, .sentinel, .sentinel], laidTests := true, laidLooks := .later }
def EncloseAcceptsCardSaid : Prop := Claim7.holds Tryz.pinned (.plain (OpenSpec.ofChange encloseAcceptsSpec)) encloseAcceptsCard

/-- THE SECOND FORM's CARD OF 'integraphlaw08.EncloseNested'. -/
def encloseNestedUptoCard : Claim7 := { stood := { row := encloseNestedUptoRow, standIns := [], harness := (true, "e7a47d4e8686cc4facee2a3758277f3942a66852a9ac0d33b1e3d7fea33e2a59"), looks := true }, kinds := [], alts := [], laidByText := true, laidKinds := [.data, .data, .data, .sentinel, .sentinel], laidTests := true, laidLooks := .later }
def EncloseNestedUptoCardSaid : Prop := Claim7.holds Tryz.pinned (.plain (OpenSpec.upto encloseNestedSpec)) encloseNestedUptoCard

/-- THE SECOND FORM's CARD OF 'integraphlaw08.EncloseChains'. -/
def encloseChainsUptoCard : Claim7 := { stood := { row := encloseChainsUptoRow, standIns := [], harness := (true, "e7a47d4e8686cc4facee2a3758277f3942a66852a9ac0d33b1e3d7fea33e2a59"), looks := true }, kinds := [], alts := [], laidByText := true, laidKinds := [.data, .data, .data, .sentinel, .sentinel], laidTests := true, laidLooks := .later }
def EncloseChainsUptoCardSaid : Prop := Claim7.holds Tryz.pinned (.plain (OpenSpec.upto encloseChainsSpec)) encloseChainsUptoCard

/-- THE SECOND FORM's CARD OF 'integraphlaw08.EncloseRational'. -/
def encloseRationalUptoCard : Claim7 := { stood := { row := encloseRationalUptoRow, standIns := [], harness := (true, "e7a47d4e8686cc4facee2a3758277f3942a66852a9ac0d33b1e3d7fea33e2a59"), looks := true }, kinds := [], alts := [], laidByText := true, laidKinds := [.data, .data, .data, .sentinel, .sentinel], laidTests := true, laidLooks := .later }
def EncloseRationalUptoCardSaid : Prop := Claim7.holds Tryz.pinned (.plain (OpenSpec.upto encloseRationalSpec)) encloseRationalUptoCard

/-- THE SECOND FORM's CARD OF 'integraphlaw08.EncloseAccepts'. -/
def encloseAcceptsUptoCard : Claim7 := { stood := { row := encloseAcceptsUptoRow, standIns := [], harness := (true, "e7a47d4e8686cc4facee2a3758277f3942a66852a9ac0d33b1e3d7fea33e2a59"), looks := true }, kinds := [], alts := [], laidByText := true, laidKinds := [.data, .data, .data, .sentinel, .sentinel], laidTests := true, laidLooks := .later }
def EncloseAcceptsUptoCardSaid : Prop := Claim7.holds Tryz.pinned (.plain (OpenSpec.upto encloseAcceptsSpec)) encloseAcceptsUptoCard
end Rows
end Go.Proofs.YtbpmnjieoncbcaaGreatDoor
