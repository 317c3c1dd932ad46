/-
  DERIVED. GIVEN WITH THE SEED: THE CARDS: each row of YtfdgciidfohhgaaGreatDoorRows.lean that lists a variable, with what it lists TIED to the program's text (the seventh form; the later family's looks); each row that meets fmt, with fmt's text TOLD by the authors' own Lean function (tested against real Go, not proved from fmt's source: count such statements apart). THE CARD IS WHAT COUNTS. Prove the row's statement (the work); the ties are given (YtfdgciidfohhgaaGreatDoorTie.lean); close each card by the builder's one call (the guide's Derived/Test/ToyasCard.lean, 'card_holds'). Laid BY PROGRAM, IN A SANDBOX (cutbox-door.mjs). By AI agents, Wed Nov 11 2026. No macro, syntax, notation, axiom, sorry.
-/
import Derived.Test.YtfdgciidfohhgaaGreatDoorRows
import GoSem.ClaimSeven
namespace Go.Proofs.YtfdgciidfohhgaaGreatDoor
namespace Rows

/-- THE TIED CARD OF 'integraphlaw09.RunPlays'. -/
def runPlaysCard : Claim7 := { stood := { row := runPlaysRow, standIns := [], harness := (true, "ae0898d450fd1c0dd9d3f1cbd2a28d66abb8f24060f615f480e48cd27d7cefaf"), looks := true }, kinds := [], alts := [], laidByText := true, laidKinds := [.data, .data, .data, .data, .sentinel, .sentinel, .pinned], laidTests := true, laidLooks := .later }
def RunPlaysCardSaid : Prop := Claim7.holds Tryz.pinned (.plain (OpenSpec.ofChange runPlaysSpec)) runPlaysCard

/-- THE TIED CARD OF 'integraphlaw09.RunLostMotion'. -/
def runLostMotionCard : Claim7 := { stood := { row := runLostMotionRow, standIns := [], harness := (true, "ae0898d450fd1c0dd9d3f1cbd2a28d66abb8f24060f615f480e48cd27d7cefaf"), looks := true }, kinds := [], alts := [], laidByText := true, laidKinds := [.data, .data, .data, .data, .sentinel, .sentinel, .pinned], laidTests := true, laidLooks := .later }
def RunLostMotionCardSaid : Prop := Claim7.holds Tryz.pinned (.plain (OpenSpec.ofChange runLostMotionSpec)) runLostMotionCard

/-- THE SECOND FORM's CARD OF 'integraphlaw09.RunPlays'. -/
def runPlaysUptoCard : Claim7 := { stood := { row := runPlaysUptoRow, standIns := [], harness := (true, "ae0898d450fd1c0dd9d3f1cbd2a28d66abb8f24060f615f480e48cd27d7cefaf"), looks := true }, kinds := [], alts := [], laidByText := true, laidKinds := [.data, .data, .data, .data, .sentinel, .sentinel, .pinned], laidTests := true, laidLooks := .later }
def RunPlaysUptoCardSaid : Prop := Claim7.holds Tryz.pinned (.plain (OpenSpec.upto runPlaysSpec)) runPlaysUptoCard

/-- THE SECOND FORM's CARD OF 'integraphlaw09.RunLostMotion'. -/
def runLostMotionUptoCard : Claim7 := { stood := { row := runLostMotionUptoRow, standIns := [], harness := (true, "ae0898d450fd1c0dd9d3f1cbd2a28d66abb8f24060f615f480e48cd27d7cefaf"), looks := true }, kinds := [], alts := [], laidByText := true, laidKinds := [.data, .data, .data, .data, .sentinel, .sentinel, .pinned], laidTests := true, laidLooks := .later }
def RunLostMotionUptoCardSaid : Prop := Claim7.holds Tryz.pinned (.plain (OpenSpec.upto runLostMotionSpec)) runLostMotionUptoCard
end Rows
end Go.Proofs.YtfdgciidfohhgaaGreatDoor
