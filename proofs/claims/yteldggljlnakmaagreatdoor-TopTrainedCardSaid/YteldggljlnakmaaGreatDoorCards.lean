/-
  DERIVED. GIVEN WITH THE SEED: THE CARDS: each row of YteldggljlnakmaaGreatDoorRows.lean that lists a variable, with what it lists TIED to the program's text (the seventh form; the later family's looks); each row that meets fmt, with fmt's text TOLD by the authors' own Lean function (tested against real Go, not proved from fmt's source: count such statements apart). THE CARD IS WHAT COUNTS. Prove the row's statement (the work); the ties are given (YteldggljlnakmaaGreatDoorTie.lean); close each card by the builder's one call (the guide's Derived/Test/ToyasCard.lean, 'card_holds'). Laid BY PROGRAM, IN A SANDBOX (cutbox-door.mjs). By AI agents, Wed Nov 11 2026. No macro, syntax, notation, axiom, sorry.
-/
import Derived.Test.YteldggljlnakmaaGreatDoorRows
import GoSem.ClaimSeven
namespace Go.Proofs.YteldggljlnakmaaGreatDoor
namespace Rows

/-- THE TIED CARD OF 'integraphtop.TopTrained'. -/
def topTrainedCard : Claim7 := { stood := { row := topTrainedRow, standIns := [], harness := (true, "4f3072e64d8646386db7f01027e405f14e4f73fad45f0c205dbc4827728e3f0c"), looks := true }, kinds := [], alts := [], laidByText := true, laidKinds := [.data, .data, .data, .sentinel, .sentinel], laidTests := true, laidLooks := .later }
def TopTrainedCardSaid : Prop := Claim7.holds Tryz.pinned (.plain (OpenSpec.ofChange topTrainedSpec)) topTrainedCard

/-- THE SECOND FORM's CARD OF 'integraphtop.TopTrained'. -/
def topTrainedUptoCard : Claim7 := { stood := { row := topTrainedUptoRow, standIns := [], harness := (true, "4f3072e64d8646386db7f01027e405f14e4f73fad45f0c205dbc4827728e3f0c"), looks := true }, kinds := [], alts := [], laidByText := true, laidKinds := [.data, .data, .data, .sentinel, .sentinel], laidTests := true, laidLooks := .later }
def TopTrainedUptoCardSaid : Prop := Claim7.holds Tryz.pinned (.plain (OpenSpec.upto topTrainedSpec)) topTrainedUptoCard
end Rows
end Go.Proofs.YteldggljlnakmaaGreatDoor
