/-
  DERIVED. GIVEN WITH THE SEED: THE CARDS: each row of YtogkbhegfnklhaaGreatDoorRows.lean that lists a variable, with what it lists TIED to the program's text (the seventh form; the later family's looks); each row that meets fmt, with fmt's text TOLD by the authors' own Lean function (tested against real Go, not proved from fmt's source: count such statements apart). THE CARD IS WHAT COUNTS. Prove the row's statement (the work); the ties are given (YtogkbhegfnklhaaGreatDoorTie.lean); close each card by the builder's one call (the guide's Derived/Test/ToyasCard.lean, 'card_holds'). Laid BY PROGRAM, IN A SANDBOX (cutbox-door.mjs). By AI agents, Wed Nov 11 2026. No macro, syntax, notation, axiom, sorry.
-/
import Derived.Test.YtogkbhegfnklhaaGreatDoorRows
import GoSem.ClaimSeven
namespace Go.Proofs.YtogkbhegfnklhaaGreatDoor
namespace Rows

/-- THE TIED CARD OF 'integraphtop.TopTubeSeries'. -/
def topTubeSeriesCard : Claim7 := { stood := { row := topTubeSeriesRow, standIns := [], harness := (true, "a68662b76be833d081ba8f18971c18de1e8388eb992191c407b52de12ea41419"), looks := true }, kinds := [], alts := [], laidByText := true, laidKinds := [.data, .data, .data, .sentinel, .sentinel], laidTests := true, laidLooks := .later }
def TopTubeSeriesCardSaid : Prop := Claim7.holds Tryz.pinned (.plain (OpenSpec.ofChange topTubeSeriesSpec)) topTubeSeriesCard

/-- THE SECOND FORM's CARD OF 'integraphtop.TopTubeSeries'. -/
def topTubeSeriesUptoCard : Claim7 := { stood := { row := topTubeSeriesUptoRow, standIns := [], harness := (true, "a68662b76be833d081ba8f18971c18de1e8388eb992191c407b52de12ea41419"), looks := true }, kinds := [], alts := [], laidByText := true, laidKinds := [.data, .data, .data, .sentinel, .sentinel], laidTests := true, laidLooks := .later }
def TopTubeSeriesUptoCardSaid : Prop := Claim7.holds Tryz.pinned (.plain (OpenSpec.upto topTubeSeriesSpec)) topTubeSeriesUptoCard
end Rows
end Go.Proofs.YtogkbhegfnklhaaGreatDoor
