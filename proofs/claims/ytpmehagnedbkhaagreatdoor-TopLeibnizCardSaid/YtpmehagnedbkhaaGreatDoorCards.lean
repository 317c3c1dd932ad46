/-
  DERIVED. GIVEN WITH THE SEED: THE CARDS: each row of YtpmehagnedbkhaaGreatDoorRows.lean that lists a variable, with what it lists TIED to the program's text (the seventh form; the later family's looks); each row that meets fmt, with fmt's text TOLD by the authors' own Lean function (tested against real Go, not proved from fmt's source: count such statements apart). THE CARD IS WHAT COUNTS. Prove the row's statement (the work); the ties are given (YtpmehagnedbkhaaGreatDoorTie.lean); close each card by the builder's one call (the guide's Derived/Test/ToyasCard.lean, 'card_holds'). Laid BY PROGRAM, IN A SANDBOX (cutbox-door.mjs). By AI agents, Wed Nov 11 2026. No macro, syntax, notation, axiom, sorry.
-/
import Derived.Test.YtpmehagnedbkhaaGreatDoorRows
import GoSem.ClaimSeven
namespace Go.Proofs.YtpmehagnedbkhaaGreatDoor
namespace Rows

/-- THE TIED CARD OF 'integraphtop.TopLeibniz'. -/
def topLeibnizCard : Claim7 := { stood := { row := topLeibnizRow, standIns := [], harness := (true, "56559adeb064e839cf8b3946cef90c03fa4af672f842f0aaf67bd355a96889d2"), looks := true }, kinds := [], alts := [], laidByText := true, laidKinds := [.data, .data, .data, .sentinel, .sentinel], laidTests := true, laidLooks := .later }
def TopLeibnizCardSaid : Prop := Claim7.holds Tryz.pinned (.plain (OpenSpec.ofChange topLeibnizSpec)) topLeibnizCard

/-- THE TIED CARD OF 'integraphlaw08.EncloseChains'. -/
def encloseChainsCard : Claim7 := { stood := { row := encloseChainsRow, standIns := [], harness := (true, "56559adeb064e839cf8b3946cef90c03fa4af672f842f0aaf67bd355a96889d2"), looks := true }, kinds := [], alts := [], laidByText := true, laidKinds := [.data, .data, .data, .sentinel, .sentinel], laidTests := true, laidLooks := .later }
def EncloseChainsCardSaid : Prop := Claim7.holds Tryz.pinned (.plain (OpenSpec.ofChange encloseChainsSpec)) encloseChainsCard

/-- THE TIED CARD OF 'integraphtop.TopTubeSeries'. -/
def topTubeSeriesCard : Claim7 := { stood := { row := topTubeSeriesRow, standIns := [], harness := (true, "56559adeb064e839cf8b3946cef90c03fa4af672f842f0aaf67bd355a96889d2"), looks := true }, kinds := [], alts := [], laidByText := true, laidKinds := [.data, .data, .data, .sentinel, .sentinel], laidTests := true, laidLooks := .later }
def TopTubeSeriesCardSaid : Prop := Claim7.holds Tryz.pinned (.plain (OpenSpec.ofChange topTubeSeriesSpec)) topTubeSeriesCard

/-- THE SECOND FORM's CARD OF 'integraphtop.TopLeibniz'. -/
def topLeibnizUptoCard : Claim7 := { stood := { row := topLeibnizUptoRow, standIns := [], harness := (true, "56559adeb064e839cf8b3946cef90c03fa4af672f842f0aaf67bd355a96889d2"), looks := true }, kinds := [], alts := [], laidByText := true, laidKinds := [.data, .data, .data, .sentinel, .sentinel], laidTests := true, laidLooks := .later }
def TopLeibnizUptoCardSaid : Prop := Claim7.holds Tryz.pinned (.plain (OpenSpec.upto topLeibnizSpec)) topLeibnizUptoCard

/-- THE SECOND FORM's CARD OF 'integraphlaw08.EncloseChains'. -/
def encloseChainsUptoCard : Claim7 := { stood := { row := encloseChainsUptoRow, standIns := [], harness := (true, "56559adeb064e839cf8b3946cef90c03fa4af672f842f0aaf67bd355a96889d2"), looks := true }, kinds := [], alts := [], laidByText := true, laidKinds := [.data, .data, .data, .sentinel, .sentinel], laidTests := true, laidLooks := .later }
def EncloseChainsUptoCardSaid : Prop := Claim7.holds Tryz.pinned (.plain (OpenSpec.upto encloseChainsSpec)) encloseChainsUptoCard

/-- THE SECOND FORM's CARD OF 'integraphtop.TopTubeSeries'. -/
def topTubeSeriesUptoCard : Claim7 := { stood := { row := topTubeSeriesUptoRow, standIns := [], harness := (true, "56559adeb064e839cf8b3946cef90c03fa4af672f842f0aaf67bd355a96889d2"), looks := true }, kinds := [], alts := [], laidByText := true, laidKinds := [.data, .data, .data, .sentinel, .sentinel], laidTests := true, laidLooks := .later }
def TopTubeSeriesUptoCardSaid : Prop := Claim7.holds Tryz.pinned (.plain (OpenSpec.upto topTubeSeriesSpec)) topTubeSeriesUptoCard
end Rows
end Go.Proofs.YtpmehagnedbkhaaGreatDoor
