/-
  DERIVED. GIVEN WITH THE SEED: THE CARDS: each row of YtphlgddkpboamaaGreatDoorRows.lean that lists a variable, with what it lists TIED to the program's text (the seventh form; the later family's looks); each row that meets fmt, with fmt's text TOLD by the authors' own Lean function (tested against real Go, not proved from fmt's source: count such statements apart). THE CARD IS WHAT COUNTS. Prove the row's statement (the work); the ties are given (YtphlgddkpboamaaGreatDoorTie.lean); close each card by the builder's one call (the guide's Derived/Test/ToyasCard.lean, 'card_holds'). Laid BY PROGRAM, IN A SANDBOX (cutbox-door.mjs). By AI agents, Wed Nov 11 2026. No macro, syntax, notation, axiom, sorry.
-/
import Derived.Test.YtphlgddkpboamaaGreatDoorRows
import GoSem.ClaimSeven
namespace Go.Proofs.YtphlgddkpboamaaGreatDoor
namespace Rows

/-- THE TIED CARD OF 'integraphlaw09.RunCounts'. -/
def runCountsCard : Claim7 := { stood := { row := runCountsRow, standIns := [], harness := (true, "fab1fad2b17ac901eb722dbf0382b16331c23e82043e6490dae2ac53ad462a07"), looks := true }, kinds := [], alts := [], laidByText := true, laidKinds := [.data, .data, .data, .data, .sentinel, .sentinel, .pinned], laidTests := true, laidLooks := .later }
def RunCountsCardSaid : Prop := Claim7.holds Tryz.pinned (.plain (OpenSpec.ofChange runCountsSpec)) runCountsCard

/-- THE TIED CARD OF 'integraphlaw09.RunMachines'. -/
def runMachinesCard : Claim7 := { stood := { row := runMachinesRow, standIns := [], harness := (true, "fab1fad2b17ac901eb722dbf0382b16331c23e82043e6490dae2ac53ad462a07"), looks := true }, kinds := [], alts := [], laidByText := true, laidKinds := [.data, .data, .data, .data, .sentinel, .sentinel, .pinned], laidTests := true, laidLooks := .later }
def RunMachinesCardSaid : Prop := Claim7.holds Tryz.pinned (.plain (OpenSpec.ofChange runMachinesSpec)) runMachinesCard

/-- THE SECOND FORM's CARD OF 'integraphlaw09.RunCounts'. -/
def runCountsUptoCard : Claim7 := { stood := { row := runCountsUptoRow, standIns := [], harness := (true, "fab1fad2b17ac901eb722dbf0382b16331c23e82043e6490dae2ac53ad462a07"), looks := true }, kinds := [], alts := [], laidByText := true, laidKinds := [.data, .data, .data, .data, .sentinel, .sentinel, .pinned], laidTests := true, laidLooks := .later }
def RunCountsUptoCardSaid : Prop := Claim7.holds Tryz.pinned (.plain (OpenSpec.upto runCountsSpec)) runCountsUptoCard

/-- THE SECOND FORM's CARD OF 'integraphlaw09.RunMachines'. -/
def runMachinesUptoCard : Claim7 := { stood := { row := runMachinesUptoRow, standIns := [], harness := (true, "fab1fad2b17ac901eb722dbf0382b16331c23e82043e6490dae2ac53ad462a07"), looks := true }, kinds := [], alts := [], laidByText := true, laidKinds := [.data, .data, .data, .data, .sentinel, .sentinel, .pinned], laidTests := true, laidLooks := .later }
def RunMachinesUptoCardSaid : Prop := Claim7.holds Tryz.pinned (.plain (OpenSpec.upto runMachinesSpec)) runMachinesUptoCard
end Rows
end Go.Proofs.YtphlgddkpboamaaGreatDoor
