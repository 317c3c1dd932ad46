/-
  DERIVED. GIVEN WITH THE SEED: THE CARDS: each row of YtknegjaeoffnbaaGreatDoorRows.lean that lists a variable, with what it lists TIED to the program's text (the seventh form; the later family's looks); each row that meets fmt, with fmt's text TOLD by the authors' own Lean function (tested against real Go, not proved from fmt's source: count such statements apart). THE CARD IS WHAT COUNTS. Prove the row's statement (the work); the ties are given (YtknegjaeoffnbaaGreatDoorTie.lean); close each card by the builder's one call (the guide's Derived/Test/ToyasCard.lean, 'card_holds'). Laid BY PROGRAM, IN A SANDBOX (cutbox-door.mjs). By AI agents, Wed Nov 11 2026. No macro, syntax, notation, axiom, sorry.
-/
import Derived.Test.YtknegjaeoffnbaaGreatDoorRows
import GoSem.ClaimSeven
namespace Go.Proofs.YtknegjaeoffnbaaGreatDoor
namespace Rows

/-- THE TIED CARD OF 'integraphlaw01.ExactGrids'. -/
def exactGridsCard : Claim7 := { stood := { row := exactGridsRow, standIns := [], harness := (true, "0bd04a9777c06c4babd2615d738c4370e7ee42132e89b6db1518d6fd8816c7a6"), looks := true }, kinds := [], alts := [], laidByText := true, laidKinds := [.data, .data, .data, .sentinel, .sentinel], laidTests := true, laidLooks := .later }
def ExactGridsCardSaid : Prop := Claim7.holds Tryz.pinned (.plain (OpenSpec.ofChange exactGridsSpec)) exactGridsCard

/-- THE TIED CARD OF 'integraphlaw01.ExactRounds'. -/
def exactRoundsCard : Claim7 := { stood := { row := exactRoundsRow, standIns := [], harness := (true, "0bd04a9777c06c4babd2615d738c4370e7ee42132e89b6db1518d6fd8816c7a6"), looks := true }, kinds := [], alts := [], laidByText := true, laidKinds := [.data, .data, .data, .sentinel, .sentinel], laidTests := true, laidLooks := .later }
def ExactRoundsCardSaid : Prop := Claim7.holds Tryz.pinned (.plain (OpenSpec.ofChange exactRoundsSpec)) exactRoundsCard

/-- THE TIED CARD OF 'integraphlaw01.ExactDerives'. -/
def exactDerivesCard : Claim7 := { stood := { row := exactDerivesRow, standIns := [], harness := (true, "0bd04a9777c06c4babd2615d738c4370e7ee42132e89b6db1518d6fd8816c7a6"), looks := true }, kinds := [], alts := [], laidByText := true, laidKinds := [.data, .data, .data, .sentinel, .sentinel], laidTests := true, laidLooks := .later }
def ExactDerivesCardSaid : Prop := Claim7.holds Tryz.pinned (.plain (OpenSpec.ofChange exactDerivesSpec)) exactDerivesCard

/-- THE TIED CARD OF 'integraphlaw01.ExactSpans'. -/
def exactSpansCard : Claim7 := { stood := { row := exactSpansRow, standIns := [], harness := (true, "0bd04a9777c06c4babd2615d738c4370e7ee42132e89b6db1518d6fd8816c7a6"), looks := true }, kinds := [], alts := [], laidByText := true, laidKinds := [.data, .data, .data, .sentinel, .sentinel], laidTests := true, laidLooks := .later }
def ExactSpansCardSaid : Prop := Claim7.holds Tryz.pinned (.plain (OpenSpec.ofChange exactSpansSpec)) exactSpansCard

/-- THE TIED CARD OF 'integraphlaw01.ExactHulls'. -/
def exactHullsCard : Claim7 := { stood := { row := exactHullsRow, standIns := [], harness := (true, "0bd04a9777c06c4babd2615d738c4370e7ee42132e89b6db1518d6fd8816c7a6"), looks := true }, kinds := [], alts := [], laidByText := true, laidKinds := [.data, .data, .data, .sentinel, .sentinel], laidTests := true, laidLooks := .later }
def ExactHullsCardSaid : Prop := Claim7.holds Tryz.pinned (.plain (OpenSpec.ofChange exactHullsSpec)) exactHullsCard

/-- THE TIED CARD OF 'integraphlaw01.ExactForms'. -/
def exactFormsCard : Claim7 := { stood := { row := exactFormsRow, standIns := [], harness := (true, "0bd04a9777c06c4babd2615d738c4370e7ee42132e89b6db1518d6fd8816c7a6"), looks := true }, kinds := [], alts := [], laidByText := true, laidKinds := [.data, .data, .data, .sentinel, .sentinel], laidTests := true, laidLooks := .later }
def ExactFormsCardSaid : Prop := Claim7.holds Tryz.pinned (.plain (OpenSpec.ofChange exactFormsSpec)) exactFormsCard

/-- THE TIED CARD OF 'integraphlaw01.ExactTexts'. -/
def exactTextsCard : Claim7 := { stood := { row := exactTextsRow, standIns := [], harness := (true, "0bd04a9777c06c4babd2615d738c4370e7ee42132e89b6db1518d6fd8816c7a6"), looks := true }, kinds := [], alts := [], laidByText := true, laidKinds := [.data, .data, .data, .sentinel, .sentinel], laidTests := true, laidLooks := .later }
def ExactTextsCardSaid : Prop := Claim7.holds Tryz.pinned (.plain (OpenSpec.ofChange exactTextsSpec)) exactTextsCard

/-- THE TIED CARD OF 'integraphlaw01.ExactSums'. -/
def exactSumsCard : Claim7 := { stood := { row := exactSumsRow, standIns := [], harness := (true, "0bd04a9777c06c4babd2615d738c4370e7ee42132e89b6db1518d6fd8816c7a6"), looks := true }, kinds := [], alts := [], laidByText := true, laidKinds := [.data, .data, .data, .sentinel, .sentinel], laidTests := true, laidLooks := .later }
def ExactSumsCardSaid : Prop := Claim7.holds Tryz.pinned (.plain (OpenSpec.ofChange exactSumsSpec)) exactSumsCard

/-- THE TIED CARD OF 'integraphlaw01.ExactValues'. -/
def exactValuesCard : Claim7 := { stood := { row := exactValuesRow, standIns := [], harness := (true, "0bd04a9777c06c4babd2615d738c4370e7ee42132e89b6db1518d6fd8816c7a6"), looks := true }, kinds := [], alts := [], laidByText := true, laidKinds := [.data, .data, .data, .sentinel, .sentinel], laidTests := true, laidLooks := .later }
def ExactValuesCardSaid : Prop := Claim7.holds Tryz.pinned (.plain (OpenSpec.ofChange exactValuesSpec)) exactValuesCard

/-- THE TIED CARD OF 'integraphlaw01.ExactNumbers'. -/
def exactNumbersCard : Claim7 := { stood := { row := exactNumbersRow, standIns := [], harness := (true, "0bd04a9777c06c4babd2615d738c4370e7ee42132e89b6db1518d6fd8816c7a6"), looks := true }, kinds := [], alts := [], laidByText := true, laidKinds := [.data, .data, .data, .sentinel, .sentinel], laidTests := true, laidLooks := .later }
def ExactNumbersCardSaid : Prop := Claim7.holds Tryz.pinned (.plain (OpenSpec.ofChange exactNumbersSpec)) exactNumbersCard

/-- THE TIED CARD OF 'integraphlaw01.ExactComposes'. -/
def exactComposesCard : Claim7 := { stood := { row := exactComposesRow, standIns := [], harness := (true, "0bd04a9777c06c4babd2615d738c4370e7ee42132e89b6db1518d6fd8816c7a6"), looks := true }, kinds := [], alts := [], laidByText := true, laidKinds := [.data, .data, .data, .sentinel, .sentinel], laidTests := true, laidLooks := .later }
def ExactComposesCardSaid : Prop := Claim7.holds Tryz.pinned (.plain (OpenSpec.ofChange exactComposesSpec)) exactComposesCard

/-- THE TIED CARD OF 'integraphlaw01.ExactEncloses'. -/
def exactEnclosesCard : Claim7 := { stood := { row := exactEnclosesRow, standIns := [], harness := (true, "0bd04a9777c06c4babd2615d738c4370e7ee42132e89b6db1518d6fd8816c7a6"), looks := true }, kinds := [], alts := [], laidByText := true, laidKinds := [.data, .data, .data, .sentinel, .sentinel], laidTests := true, laidLooks := .later }
def ExactEnclosesCardSaid : Prop := Claim7.holds Tryz.pinned (.plain (OpenSpec.ofChange exactEnclosesSpec)) exactEnclosesCard

/-- THE TIED CARD OF 'integraphlaw01.ExactRing'. -/
def exactRingCard : Claim7 := { stood := { row := exactRingRow, standIns := [], harness := (true, "0bd04a9777c06c4babd2615d738c4370e7ee42132e89b6db1518d6fd8816c7a6"), looks := true }, kinds := [], alts := [], laidByText := true, laidKinds := [.data, .data, .data, .sentinel, .sentinel], laidTests := true, laidLooks := .later }
def ExactRingCardSaid : Prop := Claim7.holds Tryz.pinned (.plain (OpenSpec.ofChange exactRingSpec)) exactRingCard

/-- THE SECOND FORM's CARD OF 'integraphlaw01.ExactGrids'. -/
def exactGridsUptoCard : Claim7 := { stood := { row := exactGridsUptoRow, standIns := [], harness := (true, "0bd04a9777c06c4babd2615d738c4370e7ee42132e89b6db1518d6fd8816c7a6"), looks := true }, kinds := [], alts := [], laidByText := true, laidKinds := [.data, .data, .data, .sentinel, .sentinel], laidTests := true, laidLooks := .later }
def ExactGridsUptoCardSaid : Prop := Claim7.holds Tryz.pinned (.plain (OpenSpec.upto exactGridsSpec)) exactGridsUptoCard

/-- THE SECOND FORM's CARD OF 'integraphlaw01.ExactRounds'. -/
def exactRoundsUptoCard : Claim7 := { stood := { row := exactRoundsUptoRow, standIns := [], harness := (true, "0bd04a9777c06c4babd2615d738c4370e7ee42132e89b6db1518d6fd8816c7a6"), looks := true }, kinds := [], alts := [], laidByText := true, laidKinds := [.data, .data, .data, .sentinel, .sentinel], laidTests := true, laidLooks := .later }
def ExactRoundsUptoCardSaid : Prop := Claim7.holds Tryz.pinned (.plain (OpenSpec.upto exactRoundsSpec)) exactRoundsUptoCard

/-- THE SECOND FORM's CARD OF 'integraphlaw01.ExactDerives'. -/
def exactDerivesUptoCard : Claim7 := { stood := { row := exactDerivesUptoRow, standIns := [], harness := (true, "0bd04a9777c06c4babd2615d738c4370e7ee42132e89b6db1518d6fd8816c7a6"), looks := true }, kinds := [], alts := [], laidByText := true, laidKinds := [.data, .data, .data, .sentinel, .sentinel], laidTests := true, laidLooks := .later }
def ExactDerivesUptoCardSaid : Prop := Claim7.holds Tryz.pinned (.plain (OpenSpec.upto exactDerivesSpec)) exactDerivesUptoCard

/-- THE SECOND FORM's CARD OF 'integraphlaw01.ExactSpans'. -/
def exactSpansUptoCard : Claim7 := { stood := { row := exactSpansUptoRow, standIns := [], harness := (true, "0bd04a9777c06c4babd2615d738c4370e7ee42132e89b6db1518d6fd8816c7a6"), looks := true }, kinds := [], alts := [], laidByText := true, laidKinds := [.data, .data, .data, .sentinel, .sentinel], laidTests := true, laidLooks := .later }
def ExactSpansUptoCardSaid : Prop := Claim7.holds Tryz.pinned (.plain (OpenSpec.upto exactSpansSpec)) exactSpansUptoCard

/-- THE SECOND FORM's CARD OF 'integraphlaw01.ExactHulls'. -/
def exactHullsUptoCard : Claim7 := { stood := { row := exactHullsUptoRow, standIns := [], harness := (true, "0bd04a9777c06c4babd2615d738c4370e7ee42132e89b6db1518d6fd8816c7a6"), looks := true }, kinds := [], alts := [], laidByText := true, laidKinds := [.data, .data, .data, .sentinel, .sentinel], laidTests := true, laidLooks := .later }
def ExactHullsUptoCardSaid : Prop := Claim7.holds Tryz.pinned (.plain (OpenSpec.upto exactHullsSpec)) exactHullsUptoCard

/-- THE SECOND FORM's CARD OF 'integraphlaw01.ExactForms'. -/
def exactFormsUptoCard : Claim7 := { stood := { row := exactFormsUptoRow, standIns := [], harness := (true, "0bd04a9777c06c4babd2615d738c4370e7ee42132e89b6db1518d6fd8816c7a6"), looks := true }, kinds := [], alts := [], laidByText := true, laidKinds := [.data, .data, .data, .sentinel, .sentinel], laidTests := true, laidLooks := .later }
def ExactFormsUptoCardSaid : Prop := Claim7.holds Tryz.pinned (.plain (OpenSpec.upto exactFormsSpec)) exactFormsUptoCard

/-- THE SECOND FORM's CARD OF 'integraphlaw01.ExactTexts'. -/
def exactTextsUptoCard : Claim7 := { stood := { row := exactTextsUptoRow, standIns := [], harness := (true, "0bd04a9777c06c4babd2615d738c4370e7ee42132e89b6db1518d6fd8816c7a6"), looks := true }, kinds := [], alts := [], laidByText := true, laidKinds := [.data, .data, .data, .sentinel, .sentinel], laidTests := true, laidLooks := .later }
def ExactTextsUptoCardSaid : Prop := Claim7.holds Tryz.pinned (.plain (OpenSpec.upto exactTextsSpec)) exactTextsUptoCard

/-- THE SECOND FORM's CARD OF 'integraphlaw01.ExactSums'. -/
def exactSumsUptoCard : Claim7 := { stood := { row := exactSumsUptoRow, standIns := [], harness := (true, "0bd04a9777c06c4babd2615d738c4370e7ee42132e89b6db1518d6fd8816c7a6"), looks := true }, kinds := [], alts := [], laidByText := true, laidKinds := [.data, .data, .data, .sentinel, .sentinel], laidTests := true, laidLooks := .later }
def ExactSumsUptoCardSaid : Prop := Claim7.holds Tryz.pinned (.plain (OpenSpec.upto exactSumsSpec)) exactSumsUptoCard

/-- THE SECOND FORM's CARD OF 'integraphlaw01.ExactValues'. -/
def exactValuesUptoCard : Claim7 := { stood := { row := exactValuesUptoRow, standIns := [], harness := (true, "0bd04a9777c06c4babd2615d738c4370e7ee42132e89b6db1518d6fd8816c7a6"), looks := true }, kinds := [], alts := [], laidByText := true, laidKinds := [.data, .data, .data, .sentinel, .sentinel], laidTests := true, laidLooks := .later }
def ExactValuesUptoCardSaid : Prop := Claim7.holds Tryz.pinned (.plain (OpenSpec.upto exactValuesSpec)) exactValuesUptoCard

/-- THE SECOND FORM's CARD OF 'integraphlaw01.ExactNumbers'. -/
def exactNumbersUptoCard : Claim7 := { stood := { row := exactNumbersUptoRow, standIns := [], harness := (true, "0bd04a9777c06c4babd2615d738c4370e7ee42132e89b6db1518d6fd8816c7a6"), looks := true }, kinds := [], alts := [], laidByText := true, laidKinds := [.data, .data, .data, .sentinel, .sentinel], laidTests := true, laidLooks := .later }
def ExactNumbersUptoCardSaid : Prop := Claim7.holds Tryz.pinned (.plain (OpenSpec.upto exactNumbersSpec)) exactNumbersUptoCard

/-- THE SECOND FORM's CARD OF 'integraphlaw01.ExactComposes'. -/
def exactComposesUptoCard : Claim7 := { stood := { row := exactComposesUptoRow, standIns := [], harness := (true, "0bd04a9777c06c4babd2615d738c4370e7ee42132e89b6db1518d6fd8816c7a6"), looks := true }, kinds := [], alts := [], laidByText := true, laidKinds := [.data, .data, .data, .sentinel, .sentinel], laidTests := true, laidLooks := .later }
def ExactComposesUptoCardSaid : Prop := Claim7.holds Tryz.pinned (.plain (OpenSpec.upto exactComposesSpec)) exactComposesUptoCard

/-- THE SECOND FORM's CARD OF 'integraphlaw01.ExactEncloses'. -/
def exactEnclosesUptoCard : Claim7 := { stood := { row := exactEnclosesUptoRow, standIns := [], harness := (true, "0bd04a9777c06c4babd2615d738c4370e7ee42132e89b6db1518d6fd8816c7a6"), looks := true }, kinds := [], alts := [], laidByText := true, laidKinds := [.data, .data, .data, .sentinel, .sentinel], laidTests := true, laidLooks := .later }
def ExactEnclosesUptoCardSaid : Prop := Claim7.holds Tryz.pinned (.plain (OpenSpec.upto exactEnclosesSpec)) exactEnclosesUptoCard

/-- THE SECOND FORM's CARD OF 'integraphlaw01.ExactRing'. -/
def exactRingUptoCard : Claim7 := { stood := { row := exactRingUptoRow, standIns := [], harness := (true, "0bd04a9777c06c4babd2615d738c4370e7ee42132e89b6db1518d6fd8816c7a6"), looks := true }, kinds := [], alts := [], laidByText := true, laidKinds := [.data, .data, .data, .sentinel, .sentinel], laidTests := true, laidLooks := .later }
def ExactRingUptoCardSaid : Prop := Claim7.holds Tryz.pinned (.plain (OpenSpec.upto exactRingSpec)) exactRingUptoCard
end Rows
end Go.Proofs.YtknegjaeoffnbaaGreatDoor
