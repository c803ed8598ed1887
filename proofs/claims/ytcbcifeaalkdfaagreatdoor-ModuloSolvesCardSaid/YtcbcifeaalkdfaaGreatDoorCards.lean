/-
  DERIVED. GIVEN WITH THE SEED: THE CARDS: each row of YtcbcifeaalkdfaaGreatDoorRows.lean that lists a variable, with what it lists TIED to the program's text (the seventh form; the later family's looks); each row that meets fmt, with fmt's text TOLD by the authors' own Lean function (tested against real Go, not proved from fmt's source: count such statements apart). THE CARD IS WHAT COUNTS. Prove the row's statement (the work); the ties are given (YtcbcifeaalkdfaaGreatDoorTie.lean); close each card by the builder's one call (the guide's Derived/Test/ToyasCard.lean, 'card_holds'). Laid BY PROGRAM, IN A SANDBOX (cutbox-door.mjs). By AI agents, Wed Nov 11 2026. No macro, syntax, notation, axiom, sorry.
-/
import Derived.Test.YtcbcifeaalkdfaaGreatDoorRows
import GoSem.ClaimSeven
namespace Go.Proofs.YtcbcifeaalkdfaaGreatDoor
namespace Rows

/-- THE TIED CARD OF 'gimballaw32.ModuloEvals'. -/
def moduloEvalsCard : Claim7 := { stood := { row := moduloEvalsRow, standIns := [], harness := (true, "71c96ab8f6bd0b6493a8f4fd33c8f56b591db526982c7ceb94dc925571dac6ea"), looks := false }, kinds := [], alts := [], laidByText := true, laidKinds := [.data, .data, .data, .data], laidTests := true, laidLooks := .later }
def ModuloEvalsCardSaid : Prop := Claim7.holds Tryz.pinned (.plain (OpenSpec.ofChange moduloEvalsSpec)) moduloEvalsCard

/-- THE TIED CARD OF 'gimballaw32.ModuloSteps'. -/
def moduloStepsCard : Claim7 := { stood := { row := moduloStepsRow, standIns := [], harness := (true, "71c96ab8f6bd0b6493a8f4fd33c8f56b591db526982c7ceb94dc925571dac6ea"), looks := false }, kinds := [], alts := [], laidByText := true, laidKinds := [.data, .data, .data, .data], laidTests := true, laidLooks := .later }
def ModuloStepsCardSaid : Prop := Claim7.holds Tryz.pinned (.plain (OpenSpec.ofChange moduloStepsSpec)) moduloStepsCard

/-- THE TIED CARD OF 'gimballaw32.ModuloSolves'. -/
def moduloSolvesCard : Claim7 := { stood := { row := moduloSolvesRow, standIns := [], harness := (true, "71c96ab8f6bd0b6493a8f4fd33c8f56b591db526982c7ceb94dc925571dac6ea"), looks := false }, kinds := [], alts := [], laidByText := true, laidKinds := [.data, .data, .data, .data], laidTests := true, laidLooks := .later }
def ModuloSolvesCardSaid : Prop := Claim7.holds Tryz.pinned (.plain (OpenSpec.ofChange moduloSolvesSpec)) moduloSolvesCard

/-- THE TIED CARD OF 'gimballaw32.ModuloLeast'. -/
def moduloLeastCard : Claim7 := { stood := { row := moduloLeastRow, standIns := [], harness := (true, "71c96ab8f6bd0b6493a8f4fd33c8f56b591db526982c7ceb94dc925571dac6ea"), looks := false }, kinds := [], alts := [], laidByText := true, laidKinds := [.data, .data, .data, .data], laidTests := true, laidLooks := .later }
def ModuloLeastCardSaid : Prop := Claim7.holds Tryz.pinned (.plain (OpenSpec.ofChange moduloLeastSpec)) moduloLeastCard

/-- THE TIED CARD OF 'gimballaw32.ModuloGrows'. -/
def moduloGrowsCard : Claim7 := { stood := { row := moduloGrowsRow, standIns := [], harness := (true, "71c96ab8f6bd0b6493a8f4fd33c8f56b591db526982c7ceb94dc925571dac6ea"), looks := false }, kinds := [], alts := [], laidByText := true, laidKinds := [.data, .data, .data, .data], laidTests := true, laidLooks := .later }
def ModuloGrowsCardSaid : Prop := Claim7.holds Tryz.pinned (.plain (OpenSpec.ofChange moduloGrowsSpec)) moduloGrowsCard

/-- THE TIED CARD OF 'gimballaw32.ModuloTells'. -/
def moduloTellsCard : Claim7 := { stood := { row := moduloTellsRow, standIns := [], harness := (true, "71c96ab8f6bd0b6493a8f4fd33c8f56b591db526982c7ceb94dc925571dac6ea"), looks := false }, kinds := [], alts := [], laidByText := true, laidKinds := [.data, .data, .data, .data], laidTests := true, laidLooks := .later }
def ModuloTellsCardSaid : Prop := Claim7.holds Tryz.pinned (.plain (OpenSpec.ofChange moduloTellsSpec)) moduloTellsCard

/-- THE TIED CARD OF 'gimballaw32.ModuloOrders'. -/
def moduloOrdersCard : Claim7 := { stood := { row := moduloOrdersRow, standIns := [], harness := (true, "71c96ab8f6bd0b6493a8f4fd33c8f56b591db526982c7ceb94dc925571dac6ea"), looks := false }, kinds := [], alts := [], laidByText := true, laidKinds := [.data, .data, .data, .data], laidTests := true, laidLooks := .later }
def ModuloOrdersCardSaid : Prop := Claim7.holds Tryz.pinned (.plain (OpenSpec.ofChange moduloOrdersSpec)) moduloOrdersCard

/-- THE SECOND FORM's CARD OF 'gimballaw32.ModuloEvals'. -/
def moduloEvalsUptoCard : Claim7 := { stood := { row := moduloEvalsUptoRow, standIns := [], harness := (true, "71c96ab8f6bd0b6493a8f4fd33c8f56b591db526982c7ceb94dc925571dac6ea"), looks := false }, kinds := [], alts := [], laidByText := true, laidKinds := [.data, .data, .data, .data], laidTests := true, laidLooks := .later }
def ModuloEvalsUptoCardSaid : Prop := Claim7.holds Tryz.pinned (.plain (OpenSpec.upto moduloEvalsSpec)) moduloEvalsUptoCard

/-- THE SECOND FORM's CARD OF 'gimballaw32.ModuloSteps'. -/
def moduloStepsUptoCard : Claim7 := { stood := { row := moduloStepsUptoRow, standIns := [], harness := (true, "71c96ab8f6bd0b6493a8f4fd33c8f56b591db526982c7ceb94dc925571dac6ea"), looks := false }, kinds := [], alts := [], laidByText := true, laidKinds := [.data, .data, .data, .data], laidTests := true, laidLooks := .later }
def ModuloStepsUptoCardSaid : Prop := Claim7.holds Tryz.pinned (.plain (OpenSpec.upto moduloStepsSpec)) moduloStepsUptoCard

/-- THE SECOND FORM's CARD OF 'gimballaw32.ModuloSolves'. -/
def moduloSolvesUptoCard : Claim7 := { stood := { row := moduloSolvesUptoRow, standIns := [], harness := (true, "71c96ab8f6bd0b6493a8f4fd33c8f56b591db526982c7ceb94dc925571dac6ea"), looks := false }, kinds := [], alts := [], laidByText := true, laidKinds := [.data, .data, .data, .data], laidTests := true, laidLooks := .later }
def ModuloSolvesUptoCardSaid : Prop := Claim7.holds Tryz.pinned (.plain (OpenSpec.upto moduloSolvesSpec)) moduloSolvesUptoCard

/-- THE SECOND FORM's CARD OF 'gimballaw32.ModuloLeast'. -/
def moduloLeastUptoCard : Claim7 := { stood := { row := moduloLeastUptoRow, standIns := [], harness := (true, "71c96ab8f6bd0b6493a8f4fd33c8f56b591db526982c7ceb94dc925571dac6ea"), looks := false }, kinds := [], alts := [], laidByText := true, laidKinds := [.data, .data, .data, .data], laidTests := true, laidLooks := .later }
def ModuloLeastUptoCardSaid : Prop := Claim7.holds Tryz.pinned (.plain (OpenSpec.upto moduloLeastSpec)) moduloLeastUptoCard

/-- THE SECOND FORM's CARD OF 'gimballaw32.ModuloGrows'. -/
def moduloGrowsUptoCard : Claim7 := { stood := { row := moduloGrowsUptoRow, standIns := [], harness := (true, "71c96ab8f6bd0b6493a8f4fd33c8f56b591db526982c7ceb94dc925571dac6ea"), looks := false }, kinds := [], alts := [], laidByText := true, laidKinds := [.data, .data, .data, .data], laidTests := true, laidLooks := .later }
def ModuloGrowsUptoCardSaid : Prop := Claim7.holds Tryz.pinned (.plain (OpenSpec.upto moduloGrowsSpec)) moduloGrowsUptoCard

/-- THE SECOND FORM's CARD OF 'gimballaw32.ModuloTells'. -/
def moduloTellsUptoCard : Claim7 := { stood := { row := moduloTellsUptoRow, standIns := [], harness := (true, "71c96ab8f6bd0b6493a8f4fd33c8f56b591db526982c7ceb94dc925571dac6ea"), looks := false }, kinds := [], alts := [], laidByText := true, laidKinds := [.data, .data, .data, .data], laidTests := true, laidLooks := .later }
def ModuloTellsUptoCardSaid : Prop := Claim7.holds Tryz.pinned (.plain (OpenSpec.upto moduloTellsSpec)) moduloTellsUptoCard

/-- THE SECOND FORM's CARD OF 'gimballaw32.ModuloOrders'. -/
def moduloOrdersUptoCard : Claim7 := { stood := { row := moduloOrdersUptoRow, standIns := [], harness := (true, "71c96ab8f6bd0b6493a8f4fd33c8f56b591db526982c7ceb94dc925571dac6ea"), looks := false }, kinds := [], alts := [], laidByText := true, laidKinds := [.data, .data, .data, .data], laidTests := true, laidLooks := .later }
def ModuloOrdersUptoCardSaid : Prop := Claim7.holds Tryz.pinned (.plain (OpenSpec.upto moduloOrdersSpec)) moduloOrdersUptoCard
end Rows
end Go.Proofs.YtcbcifeaalkdfaaGreatDoor
