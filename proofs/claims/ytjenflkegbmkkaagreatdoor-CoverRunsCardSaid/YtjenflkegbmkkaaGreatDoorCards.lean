/-
  DERIVED. GIVEN WITH THE SEED: THE CARDS: each row of YtjenflkegbmkkaaGreatDoorRows.lean that lists a variable, with what it lists TIED to the program's text (the seventh form; the later family's looks); each row that meets fmt, with fmt's text TOLD by the authors' own Lean function (tested against real Go, not proved from fmt's source: count such statements apart). THE CARD IS WHAT COUNTS. Prove the row's statement (the work); the ties are given (YtjenflkegbmkkaaGreatDoorTie.lean); close each card by the builder's one call (the guide's Derived/Test/ToyasCard.lean, 'card_holds'). Laid BY PROGRAM, IN A SANDBOX (cutbox-door.mjs). By AI agents, Wed Nov 11 2026. No macro, syntax, notation, axiom, sorry.
-/
import Derived.Test.YtjenflkegbmkkaaGreatDoorRows
import GoSem.ClaimSeven
namespace Go.Proofs.YtjenflkegbmkkaaGreatDoor
namespace Rows

/-- THE TIED CARD OF 'gimballaw34.CoverRuns'. -/
def coverRunsCard : Claim7 := { stood := { row := coverRunsRow, standIns := [], harness := (true, "2c65276651070228e25e2e9fe1a2e870d32e964deb8870108186b705446c5870"), looks := false }, kinds := [], alts := [], laidByText := true, laidKinds := [.data, .data, .data], laidTests := true, laidLooks := .later }
def CoverRunsCardSaid : Prop := Claim7.holds Tryz.pinned (.plain (OpenSpec.ofChange coverRunsSpec)) coverRunsCard

/-- THE TIED CARD OF 'gimballaw34.CoverLean'. -/
def coverLeanCard : Claim7 := { stood := { row := coverLeanRow, standIns := [], harness := (true, "2c65276651070228e25e2e9fe1a2e870d32e964deb8870108186b705446c5870"), looks := false }, kinds := [], alts := [], laidByText := true, laidKinds := [.data, .data, .data], laidTests := true, laidLooks := .later }
def CoverLeanCardSaid : Prop := Claim7.holds Tryz.pinned (.plain (OpenSpec.ofChange coverLeanSpec)) coverLeanCard

/-- THE TIED CARD OF 'gimballaw34.CoverGrows'. -/
def coverGrowsCard : Claim7 := { stood := { row := coverGrowsRow, standIns := [], harness := (true, "2c65276651070228e25e2e9fe1a2e870d32e964deb8870108186b705446c5870"), looks := false }, kinds := [], alts := [], laidByText := true, laidKinds := [.data, .data, .data], laidTests := true, laidLooks := .later }
def CoverGrowsCardSaid : Prop := Claim7.holds Tryz.pinned (.plain (OpenSpec.ofChange coverGrowsSpec)) coverGrowsCard

/-- THE TIED CARD OF 'gimballaw34.CoverIdle'. -/
def coverIdleCard : Claim7 := { stood := { row := coverIdleRow, standIns := [], harness := (true, "2c65276651070228e25e2e9fe1a2e870d32e964deb8870108186b705446c5870"), looks := false }, kinds := [], alts := [], laidByText := true, laidKinds := [.data, .data, .data], laidTests := true, laidLooks := .later }
def CoverIdleCardSaid : Prop := Claim7.holds Tryz.pinned (.plain (OpenSpec.ofChange coverIdleSpec)) coverIdleCard

/-- THE TIED CARD OF 'gimballaw34.CoverHolds'. -/
def coverHoldsCard : Claim7 := { stood := { row := coverHoldsRow, standIns := [], harness := (true, "2c65276651070228e25e2e9fe1a2e870d32e964deb8870108186b705446c5870"), looks := false }, kinds := [], alts := [], laidByText := true, laidKinds := [.data, .data, .data], laidTests := true, laidLooks := .later }
def CoverHoldsCardSaid : Prop := Claim7.holds Tryz.pinned (.plain (OpenSpec.ofChange coverHoldsSpec)) coverHoldsCard

/-- THE SECOND FORM's CARD OF 'gimballaw34.CoverRuns'. -/
def coverRunsUptoCard : Claim7 := { stood := { row := coverRunsUptoRow, standIns := [], harness := (true, "2c65276651070228e25e2e9fe1a2e870d32e964deb8870108186b705446c5870"), looks := false }, kinds := [], alts := [], laidByText := true, laidKinds := [.data, .data, .data], laidTests := true, laidLooks := .later }
def CoverRunsUptoCardSaid : Prop := Claim7.holds Tryz.pinned (.plain (OpenSpec.upto coverRunsSpec)) coverRunsUptoCard

/-- THE SECOND FORM's CARD OF 'gimballaw34.CoverLean'. -/
def coverLeanUptoCard : Claim7 := { stood := { row := coverLeanUptoRow, standIns := [], harness := (true, "2c65276651070228e25e2e9fe1a2e870d32e964deb8870108186b705446c5870"), looks := false }, kinds := [], alts := [], laidByText := true, laidKinds := [.data, .data, .data], laidTests := true, laidLooks := .later }
def CoverLeanUptoCardSaid : Prop := Claim7.holds Tryz.pinned (.plain (OpenSpec.upto coverLeanSpec)) coverLeanUptoCard

/-- THE SECOND FORM's CARD OF 'gimballaw34.CoverGrows'. -/
def coverGrowsUptoCard : Claim7 := { stood := { row := coverGrowsUptoRow, standIns := [], harness := (true, "2c65276651070228e25e2e9fe1a2e870d32e964deb8870108186b705446c5870"), looks := false }, kinds := [], alts := [], laidByText := true, laidKinds := [.data, .data, .data], laidTests := true, laidLooks := .later }
def CoverGrowsUptoCardSaid : Prop := Claim7.holds Tryz.pinned (.plain (OpenSpec.upto coverGrowsSpec)) coverGrowsUptoCard

/-- THE SECOND FORM's CARD OF 'gimballaw34.CoverIdle'. -/
def coverIdleUptoCard : Claim7 := { stood := { row := coverIdleUptoRow, standIns := [], harness := (true, "2c65276651070228e25e2e9fe1a2e870d32e964deb8870108186b705446c5870"), looks := false }, kinds := [], alts := [], laidByText := true, laidKinds := [.data, .data, .data], laidTests := true, laidLooks := .later }
def CoverIdleUptoCardSaid : Prop := Claim7.holds Tryz.pinned (.plain (OpenSpec.upto coverIdleSpec)) coverIdleUptoCard

/-- THE SECOND FORM's CARD OF 'gimballaw34.CoverHolds'. -/
def coverHoldsUptoCard : Claim7 := { stood := { row := coverHoldsUptoRow, standIns := [], harness := (true, "2c65276651070228e25e2e9fe1a2e870d32e964deb8870108186b705446c5870"), looks := false }, kinds := [], alts := [], laidByText := true, laidKinds := [.data, .data, .data], laidTests := true, laidLooks := .later }
def CoverHoldsUptoCardSaid : Prop := Claim7.holds Tryz.pinned (.plain (OpenSpec.upto coverHoldsSpec)) coverHoldsUptoCard
end Rows
end Go.Proofs.YtjenflkegbmkkaaGreatDoor
