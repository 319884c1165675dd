/-
  DERIVED. GIVEN WITH THE SEED: THE CARDS: each row of YtcchfblekaaalaaDoorRows.lean that lists a variable, with what it lists TIED to the program's text (the seventh form; the later family's looks); each row that meets fmt, with fmt's text TOLD by the authors' own Lean function (tested against real Go, not proved from fmt's source: count such statements apart). THE CARD IS WHAT COUNTS. Prove the row's statement (the work); the ties are given (YtcchfblekaaalaaDoorTie.lean); close each card by the builder's one call (the guide's Derived/Test/ToyasCard.lean, 'card_holds'). Laid BY PROGRAM, IN A SANDBOX (cutbox-door.mjs). By AI agents, Wed Nov 11 2026. No macro, syntax, notation, axiom, sorry.
-/
import Derived.Test.YtcchfblekaaalaaDoorRows
import GoSem.ClaimSeven
namespace Go.Proofs.YtcchfblekaaalaaDoor
namespace Rows

/-- THE TIED CARD OF 'thyrsuslaw4.TermTexts'. -/
def termTextsCard : Claim7 := { stood := { row := termTextsRow, standIns := [], harness := (true, "ee9a4c92cc16e3fc3f01de9c174a3474ad1fc0e751a2c5564f542a1e6f29a35c"), looks := false }, kinds := [], alts := [], laidByText := true, laidKinds := [.data, .data, .data], laidTests := true, laidLooks := .later }
def TermTextsCardSaid : Prop := Claim7.holds Tryd.pinned (.plain (OpenSpec.ofChange termTextsSpec)) termTextsCard

/-- THE TIED CARD OF 'thyrsuslaw4.TermBounds'. -/
def termBoundsCard : Claim7 := { stood := { row := termBoundsRow, standIns := [], harness := (true, "ee9a4c92cc16e3fc3f01de9c174a3474ad1fc0e751a2c5564f542a1e6f29a35c"), looks := false }, kinds := [], alts := [], laidByText := true, laidKinds := [.data, .data, .data], laidTests := true, laidLooks := .later }
def TermBoundsCardSaid : Prop := Claim7.holds Tryd.pinned (.plain (OpenSpec.ofChange termBoundsSpec)) termBoundsCard

/-- THE TIED CARD OF 'thyrsuslaw4.TermSubsts'. -/
def termSubstsCard : Claim7 := { stood := { row := termSubstsRow, standIns := [], harness := (true, "ee9a4c92cc16e3fc3f01de9c174a3474ad1fc0e751a2c5564f542a1e6f29a35c"), looks := false }, kinds := [], alts := [], laidByText := true, laidKinds := [.data, .data, .data], laidTests := true, laidLooks := .later }
def TermSubstsCardSaid : Prop := Claim7.holds Tryd.pinned (.plain (OpenSpec.ofChange termSubstsSpec)) termSubstsCard

/-- THE TIED CARD OF 'thyrsuslaw4.TermKnown'. -/
def termKnownCard : Claim7 := { stood := { row := termKnownRow, standIns := [], harness := (true, "ee9a4c92cc16e3fc3f01de9c174a3474ad1fc0e751a2c5564f542a1e6f29a35c"), looks := false }, kinds := [], alts := [], laidByText := true, laidKinds := [.data, .data, .data], laidTests := true, laidLooks := .later }
def TermKnownCardSaid : Prop := Claim7.holds Tryd.pinned (.plain (OpenSpec.ofChange termKnownSpec)) termKnownCard

/-- THE TIED CARD OF 'thyrsuslaw4.TermUnder'. -/
def termUnderCard : Claim7 := { stood := { row := termUnderRow, standIns := [], harness := (true, "ee9a4c92cc16e3fc3f01de9c174a3474ad1fc0e751a2c5564f542a1e6f29a35c"), looks := false }, kinds := [], alts := [], laidByText := true, laidKinds := [.data, .data, .data], laidTests := true, laidLooks := .later }
def TermUnderCardSaid : Prop := Claim7.holds Tryd.pinned (.plain (OpenSpec.ofChange termUnderSpec)) termUnderCard

/-- THE TIED CARD OF 'thyrsuslaw4.TermChecks'. -/
def termChecksCard : Claim7 := { stood := { row := termChecksRow, standIns := [], harness := (true, "ee9a4c92cc16e3fc3f01de9c174a3474ad1fc0e751a2c5564f542a1e6f29a35c"), looks := false }, kinds := [], alts := [], laidByText := true, laidKinds := [.data, .data, .data], laidTests := true, laidLooks := .later }
def TermChecksCardSaid : Prop := Claim7.holds Tryd.pinned (.plain (OpenSpec.ofChange termChecksSpec)) termChecksCard

/-- THE TIED CARD OF 'thyrsuslaw4.TermSizes'. -/
def termSizesCard : Claim7 := { stood := { row := termSizesRow, standIns := [], harness := (true, "ee9a4c92cc16e3fc3f01de9c174a3474ad1fc0e751a2c5564f542a1e6f29a35c"), looks := false }, kinds := [], alts := [], laidByText := true, laidKinds := [.data, .data, .data], laidTests := true, laidLooks := .later }
def TermSizesCardSaid : Prop := Claim7.holds Tryd.pinned (.plain (OpenSpec.ofChange termSizesSpec)) termSizesCard

/-- THE TIED CARD OF 'thyrsuslaw4.TermShifts'. -/
def termShiftsCard : Claim7 := { stood := { row := termShiftsRow, standIns := [], harness := (true, "ee9a4c92cc16e3fc3f01de9c174a3474ad1fc0e751a2c5564f542a1e6f29a35c"), looks := false }, kinds := [], alts := [], laidByText := true, laidKinds := [.data, .data, .data], laidTests := true, laidLooks := .later }
def TermShiftsCardSaid : Prop := Claim7.holds Tryd.pinned (.plain (OpenSpec.ofChange termShiftsSpec)) termShiftsCard

/-- THE TIED CARD OF 'thyrsuslaw4.TermFree'. -/
def termFreeCard : Claim7 := { stood := { row := termFreeRow, standIns := [], harness := (true, "ee9a4c92cc16e3fc3f01de9c174a3474ad1fc0e751a2c5564f542a1e6f29a35c"), looks := false }, kinds := [], alts := [], laidByText := true, laidKinds := [.data, .data, .data], laidTests := true, laidLooks := .later }
def TermFreeCardSaid : Prop := Claim7.holds Tryd.pinned (.plain (OpenSpec.ofChange termFreeSpec)) termFreeCard

/-- THE TIED CARD OF 'thyrsuslaw4.TermClosed'. -/
def termClosedCard : Claim7 := { stood := { row := termClosedRow, standIns := [], harness := (true, "ee9a4c92cc16e3fc3f01de9c174a3474ad1fc0e751a2c5564f542a1e6f29a35c"), looks := false }, kinds := [], alts := [], laidByText := true, laidKinds := [.data, .data, .data], laidTests := true, laidLooks := .later }
def TermClosedCardSaid : Prop := Claim7.holds Tryd.pinned (.plain (OpenSpec.ofChange termClosedSpec)) termClosedCard

/-- THE TIED CARD OF 'thyrsuslaw4.TermMoves'. -/
def termMovesCard : Claim7 := { stood := { row := termMovesRow, standIns := [], harness := (true, "ee9a4c92cc16e3fc3f01de9c174a3474ad1fc0e751a2c5564f542a1e6f29a35c"), looks := false }, kinds := [], alts := [], laidByText := true, laidKinds := [.data, .data, .data], laidTests := true, laidLooks := .later }
def TermMovesCardSaid : Prop := Claim7.holds Tryd.pinned (.plain (OpenSpec.ofChange termMovesSpec)) termMovesCard

/-- THE SECOND FORM's CARD OF 'thyrsuslaw4.TermTexts'. -/
def termTextsUptoCard : Claim7 := { stood := { row := termTextsUptoRow, standIns := [], harness := (true, "ee9a4c92cc16e3fc3f01de9c174a3474ad1fc0e751a2c5564f542a1e6f29a35c"), looks := false }, kinds := [], alts := [], laidByText := true, laidKinds := [.data, .data, .data], laidTests := true, laidLooks := .later }
def TermTextsUptoCardSaid : Prop := Claim7.holds Tryd.pinned (.plain (OpenSpec.upto termTextsSpec)) termTextsUptoCard

/-- THE SECOND FORM's CARD OF 'thyrsuslaw4.TermBounds'. -/
def termBoundsUptoCard : Claim7 := { stood := { row := termBoundsUptoRow, standIns := [], harness := (true, "ee9a4c92cc16e3fc3f01de9c174a3474ad1fc0e751a2c5564f542a1e6f29a35c"), looks := false }, kinds := [], alts := [], laidByText := true, laidKinds := [.data, .data, .data], laidTests := true, laidLooks := .later }
def TermBoundsUptoCardSaid : Prop := Claim7.holds Tryd.pinned (.plain (OpenSpec.upto termBoundsSpec)) termBoundsUptoCard

/-- THE SECOND FORM's CARD OF 'thyrsuslaw4.TermSubsts'. -/
def termSubstsUptoCard : Claim7 := { stood := { row := termSubstsUptoRow, standIns := [], harness := (true, "ee9a4c92cc16e3fc3f01de9c174a3474ad1fc0e751a2c5564f542a1e6f29a35c"), looks := false }, kinds := [], alts := [], laidByText := true, laidKinds := [.data, .data, .data], laidTests := true, laidLooks := .later }
def TermSubstsUptoCardSaid : Prop := Claim7.holds Tryd.pinned (.plain (OpenSpec.upto termSubstsSpec)) termSubstsUptoCard

/-- THE SECOND FORM's CARD OF 'thyrsuslaw4.TermKnown'. -/
def termKnownUptoCard : Claim7 := { stood := { row := termKnownUptoRow, standIns := [], harness := (true, "ee9a4c92cc16e3fc3f01de9c174a3474ad1fc0e751a2c5564f542a1e6f29a35c"), looks := false }, kinds := [], alts := [], laidByText := true, laidKinds := [.data, .data, .data], laidTests := true, laidLooks := .later }
def TermKnownUptoCardSaid : Prop := Claim7.holds Tryd.pinned (.plain (OpenSpec.upto termKnownSpec)) termKnownUptoCard

/-- THE SECOND FORM's CARD OF 'thyrsuslaw4.TermUnder'. -/
def termUnderUptoCard : Claim7 := { stood := { row := termUnderUptoRow, standIns := [], harness := (true, "ee9a4c92cc16e3fc3f01de9c174a3474ad1fc0e751a2c5564f542a1e6f29a35c"), looks := false }, kinds := [], alts := [], laidByText := true, laidKinds := [.data, .data, .data], laidTests := true, laidLooks := .later }
def TermUnderUptoCardSaid : Prop := Claim7.holds Tryd.pinned (.plain (OpenSpec.upto termUnderSpec)) termUnderUptoCard

/-- THE SECOND FORM's CARD OF 'thyrsuslaw4.TermChecks'. -/
def termChecksUptoCard : Claim7 := { stood := { row := termChecksUptoRow, standIns := [], harness := (true, "ee9a4c92cc16e3fc3f01de9c174a3474ad1fc0e751a2c5564f542a1e6f29a35c"), looks := false }, kinds := [], alts := [], laidByText := true, laidKinds := [.data, .data, .data], laidTests := true, laidLooks := .later }
def TermChecksUptoCardSaid : Prop := Claim7.holds Tryd.pinned (.plain (OpenSpec.upto termChecksSpec)) termChecksUptoCard

/-- THE SECOND FORM's CARD OF 'thyrsuslaw4.TermSizes'. -/
def termSizesUptoCard : Claim7 := { stood := { row := termSizesUptoRow, standIns := [], harness := (true, "ee9a4c92cc16e3fc3f01de9c174a3474ad1fc0e751a2c5564f542a1e6f29a35c"), looks := false }, kinds := [], alts := [], laidByText := true, laidKinds := [.data, .data, .data], laidTests := true, laidLooks := .later }
def TermSizesUptoCardSaid : Prop := Claim7.holds Tryd.pinned (.plain (OpenSpec.upto termSizesSpec)) termSizesUptoCard

/-- THE SECOND FORM's CARD OF 'thyrsuslaw4.TermShifts'. -/
def termShiftsUptoCard : Claim7 := { stood := { row := termShiftsUptoRow, standIns := [], harness := (true, "ee9a4c92cc16e3fc3f01de9c174a3474ad1fc0e751a2c5564f542a1e6f29a35c"), looks := false }, kinds := [], alts := [], laidByText := true, laidKinds := [.data, .data, .data], laidTests := true, laidLooks := .later }
def TermShiftsUptoCardSaid : Prop := Claim7.holds Tryd.pinned (.plain (OpenSpec.upto termShiftsSpec)) termShiftsUptoCard

/-- THE SECOND FORM's CARD OF 'thyrsuslaw4.TermFree'. -/
def termFreeUptoCard : Claim7 := { stood := { row := termFreeUptoRow, standIns := [], harness := (true, "ee9a4c92cc16e3fc3f01de9c174a3474ad1fc0e751a2c5564f542a1e6f29a35c"), looks := false }, kinds := [], alts := [], laidByText := true, laidKinds := [.data, .data, .data], laidTests := true, laidLooks := .later }
def TermFreeUptoCardSaid : Prop := Claim7.holds Tryd.pinned (.plain (OpenSpec.upto termFreeSpec)) termFreeUptoCard

/-- THE SECOND FORM's CARD OF 'thyrsuslaw4.TermClosed'. -/
def termClosedUptoCard : Claim7 := { stood := { row := termClosedUptoRow, standIns := [], harness := (true, "ee9a4c92cc16e3fc3f01de9c174a3474ad1fc0e751a2c5564f542a1e6f29a35c"), looks := false }, kinds := [], alts := [], laidByText := true, laidKinds := [.data, .data, .data], laidTests := true, laidLooks := .later }
def TermClosedUptoCardSaid : Prop := Claim7.holds Tryd.pinned (.plain (OpenSpec.upto termClosedSpec)) termClosedUptoCard

/-- THE SECOND FORM's CARD OF 'thyrsuslaw4.TermMoves'. -/
def termMovesUptoCard : Claim7 := { stood := { row := termMovesUptoRow, standIns := [], harness := (true, "ee9a4c92cc16e3fc3f01de9c174a3474ad1fc0e751a2c5564f542a1e6f29a35c"), looks := false }, kinds := [], alts := [], laidByText := true, laidKinds := [.data, .data, .data], laidTests := true, laidLooks := .later }
def TermMovesUptoCardSaid : Prop := Claim7.holds Tryd.pinned (.plain (OpenSpec.upto termMovesSpec)) termMovesUptoCard
end Rows
end Go.Proofs.YtcchfblekaaalaaDoor
