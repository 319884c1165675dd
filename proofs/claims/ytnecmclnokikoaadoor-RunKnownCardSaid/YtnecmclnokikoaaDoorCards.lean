/-
  DERIVED. GIVEN WITH THE SEED: THE CARDS: each row of YtnecmclnokikoaaDoorRows.lean that lists a variable, with what it lists TIED to the program's text (the seventh form; the later family's looks); each row that meets fmt, with fmt's text TOLD by the authors' own Lean function (tested against real Go, not proved from fmt's source: count such statements apart). THE CARD IS WHAT COUNTS. Prove the row's statement (the work); the ties are given (YtnecmclnokikoaaDoorTie.lean); close each card by the builder's one call (the guide's Derived/Test/ToyasCard.lean, 'card_holds'). Laid BY PROGRAM, IN A SANDBOX (cutbox-door.mjs). By AI agents, Wed Nov 11 2026. No macro, syntax, notation, axiom, sorry.
-/
import Derived.Test.YtnecmclnokikoaaDoorRows
import GoSem.ClaimSeven
namespace Go.Proofs.YtnecmclnokikoaaDoor
namespace Rows

/-- THE TIED CARD OF 'thyrsuslaw12.RunAll'. -/
def runAllCard : Claim7 := { stood := { row := runAllRow, standIns := [], harness := (true, "ae52e4ea93bd9328a364cef5402adcc539d5803b768995acdf74b211cd1eba87"), looks := false }, kinds := [], alts := [], laidByText := true, laidKinds := [.data, .data, .data], laidTests := true, laidLooks := .later }
def RunAllCardSaid : Prop := Claim7.holds Tryd.pinned (.plain (OpenSpec.ofChange runAllSpec)) runAllCard

/-- THE TIED CARD OF 'thyrsuslaw12.RunTexts'. -/
def runTextsCard : Claim7 := { stood := { row := runTextsRow, standIns := [], harness := (true, "ae52e4ea93bd9328a364cef5402adcc539d5803b768995acdf74b211cd1eba87"), looks := false }, kinds := [], alts := [], laidByText := true, laidKinds := [.data, .data, .data], laidTests := true, laidLooks := .later }
def RunTextsCardSaid : Prop := Claim7.holds Tryd.pinned (.plain (OpenSpec.ofChange runTextsSpec)) runTextsCard

/-- THE TIED CARD OF 'thyrsuslaw12.RunKnown'. -/
def runKnownCard : Claim7 := { stood := { row := runKnownRow, standIns := [], harness := (true, "ae52e4ea93bd9328a364cef5402adcc539d5803b768995acdf74b211cd1eba87"), looks := false }, kinds := [], alts := [], laidByText := true, laidKinds := [.data, .data, .data], laidTests := true, laidLooks := .later }
def RunKnownCardSaid : Prop := Claim7.holds Tryd.pinned (.plain (OpenSpec.ofChange runKnownSpec)) runKnownCard

/-- THE SECOND FORM's CARD OF 'thyrsuslaw12.RunAll'. -/
def runAllUptoCard : Claim7 := { stood := { row := runAllUptoRow, standIns := [], harness := (true, "ae52e4ea93bd9328a364cef5402adcc539d5803b768995acdf74b211cd1eba87"), looks := false }, kinds := [], alts := [], laidByText := true, laidKinds := [.data, .data, .data], laidTests := true, laidLooks := .later }
def RunAllUptoCardSaid : Prop := Claim7.holds Tryd.pinned (.plain (OpenSpec.upto runAllSpec)) runAllUptoCard

/-- THE SECOND FORM's CARD OF 'thyrsuslaw12.RunTexts'. -/
def runTextsUptoCard : Claim7 := { stood := { row := runTextsUptoRow, standIns := [], harness := (true, "ae52e4ea93bd9328a364cef5402adcc539d5803b768995acdf74b211cd1eba87"), looks := false }, kinds := [], alts := [], laidByText := true, laidKinds := [.data, .data, .data], laidTests := true, laidLooks := .later }
def RunTextsUptoCardSaid : Prop := Claim7.holds Tryd.pinned (.plain (OpenSpec.upto runTextsSpec)) runTextsUptoCard

/-- THE SECOND FORM's CARD OF 'thyrsuslaw12.RunKnown'. -/
def runKnownUptoCard : Claim7 := { stood := { row := runKnownUptoRow, standIns := [], harness := (true, "ae52e4ea93bd9328a364cef5402adcc539d5803b768995acdf74b211cd1eba87"), looks := false }, kinds := [], alts := [], laidByText := true, laidKinds := [.data, .data, .data], laidTests := true, laidLooks := .later }
def RunKnownUptoCardSaid : Prop := Claim7.holds Tryd.pinned (.plain (OpenSpec.upto runKnownSpec)) runKnownUptoCard
end Rows
end Go.Proofs.YtnecmclnokikoaaDoor
