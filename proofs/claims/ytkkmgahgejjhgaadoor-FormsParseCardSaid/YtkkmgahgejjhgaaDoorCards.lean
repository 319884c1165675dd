/-
  DERIVED. GIVEN WITH THE SEED: THE CARDS: each row of YtkkmgahgejjhgaaDoorRows.lean that lists a variable, with what it lists TIED to the program's text (the seventh form; the later family's looks); each row that meets fmt, with fmt's text TOLD by the authors' own Lean function (tested against real Go, not proved from fmt's source: count such statements apart). THE CARD IS WHAT COUNTS. Prove the row's statement (the work); the ties are given (YtkkmgahgejjhgaaDoorTie.lean); close each card by the builder's one call (the guide's Derived/Test/ToyasCard.lean, 'card_holds'). Laid BY PROGRAM, IN A SANDBOX (cutbox-door.mjs). By AI agents, Wed Nov 11 2026. No macro, syntax, notation, axiom, sorry.
-/
import Derived.Test.YtkkmgahgejjhgaaDoorRows
import GoSem.ClaimSeven
namespace Go.Proofs.YtkkmgahgejjhgaaDoor
namespace Rows

/-- THE TIED CARD OF 'thyrsuslaw3.FormsParse'. -/
def formsParseCard : Claim7 := { stood := { row := formsParseRow, standIns := [], harness := (true, "04dc40dcd105db85eae3a4a05800c729e40770a45523d0e7556dd346a35da5ac"), looks := false }, kinds := [], alts := [], laidByText := true, laidKinds := [.data, .data, .data], laidTests := true, laidLooks := .later }
def FormsParseCardSaid : Prop := Claim7.holds Tryd.pinned (.plain (OpenSpec.ofChange formsParseSpec)) formsParseCard

/-- THE TIED CARD OF 'thyrsuslaw3.FormsMany'. -/
def formsManyCard : Claim7 := { stood := { row := formsManyRow, standIns := [], harness := (true, "04dc40dcd105db85eae3a4a05800c729e40770a45523d0e7556dd346a35da5ac"), looks := false }, kinds := [], alts := [], laidByText := true, laidKinds := [.data, .data, .data], laidTests := true, laidLooks := .later }
def FormsManyCardSaid : Prop := Claim7.holds Tryd.pinned (.plain (OpenSpec.ofChange formsManySpec)) formsManyCard

/-- THE TIED CARD OF 'thyrsuslaw3.FormsKnown'. -/
def formsKnownCard : Claim7 := { stood := { row := formsKnownRow, standIns := [], harness := (true, "04dc40dcd105db85eae3a4a05800c729e40770a45523d0e7556dd346a35da5ac"), looks := false }, kinds := [], alts := [], laidByText := true, laidKinds := [.data, .data, .data], laidTests := true, laidLooks := .later }
def FormsKnownCardSaid : Prop := Claim7.holds Tryd.pinned (.plain (OpenSpec.ofChange formsKnownSpec)) formsKnownCard

/-- THE TIED CARD OF 'thyrsuslaw3.FormsTexts'. -/
def formsTextsCard : Claim7 := { stood := { row := formsTextsRow, standIns := [], harness := (true, "04dc40dcd105db85eae3a4a05800c729e40770a45523d0e7556dd346a35da5ac"), looks := false }, kinds := [], alts := [], laidByText := true, laidKinds := [.data, .data, .data], laidTests := true, laidLooks := .later }
def FormsTextsCardSaid : Prop := Claim7.holds Tryd.pinned (.plain (OpenSpec.ofChange formsTextsSpec)) formsTextsCard

/-- THE TIED CARD OF 'thyrsuslaw3.FormsBack'. -/
def formsBackCard : Claim7 := { stood := { row := formsBackRow, standIns := [], harness := (true, "04dc40dcd105db85eae3a4a05800c729e40770a45523d0e7556dd346a35da5ac"), looks := false }, kinds := [], alts := [], laidByText := true, laidKinds := [.data, .data, .data], laidTests := true, laidLooks := .later }
def FormsBackCardSaid : Prop := Claim7.holds Tryd.pinned (.plain (OpenSpec.ofChange formsBackSpec)) formsBackCard

/-- THE TIED CARD OF 'thyrsuslaw3.FormsDeep'. -/
def formsDeepCard : Claim7 := { stood := { row := formsDeepRow, standIns := [], harness := (true, "04dc40dcd105db85eae3a4a05800c729e40770a45523d0e7556dd346a35da5ac"), looks := false }, kinds := [], alts := [], laidByText := true, laidKinds := [.data, .data, .data], laidTests := true, laidLooks := .later }
def FormsDeepCardSaid : Prop := Claim7.holds Tryd.pinned (.plain (OpenSpec.ofChange formsDeepSpec)) formsDeepCard

/-- THE TIED CARD OF 'thyrsuslaw3.FormsBounds'. -/
def formsBoundsCard : Claim7 := { stood := { row := formsBoundsRow, standIns := [], harness := (true, "04dc40dcd105db85eae3a4a05800c729e40770a45523d0e7556dd346a35da5ac"), looks := false }, kinds := [], alts := [], laidByText := true, laidKinds := [.data, .data, .data], laidTests := true, laidLooks := .later }
def FormsBoundsCardSaid : Prop := Claim7.holds Tryd.pinned (.plain (OpenSpec.ofChange formsBoundsSpec)) formsBoundsCard

/-- THE SECOND FORM's CARD OF 'thyrsuslaw3.FormsParse'. -/
def formsParseUptoCard : Claim7 := { stood := { row := formsParseUptoRow, standIns := [], harness := (true, "04dc40dcd105db85eae3a4a05800c729e40770a45523d0e7556dd346a35da5ac"), looks := false }, kinds := [], alts := [], laidByText := true, laidKinds := [.data, .data, .data], laidTests := true, laidLooks := .later }
def FormsParseUptoCardSaid : Prop := Claim7.holds Tryd.pinned (.plain (OpenSpec.upto formsParseSpec)) formsParseUptoCard

/-- THE SECOND FORM's CARD OF 'thyrsuslaw3.FormsMany'. -/
def formsManyUptoCard : Claim7 := { stood := { row := formsManyUptoRow, standIns := [], harness := (true, "04dc40dcd105db85eae3a4a05800c729e40770a45523d0e7556dd346a35da5ac"), looks := false }, kinds := [], alts := [], laidByText := true, laidKinds := [.data, .data, .data], laidTests := true, laidLooks := .later }
def FormsManyUptoCardSaid : Prop := Claim7.holds Tryd.pinned (.plain (OpenSpec.upto formsManySpec)) formsManyUptoCard

/-- THE SECOND FORM's CARD OF 'thyrsuslaw3.FormsKnown'. -/
def formsKnownUptoCard : Claim7 := { stood := { row := formsKnownUptoRow, standIns := [], harness := (true, "04dc40dcd105db85eae3a4a05800c729e40770a45523d0e7556dd346a35da5ac"), looks := false }, kinds := [], alts := [], laidByText := true, laidKinds := [.data, .data, .data], laidTests := true, laidLooks := .later }
def FormsKnownUptoCardSaid : Prop := Claim7.holds Tryd.pinned (.plain (OpenSpec.upto formsKnownSpec)) formsKnownUptoCard

/-- THE SECOND FORM's CARD OF 'thyrsuslaw3.FormsTexts'. -/
def formsTextsUptoCard : Claim7 := { stood := { row := formsTextsUptoRow, standIns := [], harness := (true, "04dc40dcd105db85eae3a4a05800c729e40770a45523d0e7556dd346a35da5ac"), looks := false }, kinds := [], alts := [], laidByText := true, laidKinds := [.data, .data, .data], laidTests := true, laidLooks := .later }
def FormsTextsUptoCardSaid : Prop := Claim7.holds Tryd.pinned (.plain (OpenSpec.upto formsTextsSpec)) formsTextsUptoCard

/-- THE SECOND FORM's CARD OF 'thyrsuslaw3.FormsBack'. -/
def formsBackUptoCard : Claim7 := { stood := { row := formsBackUptoRow, standIns := [], harness := (true, "04dc40dcd105db85eae3a4a05800c729e40770a45523d0e7556dd346a35da5ac"), looks := false }, kinds := [], alts := [], laidByText := true, laidKinds := [.data, .data, .data], laidTests := true, laidLooks := .later }
def FormsBackUptoCardSaid : Prop := Claim7.holds Tryd.pinned (.plain (OpenSpec.upto formsBackSpec)) formsBackUptoCard

/-- THE SECOND FORM's CARD OF 'thyrsuslaw3.FormsDeep'. -/
def formsDeepUptoCard : Claim7 := { stood := { row := formsDeepUptoRow, standIns := [], harness := (true, "04dc40dcd105db85eae3a4a05800c729e40770a45523d0e7556dd346a35da5ac"), looks := false }, kinds := [], alts := [], laidByText := true, laidKinds := [.data, .data, .data], laidTests := true, laidLooks := .later }
def FormsDeepUptoCardSaid : Prop := Claim7.holds Tryd.pinned (.plain (OpenSpec.upto formsDeepSpec)) formsDeepUptoCard

/-- THE SECOND FORM's CARD OF 'thyrsuslaw3.FormsBounds'. -/
def formsBoundsUptoCard : Claim7 := { stood := { row := formsBoundsUptoRow, standIns := [], harness := (true, "04dc40dcd105db85eae3a4a05800c729e40770a45523d0e7556dd346a35da5ac"), looks := false }, kinds := [], alts := [], laidByText := true, laidKinds := [.data, .data, .data], laidTests := true, laidLooks := .later }
def FormsBoundsUptoCardSaid : Prop := Claim7.holds Tryd.pinned (.plain (OpenSpec.upto formsBoundsSpec)) formsBoundsUptoCard
end Rows
end Go.Proofs.YtkkmgahgejjhgaaDoor
