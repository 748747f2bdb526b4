/-
  DERIVED. GIVEN WITH THE SEED: THE CARDS: each row of YtjdlepjgniokdaaGreatDoorRows.lean that lists a variable, with what it lists TIED to the program's text (the seventh form; the later family's looks); each row that meets fmt, with fmt's text TOLD by the authors' own Lean function (tested against real Go, not proved from fmt's source: count such statements apart). THE CARD IS WHAT COUNTS. Prove the row's statement (the work); the ties are given (YtjdlepjgniokdaaGreatDoorTie.lean); close each card by the builder's one call (the guide's Derived/Test/ToyasCard.lean, 'card_holds'). Laid BY PROGRAM, IN A SANDBOX (cutbox-door.mjs). By AI agents, Wed Nov 11 2026. No macro, syntax, notation, axiom, sorry.
-/
import Derived.Test.YtjdlepjgniokdaaGreatDoorRows
import GoSem.ClaimSeven
namespace Go.Proofs.YtjdlepjgniokdaaGreatDoor
namespace Rows

/-- THE TIED CARD OF 'laws.FnValueValid'. -/
def fnValueValidCard : Claim7 := { stood := { row := fnValueValidRow, standIns := [], harness := (true, "678698af3ecc5ded95ab2732a17cab72690877099205eb67d867baceefe2eedd"), looks := true }, kinds := [], alts := [], laidByText := true, laidKinds := [.data, .data, .data, .data, .sentinel, .sentinel, .pinned], laidTests := true, laidLooks := .later }
def FnValueValidCardSaid : Prop := Claim7.holds Tryz.pinned (.plain (OpenSpec.ofChange fnValueValidSpec)) fnValueValidCard

/-- THE TIED CARD OF 'laws.FnBindingsValid'. -/
def fnBindingsValidCard : Claim7 := { stood := { row := fnBindingsValidRow, standIns := [], harness := (true, "678698af3ecc5ded95ab2732a17cab72690877099205eb67d867baceefe2eedd"), looks := true }, kinds := [], alts := [], laidByText := true, laidKinds := [.data, .data, .data, .data, .sentinel, .sentinel, .pinned], laidTests := true, laidLooks := .later }
def FnBindingsValidCardSaid : Prop := Claim7.holds Tryz.pinned (.plain (OpenSpec.ofChange fnBindingsValidSpec)) fnBindingsValidCard

/-- THE TIED CARD OF 'laws.FnExprParts'. -/
def fnExprPartsCard : Claim7 := { stood := { row := fnExprPartsRow, standIns := [], harness := (true, "678698af3ecc5ded95ab2732a17cab72690877099205eb67d867baceefe2eedd"), looks := true }, kinds := [], alts := [], laidByText := true, laidKinds := [.data, .data, .data, .data, .sentinel, .sentinel, .pinned], laidTests := true, laidLooks := .later }
def FnExprPartsCardSaid : Prop := Claim7.holds Tryz.pinned (.plain (OpenSpec.ofChange fnExprPartsSpec)) fnExprPartsCard

/-- THE TIED CARD OF 'laws.FnExactBindingsValid'. -/
def fnExactBindingsValidCard : Claim7 := { stood := { row := fnExactBindingsValidRow, standIns := [], harness := (true, "678698af3ecc5ded95ab2732a17cab72690877099205eb67d867baceefe2eedd"), looks := true }, kinds := [], alts := [], laidByText := true, laidKinds := [.data, .data, .data, .data, .sentinel, .sentinel, .pinned], laidTests := true, laidLooks := .later }
def FnExactBindingsValidCardSaid : Prop := Claim7.holds Tryz.pinned (.plain (OpenSpec.ofChange fnExactBindingsValidSpec)) fnExactBindingsValidCard

/-- THE TIED CARD OF 'laws.FnValueParts'. -/
def fnValuePartsCard : Claim7 := { stood := { row := fnValuePartsRow, standIns := [], harness := (true, "678698af3ecc5ded95ab2732a17cab72690877099205eb67d867baceefe2eedd"), looks := true }, kinds := [], alts := [], laidByText := true, laidKinds := [.data, .data, .data, .data, .sentinel, .sentinel, .pinned], laidTests := true, laidLooks := .later }
def FnValuePartsCardSaid : Prop := Claim7.holds Tryz.pinned (.plain (OpenSpec.ofChange fnValuePartsSpec)) fnValuePartsCard

/-- THE TIED CARD OF 'laws.FnExactValueParts'. -/
def fnExactValuePartsCard : Claim7 := { stood := { row := fnExactValuePartsRow, standIns := [], harness := (true, "678698af3ecc5ded95ab2732a17cab72690877099205eb67d867baceefe2eedd"), looks := true }, kinds := [], alts := [], laidByText := true, laidKinds := [.data, .data, .data, .data, .sentinel, .sentinel, .pinned], laidTests := true, laidLooks := .later }
def FnExactValuePartsCardSaid : Prop := Claim7.holds Tryz.pinned (.plain (OpenSpec.ofChange fnExactValuePartsSpec)) fnExactValuePartsCard

/-- THE TIED CARD OF 'laws.FnListValue'. -/
def fnListValueCard : Claim7 := { stood := { row := fnListValueRow, standIns := [], harness := (true, "678698af3ecc5ded95ab2732a17cab72690877099205eb67d867baceefe2eedd"), looks := true }, kinds := [], alts := [], laidByText := true, laidKinds := [.data, .data, .data, .data, .sentinel, .sentinel, .pinned], laidTests := true, laidLooks := .later }
def FnListValueCardSaid : Prop := Claim7.holds Tryz.pinned (.plain (OpenSpec.ofChange fnListValueSpec)) fnListValueCard

/-- THE TIED CARD OF 'laws.FnItemValid'. -/
def fnItemValidCard : Claim7 := { stood := { row := fnItemValidRow, standIns := [], harness := (true, "678698af3ecc5ded95ab2732a17cab72690877099205eb67d867baceefe2eedd"), looks := true }, kinds := [], alts := [], laidByText := true, laidKinds := [.data, .data, .data, .data, .sentinel, .sentinel, .pinned], laidTests := true, laidLooks := .later }
def FnItemValidCardSaid : Prop := Claim7.holds Tryz.pinned (.plain (OpenSpec.ofChange fnItemValidSpec)) fnItemValidCard

/-- THE TIED CARD OF 'laws.FnExactListValue'. -/
def fnExactListValueCard : Claim7 := { stood := { row := fnExactListValueRow, standIns := [], harness := (true, "678698af3ecc5ded95ab2732a17cab72690877099205eb67d867baceefe2eedd"), looks := true }, kinds := [], alts := [], laidByText := true, laidKinds := [.data, .data, .data, .data, .sentinel, .sentinel, .pinned], laidTests := true, laidLooks := .later }
def FnExactListValueCardSaid : Prop := Claim7.holds Tryz.pinned (.plain (OpenSpec.ofChange fnExactListValueSpec)) fnExactListValueCard

/-- THE TIED CARD OF 'laws.FnDocumentValid'. -/
def fnDocumentValidCard : Claim7 := { stood := { row := fnDocumentValidRow, standIns := [], harness := (true, "678698af3ecc5ded95ab2732a17cab72690877099205eb67d867baceefe2eedd"), looks := true }, kinds := [], alts := [], laidByText := true, laidKinds := [.data, .data, .data, .data, .sentinel, .sentinel, .pinned], laidTests := true, laidLooks := .later }
def FnDocumentValidCardSaid : Prop := Claim7.holds Tryz.pinned (.plain (OpenSpec.ofChange fnDocumentValidSpec)) fnDocumentValidCard

/-- THE TIED CARD OF 'laws.FnDepthsOf'. -/
def fnDepthsOfCard : Claim7 := { stood := { row := fnDepthsOfRow, standIns := [], harness := (true, "678698af3ecc5ded95ab2732a17cab72690877099205eb67d867baceefe2eedd"), looks := true }, kinds := [], alts := [], laidByText := true, laidKinds := [.data, .data, .data, .data, .sentinel, .sentinel, .pinned], laidTests := true, laidLooks := .later }
def FnDepthsOfCardSaid : Prop := Claim7.holds Tryz.pinned (.plain (OpenSpec.ofChange fnDepthsOfSpec)) fnDepthsOfCard

/-- THE SECOND FORM's CARD OF 'laws.FnValueValid'. -/
def fnValueValidUptoCard : Claim7 := { stood := { row := fnValueValidUptoRow, standIns := [], harness := (true, "678698af3ecc5ded95ab2732a17cab72690877099205eb67d867baceefe2eedd"), looks := true }, kinds := [], alts := [], laidByText := true, laidKinds := [.data, .data, .data, .data, .sentinel, .sentinel, .pinned], laidTests := true, laidLooks := .later }
def FnValueValidUptoCardSaid : Prop := Claim7.holds Tryz.pinned (.plain (OpenSpec.upto fnValueValidSpec)) fnValueValidUptoCard

/-- THE SECOND FORM's CARD OF 'laws.FnBindingsValid'. -/
def fnBindingsValidUptoCard : Claim7 := { stood := { row := fnBindingsValidUptoRow, standIns := [], harness := (true, "678698af3ecc5ded95ab2732a17cab72690877099205eb67d867baceefe2eedd"), looks := true }, kinds := [], alts := [], laidByText := true, laidKinds := [.data, .data, .data, .data, .sentinel, .sentinel, .pinned], laidTests := true, laidLooks := .later }
def FnBindingsValidUptoCardSaid : Prop := Claim7.holds Tryz.pinned (.plain (OpenSpec.upto fnBindingsValidSpec)) fnBindingsValidUptoCard

/-- THE SECOND FORM's CARD OF 'laws.FnExprParts'. -/
def fnExprPartsUptoCard : Claim7 := { stood := { row := fnExprPartsUptoRow, standIns := [], harness := (true, "678698af3ecc5ded95ab2732a17cab72690877099205eb67d867baceefe2eedd"), looks := true }, kinds := [], alts := [], laidByText := true, laidKinds := [.data, .data, .data, .data, .sentinel, .sentinel, .pinned], laidTests := true, laidLooks := .later }
def FnExprPartsUptoCardSaid : Prop := Claim7.holds Tryz.pinned (.plain (OpenSpec.upto fnExprPartsSpec)) fnExprPartsUptoCard

/-- THE SECOND FORM's CARD OF 'laws.FnExactBindingsValid'. -/
def fnExactBindingsValidUptoCard : Claim7 := { stood := { row := fnExactBindingsValidUptoRow, standIns := [], harness := (true, "678698af3ecc5ded95ab2732a17cab72690877099205eb67d867baceefe2eedd"), looks := true }, kinds := [], alts := [], laidByText := true, laidKinds := [.data, .data, .data, .data, .sentinel, .sentinel, .pinned], laidTests := true, laidLooks := .later }
def FnExactBindingsValidUptoCardSaid : Prop := Claim7.holds Tryz.pinned (.plain (OpenSpec.upto fnExactBindingsValidSpec)) fnExactBindingsValidUptoCard

/-- THE SECOND FORM's CARD OF 'laws.FnValueParts'. -/
def fnValuePartsUptoCard : Claim7 := { stood := { row := fnValuePartsUptoRow, standIns := [], harness := (true, "678698af3ecc5ded95ab2732a17cab72690877099205eb67d867baceefe2eedd"), looks := true }, kinds := [], alts := [], laidByText := true, laidKinds := [.data, .data, .data, .data, .sentinel, .sentinel, .pinned], laidTests := true, laidLooks := .later }
def FnValuePartsUptoCardSaid : Prop := Claim7.holds Tryz.pinned (.plain (OpenSpec.upto fnValuePartsSpec)) fnValuePartsUptoCard

/-- THE SECOND FORM's CARD OF 'laws.FnExactValueParts'. -/
def fnExactValuePartsUptoCard : Claim7 := { stood := { row := fnExactValuePartsUptoRow, standIns := [], harness := (true, "678698af3ecc5ded95ab2732a17cab72690877099205eb67d867baceefe2eedd"), looks := true }, kinds := [], alts := [], laidByText := true, laidKinds := [.data, .data, .data, .data, .sentinel, .sentinel, .pinned], laidTests := true, laidLooks := .later }
def FnExactValuePartsUptoCardSaid : Prop := Claim7.holds Tryz.pinned (.plain (OpenSpec.upto fnExactValuePartsSpec)) fnExactValuePartsUptoCard

/-- THE SECOND FORM's CARD OF 'laws.FnListValue'. -/
def fnListValueUptoCard : Claim7 := { stood := { row := fnListValueUptoRow, standIns := [], harness := (true, "678698af3ecc5ded95ab2732a17cab72690877099205eb67d867baceefe2eedd"), looks := true }, kinds := [], alts := [], laidByText := true, laidKinds := [.data, .data, .data, .data, .sentinel, .sentinel, .pinned], laidTests := true, laidLooks := .later }
def FnListValueUptoCardSaid : Prop := Claim7.holds Tryz.pinned (.plain (OpenSpec.upto fnListValueSpec)) fnListValueUptoCard

/-- THE SECOND FORM's CARD OF 'laws.FnItemValid'. -/
def fnItemValidUptoCard : Claim7 := { stood := { row := fnItemValidUptoRow, standIns := [], harness := (true, "678698af3ecc5ded95ab2732a17cab72690877099205eb67d867baceefe2eedd"), looks := true }, kinds := [], alts := [], laidByText := true, laidKinds := [.data, .data, .data, .data, .sentinel, .sentinel, .pinned], laidTests := true, laidLooks := .later }
def FnItemValidUptoCardSaid : Prop := Claim7.holds Tryz.pinned (.plain (OpenSpec.upto fnItemValidSpec)) fnItemValidUptoCard

/-- THE SECOND FORM's CARD OF 'laws.FnExactListValue'. -/
def fnExactListValueUptoCard : Claim7 := { stood := { row := fnExactListValueUptoRow, standIns := [], harness := (true, "678698af3ecc5ded95ab2732a17cab72690877099205eb67d867baceefe2eedd"), looks := true }, kinds := [], alts := [], laidByText := true, laidKinds := [.data, .data, .data, .data, .sentinel, .sentinel, .pinned], laidTests := true, laidLooks := .later }
def FnExactListValueUptoCardSaid : Prop := Claim7.holds Tryz.pinned (.plain (OpenSpec.upto fnExactListValueSpec)) fnExactListValueUptoCard

/-- THE SECOND FORM's CARD OF 'laws.FnDocumentValid'. -/
def fnDocumentValidUptoCard : Claim7 := { stood := { row := fnDocumentValidUptoRow, standIns := [], harness := (true, "678698af3ecc5ded95ab2732a17cab72690877099205eb67d867baceefe2eedd"), looks := true }, kinds := [], alts := [], laidByText := true, laidKinds := [.data, .data, .data, .data, .sentinel, .sentinel, .pinned], laidTests := true, laidLooks := .later }
def FnDocumentValidUptoCardSaid : Prop := Claim7.holds Tryz.pinned (.plain (OpenSpec.upto fnDocumentValidSpec)) fnDocumentValidUptoCard

/-- THE SECOND FORM's CARD OF 'laws.FnDepthsOf'. -/
def fnDepthsOfUptoCard : Claim7 := { stood := { row := fnDepthsOfUptoRow, standIns := [], harness := (true, "678698af3ecc5ded95ab2732a17cab72690877099205eb67d867baceefe2eedd"), looks := true }, kinds := [], alts := [], laidByText := true, laidKinds := [.data, .data, .data, .data, .sentinel, .sentinel, .pinned], laidTests := true, laidLooks := .later }
def FnDepthsOfUptoCardSaid : Prop := Claim7.holds Tryz.pinned (.plain (OpenSpec.upto fnDepthsOfSpec)) fnDepthsOfUptoCard
end Rows
end Go.Proofs.YtjdlepjgniokdaaGreatDoor
