/-
  DERIVED. GIVEN WITH THE SEED: THE CARDS: each row of YtmngjfheikdfpaaDoorRows.lean that lists a variable, with what it lists TIED to the program's text (the seventh form; the later family's looks); each row that meets fmt, with fmt's text TOLD by the authors' own Lean function (tested against real Go, not proved from fmt's source: count such statements apart). THE CARD IS WHAT COUNTS. Prove the row's statement (the work); the ties are given (YtmngjfheikdfpaaDoorTie.lean); close each card by the builder's one call (the guide's Derived/Test/ToyasCard.lean, 'card_holds'). Laid BY PROGRAM, IN A SANDBOX (cutbox-door.mjs). By AI agents, Wed Nov 11 2026. No macro, syntax, notation, axiom, sorry.
-/
import Derived.Test.YtmngjfheikdfpaaDoorRows
import GoSem.ClaimSeven
namespace Go.Proofs.YtmngjfheikdfpaaDoor
namespace Rows

/-- THE TIED CARD OF 'laws.FnExactValueValid'. -/
def fnExactValueValidCard : Claim7 := { stood := { row := fnExactValueValidRow, standIns := [], harness := (true, "bb318097c6aa78c3a676886f15928304bf0a70fc89efddfa08a74ea32d4454c1"), looks := true }, kinds := [], alts := [], laidByText := true, laidKinds := [.data, .data, .data, .data, .sentinel, .sentinel, .pinned], laidTests := true, laidLooks := .later }
def FnExactValueValidCardSaid : Prop := Claim7.holds Tryd.pinned (.plain (OpenSpec.ofChange fnExactValueValidSpec)) fnExactValueValidCard

/-- THE SECOND FORM's CARD OF 'laws.FnExactValueValid'. -/
def fnExactValueValidUptoCard : Claim7 := { stood := { row := fnExactValueValidUptoRow, standIns := [], harness := (true, "bb318097c6aa78c3a676886f15928304bf0a70fc89efddfa08a74ea32d4454c1"), looks := true }, kinds := [], alts := [], laidByText := true, laidKinds := [.data, .data, .data, .data, .sentinel, .sentinel, .pinned], laidTests := true, laidLooks := .later }
def FnExactValueValidUptoCardSaid : Prop := Claim7.holds Tryd.pinned (.plain (OpenSpec.upto fnExactValueValidSpec)) fnExactValueValidUptoCard
end Rows
end Go.Proofs.YtmngjfheikdfpaaDoor
