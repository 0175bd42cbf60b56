/-
  DERIVED. GIVEN WITH THE SEED: THE CARDS: each row of YtolnpaiimdohoaaDoorRows.lean that lists a variable, with what it lists TIED to the program's text (the seventh form; the later family's looks); each row that meets fmt, with fmt's text TOLD by the authors' own Lean function (tested against real Go, not proved from fmt's source: count such statements apart). THE CARD IS WHAT COUNTS. Prove the row's statement (the work); the ties are given (YtolnpaiimdohoaaDoorTie.lean); close each card by the builder's one call (the guide's Derived/Test/ToyasCard.lean, 'card_holds'). Laid BY PROGRAM, IN A SANDBOX (cutbox-door.mjs). By AI agents, Wed Nov 11 2026. No macro, syntax, notation, axiom, sorry.
-/
import Derived.Test.YtolnpaiimdohoaaDoorRows
import GoSem.ClaimSeven
namespace Go.Proofs.YtolnpaiimdohoaaDoor
namespace Rows

/-- THE TIED CARD OF 'hallmarklaw10.MemberKnown'. -/
def memberKnownCard : Claim7 := { stood := { row := memberKnownRow, standIns := [], harness := (true, "ce271de9d8568d08ee2f4adfed7c9fd66fd5cef92d296eb57a2325a58027f6a9"), looks := true }, kinds := [], alts := [], laidByText := true, laidKinds := [.data, .data, .data, .data, .handle, .pinned], laidTests := true, laidLooks := .later }
def MemberKnownCardSaid : Prop := Claim7.holds Tryd.pinned (.plain (OpenSpec.ofChange memberKnownSpec)) memberKnownCard

/-- THE SECOND FORM's CARD OF 'hallmarklaw10.MemberKnown'. -/
def memberKnownUptoCard : Claim7 := { stood := { row := memberKnownUptoRow, standIns := [], harness := (true, "ce271de9d8568d08ee2f4adfed7c9fd66fd5cef92d296eb57a2325a58027f6a9"), looks := true }, kinds := [], alts := [], laidByText := true, laidKinds := [.data, .data, .data, .data, .handle, .pinned], laidTests := true, laidLooks := .later }
def MemberKnownUptoCardSaid : Prop := Claim7.holds Tryd.pinned (.plain (OpenSpec.upto memberKnownSpec)) memberKnownUptoCard
end Rows
end Go.Proofs.YtolnpaiimdohoaaDoor
