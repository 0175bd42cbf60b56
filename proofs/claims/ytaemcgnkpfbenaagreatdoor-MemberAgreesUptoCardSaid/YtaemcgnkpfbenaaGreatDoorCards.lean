/-
  DERIVED. GIVEN WITH THE SEED: THE CARDS: each row of YtaemcgnkpfbenaaGreatDoorRows.lean that lists a variable, with what it lists TIED to the program's text (the seventh form; the later family's looks); each row that meets fmt, with fmt's text TOLD by the authors' own Lean function (tested against real Go, not proved from fmt's source: count such statements apart). THE CARD IS WHAT COUNTS. Prove the row's statement (the work); the ties are given (YtaemcgnkpfbenaaGreatDoorTie.lean); close each card by the builder's one call (the guide's Derived/Test/ToyasCard.lean, 'card_holds'). Laid BY PROGRAM, IN A SANDBOX (cutbox-door.mjs). By AI agents, Wed Nov 11 2026. No macro, syntax, notation, axiom, sorry.
-/
import Derived.Test.YtaemcgnkpfbenaaGreatDoorRows
import GoSem.ClaimSeven
namespace Go.Proofs.YtaemcgnkpfbenaaGreatDoor
namespace Rows

/-- THE TIED CARD OF 'hallmarklaw10.MemberAgrees'. -/
def memberAgreesCard : Claim7 := { stood := { row := memberAgreesRow, standIns := [], harness := (true, "8c5fa8f79e85d660cc825a93a952617e6e59b7ee01de96001c43db7b44da15d1"), looks := true }, kinds := [], alts := [], laidByText := true, laidKinds := [.data, .data, .data, .data, .handle, .pinned], laidTests := true, laidLooks := .later }
def MemberAgreesCardSaid : Prop := Claim7.holds Tryz.pinned (.plain (OpenSpec.ofChange memberAgreesSpec)) memberAgreesCard

/-- THE TIED CARD OF 'hallmarklaw10.MemberParts'. -/
def memberPartsCard : Claim7 := { stood := { row := memberPartsRow, standIns := [], harness := (true, "8c5fa8f79e85d660cc825a93a952617e6e59b7ee01de96001c43db7b44da15d1"), looks := true }, kinds := [], alts := [], laidByText := true, laidKinds := [.data, .data, .data, .data, .handle, .pinned], laidTests := true, laidLooks := .later }
def MemberPartsCardSaid : Prop := Claim7.holds Tryz.pinned (.plain (OpenSpec.ofChange memberPartsSpec)) memberPartsCard

/-- THE TIED CARD OF 'hallmarklaw10.MemberAlternatives'. -/
def memberAlternativesCard : Claim7 := { stood := { row := memberAlternativesRow, standIns := [], harness := (true, "8c5fa8f79e85d660cc825a93a952617e6e59b7ee01de96001c43db7b44da15d1"), looks := true }, kinds := [], alts := [], laidByText := true, laidKinds := [.data, .data, .data, .data, .handle, .pinned], laidTests := true, laidLooks := .later }
def MemberAlternativesCardSaid : Prop := Claim7.holds Tryz.pinned (.plain (OpenSpec.ofChange memberAlternativesSpec)) memberAlternativesCard

/-- THE SECOND FORM's CARD OF 'hallmarklaw10.MemberAgrees'. -/
def memberAgreesUptoCard : Claim7 := { stood := { row := memberAgreesUptoRow, standIns := [], harness := (true, "8c5fa8f79e85d660cc825a93a952617e6e59b7ee01de96001c43db7b44da15d1"), looks := true }, kinds := [], alts := [], laidByText := true, laidKinds := [.data, .data, .data, .data, .handle, .pinned], laidTests := true, laidLooks := .later }
def MemberAgreesUptoCardSaid : Prop := Claim7.holds Tryz.pinned (.plain (OpenSpec.upto memberAgreesSpec)) memberAgreesUptoCard

/-- THE SECOND FORM's CARD OF 'hallmarklaw10.MemberParts'. -/
def memberPartsUptoCard : Claim7 := { stood := { row := memberPartsUptoRow, standIns := [], harness := (true, "8c5fa8f79e85d660cc825a93a952617e6e59b7ee01de96001c43db7b44da15d1"), looks := true }, kinds := [], alts := [], laidByText := true, laidKinds := [.data, .data, .data, .data, .handle, .pinned], laidTests := true, laidLooks := .later }
def MemberPartsUptoCardSaid : Prop := Claim7.holds Tryz.pinned (.plain (OpenSpec.upto memberPartsSpec)) memberPartsUptoCard

/-- THE SECOND FORM's CARD OF 'hallmarklaw10.MemberAlternatives'. -/
def memberAlternativesUptoCard : Claim7 := { stood := { row := memberAlternativesUptoRow, standIns := [], harness := (true, "8c5fa8f79e85d660cc825a93a952617e6e59b7ee01de96001c43db7b44da15d1"), looks := true }, kinds := [], alts := [], laidByText := true, laidKinds := [.data, .data, .data, .data, .handle, .pinned], laidTests := true, laidLooks := .later }
def MemberAlternativesUptoCardSaid : Prop := Claim7.holds Tryz.pinned (.plain (OpenSpec.upto memberAlternativesSpec)) memberAlternativesUptoCard
end Rows
end Go.Proofs.YtaemcgnkpfbenaaGreatDoor
