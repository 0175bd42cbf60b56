/-
  DERIVED. GIVEN WITH THE SEED: THE CARDS: each row of YtfbhbfganoanfaaDoorRows.lean that lists a variable, with what it lists TIED to the program's text (the seventh form; the later family's looks); each row that meets fmt, with fmt's text TOLD by the authors' own Lean function (tested against real Go, not proved from fmt's source: count such statements apart). THE CARD IS WHAT COUNTS. Prove the row's statement (the work); the ties are given (YtfbhbfganoanfaaDoorTie.lean); close each card by the builder's one call (the guide's Derived/Test/ToyasCard.lean, 'card_holds'). Laid BY PROGRAM, IN A SANDBOX (cutbox-door.mjs). By AI agents, Wed Nov 11 2026. No macro, syntax, notation, axiom, sorry.
-/
import Derived.Test.YtfbhbfganoanfaaDoorRows
import GoSem.ClaimSeven
namespace Go.Proofs.YtfbhbfganoanfaaDoor
namespace Rows

/-- THE TIED CARD OF 'hallmarklaw03.ValueFormed'. -/
def valueFormedCard : Claim7 := { stood := { row := valueFormedRow, standIns := [], harness := (true, "69688ad61f4772a8dc3e42b2565bd252313fc1c56847aca98d436f128f04619f"), looks := false }, kinds := [], alts := [], laidByText := true, laidKinds := [.data, .pinned], laidTests := true, laidLooks := .later }
def ValueFormedCardSaid : Prop := Claim7.holds Tryd.pinned (.plain (OpenSpec.ofChange valueFormedSpec)) valueFormedCard

/-- THE TIED CARD OF 'hallmarklaw03.ValueMerges'. -/
def valueMergesCard : Claim7 := { stood := { row := valueMergesRow, standIns := [], harness := (true, "69688ad61f4772a8dc3e42b2565bd252313fc1c56847aca98d436f128f04619f"), looks := false }, kinds := [], alts := [], laidByText := true, laidKinds := [.data, .pinned], laidTests := true, laidLooks := .later }
def ValueMergesCardSaid : Prop := Claim7.holds Tryd.pinned (.plain (OpenSpec.ofChange valueMergesSpec)) valueMergesCard

/-- THE TIED CARD OF 'hallmarklaw03.ValueFields'. -/
def valueFieldsCard : Claim7 := { stood := { row := valueFieldsRow, standIns := [], harness := (true, "69688ad61f4772a8dc3e42b2565bd252313fc1c56847aca98d436f128f04619f"), looks := false }, kinds := [], alts := [], laidByText := true, laidKinds := [.data, .pinned], laidTests := true, laidLooks := .later }
def ValueFieldsCardSaid : Prop := Claim7.holds Tryd.pinned (.plain (OpenSpec.ofChange valueFieldsSpec)) valueFieldsCard

/-- THE TIED CARD OF 'hallmarklaw03.ValueObjects'. -/
def valueObjectsCard : Claim7 := { stood := { row := valueObjectsRow, standIns := [], harness := (true, "69688ad61f4772a8dc3e42b2565bd252313fc1c56847aca98d436f128f04619f"), looks := false }, kinds := [], alts := [], laidByText := true, laidKinds := [.data, .pinned], laidTests := true, laidLooks := .later }
def ValueObjectsCardSaid : Prop := Claim7.holds Tryd.pinned (.plain (OpenSpec.ofChange valueObjectsSpec)) valueObjectsCard

/-- THE TIED CARD OF 'hallmarklaw03.ValueKeeps'. -/
def valueKeepsCard : Claim7 := { stood := { row := valueKeepsRow, standIns := [], harness := (true, "69688ad61f4772a8dc3e42b2565bd252313fc1c56847aca98d436f128f04619f"), looks := false }, kinds := [], alts := [], laidByText := true, laidKinds := [.data, .pinned], laidTests := true, laidLooks := .later }
def ValueKeepsCardSaid : Prop := Claim7.holds Tryd.pinned (.plain (OpenSpec.ofChange valueKeepsSpec)) valueKeepsCard

/-- THE TIED CARD OF 'hallmarklaw03.ValueOrders'. -/
def valueOrdersCard : Claim7 := { stood := { row := valueOrdersRow, standIns := [], harness := (true, "69688ad61f4772a8dc3e42b2565bd252313fc1c56847aca98d436f128f04619f"), looks := false }, kinds := [], alts := [], laidByText := true, laidKinds := [.data, .pinned], laidTests := true, laidLooks := .later }
def ValueOrdersCardSaid : Prop := Claim7.holds Tryd.pinned (.plain (OpenSpec.ofChange valueOrdersSpec)) valueOrdersCard

/-- THE SECOND FORM's CARD OF 'hallmarklaw03.ValueFormed'. -/
def valueFormedUptoCard : Claim7 := { stood := { row := valueFormedUptoRow, standIns := [], harness := (true, "69688ad61f4772a8dc3e42b2565bd252313fc1c56847aca98d436f128f04619f"), looks := false }, kinds := [], alts := [], laidByText := true, laidKinds := [.data, .pinned], laidTests := true, laidLooks := .later }
def ValueFormedUptoCardSaid : Prop := Claim7.holds Tryd.pinned (.plain (OpenSpec.upto valueFormedSpec)) valueFormedUptoCard

/-- THE SECOND FORM's CARD OF 'hallmarklaw03.ValueMerges'. -/
def valueMergesUptoCard : Claim7 := { stood := { row := valueMergesUptoRow, standIns := [], harness := (true, "69688ad61f4772a8dc3e42b2565bd252313fc1c56847aca98d436f128f04619f"), looks := false }, kinds := [], alts := [], laidByText := true, laidKinds := [.data, .pinned], laidTests := true, laidLooks := .later }
def ValueMergesUptoCardSaid : Prop := Claim7.holds Tryd.pinned (.plain (OpenSpec.upto valueMergesSpec)) valueMergesUptoCard

/-- THE SECOND FORM's CARD OF 'hallmarklaw03.ValueFields'. -/
def valueFieldsUptoCard : Claim7 := { stood := { row := valueFieldsUptoRow, standIns := [], harness := (true, "69688ad61f4772a8dc3e42b2565bd252313fc1c56847aca98d436f128f04619f"), looks := false }, kinds := [], alts := [], laidByText := true, laidKinds := [.data, .pinned], laidTests := true, laidLooks := .later }
def ValueFieldsUptoCardSaid : Prop := Claim7.holds Tryd.pinned (.plain (OpenSpec.upto valueFieldsSpec)) valueFieldsUptoCard

/-- THE SECOND FORM's CARD OF 'hallmarklaw03.ValueObjects'. -/
def valueObjectsUptoCard : Claim7 := { stood := { row := valueObjectsUptoRow, standIns := [], harness := (true, "69688ad61f4772a8dc3e42b2565bd252313fc1c56847aca98d436f128f04619f"), looks := false }, kinds := [], alts := [], laidByText := true, laidKinds := [.data, .pinned], laidTests := true, laidLooks := .later }
def ValueObjectsUptoCardSaid : Prop := Claim7.holds Tryd.pinned (.plain (OpenSpec.upto valueObjectsSpec)) valueObjectsUptoCard

/-- THE SECOND FORM's CARD OF 'hallmarklaw03.ValueKeeps'. -/
def valueKeepsUptoCard : Claim7 := { stood := { row := valueKeepsUptoRow, standIns := [], harness := (true, "69688ad61f4772a8dc3e42b2565bd252313fc1c56847aca98d436f128f04619f"), looks := false }, kinds := [], alts := [], laidByText := true, laidKinds := [.data, .pinned], laidTests := true, laidLooks := .later }
def ValueKeepsUptoCardSaid : Prop := Claim7.holds Tryd.pinned (.plain (OpenSpec.upto valueKeepsSpec)) valueKeepsUptoCard

/-- THE SECOND FORM's CARD OF 'hallmarklaw03.ValueOrders'. -/
def valueOrdersUptoCard : Claim7 := { stood := { row := valueOrdersUptoRow, standIns := [], harness := (true, "69688ad61f4772a8dc3e42b2565bd252313fc1c56847aca98d436f128f04619f"), looks := false }, kinds := [], alts := [], laidByText := true, laidKinds := [.data, .pinned], laidTests := true, laidLooks := .later }
def ValueOrdersUptoCardSaid : Prop := Claim7.holds Tryd.pinned (.plain (OpenSpec.upto valueOrdersSpec)) valueOrdersUptoCard
end Rows
end Go.Proofs.YtfbhbfganoanfaaDoor
