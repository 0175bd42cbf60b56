/-
  DERIVED. GIVEN WITH THE SEED: THE CARDS: each row of YtkjppfdcnfiaeaaDoorRows.lean that lists a variable, with what it lists TIED to the program's text (the seventh form; the later family's looks); each row that meets fmt, with fmt's text TOLD by the authors' own Lean function (tested against real Go, not proved from fmt's source: count such statements apart). THE CARD IS WHAT COUNTS. Prove the row's statement (the work); the ties are given (YtkjppfdcnfiaeaaDoorTie.lean); close each card by the builder's one call (the guide's Derived/Test/ToyasCard.lean, 'card_holds'). Laid BY PROGRAM, IN A SANDBOX (cutbox-door.mjs). By AI agents, Wed Nov 11 2026. No macro, syntax, notation, axiom, sorry.
-/
import Derived.Test.YtkjppfdcnfiaeaaDoorRows
import GoSem.ClaimSeven
namespace Go.Proofs.YtkjppfdcnfiaeaaDoor
namespace Rows

/-- THE TIED CARD OF 'hallmarklaw09.ShapeOf'. -/
def shapeOfCard : Claim7 := { stood := { row := shapeOfRow, standIns := [], harness := (true, "6570c521e69ce550d4e1b609c326bdc7692f91110c5bfc57354fce9f2580487d"), looks := false }, kinds := [], alts := [], laidByText := true, laidKinds := [.data, .pinned], laidTests := true, laidLooks := .later }
def ShapeOfCardSaid : Prop := Claim7.holds Tryd.pinned (.plain (OpenSpec.ofChange shapeOfSpec)) shapeOfCard

/-- THE TIED CARD OF 'hallmarklaw09.ShapeOnly'. -/
def shapeOnlyCard : Claim7 := { stood := { row := shapeOnlyRow, standIns := [], harness := (true, "6570c521e69ce550d4e1b609c326bdc7692f91110c5bfc57354fce9f2580487d"), looks := false }, kinds := [], alts := [], laidByText := true, laidKinds := [.data, .pinned], laidTests := true, laidLooks := .later }
def ShapeOnlyCardSaid : Prop := Claim7.holds Tryd.pinned (.plain (OpenSpec.ofChange shapeOnlySpec)) shapeOnlyCard

/-- THE TIED CARD OF 'hallmarklaw09.ShapeOrders'. -/
def shapeOrdersCard : Claim7 := { stood := { row := shapeOrdersRow, standIns := [], harness := (true, "6570c521e69ce550d4e1b609c326bdc7692f91110c5bfc57354fce9f2580487d"), looks := false }, kinds := [], alts := [], laidByText := true, laidKinds := [.data, .pinned], laidTests := true, laidLooks := .later }
def ShapeOrdersCardSaid : Prop := Claim7.holds Tryd.pinned (.plain (OpenSpec.ofChange shapeOrdersSpec)) shapeOrdersCard

/-- THE TIED CARD OF 'hallmarklaw09.ShapeKinds'. -/
def shapeKindsCard : Claim7 := { stood := { row := shapeKindsRow, standIns := [], harness := (true, "6570c521e69ce550d4e1b609c326bdc7692f91110c5bfc57354fce9f2580487d"), looks := false }, kinds := [], alts := [], laidByText := true, laidKinds := [.data, .pinned], laidTests := true, laidLooks := .later }
def ShapeKindsCardSaid : Prop := Claim7.holds Tryd.pinned (.plain (OpenSpec.ofChange shapeKindsSpec)) shapeKindsCard

/-- THE TIED CARD OF 'hallmarklaw09.ShapeFormed'. -/
def shapeFormedCard : Claim7 := { stood := { row := shapeFormedRow, standIns := [], harness := (true, "6570c521e69ce550d4e1b609c326bdc7692f91110c5bfc57354fce9f2580487d"), looks := false }, kinds := [], alts := [], laidByText := true, laidKinds := [.data, .pinned], laidTests := true, laidLooks := .later }
def ShapeFormedCardSaid : Prop := Claim7.holds Tryd.pinned (.plain (OpenSpec.ofChange shapeFormedSpec)) shapeFormedCard

/-- THE SECOND FORM's CARD OF 'hallmarklaw09.ShapeOf'. -/
def shapeOfUptoCard : Claim7 := { stood := { row := shapeOfUptoRow, standIns := [], harness := (true, "6570c521e69ce550d4e1b609c326bdc7692f91110c5bfc57354fce9f2580487d"), looks := false }, kinds := [], alts := [], laidByText := true, laidKinds := [.data, .pinned], laidTests := true, laidLooks := .later }
def ShapeOfUptoCardSaid : Prop := Claim7.holds Tryd.pinned (.plain (OpenSpec.upto shapeOfSpec)) shapeOfUptoCard

/-- THE SECOND FORM's CARD OF 'hallmarklaw09.ShapeOnly'. -/
def shapeOnlyUptoCard : Claim7 := { stood := { row := shapeOnlyUptoRow, standIns := [], harness := (true, "6570c521e69ce550d4e1b609c326bdc7692f91110c5bfc57354fce9f2580487d"), looks := false }, kinds := [], alts := [], laidByText := true, laidKinds := [.data, .pinned], laidTests := true, laidLooks := .later }
def ShapeOnlyUptoCardSaid : Prop := Claim7.holds Tryd.pinned (.plain (OpenSpec.upto shapeOnlySpec)) shapeOnlyUptoCard

/-- THE SECOND FORM's CARD OF 'hallmarklaw09.ShapeOrders'. -/
def shapeOrdersUptoCard : Claim7 := { stood := { row := shapeOrdersUptoRow, standIns := [], harness := (true, "6570c521e69ce550d4e1b609c326bdc7692f91110c5bfc57354fce9f2580487d"), looks := false }, kinds := [], alts := [], laidByText := true, laidKinds := [.data, .pinned], laidTests := true, laidLooks := .later }
def ShapeOrdersUptoCardSaid : Prop := Claim7.holds Tryd.pinned (.plain (OpenSpec.upto shapeOrdersSpec)) shapeOrdersUptoCard

/-- THE SECOND FORM's CARD OF 'hallmarklaw09.ShapeKinds'. -/
def shapeKindsUptoCard : Claim7 := { stood := { row := shapeKindsUptoRow, standIns := [], harness := (true, "6570c521e69ce550d4e1b609c326bdc7692f91110c5bfc57354fce9f2580487d"), looks := false }, kinds := [], alts := [], laidByText := true, laidKinds := [.data, .pinned], laidTests := true, laidLooks := .later }
def ShapeKindsUptoCardSaid : Prop := Claim7.holds Tryd.pinned (.plain (OpenSpec.upto shapeKindsSpec)) shapeKindsUptoCard

/-- THE SECOND FORM's CARD OF 'hallmarklaw09.ShapeFormed'. -/
def shapeFormedUptoCard : Claim7 := { stood := { row := shapeFormedUptoRow, standIns := [], harness := (true, "6570c521e69ce550d4e1b609c326bdc7692f91110c5bfc57354fce9f2580487d"), looks := false }, kinds := [], alts := [], laidByText := true, laidKinds := [.data, .pinned], laidTests := true, laidLooks := .later }
def ShapeFormedUptoCardSaid : Prop := Claim7.holds Tryd.pinned (.plain (OpenSpec.upto shapeFormedSpec)) shapeFormedUptoCard
end Rows
end Go.Proofs.YtkjppfdcnfiaeaaDoor
