/-
  NARROWER THAN 'FOR EVERY INPUT', by the rows' own cells (each row's printed sentence says how): ValueFormed: loops, laid · ValueMerges: loops, laid · ValueFields: loops, laid · ValueObjects: loops, laid · ValueKeeps: loops, laid · ValueOrders: loops, laid.
  DERIVED. THE GIVEN ROWS OF THIS SEAT. 6 by the template 'for every input the law returns true; each argument reads behind the call as it read before'; 0 by the template 'total and deterministic' (their statements: YtfbhbfganoanfaaDoorTotals.lean).
  GIVEN WITH THE SEED: the statements are not yours to turn. If you find one false, say at which input.
  Laid BY PROGRAM, IN A SANDBOX (cutbox-rows.mjs): the forced cells as the released guide's own fill.sh prints them over the translation c8ff0446ee4aede0… (all of the seat's roots in one cut). By AI agents, Wed Nov 11 2026. No macro, syntax, notation, axiom, sorry.
-/
import Derived.Test.YtfbhbfganoanfaaDoorChecked
import GoSem.PinnedTables
import GoSem.Claim
import GoSem.ClaimJoined
import GoSem.ClaimMapViews
import Derived.JoinedTies
import Derived.KernelRfl
namespace Go.Proofs.YtfbhbfganoanfaaDoor
/- THE CELL 'sum', in the pinned program and in every row, IS THE sha256 OF THE DUMP (.gsa) THAT YtfbhbfganoanfaaDoorProg.lean LOADS. Nothing in Lean hashes anything: it is a label: what it is worth is what the hold of that sum in a sandbox is worth. -/
noncomputable def Tryd.pinned : Pinned := { name := "ytfbhbfganoanfaadoor", sum := "c8ff0446ee4aede088f2cf2ce8abc3cb7c25614229dd1dc784f6eaab3d31c9a1", checked := Tryd.checked }
namespace Rows
def none {H : Type} : Left H := { results := [], args := [] }

/- WHAT THE LISTED PACKAGE-LEVEL VARIABLES READ AS WHEN THE CALL BEGINS. Each datum BY PROGRAM (the guide's laid-datum.mjs) off the statement by which the dump's own 'gosem.cut.vars' lays the variable. In a bare row this is a premise. The card (YtfbhbfganoanfaaDoorCards.lean) ties it to the program's text. -/
def laid_unicode_utf8_acceptRanges {H : Type} : DataW H := .agg [.agg [.lit (.int .u8 128), .lit (.int .u8 191)], .agg [.lit (.int .u8 160), .lit (.int .u8 191)], .agg [.lit (.int .u8 128), .lit (.int .u8 159)], .agg [.lit (.int .u8 144), .lit (.int .u8 191)], .agg [.lit (.int .u8 128), .lit (.int .u8 143)], .agg [.lit (.int .u8 0), .lit (.int .u8 0)], .agg [.lit (.int .u8 0), .lit (.int .u8 0)], .agg [.lit (.int .u8 0), .lit (.int .u8 0)], .agg [.lit (.int .u8 0), .lit (.int .u8 0)], .agg [.lit (.int .u8 0), .lit (.int .u8 0)], .agg [.lit (.int .u8 0), .lit (.int .u8 0)], .agg [.lit (.int .u8 0), .lit (.int .u8 0)], .agg [.lit (.int .u8 0), .lit (.int .u8 0)], .agg [.lit (.int .u8 0), .lit (.int .u8 0)], .agg [.lit (.int .u8 0), .lit (.int .u8 0)], .agg [.lit (.int .u8 0), .lit (.int .u8 0)]]
/-- One of Go's own tables, pinned by name: the form's constant. -/
def laid_unicode_utf8_first : DataW Unit := Go.Pinned.utf8First

/-- 'hallmarklaw03.ValueFormed': WHATEVER THE INPUT: true; the input reads as it did. -/
def valueFormedSpec : ChangeSpec := { name := "valueFormed", fn := fun _ => fun
  | [d] => { results := [.lit (.bool true)], args := [d] }
  | _ => none }
def valueFormedRow : OpenClaim := { program := "ytfbhbfganoanfaadoor", sum := "c8ff0446ee4aede088f2cf2ce8abc3cb7c25614229dd1dc784f6eaab3d31c9a1", func := "hallmark/hallmarklaw03.ValueFormed", spec := "valueFormed", inPlace := ["slices.overlaps[string]", "slices.overlaps[hallmark/api.Value]"], unfollowed := true, recurses := true, named := ["unicode/utf8.first", "unicode/utf8.acceptRanges"], loops := true, apart := false, laid := [("unicode/utf8.acceptRanges", laid_unicode_utf8_acceptRanges), ("unicode/utf8.first", laid_unicode_utf8_first)] }
def ValueFormedSaid : Prop := valueFormedRow.holds Tryd.pinned (OpenSpec.ofChange valueFormedSpec)

/-- ITS FALSE NEIGHBOUR: 'it returns false'. Refute it at one input. -/
def valueFormedWrong : ChangeSpec := { name := "valueFormed", fn := fun _ => fun
  | [d] => { results := [.lit (.bool false)], args := [d] }
  | _ => none }
def ValueFormedWrongFalsely : Prop := valueFormedRow.holds Tryd.pinned (OpenSpec.ofChange valueFormedWrong)

/-- 'hallmarklaw03.ValueMerges': WHATEVER THE INPUT: true; the input reads as it did. -/
def valueMergesSpec : ChangeSpec := { name := "valueMerges", fn := fun _ => fun
  | [d1, d2, d3] => { results := [.lit (.bool true)], args := [d1, d2, d3] }
  | _ => none }
def valueMergesRow : OpenClaim := { program := "ytfbhbfganoanfaadoor", sum := "c8ff0446ee4aede088f2cf2ce8abc3cb7c25614229dd1dc784f6eaab3d31c9a1", func := "hallmark/hallmarklaw03.ValueMerges", spec := "valueMerges", inPlace := ["slices.overlaps[string]", "slices.overlaps[hallmark/api.Value]"], unfollowed := true, recurses := true, named := ["unicode/utf8.first", "unicode/utf8.acceptRanges"], loops := true, apart := false, laid := [("unicode/utf8.acceptRanges", laid_unicode_utf8_acceptRanges), ("unicode/utf8.first", laid_unicode_utf8_first)] }
def ValueMergesSaid : Prop := valueMergesRow.holds Tryd.pinned (OpenSpec.ofChange valueMergesSpec)

/-- ITS FALSE NEIGHBOUR: 'it returns false'. Refute it at one input. -/
def valueMergesWrong : ChangeSpec := { name := "valueMerges", fn := fun _ => fun
  | [d1, d2, d3] => { results := [.lit (.bool false)], args := [d1, d2, d3] }
  | _ => none }
def ValueMergesWrongFalsely : Prop := valueMergesRow.holds Tryd.pinned (OpenSpec.ofChange valueMergesWrong)

/-- 'hallmarklaw03.ValueFields': WHATEVER THE INPUT: true; the input reads as it did. -/
def valueFieldsSpec : ChangeSpec := { name := "valueFields", fn := fun _ => fun
  | [d] => { results := [.lit (.bool true)], args := [d] }
  | _ => none }
def valueFieldsRow : OpenClaim := { program := "ytfbhbfganoanfaadoor", sum := "c8ff0446ee4aede088f2cf2ce8abc3cb7c25614229dd1dc784f6eaab3d31c9a1", func := "hallmark/hallmarklaw03.ValueFields", spec := "valueFields", inPlace := ["slices.overlaps[string]", "slices.overlaps[hallmark/api.Value]"], unfollowed := true, recurses := true, named := ["unicode/utf8.first", "unicode/utf8.acceptRanges"], loops := true, apart := false, laid := [("unicode/utf8.acceptRanges", laid_unicode_utf8_acceptRanges), ("unicode/utf8.first", laid_unicode_utf8_first)] }
def ValueFieldsSaid : Prop := valueFieldsRow.holds Tryd.pinned (OpenSpec.ofChange valueFieldsSpec)

/-- ITS FALSE NEIGHBOUR: 'it returns false'. Refute it at one input. -/
def valueFieldsWrong : ChangeSpec := { name := "valueFields", fn := fun _ => fun
  | [d] => { results := [.lit (.bool false)], args := [d] }
  | _ => none }
def ValueFieldsWrongFalsely : Prop := valueFieldsRow.holds Tryd.pinned (OpenSpec.ofChange valueFieldsWrong)

/-- 'hallmarklaw03.ValueObjects': WHATEVER THE INPUT: true; the input reads as it did. -/
def valueObjectsSpec : ChangeSpec := { name := "valueObjects", fn := fun _ => fun
  | [d] => { results := [.lit (.bool true)], args := [d] }
  | _ => none }
def valueObjectsRow : OpenClaim := { program := "ytfbhbfganoanfaadoor", sum := "c8ff0446ee4aede088f2cf2ce8abc3cb7c25614229dd1dc784f6eaab3d31c9a1", func := "hallmark/hallmarklaw03.ValueObjects", spec := "valueObjects", inPlace := ["slices.overlaps[string]", "slices.overlaps[hallmark/api.Value]"], unfollowed := true, recurses := true, named := ["unicode/utf8.first", "unicode/utf8.acceptRanges"], loops := true, apart := false, laid := [("unicode/utf8.acceptRanges", laid_unicode_utf8_acceptRanges), ("unicode/utf8.first", laid_unicode_utf8_first)] }
def ValueObjectsSaid : Prop := valueObjectsRow.holds Tryd.pinned (OpenSpec.ofChange valueObjectsSpec)

/-- ITS FALSE NEIGHBOUR: 'it returns false'. Refute it at one input. -/
def valueObjectsWrong : ChangeSpec := { name := "valueObjects", fn := fun _ => fun
  | [d] => { results := [.lit (.bool false)], args := [d] }
  | _ => none }
def ValueObjectsWrongFalsely : Prop := valueObjectsRow.holds Tryd.pinned (OpenSpec.ofChange valueObjectsWrong)

/-- 'hallmarklaw03.ValueKeeps': WHATEVER THE INPUT: true; the input reads as it did. -/
def valueKeepsSpec : ChangeSpec := { name := "valueKeeps", fn := fun _ => fun
  | [d1, d2] => { results := [.lit (.bool true)], args := [d1, d2] }
  | _ => none }
def valueKeepsRow : OpenClaim := { program := "ytfbhbfganoanfaadoor", sum := "c8ff0446ee4aede088f2cf2ce8abc3cb7c25614229dd1dc784f6eaab3d31c9a1", func := "hallmark/hallmarklaw03.ValueKeeps", spec := "valueKeeps", inPlace := ["slices.overlaps[string]", "slices.overlaps[hallmark/api.Value]"], unfollowed := true, recurses := true, named := ["unicode/utf8.first", "unicode/utf8.acceptRanges"], loops := true, apart := false, laid := [("unicode/utf8.acceptRanges", laid_unicode_utf8_acceptRanges), ("unicode/utf8.first", laid_unicode_utf8_first)] }
def ValueKeepsSaid : Prop := valueKeepsRow.holds Tryd.pinned (OpenSpec.ofChange valueKeepsSpec)

/-- ITS FALSE NEIGHBOUR: 'it returns false'. Refute it at one input. -/
def valueKeepsWrong : ChangeSpec := { name := "valueKeeps", fn := fun _ => fun
  | [d1, d2] => { results := [.lit (.bool false)], args := [d1, d2] }
  | _ => none }
def ValueKeepsWrongFalsely : Prop := valueKeepsRow.holds Tryd.pinned (OpenSpec.ofChange valueKeepsWrong)

/-- 'hallmarklaw03.ValueOrders': WHATEVER THE INPUT: true; the input reads as it did. -/
def valueOrdersSpec : ChangeSpec := { name := "valueOrders", fn := fun _ => fun
  | [d1, d2] => { results := [.lit (.bool true)], args := [d1, d2] }
  | _ => none }
def valueOrdersRow : OpenClaim := { program := "ytfbhbfganoanfaadoor", sum := "c8ff0446ee4aede088f2cf2ce8abc3cb7c25614229dd1dc784f6eaab3d31c9a1", func := "hallmark/hallmarklaw03.ValueOrders", spec := "valueOrders", inPlace := ["slices.overlaps[string]", "slices.overlaps[hallmark/api.Value]", "internal/bytealg.abigen_runtime_cmpstring"], unfollowed := true, recurses := true, named := ["unicode/utf8.first", "unicode/utf8.acceptRanges"], loops := true, apart := false, laid := [("unicode/utf8.acceptRanges", laid_unicode_utf8_acceptRanges), ("unicode/utf8.first", laid_unicode_utf8_first)] }
def ValueOrdersSaid : Prop := valueOrdersRow.holds Tryd.pinned (OpenSpec.ofChange valueOrdersSpec)

/-- ITS FALSE NEIGHBOUR: 'it returns false'. Refute it at one input. -/
def valueOrdersWrong : ChangeSpec := { name := "valueOrders", fn := fun _ => fun
  | [d1, d2] => { results := [.lit (.bool false)], args := [d1, d2] }
  | _ => none }
def ValueOrdersWrongFalsely : Prop := valueOrdersRow.holds Tryd.pinned (OpenSpec.ofChange valueOrdersWrong)

/- THE SECOND FORM. 'bulk': how many values and letters a reading holds, each counted each time it is reached (what is shared counts as often as it is met; a slice's spare places count too). A statement '..UptoSaid' is the law's where the arguments, and the package variables that the reading takes, are together of bulk at most 1048576: NARROWER than '..Said'. Prove '..Said' where nothing that the law and all that it calls make is longer than what came in: it says more and counts as full. Else prove '..UptoSaid'. A law counts once. -/
mutual
def uptoBulk {H : Type} : DataW H → Nat
  | .lit (.string bytes) => bytes.length + 1
  | .lit _ => 1
  | .nil => 1
  | .ptr d => uptoBulk d + 1
  | .slice elems spare => uptoBulkAll elems + uptoBulkAll spare + 1
  | .agg parts => uptoBulkAll parts + 1
  | .iface _ d => uptoBulk d + 1
  | .map entries => uptoBulkEntries entries + 1
  | .held _ => 1
def uptoBulkAll {H : Type} : List (DataW H) → Nat
  | [] => 0
  | d :: r => uptoBulk d + uptoBulkAll r
def uptoBulkEntries {H : Type} : List (Lit × DataW H) → Nat
  | [] => 0
  | x :: r => uptoBulkEntry x + uptoBulkEntries r
def uptoBulkEntry {H : Type} : Lit × DataW H → Nat
  | (.string bytes, d) => bytes.length + uptoBulk d + 1
  | (_, d) => uptoBulk d + 1
 end
def uptoSmall : (H : Type) → List (DataW H) → Bool := fun _ ds => decide (uptoBulkAll ds ≤ 1048576)
def OpenSpec.upto (s : _root_.Go.ChangeSpec) : _root_.Go.OpenSpec := { _root_.Go.OpenSpec.ofChange s with cond := some uptoSmall }

/-- 'hallmarklaw03.ValueFormed', WHERE WHAT IT READS IS OF BULK AT MOST 1048576: true; the input reads as it did. -/
def valueFormedUptoRow : OpenClaim := { program := "ytfbhbfganoanfaadoor", sum := "c8ff0446ee4aede088f2cf2ce8abc3cb7c25614229dd1dc784f6eaab3d31c9a1", func := "hallmark/hallmarklaw03.ValueFormed", spec := "valueFormed", inPlace := ["slices.overlaps[string]", "slices.overlaps[hallmark/api.Value]"], unfollowed := true, recurses := true, named := ["unicode/utf8.first", "unicode/utf8.acceptRanges"], loops := true, apart := false, laid := [("unicode/utf8.acceptRanges", laid_unicode_utf8_acceptRanges), ("unicode/utf8.first", laid_unicode_utf8_first)], narrowed := true }
def ValueFormedUptoSaid : Prop := valueFormedUptoRow.holds Tryd.pinned (OpenSpec.upto valueFormedSpec)

/-- 'hallmarklaw03.ValueMerges', WHERE WHAT IT READS IS OF BULK AT MOST 1048576: true; the input reads as it did. -/
def valueMergesUptoRow : OpenClaim := { program := "ytfbhbfganoanfaadoor", sum := "c8ff0446ee4aede088f2cf2ce8abc3cb7c25614229dd1dc784f6eaab3d31c9a1", func := "hallmark/hallmarklaw03.ValueMerges", spec := "valueMerges", inPlace := ["slices.overlaps[string]", "slices.overlaps[hallmark/api.Value]"], unfollowed := true, recurses := true, named := ["unicode/utf8.first", "unicode/utf8.acceptRanges"], loops := true, apart := false, laid := [("unicode/utf8.acceptRanges", laid_unicode_utf8_acceptRanges), ("unicode/utf8.first", laid_unicode_utf8_first)], narrowed := true }
def ValueMergesUptoSaid : Prop := valueMergesUptoRow.holds Tryd.pinned (OpenSpec.upto valueMergesSpec)

/-- 'hallmarklaw03.ValueFields', WHERE WHAT IT READS IS OF BULK AT MOST 1048576: true; the input reads as it did. -/
def valueFieldsUptoRow : OpenClaim := { program := "ytfbhbfganoanfaadoor", sum := "c8ff0446ee4aede088f2cf2ce8abc3cb7c25614229dd1dc784f6eaab3d31c9a1", func := "hallmark/hallmarklaw03.ValueFields", spec := "valueFields", inPlace := ["slices.overlaps[string]", "slices.overlaps[hallmark/api.Value]"], unfollowed := true, recurses := true, named := ["unicode/utf8.first", "unicode/utf8.acceptRanges"], loops := true, apart := false, laid := [("unicode/utf8.acceptRanges", laid_unicode_utf8_acceptRanges), ("unicode/utf8.first", laid_unicode_utf8_first)], narrowed := true }
def ValueFieldsUptoSaid : Prop := valueFieldsUptoRow.holds Tryd.pinned (OpenSpec.upto valueFieldsSpec)

/-- 'hallmarklaw03.ValueObjects', WHERE WHAT IT READS IS OF BULK AT MOST 1048576: true; the input reads as it did. -/
def valueObjectsUptoRow : OpenClaim := { program := "ytfbhbfganoanfaadoor", sum := "c8ff0446ee4aede088f2cf2ce8abc3cb7c25614229dd1dc784f6eaab3d31c9a1", func := "hallmark/hallmarklaw03.ValueObjects", spec := "valueObjects", inPlace := ["slices.overlaps[string]", "slices.overlaps[hallmark/api.Value]"], unfollowed := true, recurses := true, named := ["unicode/utf8.first", "unicode/utf8.acceptRanges"], loops := true, apart := false, laid := [("unicode/utf8.acceptRanges", laid_unicode_utf8_acceptRanges), ("unicode/utf8.first", laid_unicode_utf8_first)], narrowed := true }
def ValueObjectsUptoSaid : Prop := valueObjectsUptoRow.holds Tryd.pinned (OpenSpec.upto valueObjectsSpec)

/-- 'hallmarklaw03.ValueKeeps', WHERE WHAT IT READS IS OF BULK AT MOST 1048576: true; the input reads as it did. -/
def valueKeepsUptoRow : OpenClaim := { program := "ytfbhbfganoanfaadoor", sum := "c8ff0446ee4aede088f2cf2ce8abc3cb7c25614229dd1dc784f6eaab3d31c9a1", func := "hallmark/hallmarklaw03.ValueKeeps", spec := "valueKeeps", inPlace := ["slices.overlaps[string]", "slices.overlaps[hallmark/api.Value]"], unfollowed := true, recurses := true, named := ["unicode/utf8.first", "unicode/utf8.acceptRanges"], loops := true, apart := false, laid := [("unicode/utf8.acceptRanges", laid_unicode_utf8_acceptRanges), ("unicode/utf8.first", laid_unicode_utf8_first)], narrowed := true }
def ValueKeepsUptoSaid : Prop := valueKeepsUptoRow.holds Tryd.pinned (OpenSpec.upto valueKeepsSpec)

/-- 'hallmarklaw03.ValueOrders', WHERE WHAT IT READS IS OF BULK AT MOST 1048576: true; the input reads as it did. -/
def valueOrdersUptoRow : OpenClaim := { program := "ytfbhbfganoanfaadoor", sum := "c8ff0446ee4aede088f2cf2ce8abc3cb7c25614229dd1dc784f6eaab3d31c9a1", func := "hallmark/hallmarklaw03.ValueOrders", spec := "valueOrders", inPlace := ["slices.overlaps[string]", "slices.overlaps[hallmark/api.Value]", "internal/bytealg.abigen_runtime_cmpstring"], unfollowed := true, recurses := true, named := ["unicode/utf8.first", "unicode/utf8.acceptRanges"], loops := true, apart := false, laid := [("unicode/utf8.acceptRanges", laid_unicode_utf8_acceptRanges), ("unicode/utf8.first", laid_unicode_utf8_first)], narrowed := true }
def ValueOrdersUptoSaid : Prop := valueOrdersUptoRow.holds Tryd.pinned (OpenSpec.upto valueOrdersSpec)

end Rows
end Go.Proofs.YtfbhbfganoanfaaDoor
