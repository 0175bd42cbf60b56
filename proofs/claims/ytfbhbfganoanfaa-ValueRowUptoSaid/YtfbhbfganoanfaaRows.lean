/-
  NARROWER THAN 'FOR EVERY INPUT', by the rows' own cells (each row's printed sentence says how): ValueNames: loops · ValueWeighs: loops · ValueEach: loops · ValueRow: loops.
  DERIVED. THE GIVEN ROWS OF THIS SEAT. 4 by the template 'for every input the law returns true; each argument reads behind the call as it read before'; 0 by the template 'total and deterministic' (their statements: YtfbhbfganoanfaaTotals.lean).
  GIVEN WITH THE SEED: the statements are not yours to turn. If you find one false, say at which input.
  Laid BY PROGRAM, IN A SANDBOX (cutbox-rows.mjs): the forced cells as the released guide's own fill.sh prints them over the translation 088c2d6c28ba1a2c… (all of the seat's roots in one cut). By AI agents, Wed Nov 11 2026. No macro, syntax, notation, axiom, sorry.
-/
import Derived.Test.YtfbhbfganoanfaaChecked
import GoSem.Claim
import GoSem.ClaimJoined
import GoSem.ClaimMapViews
import Derived.JoinedTies
import Derived.KernelRfl
namespace Go.Proofs.Ytfbhbfganoanfaa
/- THE CELL 'sum', in the pinned program and in every row, IS THE sha256 OF THE DUMP (.gsa) THAT YtfbhbfganoanfaaProg.lean LOADS. Nothing in Lean hashes anything: it is a label: what it is worth is what the hold of that sum in a sandbox is worth. -/
noncomputable def Try.pinned : Pinned := { name := "ytfbhbfganoanfaa", sum := "088c2d6c28ba1a2c1333d56a5234484122a19f55b28e4ba58718d06817100317", checked := Try.checked }
namespace Rows
def none {H : Type} : Left H := { results := [], args := [] }

/-- 'hallmarklaw03.ValueNames': WHATEVER THE INPUT: true; the input reads as it did. -/
def valueNamesSpec : ChangeSpec := { name := "valueNames", fn := fun _ => fun
  | [d1, d2] => { results := [.lit (.bool true)], args := [d1, d2] }
  | _ => none }
def valueNamesRow : OpenClaim := { program := "ytfbhbfganoanfaa", sum := "088c2d6c28ba1a2c1333d56a5234484122a19f55b28e4ba58718d06817100317", func := "hallmark/hallmarklaw03.ValueNames", spec := "valueNames", loops := true, apart := false }
def ValueNamesSaid : Prop := valueNamesRow.holds Try.pinned (OpenSpec.ofChange valueNamesSpec)

/-- ITS FALSE NEIGHBOUR: 'it returns false'. Refute it at one input. -/
def valueNamesWrong : ChangeSpec := { name := "valueNames", fn := fun _ => fun
  | [d1, d2] => { results := [.lit (.bool false)], args := [d1, d2] }
  | _ => none }
def ValueNamesWrongFalsely : Prop := valueNamesRow.holds Try.pinned (OpenSpec.ofChange valueNamesWrong)

/-- 'hallmarklaw03.ValueWeighs': WHATEVER THE INPUT: true; the input reads as it did. -/
def valueWeighsSpec : ChangeSpec := { name := "valueWeighs", fn := fun _ => fun
  | [d] => { results := [.lit (.bool true)], args := [d] }
  | _ => none }
def valueWeighsRow : OpenClaim := { program := "ytfbhbfganoanfaa", sum := "088c2d6c28ba1a2c1333d56a5234484122a19f55b28e4ba58718d06817100317", func := "hallmark/hallmarklaw03.ValueWeighs", spec := "valueWeighs", recurses := true, loops := true, apart := false }
def ValueWeighsSaid : Prop := valueWeighsRow.holds Try.pinned (OpenSpec.ofChange valueWeighsSpec)

/-- ITS FALSE NEIGHBOUR: 'it returns false'. Refute it at one input. -/
def valueWeighsWrong : ChangeSpec := { name := "valueWeighs", fn := fun _ => fun
  | [d] => { results := [.lit (.bool false)], args := [d] }
  | _ => none }
def ValueWeighsWrongFalsely : Prop := valueWeighsRow.holds Try.pinned (OpenSpec.ofChange valueWeighsWrong)

/-- 'hallmarklaw03.ValueEach': WHATEVER THE INPUT: true; the input reads as it did. -/
def valueEachSpec : ChangeSpec := { name := "valueEach", fn := fun _ => fun
  | [d1, d2] => { results := [.lit (.bool true)], args := [d1, d2] }
  | _ => none }
def valueEachRow : OpenClaim := { program := "ytfbhbfganoanfaa", sum := "088c2d6c28ba1a2c1333d56a5234484122a19f55b28e4ba58718d06817100317", func := "hallmark/hallmarklaw03.ValueEach", spec := "valueEach", unfollowed := true, recurses := true, loops := true, apart := false }
def ValueEachSaid : Prop := valueEachRow.holds Try.pinned (OpenSpec.ofChange valueEachSpec)

/-- ITS FALSE NEIGHBOUR: 'it returns false'. Refute it at one input. -/
def valueEachWrong : ChangeSpec := { name := "valueEach", fn := fun _ => fun
  | [d1, d2] => { results := [.lit (.bool false)], args := [d1, d2] }
  | _ => none }
def ValueEachWrongFalsely : Prop := valueEachRow.holds Try.pinned (OpenSpec.ofChange valueEachWrong)

/-- 'hallmarklaw03.ValueRow': WHATEVER THE INPUT: true; the input reads as it did. -/
def valueRowSpec : ChangeSpec := { name := "valueRow", fn := fun _ => fun
  | [d1, d2, d3] => { results := [.lit (.bool true)], args := [d1, d2, d3] }
  | _ => none }
def valueRowRow : OpenClaim := { program := "ytfbhbfganoanfaa", sum := "088c2d6c28ba1a2c1333d56a5234484122a19f55b28e4ba58718d06817100317", func := "hallmark/hallmarklaw03.ValueRow", spec := "valueRow", inPlace := ["internal/bytealg.abigen_runtime_cmpstring"], unfollowed := true, recurses := true, loops := true, apart := false }
def ValueRowSaid : Prop := valueRowRow.holds Try.pinned (OpenSpec.ofChange valueRowSpec)

/-- ITS FALSE NEIGHBOUR: 'it returns false'. Refute it at one input. -/
def valueRowWrong : ChangeSpec := { name := "valueRow", fn := fun _ => fun
  | [d1, d2, d3] => { results := [.lit (.bool false)], args := [d1, d2, d3] }
  | _ => none }
def ValueRowWrongFalsely : Prop := valueRowRow.holds Try.pinned (OpenSpec.ofChange valueRowWrong)

/- THE SECOND FORM. 'bulk': how many values and letters a reading holds, each counted each time it is reached (what is shared counts as often as it is met; a slice's spare places count too). A statement '..UptoSaid' is the law's where the arguments, and the package variables that the reading takes, are together of bulk at most 1048576: NARROWER than '..Said'. Prove '..Said' where nothing that the law and all that it calls make is longer than what came in: it says more and counts as full. Else prove '..UptoSaid'. A law counts once. -/
mutual
def uptoBulk {H : Type} : DataW H → Nat
  | .lit (.string bytes) => bytes.length + 1
  | .lit _ => 1
  | .nil => 1
  | .ptr d => uptoBulk d + 1
  | .slice elems spare => uptoBulkAll elems + uptoBulkAll spare + 1
  | .agg parts => uptoBulkAll parts + 1
  | .iface _ d => uptoBulk d + 1
  | .map entries => uptoBulkEntries entries + 1
  | .held _ => 1
def uptoBulkAll {H : Type} : List (DataW H) → Nat
  | [] => 0
  | d :: r => uptoBulk d + uptoBulkAll r
def uptoBulkEntries {H : Type} : List (Lit × DataW H) → Nat
  | [] => 0
  | x :: r => uptoBulkEntry x + uptoBulkEntries r
def uptoBulkEntry {H : Type} : Lit × DataW H → Nat
  | (.string bytes, d) => bytes.length + uptoBulk d + 1
  | (_, d) => uptoBulk d + 1
 end
def uptoSmall : (H : Type) → List (DataW H) → Bool := fun _ ds => decide (uptoBulkAll ds ≤ 1048576)
def OpenSpec.upto (s : _root_.Go.ChangeSpec) : _root_.Go.OpenSpec := { _root_.Go.OpenSpec.ofChange s with cond := some uptoSmall }

/-- 'hallmarklaw03.ValueNames', WHERE WHAT IT READS IS OF BULK AT MOST 1048576: true; the input reads as it did. -/
def valueNamesUptoRow : OpenClaim := { program := "ytfbhbfganoanfaa", sum := "088c2d6c28ba1a2c1333d56a5234484122a19f55b28e4ba58718d06817100317", func := "hallmark/hallmarklaw03.ValueNames", spec := "valueNames", loops := true, apart := false, narrowed := true }
def ValueNamesUptoSaid : Prop := valueNamesUptoRow.holds Try.pinned (OpenSpec.upto valueNamesSpec)

/-- 'hallmarklaw03.ValueWeighs', WHERE WHAT IT READS IS OF BULK AT MOST 1048576: true; the input reads as it did. -/
def valueWeighsUptoRow : OpenClaim := { program := "ytfbhbfganoanfaa", sum := "088c2d6c28ba1a2c1333d56a5234484122a19f55b28e4ba58718d06817100317", func := "hallmark/hallmarklaw03.ValueWeighs", spec := "valueWeighs", recurses := true, loops := true, apart := false, narrowed := true }
def ValueWeighsUptoSaid : Prop := valueWeighsUptoRow.holds Try.pinned (OpenSpec.upto valueWeighsSpec)

/-- 'hallmarklaw03.ValueEach', WHERE WHAT IT READS IS OF BULK AT MOST 1048576: true; the input reads as it did. -/
def valueEachUptoRow : OpenClaim := { program := "ytfbhbfganoanfaa", sum := "088c2d6c28ba1a2c1333d56a5234484122a19f55b28e4ba58718d06817100317", func := "hallmark/hallmarklaw03.ValueEach", spec := "valueEach", unfollowed := true, recurses := true, loops := true, apart := false, narrowed := true }
def ValueEachUptoSaid : Prop := valueEachUptoRow.holds Try.pinned (OpenSpec.upto valueEachSpec)

/-- 'hallmarklaw03.ValueRow', WHERE WHAT IT READS IS OF BULK AT MOST 1048576: true; the input reads as it did. -/
def valueRowUptoRow : OpenClaim := { program := "ytfbhbfganoanfaa", sum := "088c2d6c28ba1a2c1333d56a5234484122a19f55b28e4ba58718d06817100317", func := "hallmark/hallmarklaw03.ValueRow", spec := "valueRow", inPlace := ["internal/bytealg.abigen_runtime_cmpstring"], unfollowed := true, recurses := true, loops := true, apart := false, narrowed := true }
def ValueRowUptoSaid : Prop := valueRowUptoRow.holds Try.pinned (OpenSpec.upto valueRowSpec)

end Rows
end Go.Proofs.Ytfbhbfganoanfaa
