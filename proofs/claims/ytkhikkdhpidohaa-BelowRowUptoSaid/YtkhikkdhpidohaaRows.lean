/-
  NARROWER THAN 'FOR EVERY INPUT', by the rows' own cells (each row's printed sentence says how): BelowTrue: loops · ApartWhole: loops · BelowRow: loops.
  DERIVED. THE GIVEN ROWS OF THIS SEAT. 4 by the template 'for every input the law returns true; each argument reads behind the call as it read before'; 0 by the template 'total and deterministic' (their statements: YtkhikkdhpidohaaTotals.lean).
  GIVEN WITH THE SEED: the statements are not yours to turn. If you find one false, say at which input.
  Laid BY PROGRAM, IN A SANDBOX (cutbox-rows.mjs): the forced cells as the released guide's own fill.sh prints them over the translation 5237f40783b7b6aa… (all of the seat's roots in one cut). By AI agents, Wed Nov 11 2026. No macro, syntax, notation, axiom, sorry.
-/
import Derived.Test.YtkhikkdhpidohaaChecked
import GoSem.Claim
import GoSem.ClaimJoined
import GoSem.ClaimMapViews
import Derived.JoinedTies
import Derived.KernelRfl
namespace Go.Proofs.Ytkhikkdhpidohaa
/- THE CELL 'sum', in the pinned program and in every row, IS THE sha256 OF THE DUMP (.gsa) THAT YtkhikkdhpidohaaProg.lean LOADS. Nothing in Lean hashes anything: it is a label: what it is worth is what the hold of that sum in a sandbox is worth. -/
noncomputable def Try.pinned : Pinned := { name := "ytkhikkdhpidohaa", sum := "5237f40783b7b6aa17ce575fac921cf0ae7f7197c84289a9adbbaf8b63b75945", checked := Try.checked }
namespace Rows
def none {H : Type} : Left H := { results := [], args := [] }

/-- 'hallmarklaw12.BelowSpans': WHATEVER THE INPUT: true; the input reads as it did. -/
def belowSpansSpec : ChangeSpec := { name := "belowSpans", fn := fun _ => fun
  | [d1, d2, d3] => { results := [.lit (.bool true)], args := [d1, d2, d3] }
  | _ => none }
def belowSpansRow : OpenClaim := { program := "ytkhikkdhpidohaa", sum := "5237f40783b7b6aa17ce575fac921cf0ae7f7197c84289a9adbbaf8b63b75945", func := "hallmark/hallmarklaw12.BelowSpans", spec := "belowSpans", recurses := true, apart := false }
def BelowSpansSaid : Prop := belowSpansRow.holds Try.pinned (OpenSpec.ofChange belowSpansSpec)

/-- ITS FALSE NEIGHBOUR: 'it returns false'. Refute it at one input. -/
def belowSpansWrong : ChangeSpec := { name := "belowSpans", fn := fun _ => fun
  | [d1, d2, d3] => { results := [.lit (.bool false)], args := [d1, d2, d3] }
  | _ => none }
def BelowSpansWrongFalsely : Prop := belowSpansRow.holds Try.pinned (OpenSpec.ofChange belowSpansWrong)

/-- 'hallmarklaw12.BelowTrue': WHATEVER THE INPUT: true; the input reads as it did. -/
def belowTrueSpec : ChangeSpec := { name := "belowTrue", fn := fun _ => fun
  | [d1, d2, d3] => { results := [.lit (.bool true)], args := [d1, d2, d3] }
  | _ => none }
def belowTrueRow : OpenClaim := { program := "ytkhikkdhpidohaa", sum := "5237f40783b7b6aa17ce575fac921cf0ae7f7197c84289a9adbbaf8b63b75945", func := "hallmark/hallmarklaw12.BelowTrue", spec := "belowTrue", unfollowed := true, recurses := true, loops := true, apart := false }
def BelowTrueSaid : Prop := belowTrueRow.holds Try.pinned (OpenSpec.ofChange belowTrueSpec)

/-- ITS FALSE NEIGHBOUR: 'it returns false'. Refute it at one input. -/
def belowTrueWrong : ChangeSpec := { name := "belowTrue", fn := fun _ => fun
  | [d1, d2, d3] => { results := [.lit (.bool false)], args := [d1, d2, d3] }
  | _ => none }
def BelowTrueWrongFalsely : Prop := belowTrueRow.holds Try.pinned (OpenSpec.ofChange belowTrueWrong)

/-- 'hallmarklaw12.ApartWhole': WHATEVER THE INPUT: true; the input reads as it did. -/
def apartWholeSpec : ChangeSpec := { name := "apartWhole", fn := fun _ => fun
  | [d1, d2] => { results := [.lit (.bool true)], args := [d1, d2] }
  | _ => none }
def apartWholeRow : OpenClaim := { program := "ytkhikkdhpidohaa", sum := "5237f40783b7b6aa17ce575fac921cf0ae7f7197c84289a9adbbaf8b63b75945", func := "hallmark/hallmarklaw12.ApartWhole", spec := "apartWhole", unfollowed := true, recurses := true, loops := true, apart := false }
def ApartWholeSaid : Prop := apartWholeRow.holds Try.pinned (OpenSpec.ofChange apartWholeSpec)

/-- ITS FALSE NEIGHBOUR: 'it returns false'. Refute it at one input. -/
def apartWholeWrong : ChangeSpec := { name := "apartWhole", fn := fun _ => fun
  | [d1, d2] => { results := [.lit (.bool false)], args := [d1, d2] }
  | _ => none }
def ApartWholeWrongFalsely : Prop := apartWholeRow.holds Try.pinned (OpenSpec.ofChange apartWholeWrong)

/-- 'hallmarklaw12.BelowRow': WHATEVER THE INPUT: true; the input reads as it did. -/
def belowRowSpec : ChangeSpec := { name := "belowRow", fn := fun _ => fun
  | [d1, d2, d3] => { results := [.lit (.bool true)], args := [d1, d2, d3] }
  | _ => none }
def belowRowRow : OpenClaim := { program := "ytkhikkdhpidohaa", sum := "5237f40783b7b6aa17ce575fac921cf0ae7f7197c84289a9adbbaf8b63b75945", func := "hallmark/hallmarklaw12.BelowRow", spec := "belowRow", unfollowed := true, recurses := true, loops := true, apart := false }
def BelowRowSaid : Prop := belowRowRow.holds Try.pinned (OpenSpec.ofChange belowRowSpec)

/-- ITS FALSE NEIGHBOUR: 'it returns false'. Refute it at one input. -/
def belowRowWrong : ChangeSpec := { name := "belowRow", fn := fun _ => fun
  | [d1, d2, d3] => { results := [.lit (.bool false)], args := [d1, d2, d3] }
  | _ => none }
def BelowRowWrongFalsely : Prop := belowRowRow.holds Try.pinned (OpenSpec.ofChange belowRowWrong)

/- THE SECOND FORM. 'bulk': how many values and letters a reading holds, each counted each time it is reached (what is shared counts as often as it is met; a slice's spare places count too). A statement '..UptoSaid' is the law's where the arguments, and the package variables that the reading takes, are together of bulk at most 1048576: NARROWER than '..Said'. Prove '..Said' where nothing that the law and all that it calls make is longer than what came in: it says more and counts as full. Else prove '..UptoSaid'. A law counts once. -/
mutual
def uptoBulk {H : Type} : DataW H → Nat
  | .lit (.string bytes) => bytes.length + 1
  | .lit _ => 1
  | .nil => 1
  | .ptr d => uptoBulk d + 1
  | .slice elems spare => uptoBulkAll elems + uptoBulkAll spare + 1
  | .agg parts => uptoBulkAll parts + 1
  | .iface _ d => uptoBulk d + 1
  | .map entries => uptoBulkEntries entries + 1
  | .held _ => 1
def uptoBulkAll {H : Type} : List (DataW H) → Nat
  | [] => 0
  | d :: r => uptoBulk d + uptoBulkAll r
def uptoBulkEntries {H : Type} : List (Lit × DataW H) → Nat
  | [] => 0
  | x :: r => uptoBulkEntry x + uptoBulkEntries r
def uptoBulkEntry {H : Type} : Lit × DataW H → Nat
  | (.string bytes, d) => bytes.length + uptoBulk d + 1
  | (_, d) => uptoBulk d + 1
 end
def uptoSmall : (H : Type) → List (DataW H) → Bool := fun _ ds => decide (uptoBulkAll ds ≤ 1048576)
def OpenSpec.upto (s : _root_.Go.ChangeSpec) : _root_.Go.OpenSpec := { _root_.Go.OpenSpec.ofChange s with cond := some uptoSmall }

/-- 'hallmarklaw12.BelowSpans', WHERE WHAT IT READS IS OF BULK AT MOST 1048576: true; the input reads as it did. -/
def belowSpansUptoRow : OpenClaim := { program := "ytkhikkdhpidohaa", sum := "5237f40783b7b6aa17ce575fac921cf0ae7f7197c84289a9adbbaf8b63b75945", func := "hallmark/hallmarklaw12.BelowSpans", spec := "belowSpans", recurses := true, apart := false, narrowed := true }
def BelowSpansUptoSaid : Prop := belowSpansUptoRow.holds Try.pinned (OpenSpec.upto belowSpansSpec)

/-- 'hallmarklaw12.BelowTrue', WHERE WHAT IT READS IS OF BULK AT MOST 1048576: true; the input reads as it did. -/
def belowTrueUptoRow : OpenClaim := { program := "ytkhikkdhpidohaa", sum := "5237f40783b7b6aa17ce575fac921cf0ae7f7197c84289a9adbbaf8b63b75945", func := "hallmark/hallmarklaw12.BelowTrue", spec := "belowTrue", unfollowed := true, recurses := true, loops := true, apart := false, narrowed := true }
def BelowTrueUptoSaid : Prop := belowTrueUptoRow.holds Try.pinned (OpenSpec.upto belowTrueSpec)

/-- 'hallmarklaw12.ApartWhole', WHERE WHAT IT READS IS OF BULK AT MOST 1048576: true; the input reads as it did. -/
def apartWholeUptoRow : OpenClaim := { program := "ytkhikkdhpidohaa", sum := "5237f40783b7b6aa17ce575fac921cf0ae7f7197c84289a9adbbaf8b63b75945", func := "hallmark/hallmarklaw12.ApartWhole", spec := "apartWhole", unfollowed := true, recurses := true, loops := true, apart := false, narrowed := true }
def ApartWholeUptoSaid : Prop := apartWholeUptoRow.holds Try.pinned (OpenSpec.upto apartWholeSpec)

/-- 'hallmarklaw12.BelowRow', WHERE WHAT IT READS IS OF BULK AT MOST 1048576: true; the input reads as it did. -/
def belowRowUptoRow : OpenClaim := { program := "ytkhikkdhpidohaa", sum := "5237f40783b7b6aa17ce575fac921cf0ae7f7197c84289a9adbbaf8b63b75945", func := "hallmark/hallmarklaw12.BelowRow", spec := "belowRow", unfollowed := true, recurses := true, loops := true, apart := false, narrowed := true }
def BelowRowUptoSaid : Prop := belowRowUptoRow.holds Try.pinned (OpenSpec.upto belowRowSpec)

end Rows
end Go.Proofs.Ytkhikkdhpidohaa
