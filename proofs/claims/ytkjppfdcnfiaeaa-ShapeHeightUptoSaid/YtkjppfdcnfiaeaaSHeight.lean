/-
  ShapeHeight: whatever type is given (of bulk at most 1048576), the law answers true and its argument reads as before. Conditions: none but the statement's own.
-/
import Derived.Test.YtkjppfdcnfiaeaaRows
import Derived.Test.YtkjppfdcnfiaeaaHD
import Derived.Test.YtkjppfdcnfiaeaaGHeight
import Derived.WalkKit
import Derived.ProofKit
import Derived.OpenShut
import Derived.JoinedCond
namespace Go.Proofs.Ytkjppfdcnfiaeaa.hHeight
open Go.ChangeShapes Go.WideShapes Go.ChangeAt Go.RowKit Hm
set_option linter.unusedVariables false
set_option linter.unnecessarySimpa false
set_option linter.unusedSimpArgs false

def fl : List (Nat × Nat) := [(F.hallmarkref03_Number, 46), (F.hallmarkref03_UTF, 31), (F.hallmarkref03_Rise, 13), (F.hallmarkref03_width, 45), (F.hallmarkref03_trail, 53), (F.hallmarkref03_Numbers, 33), (F.hallmarkref03_Texts, 47), (F.hallmarklaw09_ShapeHeight, 3), (F.shape_Height, 5), (F.hallmarkkit_FitType, 6), (F.hallmarkref09_Formed, 7), (F.hallmarkref09_Height, 8), (F.hallmarkkit_typeParts, 11), (F.hallmarkref09_Bare, 12), (F.hallmarkref09_Spans, 14), (F.hallmarkref09_arrays, 15), (F.hallmarkref09_objects, 16), (F.hallmarkref09_higher, 17), (F.hallmarkref09_bound, 32), (F.hallmarkref09_Never, 34), (F.hallmarkref09_object, 35)]
def nm : Nm := ⟨fun f => (Hm.look fl f).getD 0, fun _ => 0, []⟩
def sf : List (Nat × AFun) := [(F.hallmarkref03_Number, hallmarkref03_Number.fn), (F.hallmarkref03_UTF, hallmarkref03_UTF.fn), (F.hallmarkref03_Rise, hallmarkref03_Rise.fn), (F.hallmarkref03_width, hallmarkref03_width.fn), (F.hallmarkref03_trail, hallmarkref03_trail.fn), (F.hallmarkref03_Numbers, hallmarkref03_Numbers.fn), (F.hallmarkref03_Texts, hallmarkref03_Texts.fn), (F.hallmarklaw09_ShapeHeight, hallmarklaw09_ShapeHeight.fn), (F.shape_Height, shape_Height.fn), (F.hallmarkkit_FitType, hallmarkkit_FitType.fn), (F.hallmarkref09_Formed, hallmarkref09_Formed.fn), (F.hallmarkref09_Height, hallmarkref09_Height.fn), (F.hallmarkkit_typeParts, hallmarkkit_typeParts.fn), (F.hallmarkref09_Bare, hallmarkref09_Bare.fn), (F.hallmarkref09_Spans, hallmarkref09_Spans.fn), (F.hallmarkref09_arrays, hallmarkref09_arrays.fn), (F.hallmarkref09_objects, hallmarkref09_objects.fn), (F.hallmarkref09_higher, hallmarkref09_higher.fn), (F.hallmarkref09_bound, hallmarkref09_bound.fn), (F.hallmarkref09_Never, hallmarkref09_Never.fn), (F.hallmarkref09_object, hallmarkref09_object.fn)]
def tds : List (TD × Nat) := [(.struct [1, 1, 1, 1, 2, 1, 5, 6, 9], 9), (.bool, 1), (.slice 3, 1), (.struct [4, 4], 2), (.str, 1), (.slice 4, 1), (.slice 7, 1), (.struct [0, 8, 8], 11), (.int .i64, 1), (.slice 10, 1), (.struct [5, 11, 12, 0], 12), (.slice 0, 1), (.slice 1, 1)]
def taus : List Nat := [27, 4, 22, 49, 9, 23, 24, 38, 3, 25, 32, 29, 30]
theorem okF : okFns Try.prog nm sf = true := by kernel_rfl
theorem okT : ((List.range tds.length).all fun i => okTy Try.prog (tauOf taus) (tsOf tds) i) = true := by kernel_rfl
theorem okR : (tds.all fun x => refsOk tds.length x.1) = true := by kernel_rfl
theorem mixed : Try.prog.follows .mixedOrders = true := by kernel_rfl
theorem lk : Linked Try.prog nm (tabOf sf []) := Hm.linked mixed okF (by simp)
theorem own : ownKnob Try.prog.godebug = none := by kernel_rfl
theorem laid : laidOutB Try.prog = true := by kernel_rfl
theorem readable : ∀ t ∈ Try.f3.params.toList, Try.prog.readableRec t = true ∧ t < Try.prog.types.size := by
  have h : (Try.f3.params.toList.all fun t => Try.prog.readableRec t && decide (t < Try.prog.types.size)) = true := by kernel_rfl
  intro t ht
  have := List.all_eq_true.1 h t ht
  simpa using this
theorem ptys : ([0] : List Nat).map (tauOf taus) = Try.f3.params.toList := by kernel_rfl

mutual
theorem ub1 {H : Type} : ∀ d : DataW H, Rows.uptoBulk d = bulkD d
  | .lit l => by cases l <;> rfl
  | .nil => rfl
  | .ptr d => by rw [Rows.uptoBulk, bulkD, ub1 d]
  | .slice a b => by rw [Rows.uptoBulk, bulkD, ub2 a, ub2 b]
  | .agg a => by rw [Rows.uptoBulk, bulkD, ub2 a]
  | .iface _ d => by rw [Rows.uptoBulk, bulkD, ub1 d]
  | .map a => by rw [Rows.uptoBulk, bulkD, ub3 a]
  | .held _ => rfl
theorem ub2 {H : Type} : ∀ l : List (DataW H), Rows.uptoBulkAll l = bulkAll l
  | [] => rfl
  | d :: r => by rw [Rows.uptoBulkAll, bulkAll, ub1 d, ub2 r]
theorem ub3 {H : Type} : ∀ l : List (Lit × DataW H), Rows.uptoBulkEntries l = bulkEntries l
  | [] => rfl
  | x :: r => by rw [Rows.uptoBulkEntries, bulkEntries, ub4 x, ub3 r]
theorem ub4 {H : Type} : ∀ x : Lit × DataW H, Rows.uptoBulkEntry x = bulkEntry x
  | (l, d) => by cases l <;> simp only [Rows.uptoBulkEntry, bulkEntry, ub1 d]
end

theorem fns (n : Nat) (c : AFun) (h : Hm.look sf n = some c := by rfl) : Hm.Fn (tabOf sf []) n c := ⟨rfl, h, by simp only [tabOf, h]⟩

theorem answers (xs : List AV) (h : HasAs (tsOf tds) [0] xs) (hb : bkRow xs ≤ 1048576) : Hm.Ret (tabOf sf []) F.hallmarklaw09_ShapeHeight (xs.map .val) ⟨[([.av (.bool true)], false)], []⟩ := by
  obtain ⟨a, r, rfl, ha, h⟩ := h.inv
  obtain rfl := h.nil_inv
  obtain ⟨v, rfl, hv⟩ := Ty.of_arg (tb := 1) (tsps := 2) (tsp := 3) (ts := 4) (tss := 5) (tas := 6) (ta := 7) (ti := 8) (tos := 9) (to := 10) (tts := 11) (tbs := 12) ⟨rfl, rfl, rfl, rfl, rfl, rfl, rfl, rfl, rfl, rfl, rfl, rfl, rfl, rfl, rfl, rfl, rfl, rfl, rfl⟩ ha
  simp only [bkRow, hv] at hb
  exact ShapeHeight_ret (fns _ _) (fns _ _) (fns _ _) (fns _ _) (fns _ _) (fns _ _) (fns _ _) (fns _ _) (fns _ _) (fns _ _) (fns _ _) (fns _ _) (fns _ _) (fns _ _) (fns _ _) (fns _ _) (fns _ _) (fns _ _) (fns _ _) (fns _ _) (fns _ _) v (by omega)

theorem contract (H : Type) (enc : TypeId × Value → H) (W : World) (base : Nat) (args : Array Value) (ds gs : List (DataW H)) (before : List MemPlace)
    (hval : ∀ (j : Nat) t v, Try.f3.params[j]? = some t → args[j]? = some v → Value.okWide Try.prog W .any base t v)
    (hW : DataW.Whole enc Try.prog Try.f3.params.toList Rows.shapeHeightSpec.vars false W args.toList ds gs before) (hk : Rows.uptoSmall H (ds ++ gs) = true) :
    Calls Try.prog 3 args W fun e W' => ∃ v, e = .returned v ∧ Rows.shapeHeightSpec.post enc Try.prog Try.f3 false true false false W args v W' := by
  have hW0 := hW
  obtain ⟨p, q, hA, hV, rfl, hfz, hnd⟩ := hW
  rw [← ptys] at hA
  obtain ⟨xs, a1, a2, a3⟩ := args_has (N := nm) (okTy_all okT) (refs_struct okR) (refs_slice okR) (b := base) (r := .any) (by decide) (fun j t v ht hv => by
    rw [ptys] at ht
    exact hval j t v (by simpa using ht) (by simpa using hv)) hA
  obtain ⟨rfl, rfl⟩ := trodVars_none hV
  have hbulk : bkRow xs ≤ 1048576 := by
    have h1 := of_decide_eq_true hk
    rw [List.append_nil, ub2] at h1
    exact Nat.le_trans a3 h1
  obtain ⟨n, hn⟩ := (answers xs a1 hbulk).out
  refine (law_call lk hn a2 (by simp [nm])).mono fun e W' ⟨he, hb⟩ => ?_
  refine ⟨_, he, law_post (tb := 4) laid readable Try.underlying4 (by kernel_rfl) rfl hW0 ?_ hb⟩
  have hl : ds.length = 1 := by
    have h1 := trodAll_len hA
    simpa using h1
  match ds, hl with
  | [d0], _ => rfl

set_option maxRecDepth 100000 in
theorem lifted (os : Os) (started : os.Started) (H : Type) (enc : TypeId × Value → H) (F : Stop.Interp) :
    ReturnsInHanded {} Try.checked os 3 .any ((Rows.OpenSpec.upto Rows.shapeHeightSpec).pre6 enc Try.prog Try.f3 Rows.shapeHeightUptoRow.domain false) (((Rows.OpenSpec.upto Rows.shapeHeightSpec).at F).post enc Try.prog Try.f3 false true false false) := by
  refine returnsInHanded_of_cond (C := Try.checked) (s := Rows.OpenSpec.upto Rows.shapeHeightSpec) (k := Rows.uptoSmall) rfl own started (by kernel_rfl) Try.func3
    (OpenSpec.witness (enc := enc) (C := Try.checked) (s := Rows.OpenSpec.upto Rows.shapeHeightSpec) (k := Rows.uptoSmall) rfl false ⟨#[], #[.agg #[.bool false, .bool false, .bool false, .bool false, .slice none 0 0, .bool false, .slice none 0 0, .slice none 0 0, .slice none 0 0]], []⟩ 8 (by kernel_rfl) (by kernel_rfl) (by kernel_rfl)
      (x := ([.agg [.lit (.bool false), .lit (.bool false), .lit (.bool false), .lit (.bool false), .nil, .lit (.bool false), .nil, .nil, .nil]], [], [])) (by kernel_rfl) rfl (by kernel_rfl)) ?_
  intro W base args ds gs before hval hW _ hk _
  exact contract H enc W base args ds gs before hval hW hk

theorem over : Rows.shapeHeightUptoRow.holds Try.pinned (Rows.OpenSpec.upto Rows.shapeHeightSpec) :=
  OpenClaim.holds_of_cond 3 Try.f3 rfl rfl rfl rfl rfl rfl rfl ⟨rfl, rfl, rfl, rfl, rfl⟩ rfl rfl rfl rfl rfl (by kernel_rfl) Try.func3 (by kernel_rfl)
    (of_decide_eq_true (by kernel_rfl)) (by unfold Func.isWrapper; first | (rw [if_pos (by decide +kernel)]; kernel_rfl) | (rw [if_neg (by decide +kernel)]; exact ⟨rfl, rfl⟩))
    (fun os started H enc _ F => lifted os started H enc F)

theorem proved : Rows.ShapeHeightUptoSaid :=
  over
end Go.Proofs.Ytkjppfdcnfiaeaa.hHeight
#print axioms Go.Proofs.Ytkjppfdcnfiaeaa.hHeight.proved
