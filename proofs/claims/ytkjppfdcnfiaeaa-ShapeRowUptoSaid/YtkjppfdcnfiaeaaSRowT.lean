/-
  ShapeRow: whatever three types are given (together of bulk at most 1048576), the law answers true and its arguments read as before. Conditions: none but the statement's own.
-/
import Derived.Test.YtkjppfdcnfiaeaaRows
import Derived.Test.YtkjppfdcnfiaeaaHD
import Derived.Test.YtkjppfdcnfiaeaaGRowT
import Derived.WalkKit
import Derived.ProofKit
import Derived.OpenShut
import Derived.JoinedCond
namespace Go.Proofs.Ytkjppfdcnfiaeaa.hRowT
open Go.ChangeShapes Go.WideShapes Go.ChangeAt Go.RowKit Hm
set_option linter.unusedVariables false
set_option linter.unnecessarySimpa false
set_option linter.unusedSimpArgs false

def fl : List (Nat × Nat) := [(F.hallmarkref03_Number, 46), (F.hallmarkref03_UTF, 31), (F.hallmarkref03_Rise, 13), (F.cmp_Compare_int, 38), (F.hallmarkref03_width, 45), (F.tens_Cmp, 54), (F.slices_Compare_Lstring_string, 22), (F.cmp_Or_int, 18), (F.cmp_isNaN_int, 50), (F.hallmarkref03_trail, 53), (F.tens_Formed, 55), (F.tens_split, 56), (F.tens_size, 57), (F.cmp_Compare_string, 37), (F.cmp_isNaN_string, 49), (F.hallmarkref03_Numbers, 33), (F.hallmarkref03_Texts, 47), (F.hallmarkkit_FitType, 6), (F.hallmarkref09_Formed, 7), (F.hallmarklaw09_ShapeRow, 4), (F.shape_Cmp, 9), (F.hallmarkkit_SameType, 10), (F.hallmarkkit_typeParts, 11), (F.hallmarkref09_Bare, 12), (F.hallmarkref09_Spans, 14), (F.hallmarkref09_arrays, 15), (F.hallmarkref09_objects, 16), (F.shape_truth, 19), (F.slices_CompareFunc_LSpan_LSpan_Span_Span, 20), (F.shape_span, 21), (F.slices_CompareFunc_LArr_LArr_Arr_Arr, 23), (F.shape_arr, 24), (F.slices_CompareFunc_LObj_LObj_Obj_Obj, 25), (F.shape_obj, 26), (F.hallmarkkit_SameSpans, 27), (F.hallmarkkit_SameStrings, 28), (F.hallmarkkit_SameArrs, 29), (F.hallmarkkit_SameObjs, 30), (F.hallmarkref09_bound, 32), (F.hallmarkref09_Never, 34), (F.hallmarkref09_object, 35), (F.shape_bound, 36), (F.shape_most, 39), (F.slices_CompareFunc_Lbool_Lbool_bool_bool, 40), (F.slices_CompareFunc_LType_LType_Type_Type, 41), (F.hallmarkkit_SameSpan, 42), (F.hallmarkkit_SameArr, 43), (F.hallmarkkit_SameObj, 44), (F.shape_worth, 48), (F.hallmarkkit_SameTypes, 51), (F.hallmarkkit_SameBools, 52)]
def nm : Nm := ⟨fun f => (Hm.look fl f).getD 0, fun _ => 0, []⟩
def sf : List (Nat × AFun) := [(F.hallmarkref03_Number, hallmarkref03_Number.fn), (F.hallmarkref03_UTF, hallmarkref03_UTF.fn), (F.hallmarkref03_Rise, hallmarkref03_Rise.fn), (F.cmp_Compare_int, cmp_Compare_int.fn), (F.hallmarkref03_width, hallmarkref03_width.fn), (F.tens_Cmp, tens_Cmp.fn), (F.slices_Compare_Lstring_string, slices_Compare_Lstring_string.fn), (F.cmp_Or_int, cmp_Or_int.fn), (F.cmp_isNaN_int, cmp_isNaN_int.fn), (F.hallmarkref03_trail, hallmarkref03_trail.fn), (F.tens_Formed, tens_Formed.fn), (F.tens_split, tens_split.fn), (F.tens_size, tens_size.fn), (F.cmp_Compare_string, cmp_Compare_string.fn), (F.cmp_isNaN_string, cmp_isNaN_string.fn), (F.hallmarkref03_Numbers, hallmarkref03_Numbers.fn), (F.hallmarkref03_Texts, hallmarkref03_Texts.fn), (F.hallmarkkit_FitType, hallmarkkit_FitType.fn), (F.hallmarkref09_Formed, hallmarkref09_Formed.fn), (F.hallmarklaw09_ShapeRow, hallmarklaw09_ShapeRow.fn), (F.shape_Cmp, shape_Cmp.fn), (F.hallmarkkit_SameType, hallmarkkit_SameType.fn), (F.hallmarkkit_typeParts, hallmarkkit_typeParts.fn), (F.hallmarkref09_Bare, hallmarkref09_Bare.fn), (F.hallmarkref09_Spans, hallmarkref09_Spans.fn), (F.hallmarkref09_arrays, hallmarkref09_arrays.fn), (F.hallmarkref09_objects, hallmarkref09_objects.fn), (F.shape_truth, shape_truth.fn), (F.slices_CompareFunc_LSpan_LSpan_Span_Span, slices_CompareFunc_LSpan_LSpan_Span_Span.fn), (F.shape_span, shape_span.fn), (F.slices_CompareFunc_LArr_LArr_Arr_Arr, slices_CompareFunc_LArr_LArr_Arr_Arr.fn), (F.shape_arr, shape_arr.fn), (F.slices_CompareFunc_LObj_LObj_Obj_Obj, slices_CompareFunc_LObj_LObj_Obj_Obj.fn), (F.shape_obj, shape_obj.fn), (F.hallmarkkit_SameSpans, hallmarkkit_SameSpans.fn), (F.hallmarkkit_SameStrings, hallmarkkit_SameStrings.fn), (F.hallmarkkit_SameArrs, hallmarkkit_SameArrs.fn), (F.hallmarkkit_SameObjs, hallmarkkit_SameObjs.fn), (F.hallmarkref09_bound, hallmarkref09_bound.fn), (F.hallmarkref09_Never, hallmarkref09_Never.fn), (F.hallmarkref09_object, hallmarkref09_object.fn), (F.shape_bound, shape_bound.fn), (F.shape_most, shape_most.fn), (F.slices_CompareFunc_Lbool_Lbool_bool_bool, slices_CompareFunc_Lbool_Lbool_bool_bool.fn), (F.slices_CompareFunc_LType_LType_Type_Type, slices_CompareFunc_LType_LType_Type_Type.fn), (F.hallmarkkit_SameSpan, hallmarkkit_SameSpan.fn), (F.hallmarkkit_SameArr, hallmarkkit_SameArr.fn), (F.hallmarkkit_SameObj, hallmarkkit_SameObj.fn), (F.shape_worth, shape_worth.fn), (F.hallmarkkit_SameTypes, hallmarkkit_SameTypes.fn), (F.hallmarkkit_SameBools, hallmarkkit_SameBools.fn)]
def tds : List (TD × Nat) := [(.struct [1, 1, 1, 1, 2, 1, 5, 6, 9], 9), (.bool, 1), (.slice 3, 1), (.struct [4, 4], 2), (.str, 1), (.slice 4, 1), (.slice 7, 1), (.struct [0, 8, 8], 11), (.int .i64, 1), (.slice 10, 1), (.struct [5, 11, 12, 0], 12), (.slice 0, 1), (.slice 1, 1)]
def taus : List Nat := [27, 4, 22, 49, 9, 23, 24, 38, 3, 25, 32, 29, 30]
theorem okF : okFns Try.prog nm sf = true := by kernel_rfl
theorem okT : ((List.range tds.length).all fun i => okTy Try.prog (tauOf taus) (tsOf tds) i) = true := by kernel_rfl
theorem okR : (tds.all fun x => refsOk tds.length x.1) = true := by kernel_rfl
theorem mixed : Try.prog.follows .mixedOrders = true := by kernel_rfl
def pr : List (Nat × (List PMode × (List Arg → Option CR))) := []
theorem lk : Linked Try.prog nm (tabOf sf pr) := Hm.linked mixed okF (by simp [pr])
theorem fn0 (n : Nat) (c : AFun) (h : Hm.look sf n = some c := by rfl) (h0 : Hm.look pr n = none := by rfl) : Hm.Fn (tabOf sf pr) n c := ⟨by simp only [tabOf, h0]; rfl, h, by simp only [tabOf, h]⟩
theorem own : ownKnob Try.prog.godebug = none := by kernel_rfl
theorem laid : laidOutB Try.prog = true := by kernel_rfl
theorem readable : ∀ t ∈ Try.f4.params.toList, Try.prog.readableRec t = true ∧ t < Try.prog.types.size := by
  have h : (Try.f4.params.toList.all fun t => Try.prog.readableRec t && decide (t < Try.prog.types.size)) = true := by kernel_rfl
  intro t ht
  have := List.all_eq_true.1 h t ht
  simpa using this
theorem ptys : ([0, 0, 0] : List Nat).map (tauOf taus) = Try.f4.params.toList := by kernel_rfl

mutual
theorem ub1 {H : Type} : ∀ d : DataW H, Rows.uptoBulk d = bulkD d
  | .lit l => by cases l <;> rfl
  | .nil => rfl
  | .ptr d => by rw [Rows.uptoBulk, bulkD, ub1 d]
  | .slice a b => by rw [Rows.uptoBulk, bulkD, ub2 a, ub2 b]
  | .agg a => by rw [Rows.uptoBulk, bulkD, ub2 a]
  | .iface _ d => by rw [Rows.uptoBulk, bulkD, ub1 d]
  | .map a => by rw [Rows.uptoBulk, bulkD, ub3 a]
  | .held _ => rfl
theorem ub2 {H : Type} : ∀ l : List (DataW H), Rows.uptoBulkAll l = bulkAll l
  | [] => rfl
  | d :: r => by rw [Rows.uptoBulkAll, bulkAll, ub1 d, ub2 r]
theorem ub3 {H : Type} : ∀ l : List (Lit × DataW H), Rows.uptoBulkEntries l = bulkEntries l
  | [] => rfl
  | x :: r => by rw [Rows.uptoBulkEntries, bulkEntries, ub4 x, ub3 r]
theorem ub4 {H : Type} : ∀ x : Lit × DataW H, Rows.uptoBulkEntry x = bulkEntry x
  | (l, d) => by cases l <;> simp only [Rows.uptoBulkEntry, bulkEntry, ub1 d]
end

theorem answers (xs : List AV) (h : HasAs (tsOf tds) [0, 0, 0] xs) (hb : bkRow xs ≤ 1048576) : Hm.Ret (tabOf sf pr) F.hallmarklaw09_ShapeRow (xs.map .val) ⟨[([.av (.bool true)], false)], []⟩ := by
  obtain ⟨a, r, rfl, ha, h⟩ := h.inv
  obtain ⟨b, r, rfl, hb', h⟩ := h.inv
  obtain ⟨c, r, rfl, hc, h⟩ := h.inv
  obtain rfl := h.nil_inv
  obtain ⟨a, rfl, h1⟩ := Ty.of_arg (tb := 1) (tsps := 2) (tsp := 3) (ts := 4) (tss := 5) (tas := 6) (ta := 7) (ti := 8) (tos := 9) (to := 10) (tts := 11) (tbs := 12) ⟨rfl, rfl, rfl, rfl, rfl, rfl, rfl, rfl, rfl, rfl, rfl, rfl, rfl, rfl, rfl, rfl, rfl, rfl, rfl⟩ ha
  obtain ⟨b, rfl, h2⟩ := Ty.of_arg (tb := 1) (tsps := 2) (tsp := 3) (ts := 4) (tss := 5) (tas := 6) (ta := 7) (ti := 8) (tos := 9) (to := 10) (tts := 11) (tbs := 12) ⟨rfl, rfl, rfl, rfl, rfl, rfl, rfl, rfl, rfl, rfl, rfl, rfl, rfl, rfl, rfl, rfl, rfl, rfl, rfl⟩ hb'
  obtain ⟨c, rfl, h3⟩ := Ty.of_arg (tb := 1) (tsps := 2) (tsp := 3) (ts := 4) (tss := 5) (tas := 6) (ta := 7) (ti := 8) (tos := 9) (to := 10) (tts := 11) (tbs := 12) ⟨rfl, rfl, rfl, rfl, rfl, rfl, rfl, rfl, rfl, rfl, rfl, rfl, rfl, rfl, rfl, rfl, rfl, rfl, rfl⟩ hc
  simp only [bkRow, h1, h2, h3] at hb
  exact ShapeRow_ret (fn0 _ _) ⟨fn0 _ _, fn0 _ _, fn0 _ _, fn0 _ _, fn0 _ _, fn0 _ _, fn0 _ _, fn0 _ _, fn0 _ _, fn0 _ _, fn0 _ _, fn0 _ _, fn0 _ _, fn0 _ _, fn0 _ _, fn0 _ _, fn0 _ _, fn0 _ _, fn0 _ _, fn0 _ _, fn0 _ _, fn0 _ _, fn0 _ _⟩ ⟨fn0 _ _, fn0 _ _, fn0 _ _, fn0 _ _, fn0 _ _, fn0 _ _, fn0 _ _, fn0 _ _, fn0 _ _, fn0 _ _⟩ (fn0 _ _) (fn0 _ _) (fn0 _ _) (fn0 _ _) (fn0 _ _) (fn0 _ _) (fn0 _ _) (fn0 _ _) (fn0 _ _) (fn0 _ _) (fn0 _ _) (fn0 _ _) (fn0 _ _) (fn0 _ _) (fn0 _ _) (fn0 _ _) (fn0 _ _) a b c (by omega) (by omega) (by omega)

set_option maxRecDepth 100000 in
theorem contract (H : Type) (enc : TypeId × Value → H) (W : World) (base : Nat) (args : Array Value) (ds gs : List (DataW H)) (before : List MemPlace)
    (hval : ∀ (j : Nat) t v, Try.f4.params[j]? = some t → args[j]? = some v → Value.okWide Try.prog W .any base t v)
    (hW : DataW.Whole enc Try.prog Try.f4.params.toList Rows.shapeRowSpec.vars false W args.toList ds gs before) (hk : Rows.uptoSmall H (ds ++ gs) = true) :
    Calls Try.prog 4 args W fun e W' => ∃ v, e = .returned v ∧ Rows.shapeRowSpec.post enc Try.prog Try.f4 false true false false W args v W' := by
  have hW0 := hW
  obtain ⟨p, q, hA, hV, rfl, hfz, hnd⟩ := hW
  rw [← ptys] at hA
  obtain ⟨xs, a1, a2, a3⟩ := args_has (N := nm) (okTy_all okT) (refs_struct okR) (refs_slice okR) (b := base) (r := .any) (by decide) (fun j t v ht hv => by
    rw [ptys] at ht
    exact hval j t v (by simpa using ht) (by simpa using hv)) hA
  obtain ⟨rfl, rfl⟩ := trodVars_none hV
  have hbulk : bkRow xs ≤ 1048576 := by
    have h1 := of_decide_eq_true hk
    rw [List.append_nil, ub2] at h1
    exact Nat.le_trans a3 h1
  obtain ⟨n, hn⟩ := (answers xs a1 hbulk).out
  refine (law_call lk hn a2 (by simp [nm])).mono fun e W' ⟨he, hb⟩ => ?_
  refine ⟨_, he, law_post (tb := 4) laid readable Try.underlying4 (by kernel_rfl) rfl hW0 ?_ hb⟩
  have hl : ds.length = 3 := by
    have h1 := trodAll_len hA
    simpa using h1
  match ds, hl with
  | [d0, d1, d2], _ => rfl

set_option maxRecDepth 100000 in
theorem lifted (os : Os) (started : os.Started) (H : Type) (enc : TypeId × Value → H) (F : Stop.Interp) :
    ReturnsInHanded {} Try.checked os 4 .any ((Rows.OpenSpec.upto Rows.shapeRowSpec).pre6 enc Try.prog Try.f4 Rows.shapeRowUptoRow.domain false) (((Rows.OpenSpec.upto Rows.shapeRowSpec).at F).post enc Try.prog Try.f4 false true false false) := by
  refine returnsInHanded_of_cond (C := Try.checked) (s := Rows.OpenSpec.upto Rows.shapeRowSpec) (k := Rows.uptoSmall) rfl own started (by kernel_rfl) Try.func4
    (OpenSpec.witness (enc := enc) (C := Try.checked) (s := Rows.OpenSpec.upto Rows.shapeRowSpec) (k := Rows.uptoSmall) rfl false ⟨#[], #[.agg #[.bool false, .bool false, .bool false, .bool false, .slice none 0 0, .bool false, .slice none 0 0, .slice none 0 0, .slice none 0 0], .agg #[.bool false, .bool false, .bool false, .bool false, .slice none 0 0, .bool false, .slice none 0 0, .slice none 0 0, .slice none 0 0], .agg #[.bool false, .bool false, .bool false, .bool false, .slice none 0 0, .bool false, .slice none 0 0, .slice none 0 0, .slice none 0 0]], []⟩ 8 (by kernel_rfl) (by kernel_rfl) (by kernel_rfl)
      (x := ([.agg [.lit (.bool false), .lit (.bool false), .lit (.bool false), .lit (.bool false), .nil, .lit (.bool false), .nil, .nil, .nil], .agg [.lit (.bool false), .lit (.bool false), .lit (.bool false), .lit (.bool false), .nil, .lit (.bool false), .nil, .nil, .nil], .agg [.lit (.bool false), .lit (.bool false), .lit (.bool false), .lit (.bool false), .nil, .lit (.bool false), .nil, .nil, .nil]], [], [])) (by kernel_rfl) rfl (by kernel_rfl)) ?_
  intro W base args ds gs before hval hW _ hk _
  exact contract H enc W base args ds gs before hval hW hk

theorem over : Rows.shapeRowUptoRow.holds Try.pinned (Rows.OpenSpec.upto Rows.shapeRowSpec) :=
  OpenClaim.holds_of_cond 4 Try.f4 rfl rfl rfl rfl rfl rfl rfl ⟨rfl, rfl, rfl, rfl, rfl⟩ rfl rfl rfl rfl rfl (by kernel_rfl) Try.func4 (by kernel_rfl)
    (of_decide_eq_true (by kernel_rfl)) (by unfold Func.isWrapper; first | (rw [if_pos (by decide +kernel)]; kernel_rfl) | (rw [if_neg (by decide +kernel)]; exact ⟨rfl, rfl⟩))
    (fun os started H enc _ F => lifted os started H enc F)

theorem proved : Rows.ShapeRowUptoSaid :=
  over
end Go.Proofs.Ytkjppfdcnfiaeaa.hRowT
#print axioms Go.Proofs.Ytkjppfdcnfiaeaa.hRowT.proved
