/-
  ShapeOnly: whatever two values are given (together of bulk at most 1048576), the law answers true and its arguments read as before; its row lists two tables of unicode/utf8, tied to the text. Conditions: none but the statement's own.
-/
import Derived.Test.YtkjppfdcnfiaeaaDoorCards
import Derived.Test.YtkjppfdcnfiaeaaDoorTie
import Derived.Test.YtkjppfdcnfiaeaaDoorHD
import Derived.Test.YtkjppfdcnfiaeaaDoorGOnlyT
import Derived.WalkKit
import Derived.ProofKit
import Derived.OpenShut
import Derived.JoinedCond
import Derived.Deep.DeepHandedRow
import Derived.Lib.LaidTab
namespace Go.Proofs.YtkjppfdcnfiaeaaDoor.hOnlyT
open Go.ChangeShapes Go.WideShapes Go.ChangeAt Go.RowKit Hm
set_option linter.unusedVariables false
set_option linter.unnecessarySimpa false
set_option linter.unusedSimpArgs false

def fl : List (Nat × Nat) := [(F.hallmarkref03_Formed, 16), (F.hallmarkref03_Depth, 17), (F.hallmarkref03_Like, 19), (F.hallmarkref03_Number, 48), (F.hallmarkref03_UTF, 49), (F.hallmarkref03_Rise, 40), (F.hallmarkref03_All, 50), (F.cmp_Compare_int, 100), (F.hallmarkref03_width, 93), (F.tens_Cmp, 116), (F.slices_Compare_Lstring_string, 62), (F.cmp_Or_int, 58), (F.cmp_isNaN_int, 115), (F.hallmarkref03_trail, 113), (F.tens_Formed, 75), (F.tens_split, 119), (F.tens_size, 120), (F.cmp_Compare_string, 99), (F.cmp_isNaN_string, 114), (F.value_Formed, 32), (F.value_empty, 74), (F.utf_Valid, 76), (F.value_allFormed, 77), (F.value_rise, 78), (F.hallmarkref03_Get, 91), (F.hallmarkref03_Numbers, 88), (F.hallmarkref03_Texts, 96), (F.unicode_utf8_ValidString, 108), (F.slices_ContainsFunc_LValue_Value, 109), (F.value_allFormed_S1, 110), (F.slices_IndexFunc_LValue_Value, 118), (F.unicode_utf8_word_string, 117), (F.hallmarkref09_Formed, 13), (F.hallmarkref09_Height, 15), (F.shape_Cmp, 22), (F.hallmarkkit_SameType, 12), (F.hallmarkref09_Bare, 39), (F.hallmarkref09_Spans, 41), (F.hallmarkref09_arrays, 42), (F.hallmarkref09_objects, 43), (F.hallmarkref09_higher, 47), (F.shape_truth, 59), (F.slices_CompareFunc_LSpan_LSpan_Span_Span, 60), (F.shape_span, 61), (F.slices_CompareFunc_LArr_LArr_Arr_Arr, 63), (F.shape_arr, 64), (F.slices_CompareFunc_LObj_LObj_Obj_Obj, 65), (F.shape_obj, 66), (F.hallmarkkit_SameSpans, 35), (F.hallmarkkit_SameStrings, 36), (F.hallmarkkit_SameArrs, 37), (F.hallmarkkit_SameObjs, 38), (F.hallmarkref09_bound, 87), (F.hallmarkref09_Never, 89), (F.hallmarkref09_object, 90), (F.shape_bound, 98), (F.shape_most, 101), (F.slices_CompareFunc_Lbool_Lbool_bool_bool, 102), (F.slices_CompareFunc_LType_LType_Type_Type, 103), (F.hallmarkkit_SameSpan, 84), (F.hallmarkkit_SameArr, 85), (F.hallmarkkit_SameObj, 86), (F.shape_worth, 105), (F.hallmarkkit_SameTypes, 111), (F.hallmarkkit_SameBools, 112), (F.hallmarklaw09_lives, 8), (F.hallmarklaw09_small, 9), (F.shape_Of, 10), (F.hallmarkref09_In, 14), (F.hallmarklaw09_ShapeOnly, 4), (F.hallmarklaw09_plain, 18), (F.shape_Same, 23), (F.shape_OfKinds, 24), (F.shape_Never, 29), (F.shape_Every, 30), (F.hallmarkkit_Fit, 31), (F.shape_near, 33), (F.hallmarkref09_InSpan, 44), (F.hallmarkref09_inArr, 45), (F.hallmarkref09_InObj, 46), (F.shape_OfKinds_S1, 67), (F.hallmarkkit_PartsOf, 73), (F.shape_nearItem, 79), (F.shape_ofItems, 80), (F.hallmarkref09_Has, 92), (F.slices_Clone_Lstring_string, 81)]
def tl : List (Nat × Nat) := []
def gA : Nat := 1
def gF : Nat := 0
def nm : Nm := ⟨fun f => (Hm.look fl f).getD 0, fun t => (Hm.look tl t).getD 0, [(.vptr (zavs accZ), .pointer (some ⟨gA, 0, none⟩)), (.vptr (zavs firZ), .pointer (some ⟨gF, 0, none⟩))]⟩
def sf : List (Nat × AFun) := [(F.hallmarkref03_Formed, hallmarkref03_Formed.fn), (F.hallmarkref03_Depth, hallmarkref03_Depth.fn), (F.hallmarkref03_Like, hallmarkref03_Like.fn), (F.hallmarkref03_Number, hallmarkref03_Number.fn), (F.hallmarkref03_UTF, hallmarkref03_UTF.fn), (F.hallmarkref03_Rise, hallmarkref03_Rise.fn), (F.hallmarkref03_All, hallmarkref03_All.fn), (F.cmp_Compare_int, cmp_Compare_int.fn), (F.hallmarkref03_width, hallmarkref03_width.fn), (F.tens_Cmp, tens_Cmp.fn), (F.slices_Compare_Lstring_string, slices_Compare_Lstring_string.fn), (F.cmp_Or_int, cmp_Or_int.fn), (F.cmp_isNaN_int, cmp_isNaN_int.fn), (F.hallmarkref03_trail, hallmarkref03_trail.fn), (F.tens_Formed, tens_Formed.fn), (F.tens_split, tens_split.fn), (F.tens_size, tens_size.fn), (F.cmp_Compare_string, cmp_Compare_string.fn), (F.cmp_isNaN_string, cmp_isNaN_string.fn), (F.value_Formed, value_Formed.fn), (F.value_empty, value_empty.fn), (F.utf_Valid, utf_Valid.fn), (F.value_allFormed, value_allFormed.fn), (F.value_rise, value_rise.fn), (F.hallmarkref03_Get, hallmarkref03_Get.fn), (F.hallmarkref03_Numbers, hallmarkref03_Numbers.fn), (F.hallmarkref03_Texts, hallmarkref03_Texts.fn), (F.unicode_utf8_ValidString, unicode_utf8_ValidString.fn), (F.slices_ContainsFunc_LValue_Value, slices_ContainsFunc_LValue_Value.fn), (F.value_allFormed_S1, value_allFormed_S1.fn), (F.slices_IndexFunc_LValue_Value, slices_IndexFunc_LValue_Value.fn), (F.unicode_utf8_word_string, unicode_utf8_word_string.fn), (F.hallmarkref09_Formed, hallmarkref09_Formed.fn), (F.hallmarkref09_Height, hallmarkref09_Height.fn), (F.shape_Cmp, shape_Cmp.fn), (F.hallmarkkit_SameType, hallmarkkit_SameType.fn), (F.hallmarkref09_Bare, hallmarkref09_Bare.fn), (F.hallmarkref09_Spans, hallmarkref09_Spans.fn), (F.hallmarkref09_arrays, hallmarkref09_arrays.fn), (F.hallmarkref09_objects, hallmarkref09_objects.fn), (F.hallmarkref09_higher, hallmarkref09_higher.fn), (F.shape_truth, shape_truth.fn), (F.slices_CompareFunc_LSpan_LSpan_Span_Span, slices_CompareFunc_LSpan_LSpan_Span_Span.fn), (F.shape_span, shape_span.fn), (F.slices_CompareFunc_LArr_LArr_Arr_Arr, slices_CompareFunc_LArr_LArr_Arr_Arr.fn), (F.shape_arr, shape_arr.fn), (F.slices_CompareFunc_LObj_LObj_Obj_Obj, slices_CompareFunc_LObj_LObj_Obj_Obj.fn), (F.shape_obj, shape_obj.fn), (F.hallmarkkit_SameSpans, hallmarkkit_SameSpans.fn), (F.hallmarkkit_SameStrings, hallmarkkit_SameStrings.fn), (F.hallmarkkit_SameArrs, hallmarkkit_SameArrs.fn), (F.hallmarkkit_SameObjs, hallmarkkit_SameObjs.fn), (F.hallmarkref09_bound, hallmarkref09_bound.fn), (F.hallmarkref09_Never, hallmarkref09_Never.fn), (F.hallmarkref09_object, hallmarkref09_object.fn), (F.shape_bound, shape_bound.fn), (F.shape_most, shape_most.fn), (F.slices_CompareFunc_Lbool_Lbool_bool_bool, slices_CompareFunc_Lbool_Lbool_bool_bool.fn), (F.slices_CompareFunc_LType_LType_Type_Type, slices_CompareFunc_LType_LType_Type_Type.fn), (F.hallmarkkit_SameSpan, hallmarkkit_SameSpan.fn), (F.hallmarkkit_SameArr, hallmarkkit_SameArr.fn), (F.hallmarkkit_SameObj, hallmarkkit_SameObj.fn), (F.shape_worth, shape_worth.fn), (F.hallmarkkit_SameTypes, hallmarkkit_SameTypes.fn), (F.hallmarkkit_SameBools, hallmarkkit_SameBools.fn), (F.hallmarklaw09_lives, hallmarklaw09_lives.fn), (F.hallmarklaw09_small, hallmarklaw09_small.fn), (F.shape_Of, shape_Of.fn), (F.hallmarkref09_In, hallmarkref09_In.fn), (F.hallmarklaw09_ShapeOnly, hallmarklaw09_ShapeOnly.fn), (F.hallmarklaw09_plain, hallmarklaw09_plain.fn), (F.shape_Same, shape_Same.fn), (F.shape_OfKinds, shape_OfKinds.fn), (F.shape_Never, shape_Never.fn), (F.shape_Every, shape_Every.fn), (F.hallmarkkit_Fit, hallmarkkit_Fit.fn), (F.shape_near, shape_near.fn), (F.hallmarkref09_InSpan, hallmarkref09_InSpan.fn), (F.hallmarkref09_inArr, hallmarkref09_inArr.fn), (F.hallmarkref09_InObj, hallmarkref09_InObj.fn), (F.shape_OfKinds_S1, shape_OfKinds_S1.fn), (F.hallmarkkit_PartsOf, hallmarkkit_PartsOf.fn), (F.shape_nearItem, shape_nearItem.fn), (F.shape_ofItems, shape_ofItems.fn), (F.hallmarkref09_Has, hallmarkref09_Has.fn)]
def tds : List (TD × Nat) := [(.struct [1, 2, 2, 3, 4], 5), (.int .i64, 1), (.str, 1), (.slice 0, 1), (.slice 2, 1)]
def taus : List Nat := [25, 3, 9, 22, 23]
theorem okF : okFns Tryd.prog nm sf = true := by kernel_rfl
theorem okT : ((List.range tds.length).all fun i => okTy Tryd.prog (tauOf taus) (tsOf tds) i) = true := by kernel_rfl
theorem okR : (tds.all fun x => refsOk tds.length x.1) = true := by kernel_rfl
theorem mixed : Tryd.prog.follows .mixedOrders = true := by kernel_rfl
theorem okC_slices_Clone_Lstring_string : okFns Tryd.prog nm [(F.slices_Clone_Lstring_string, slices_Clone_Lstring_string.fn)] = true := by kernel_rfl
theorem mc_slices_Clone_Lstring_string : ∀ ys cr, pClone 1 ys = some cr → Meets Tryd.prog nm F.slices_Clone_Lstring_string ys cr :=
  meets_clone (Hm.linked mixed okC_slices_Clone_Lstring_string (by simp)) (fun rows hne hl => slices_Clone_Lstring_string_ret ⟨rfl, rfl, rfl⟩ rows hne hl) (fun nn => slices_Clone_Lstring_string_emp ⟨rfl, rfl, rfl⟩ nn)
def pr : List (Nat × (List PMode × (List Arg → Option CR))) := [(F.slices_Clone_Lstring_string, ([.val], pClone 1))]
theorem lk : Linked Tryd.prog nm (tabOf sf pr) := Hm.linked mixed okF (by
  intro x hx
  simp only [pr, List.mem_cons, List.not_mem_nil, or_false] at hx
  rcases hx with rfl
  · exact ⟨⟨Tryd.f81, Tryd.func81, by kernel_rfl, by kernel_rfl⟩, mc_slices_Clone_Lstring_string⟩)
theorem fn0 (n : Nat) (c : AFun) (h : Hm.look sf n = some c := by rfl) (h0 : Hm.look pr n = none := by rfl) : Hm.Fn (tabOf sf pr) n c := ⟨by simp only [tabOf, h0]; rfl, h, by simp only [tabOf, h]⟩
theorem own : ownKnob Tryd.prog.godebug = none := by kernel_rfl
theorem laid : laidOutB Tryd.prog = true := by kernel_rfl
theorem readable : ∀ t ∈ Tryd.f4.params.toList, Tryd.prog.readableRec t = true ∧ t < Tryd.prog.types.size := by
  have h : (Tryd.f4.params.toList.all fun t => Tryd.prog.readableRec t && decide (t < Tryd.prog.types.size)) = true := by kernel_rfl
  intro t ht
  have := List.all_eq_true.1 h t ht
  simpa using this
theorem ptys : ([0, 0] : List Nat).map (tauOf taus) = Tryd.f4.params.toList := by kernel_rfl

mutual
theorem ub1 {H : Type} : ∀ d : DataW H, Rows.uptoBulk d = bulkD d
  | .lit l => by cases l <;> rfl
  | .nil => rfl
  | .ptr d => by rw [Rows.uptoBulk, bulkD, ub1 d]
  | .slice a b => by rw [Rows.uptoBulk, bulkD, ub2 a, ub2 b]
  | .agg a => by rw [Rows.uptoBulk, bulkD, ub2 a]
  | .iface _ d => by rw [Rows.uptoBulk, bulkD, ub1 d]
  | .map a => by rw [Rows.uptoBulk, bulkD, ub3 a]
  | .held _ => rfl
theorem ub2 {H : Type} : ∀ l : List (DataW H), Rows.uptoBulkAll l = bulkAll l
  | [] => rfl
  | d :: r => by rw [Rows.uptoBulkAll, bulkAll, ub1 d, ub2 r]
theorem ub3 {H : Type} : ∀ l : List (Lit × DataW H), Rows.uptoBulkEntries l = bulkEntries l
  | [] => rfl
  | x :: r => by rw [Rows.uptoBulkEntries, bulkEntries, ub4 x, ub3 r]
theorem ub4 {H : Type} : ∀ x : Lit × DataW H, Rows.uptoBulkEntry x = bulkEntry x
  | (l, d) => by cases l <;> simp only [Rows.uptoBulkEntry, bulkEntry, ub1 d]
end

theorem gaN : Tryd.prog.globalNamed "unicode/utf8.acceptRanges" = some gA := by kernel_rfl
theorem gfN : Tryd.prog.globalNamed "unicode/utf8.first" = some gF := by kernel_rfl
theorem gaT : (Tryd.prog.globals[gA]?).map (·.type) = some 119 := by kernel_rfl
theorem gfT : (Tryd.prog.globals[gF]?).map (·.type) = some 116 := by kernel_rfl
theorem glob {W : World} (h : laidMetH Tryd.prog Rows.shapeOnlyUptoRow.laid W) : ∀ x ∈ nm.g, VR nm W (fun b => b < W.heap.size) x.1 x.2 := by
  have h' : laidMet Tryd.prog Rows.shapeOnlyUptoRow.laid W := h
  intro x hx
  simp only [nm, List.mem_cons, List.not_mem_nil, or_false] at hx
  rcases hx with rfl | rfl
  · exact vr_of_laid h' (name := "unicode/utf8.acceptRanges") (d := Rows.laid_unicode_utf8_acceptRanges) (by simp [Rows.shapeOnlyUptoRow]) gaN gaT (FlatTy.array (e := 118) (n := 16) (c := 2) (by kernel_rfl) (by kernel_rfl) (by kernel_rfl) (FlatTy.pair (e := 5) (by kernel_rfl) (by kernel_rfl) (by kernel_rfl) (FlatTy.int (by kernel_rfl)))) (by kernel_rfl)
  · exact vr_of_laid h' (name := "unicode/utf8.first") (d := Rows.laid_unicode_utf8_first) (by simp [Rows.shapeOnlyUptoRow]) gfN gfT (FlatTy.array (e := 5) (n := 256) (c := 1) (by kernel_rfl) (by kernel_rfl) (by kernel_rfl) (FlatTy.int (by kernel_rfl))) (by kernel_rfl)

set_option maxRecDepth 100000 in
theorem lives : Hm.Ret (tabOf sf pr) F.hallmarklaw09_lives [] (one (.bool true)) := ⟨⟨400, by kernel_rfl⟩⟩
theorem answers (xs : List AV) (h : HasAs (tsOf tds) [0, 0] xs) (hb : bkRow xs ≤ 1048576) : Hm.Ret (tabOf sf pr) F.hallmarklaw09_ShapeOnly (xs.map .val) ⟨[([.av (.bool true)], false)], []⟩ := by
  obtain ⟨a, r, rfl, ha, h⟩ := h.inv
  obtain ⟨b, r, rfl, hb', h⟩ := h.inv
  obtain rfl := h.nil_inv
  obtain ⟨a, rfl, h1⟩ := V.of_arg rfl rfl rfl rfl rfl rfl rfl ha
  obtain ⟨b, rfl, h2⟩ := V.of_arg rfl rfl rfl rfl rfl rfl rfl hb'
  simp only [bkRow, h1, h2] at hb
  exact ShapeOnly_ret (fn0 _ _) (fn0 _ _) lives (fn0 _ _) (fn0 _ _) (fn0 _ _) (fn0 _ _) ⟨fn0 _ _, fn0 _ _, fn0 _ _, fn0 _ _, fn0 _ _, fn0 _ _, fn0 _ _, fn0 _ _, rfl, rfl⟩ ⟨fn0 _ _, fn0 _ _, fn0 _ _, fn0 _ _, fn0 _ _, fn0 _ _, fn0 _ _, fn0 _ _, fn0 _ _, fn0 _ _, fn0 _ _, fn0 _ _, fn0 _ _, fn0 _ _, fn0 _ _, fn0 _ _, fn0 _ _, fn0 _ _, fn0 _ _, fn0 _ _, fn0 _ _, fn0 _ _, fn0 _ _⟩ ⟨fn0 _ _, fn0 _ _, fn0 _ _, fn0 _ _, fn0 _ _, fn0 _ _, fn0 _ _, fn0 _ _, fn0 _ _⟩ (validOk (fn0 _ _) (fn0 _ _) (fn0 _ _)) ⟨fn0 _ _, fn0 _ _, fn0 _ _, fn0 _ _, fn0 _ _, fn0 _ _, fn0 _ _, fn0 _ _⟩ (fn0 _ _) (fn0 _ _) (fn0 _ _) (fn0 _ _) (fn0 _ _) (fn0 _ _) (fn0 _ _) (fn0 _ _) (fn0 _ _) (fn0 _ _) a b (by omega) (by omega)

set_option maxRecDepth 100000 in
theorem contract (H : Type) (enc : TypeId × Value → H) (W : World) (base : Nat) (args : Array Value) (ds gs : List (DataW H)) (before : List MemPlace)
    (hval : ∀ (j : Nat) t v, Tryd.f4.params[j]? = some t → args[j]? = some v → Value.okWide Tryd.prog W .any base t v)
    (hW : DataW.Whole enc Tryd.prog Tryd.f4.params.toList Rows.shapeOnlySpec.vars false W args.toList ds gs before) (hk : Rows.uptoSmall H (ds ++ gs) = true) (hL : laidMetH Tryd.prog Rows.shapeOnlyUptoRow.laid W) :
    Calls Tryd.prog 4 args W fun e W' => ∃ v, e = .returned v ∧ Rows.shapeOnlySpec.post enc Tryd.prog Tryd.f4 false true false false W args v W' := by
  have hW0 := hW
  obtain ⟨p, q, hA, hV, rfl, hfz, hnd⟩ := hW
  rw [← ptys] at hA
  obtain ⟨xs, a1, a2, a3⟩ := args_has (N := nm) (okTy_all okT) (refs_struct okR) (refs_slice okR) (b := base) (r := .any) (by decide) (fun j t v ht hv => by
    rw [ptys] at ht
    exact hval j t v (by simpa using ht) (by simpa using hv)) hA
  obtain ⟨rfl, rfl⟩ := trodVars_none hV
  have hbulk : bkRow xs ≤ 1048576 := by
    have h1 := of_decide_eq_true hk
    rw [List.append_nil, ub2] at h1
    exact Nat.le_trans a3 h1
  obtain ⟨n, hn⟩ := (answers xs a1 hbulk).out
  refine (law_call lk hn a2 (glob hL)).mono fun e W' ⟨he, hb⟩ => ?_
  refine ⟨_, he, law_post (tb := 4) laid readable Tryd.underlying4 (by kernel_rfl) rfl hW0 ?_ hb⟩
  have hl : ds.length = 2 := by
    have h1 := trodAll_len hA
    simpa using h1
  match ds, hl with
  | [d0, d1], _ => rfl

def lay (cs : Array Value) : Obj → Obj
  | .cells _ t frozen => .cells cs t frozen
  | o => o
noncomputable def laidWorld (os : Os) : World :=
  { World.holding Tryd.prog os ⟨#[], #[], []⟩ with heap := ((World.holding Tryd.prog os ⟨#[], #[], []⟩).heap.modify gA (lay (zcells accZ).toArray)).modify gF (lay (zcells firZ).toArray) }
def wargs : Array Value := #[.agg #[.int .i64 0, .string ⟨#[]⟩, .string ⟨#[]⟩, .slice none 0 0, .slice none 0 0], .agg #[.int .i64 0, .string ⟨#[]⟩, .string ⟨#[]⟩, .slice none 0 0, .slice none 0 0]]
theorem laid_met (os : Os) : laidMet Tryd.prog Rows.shapeOnlyUptoRow.laid ((laidWorld os).forCall (fun _ _ => 0) ⟨#[], wargs, []⟩).memory :=
  laidMet_of_run' 8 (by kernel_rfl) (by kernel_rfl)
theorem reads (os : Os) {H : Type} (enc : TypeId × Value → H) : ∃ places, DataW.whole enc Tryd.prog ((laidWorld os).forCall (fun _ _ => 0) ⟨#[], wargs, []⟩).memory Tryd.f4.params.toList Rows.shapeOnlySpec.vars false wargs.toList 8 = some ([.agg [.lit (.int .i64 0), .lit (.string []), .lit (.string []), .nil, .nil], .agg [.lit (.int .i64 0), .lit (.string []), .lit (.string []), .nil, .nil]], [], places) :=
  ⟨[], by kernel_rfl⟩

set_option maxRecDepth 100000 in
theorem lifted (os : Os) (started : os.Started) (H : Type) (enc : TypeId × Value → H) (F : Stop.Interp) :
    ReturnsInHanded {} Tryd.checked os 4 .any ((Rows.OpenSpec.upto Rows.shapeOnlySpec).preRow enc Tryd.prog Tryd.f4 Rows.shapeOnlyUptoRow.domain false Rows.shapeOnlyUptoRow.laid) (((Rows.OpenSpec.upto Rows.shapeOnlySpec).at F).post enc Tryd.prog Tryd.f4 false true false false) := by
  obtain ⟨places, hx⟩ := reads os enc
  refine returnsInHanded_of_row (C := Tryd.checked) (s := Rows.OpenSpec.upto Rows.shapeOnlySpec) own started (by kernel_rfl) Tryd.func4
    (witness_row_at (enc := enc) (C := Tryd.checked) false (laidWorld os) wargs rfl (by kernel_rfl) (by kernel_rfl) (by kernel_rfl)
      (OpenSpec.preRow_of_cond 8 hx (by kernel_rfl) (fun k hk => by cases hk; kernel_rfl) (by kernel_rfl) (laid_met os))) ?_
  intro W base args ds gs before hval hW _ hcond _ hL _ _
  exact contract H enc W base args ds gs before hval hW (hcond _ rfl) hL

theorem over : Rows.shapeOnlyUptoRow.holds Tryd.pinned (Rows.OpenSpec.upto Rows.shapeOnlySpec) :=
  OpenClaim.holds_of_cond 4 Tryd.f4 rfl rfl rfl rfl rfl rfl rfl ⟨rfl, rfl, rfl, rfl, rfl⟩ rfl rfl rfl rfl rfl (by kernel_rfl) Tryd.func4 (by kernel_rfl)
    (of_decide_eq_true (by kernel_rfl)) (by unfold Func.isWrapper; first | (rw [if_pos (by decide +kernel)]; kernel_rfl) | (rw [if_neg (by decide +kernel)]; exact ⟨rfl, rfl⟩))
    (fun os started H enc _ F => by rw [OpenClaim.pre_eq_preRow]; exact lifted os started H enc F)

theorem standIn : (Tryd.prog.funcs[4]?.map fun fn => fn.params.toList.all fun t => !Tryd.prog.wantsStandIn t) = some true := by kernel_rfl
theorem plain (f : FuncId) (fn : Func) (hf : Tryd.pinned.checked.prog.funcNamed "hallmark/hallmarklaw09.ShapeOnly" = some f) (hfn : Tryd.pinned.checked.prog.funcs[f]? = some fn) :
    false = Tryd.pinned.checked.prog.looks [] ∧ ∀ (j : Nat) t, fn.params[j]? = some t → Tryd.pinned.checked.prog.wantsStandIn t = false := by
  obtain rfl : f = 4 := Option.some.inj ((show Tryd.prog.funcNamed "hallmark/hallmarklaw09.ShapeOnly" = some 4 by kernel_rfl).symm.trans hf) |>.symm
  obtain rfl : fn = Tryd.f4 := (Option.some.inj (Tryd.func4.symm.trans hfn)).symm
  refine ⟨by kernel_rfl, fun j t ht => ?_⟩
  have h := standIn
  rw [Tryd.func4] at h
  simp only [Option.map_some, Option.some.injEq, List.all_eq_true, Bool.not_eq_true'] at h
  exact h t (Array.mem_toList_iff.2 (Array.mem_of_getElem? ht))

theorem proved : Rows.ShapeOnlyUptoCardSaid :=
  Claim7.holds_tied_plain_at .later [] _ _ _ _ over (fun _ h => by cases h) (by kernel_rfl) (fun _ h => by cases h) shapeOnlyUpto_row_tie rfl ⟨rfl, rfl⟩ (by kernel_rfl) rfl plain (by kernel_rfl)
end Go.Proofs.YtkjppfdcnfiaeaaDoor.hOnlyT
#print axioms Go.Proofs.YtkjppfdcnfiaeaaDoor.hOnlyT.proved
