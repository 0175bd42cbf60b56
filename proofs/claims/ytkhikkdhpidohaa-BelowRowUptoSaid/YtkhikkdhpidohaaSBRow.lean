/-
  BelowRow: whatever three types are given (together of bulk at most 1048576), the law answers true and its arguments read as before. Conditions: none but the statement's own.
-/
import Derived.Test.YtkhikkdhpidohaaRows
import Derived.Test.YtkhikkdhpidohaaHD
import Derived.Test.YtkhikkdhpidohaaGBRow
import Derived.WalkKit
import Derived.ProofKit
import Derived.OpenShut
import Derived.JoinedCond
namespace Go.Proofs.Ytkhikkdhpidohaa.hBRow
open Go.ChangeShapes Go.WideShapes Go.ChangeAt Go.RowKit Hm
set_option linter.unusedVariables false
set_option linter.unnecessarySimpa false
set_option linter.unusedSimpArgs false

def fl : List (Nat × Nat) := [(F.hallmarkref03_Formed, 15), (F.hallmarkref03_Number, 10), (F.hallmarkref03_UTF, 31), (F.hallmarkref03_Rise, 32), (F.hallmarkref03_All, 33), (F.hallmarkref03_width, 60), (F.tens_Cmp, 54), (F.hallmarkref03_trail, 85), (F.tens_Formed, 80), (F.tens_split, 81), (F.tens_size, 82), (F.cmp_isNaN_string, 105), (F.slices_ContainsFunc_Lstring_string, 64), (F.slices_Index_Lstring_string, 87), (F.slices_BinarySearch_Lstring_string, 99), (F.hallmarkref03_Get, 61), (F.hallmarkref03_Numbers, 27), (F.hallmarkref03_Texts, 55), (F.slices_IndexFunc_Lstring_string, 86), (F.cmp_Less_string, 103), (F.slices_isNaN_string, 104), (F.hallmarkkit_FitType, 28), (F.hallmarkref09_Formed, 29), (F.hallmarkref09_Height, 20), (F.hallmarkkit_typeParts, 56), (F.hallmarkref09_Bare, 53), (F.hallmarkref09_Spans, 57), (F.hallmarkref09_arrays, 58), (F.hallmarkref09_objects, 59), (F.hallmarkref09_higher, 48), (F.hallmarkref09_bound, 83), (F.hallmarkref09_Never, 22), (F.hallmarkref09_object, 84), (F.hallmarkref09_In, 16), (F.shape_OfKinds, 70), (F.shape_Kinds, 63), (F.shape_Every, 91), (F.hallmarkref09_InSpan, 11), (F.hallmarkref09_inArr, 34), (F.hallmarkref09_InObj, 35), (F.shape_OfKinds_S1, 92), (F.hallmarkref09_Has, 62), (F.below_Span, 7), (F.hallmarklaw12_bounds, 8), (F.hallmarkref12_Span, 9), (F.hallmarklaw12_lives, 12), (F.hallmarklaw12_formed, 13), (F.below_Below, 17), (F.below_Apart, 18), (F.hallmarklaw12_BelowRow, 6), (F.hallmarkref12_Single, 23), (F.below_hollow, 24), (F.below_worth, 25), (F.hallmarkref12_Hollow, 26), (F.below_never, 36), (F.below_side_words, 37), (F.below_side_nums, 38), (F.below_side_texts, 39), (F.below_side_arrays, 40), (F.below_side_objects, 41), (F.below_laid, 42), (F.below_side_apartWords, 43), (F.below_side_apartNums, 44), (F.below_side_apartTexts, 45), (F.below_side_apartArrays, 46), (F.below_side_apartObjects, 47), (F.below_side_texts_S1, 65), (F.below_side_objects_S1, 68), (F.slices_ContainsFunc_LObj_Obj, 67), (F.below_lower, 71), (F.below_upper, 72), (F.below_side_apartTexts_S1, 73), (F.below_unlike, 74), (F.slices_Contains_Lstring_string, 66), (F.slices_IndexFunc_LObj_Obj, 88), (F.below_lies, 69), (F.below_names, 89), (F.below_field, 90), (F.below_unlike_S1, 93), (F.slices_Clone_Lstring_string, 98)]
def nm : Nm := ⟨fun f => (Hm.look fl f).getD 0, fun _ => 0, []⟩
def sf : List (Nat × AFun) := [(F.hallmarkref03_Formed, hallmarkref03_Formed.fn), (F.hallmarkref03_Number, hallmarkref03_Number.fn), (F.hallmarkref03_UTF, hallmarkref03_UTF.fn), (F.hallmarkref03_Rise, hallmarkref03_Rise.fn), (F.hallmarkref03_All, hallmarkref03_All.fn), (F.hallmarkref03_width, hallmarkref03_width.fn), (F.tens_Cmp, tens_Cmp.fn), (F.hallmarkref03_trail, hallmarkref03_trail.fn), (F.tens_Formed, tens_Formed.fn), (F.tens_split, tens_split.fn), (F.tens_size, tens_size.fn), (F.cmp_isNaN_string, cmp_isNaN_string.fn), (F.slices_ContainsFunc_Lstring_string, slices_ContainsFunc_Lstring_string.fn), (F.slices_Index_Lstring_string, slices_Index_Lstring_string.fn), (F.slices_BinarySearch_Lstring_string, slices_BinarySearch_Lstring_string.fn), (F.hallmarkref03_Get, hallmarkref03_Get.fn), (F.hallmarkref03_Numbers, hallmarkref03_Numbers.fn), (F.hallmarkref03_Texts, hallmarkref03_Texts.fn), (F.slices_IndexFunc_Lstring_string, slices_IndexFunc_Lstring_string.fn), (F.cmp_Less_string, cmp_Less_string.fn), (F.slices_isNaN_string, slices_isNaN_string.fn), (F.hallmarkkit_FitType, hallmarkkit_FitType.fn), (F.hallmarkref09_Formed, hallmarkref09_Formed.fn), (F.hallmarkref09_Height, hallmarkref09_Height.fn), (F.hallmarkkit_typeParts, hallmarkkit_typeParts.fn), (F.hallmarkref09_Bare, hallmarkref09_Bare.fn), (F.hallmarkref09_Spans, hallmarkref09_Spans.fn), (F.hallmarkref09_arrays, hallmarkref09_arrays.fn), (F.hallmarkref09_objects, hallmarkref09_objects.fn), (F.hallmarkref09_higher, hallmarkref09_higher.fn), (F.hallmarkref09_bound, hallmarkref09_bound.fn), (F.hallmarkref09_Never, hallmarkref09_Never.fn), (F.hallmarkref09_object, hallmarkref09_object.fn), (F.hallmarkref09_In, hallmarkref09_In.fn), (F.shape_OfKinds, shape_OfKinds.fn), (F.shape_Kinds, shape_Kinds.fn), (F.shape_Every, shape_Every.fn), (F.hallmarkref09_InSpan, hallmarkref09_InSpan.fn), (F.hallmarkref09_inArr, hallmarkref09_inArr.fn), (F.hallmarkref09_InObj, hallmarkref09_InObj.fn), (F.shape_OfKinds_S1, shape_OfKinds_S1.fn), (F.hallmarkref09_Has, hallmarkref09_Has.fn), (F.below_Span, below_Span.fn), (F.hallmarklaw12_bounds, hallmarklaw12_bounds.fn), (F.hallmarkref12_Span, hallmarkref12_Span.fn), (F.hallmarklaw12_lives, hallmarklaw12_lives.fn), (F.hallmarklaw12_formed, hallmarklaw12_formed.fn), (F.below_Below, below_Below.fn), (F.below_Apart, below_Apart.fn), (F.hallmarklaw12_BelowRow, hallmarklaw12_BelowRow.fn), (F.hallmarkref12_Single, hallmarkref12_Single.fn), (F.below_hollow, below_hollow.fn), (F.below_worth, below_worth.fn), (F.hallmarkref12_Hollow, hallmarkref12_Hollow.fn), (F.below_never, below_never.fn), (F.below_side_words, below_side_words.fn), (F.below_side_nums, below_side_nums.fn), (F.below_side_texts, below_side_texts.fn), (F.below_side_arrays, below_side_arrays.fn), (F.below_side_objects, below_side_objects.fn), (F.below_laid, below_laid.fn), (F.below_side_apartWords, below_side_apartWords.fn), (F.below_side_apartNums, below_side_apartNums.fn), (F.below_side_apartTexts, below_side_apartTexts.fn), (F.below_side_apartArrays, below_side_apartArrays.fn), (F.below_side_apartObjects, below_side_apartObjects.fn), (F.below_side_texts_S1, below_side_texts_S1.fn), (F.below_side_objects_S1, below_side_objects_S1.fn), (F.slices_ContainsFunc_LObj_Obj, slices_ContainsFunc_LObj_Obj.fn), (F.below_lower, below_lower.fn), (F.below_upper, below_upper.fn), (F.below_side_apartTexts_S1, below_side_apartTexts_S1.fn), (F.below_unlike, below_unlike.fn), (F.slices_Contains_Lstring_string, slices_Contains_Lstring_string.fn), (F.slices_IndexFunc_LObj_Obj, slices_IndexFunc_LObj_Obj.fn), (F.below_lies, below_lies.fn), (F.below_names, below_names.fn), (F.below_field, below_field.fn), (F.below_unlike_S1, below_unlike_S1.fn)]
def tds : List (TD × Nat) := [(.struct [1, 1, 1, 1, 2, 1, 5, 6, 9], 9), (.bool, 1), (.slice 3, 1), (.struct [4, 4], 2), (.str, 1), (.slice 4, 1), (.slice 7, 1), (.struct [0, 8, 8], 11), (.int .i64, 1), (.slice 10, 1), (.struct [5, 11, 12, 0], 12), (.slice 0, 1), (.slice 1, 1)]
def taus : List Nat := [34, 4, 29, 23, 9, 30, 31, 54, 3, 32, 59, 56, 57]
theorem okF : okFns Try.prog nm sf = true := by kernel_rfl
theorem okT : ((List.range tds.length).all fun i => okTy Try.prog (tauOf taus) (tsOf tds) i) = true := by kernel_rfl
theorem okR : (tds.all fun x => refsOk tds.length x.1) = true := by kernel_rfl
theorem mixed : Try.prog.follows .mixedOrders = true := by kernel_rfl
theorem okC_slices_Clone_Lstring_string : okFns Try.prog nm [(F.slices_Clone_Lstring_string, slices_Clone_Lstring_string.fn)] = true := by kernel_rfl
theorem mc_slices_Clone_Lstring_string : ∀ ys cr, pClone 1 ys = some cr → Meets Try.prog nm F.slices_Clone_Lstring_string ys cr :=
  meets_clone (Hm.linked mixed okC_slices_Clone_Lstring_string (by simp)) (fun rows hne hl => slices_Clone_Lstring_string_ret ⟨rfl, rfl, rfl⟩ rows hne hl) (fun nn => slices_Clone_Lstring_string_emp ⟨rfl, rfl, rfl⟩ nn)
def pr : List (Nat × (List PMode × (List Arg → Option CR))) := [(F.slices_Clone_Lstring_string, ([.val], pClone 1))]
theorem lk : Linked Try.prog nm (tabOf sf pr) := Hm.linked mixed okF (by
  intro x hx
  simp only [pr, List.mem_cons, List.not_mem_nil, or_false] at hx
  rcases hx with rfl
  · exact ⟨⟨Try.f98, Try.func98, by kernel_rfl, by kernel_rfl⟩, mc_slices_Clone_Lstring_string⟩)
theorem fn0 (n : Nat) (c : AFun) (h : Hm.look sf n = some c := by rfl) (h0 : Hm.look pr n = none := by rfl) : Hm.Fn (tabOf sf pr) n c := ⟨by simp only [tabOf, h0]; rfl, h, by simp only [tabOf, h]⟩
theorem own : ownKnob Try.prog.godebug = none := by kernel_rfl
theorem laid : laidOutB Try.prog = true := by kernel_rfl
theorem readable : ∀ t ∈ Try.f6.params.toList, Try.prog.readableRec t = true ∧ t < Try.prog.types.size := by
  have h : (Try.f6.params.toList.all fun t => Try.prog.readableRec t && decide (t < Try.prog.types.size)) = true := by kernel_rfl
  intro t ht
  have := List.all_eq_true.1 h t ht
  simpa using this
theorem ptys : ([0, 0, 0] : List Nat).map (tauOf taus) = Try.f6.params.toList := by kernel_rfl

mutual
theorem ub1 {H : Type} : ∀ d : DataW H, Rows.uptoBulk d = bulkD d
  | .lit l => by cases l <;> rfl
  | .nil => rfl
  | .ptr d => by rw [Rows.uptoBulk, bulkD, ub1 d]
  | .slice a b => by rw [Rows.uptoBulk, bulkD, ub2 a, ub2 b]
  | .agg a => by rw [Rows.uptoBulk, bulkD, ub2 a]
  | .iface _ d => by rw [Rows.uptoBulk, bulkD, ub1 d]
  | .map a => by rw [Rows.uptoBulk, bulkD, ub3 a]
  | .held _ => rfl
theorem ub2 {H : Type} : ∀ l : List (DataW H), Rows.uptoBulkAll l = bulkAll l
  | [] => rfl
  | d :: r => by rw [Rows.uptoBulkAll, bulkAll, ub1 d, ub2 r]
theorem ub3 {H : Type} : ∀ l : List (Lit × DataW H), Rows.uptoBulkEntries l = bulkEntries l
  | [] => rfl
  | x :: r => by rw [Rows.uptoBulkEntries, bulkEntries, ub4 x, ub3 r]
theorem ub4 {H : Type} : ∀ x : Lit × DataW H, Rows.uptoBulkEntry x = bulkEntry x
  | (l, d) => by cases l <;> simp only [Rows.uptoBulkEntry, bulkEntry, ub1 d]
end

set_option maxRecDepth 100000 in
theorem lives : Hm.Ret (tabOf sf pr) F.hallmarklaw12_lives [] (one (.bool true)) := ⟨⟨400, by kernel_rfl⟩⟩
theorem answers (xs : List AV) (h : HasAs (tsOf tds) [0, 0, 0] xs) (hb : bkRow xs ≤ 1048576) : Hm.Ret (tabOf sf pr) F.hallmarklaw12_BelowRow (xs.map .val) ⟨[([.av (.bool true)], false)], []⟩ := by
  obtain ⟨a, r, rfl, ha', h⟩ := h.inv
  obtain ⟨b, r, rfl, hb', h⟩ := h.inv
  obtain ⟨c, r, rfl, hc', h⟩ := h.inv
  obtain rfl := h.nil_inv
  obtain ⟨a, rfl, h1⟩ := Ty.of_arg (tb := 1) (tsps := 2) (tsp := 3) (ts := 4) (tss := 5) (tas := 6) (ta := 7) (ti := 8) (tos := 9) (to := 10) (tts := 11) (tbs := 12) ⟨rfl, rfl, rfl, rfl, rfl, rfl, rfl, rfl, rfl, rfl, rfl, rfl, rfl, rfl, rfl, rfl, rfl, rfl, rfl⟩ ha'
  obtain ⟨b, rfl, h2⟩ := Ty.of_arg (tb := 1) (tsps := 2) (tsp := 3) (ts := 4) (tss := 5) (tas := 6) (ta := 7) (ti := 8) (tos := 9) (to := 10) (tts := 11) (tbs := 12) ⟨rfl, rfl, rfl, rfl, rfl, rfl, rfl, rfl, rfl, rfl, rfl, rfl, rfl, rfl, rfl, rfl, rfl, rfl, rfl⟩ hb'
  obtain ⟨c, rfl, h3⟩ := Ty.of_arg (tb := 1) (tsps := 2) (tsp := 3) (ts := 4) (tss := 5) (tas := 6) (ta := 7) (ti := 8) (tos := 9) (to := 10) (tts := 11) (tbs := 12) ⟨rfl, rfl, rfl, rfl, rfl, rfl, rfl, rfl, rfl, rfl, rfl, rfl, rfl, rfl, rfl, rfl, rfl, rfl, rfl⟩ hc'
  simp only [bkRow, h1, h2, h3] at hb
  exact BelowRow_ret (fn0 _ _) (fn0 _ _) lives ⟨fn0 _ _, fn0 _ _, fn0 _ _, fn0 _ _, fn0 _ _, fn0 _ _, fn0 _ _, fn0 _ _, fn0 _ _, fn0 _ _, fn0 _ _, fn0 _ _, fn0 _ _, fn0 _ _, fn0 _ _, fn0 _ _, fn0 _ _, fn0 _ _⟩ ⟨⟨⟨fn0 _ _, fn0 _ _, fn0 _ _, fn0 _ _, fn0 _ _, fn0 _ _, fn0 _ _⟩, ⟨fn0 _ _, fn0 _ _, fn0 _ _, fn0 _ _, fn0 _ _, fn0 _ _, rfl, rfl⟩, ⟨fn0 _ _, fn0 _ _, fn0 _ _, fn0 _ _⟩, fn0 _ _, fn0 _ _, fn0 _ _, fn0 _ _, fn0 _ _, fn0 _ _, fn0 _ _, fn0 _ _, fn0 _ _, fn0 _ _, fn0 _ _, fn0 _ _, fn0 _ _, fn0 _ _, fn0 _ _, fn0 _ _, fn0 _ _⟩, fn0 _ _, fn0 _ _, fn0 _ _, fn0 _ _, fn0 _ _, fn0 _ _, fn0 _ _, fn0 _ _, fn0 _ _, fn0 _ _, fn0 _ _⟩ (fn0 _ _) a b c (by omega) (by omega) (by omega)

set_option maxRecDepth 100000 in
theorem contract (H : Type) (enc : TypeId × Value → H) (W : World) (base : Nat) (args : Array Value) (ds gs : List (DataW H)) (before : List MemPlace)
    (hval : ∀ (j : Nat) t v, Try.f6.params[j]? = some t → args[j]? = some v → Value.okWide Try.prog W .any base t v)
    (hW : DataW.Whole enc Try.prog Try.f6.params.toList Rows.belowRowSpec.vars false W args.toList ds gs before) (hk : Rows.uptoSmall H (ds ++ gs) = true) :
    Calls Try.prog 6 args W fun e W' => ∃ v, e = .returned v ∧ Rows.belowRowSpec.post enc Try.prog Try.f6 false true false false W args v W' := by
  have hW0 := hW
  obtain ⟨p, q, hA, hV, rfl, hfz, hnd⟩ := hW
  rw [← ptys] at hA
  obtain ⟨xs, a1, a2, a3⟩ := args_has (N := nm) (okTy_all okT) (refs_struct okR) (refs_slice okR) (b := base) (r := .any) (by decide) (fun j t v ht hv => by
    rw [ptys] at ht
    exact hval j t v (by simpa using ht) (by simpa using hv)) hA
  obtain ⟨rfl, rfl⟩ := trodVars_none hV
  have hbulk : bkRow xs ≤ 1048576 := by
    have h1 := of_decide_eq_true hk
    rw [List.append_nil, ub2] at h1
    exact Nat.le_trans a3 h1
  obtain ⟨n, hn⟩ := (answers xs a1 hbulk).out
  refine (law_call lk hn a2 (by simp [nm])).mono fun e W' ⟨he, hb⟩ => ?_
  refine ⟨_, he, law_post (tb := 4) laid readable Try.underlying4 (by kernel_rfl) rfl hW0 ?_ hb⟩
  have hl : ds.length = 3 := by
    have h1 := trodAll_len hA
    simpa using h1
  match ds, hl with
  | [d0, d1, d2], _ => rfl

set_option maxRecDepth 100000 in
theorem lifted (os : Os) (started : os.Started) (H : Type) (enc : TypeId × Value → H) (F : Stop.Interp) :
    ReturnsInHanded {} Try.checked os 6 .any ((Rows.OpenSpec.upto Rows.belowRowSpec).pre6 enc Try.prog Try.f6 Rows.belowRowUptoRow.domain false) (((Rows.OpenSpec.upto Rows.belowRowSpec).at F).post enc Try.prog Try.f6 false true false false) := by
  refine returnsInHanded_of_cond (C := Try.checked) (s := Rows.OpenSpec.upto Rows.belowRowSpec) (k := Rows.uptoSmall) rfl own started (by kernel_rfl) Try.func6
    (OpenSpec.witness (enc := enc) (C := Try.checked) (s := Rows.OpenSpec.upto Rows.belowRowSpec) (k := Rows.uptoSmall) rfl false ⟨#[], #[.agg #[.bool false, .bool false, .bool false, .bool false, .slice none 0 0, .bool false, .slice none 0 0, .slice none 0 0, .slice none 0 0], .agg #[.bool false, .bool false, .bool false, .bool false, .slice none 0 0, .bool false, .slice none 0 0, .slice none 0 0, .slice none 0 0], .agg #[.bool false, .bool false, .bool false, .bool false, .slice none 0 0, .bool false, .slice none 0 0, .slice none 0 0, .slice none 0 0]], []⟩ 8 (by kernel_rfl) (by kernel_rfl) (by kernel_rfl)
      (x := ([.agg [.lit (.bool false), .lit (.bool false), .lit (.bool false), .lit (.bool false), .nil, .lit (.bool false), .nil, .nil, .nil], .agg [.lit (.bool false), .lit (.bool false), .lit (.bool false), .lit (.bool false), .nil, .lit (.bool false), .nil, .nil, .nil], .agg [.lit (.bool false), .lit (.bool false), .lit (.bool false), .lit (.bool false), .nil, .lit (.bool false), .nil, .nil, .nil]], [], [])) (by kernel_rfl) rfl (by kernel_rfl)) ?_
  intro W base args ds gs before hval hW _ hk _
  exact contract H enc W base args ds gs before hval hW hk

theorem over : Rows.belowRowUptoRow.holds Try.pinned (Rows.OpenSpec.upto Rows.belowRowSpec) :=
  OpenClaim.holds_of_cond 6 Try.f6 rfl rfl rfl rfl rfl rfl rfl ⟨rfl, rfl, rfl, rfl, rfl⟩ rfl rfl rfl rfl rfl (by kernel_rfl) Try.func6 (by kernel_rfl)
    (of_decide_eq_true (by kernel_rfl)) (by unfold Func.isWrapper; first | (rw [if_pos (by decide +kernel)]; kernel_rfl) | (rw [if_neg (by decide +kernel)]; exact ⟨rfl, rfl⟩))
    (fun os started H enc _ F => lifted os started H enc F)

theorem proved : Rows.BelowRowUptoSaid :=
  over
end Go.Proofs.Ytkhikkdhpidohaa.hBRow
#print axioms Go.Proofs.Ytkhikkdhpidohaa.hBRow.proved
