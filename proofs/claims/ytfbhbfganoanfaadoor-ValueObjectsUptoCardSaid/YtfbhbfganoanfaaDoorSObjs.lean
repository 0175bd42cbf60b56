/-
  ValueObjects: whatever script of calls is given (of bulk at most 1048576), the law answers true and its argument reads as before; its row lists two tables of unicode/utf8, tied to the text. Conditions: none but the statement's own.
-/
import Derived.Test.YtfbhbfganoanfaaDoorCards
import Derived.Test.YtfbhbfganoanfaaDoorTie
import Derived.Test.YtfbhbfganoanfaaDoorHD
import Derived.Test.YtfbhbfganoanfaaDoorGObjs
import Derived.WalkKit
import Derived.ProofKit
import Derived.OpenShut
import Derived.JoinedCond
import Derived.Deep.DeepHandedRow
import Derived.Lib.LaidTab
namespace Go.Proofs.YtfbhbfganoanfaaDoor.hObjs
open Go.ChangeShapes Go.WideShapes Go.ChangeAt Go.RowKit Hm
set_option linter.unusedVariables false
set_option linter.unnecessarySimpa false
set_option linter.unusedSimpArgs false

def fl : List (Nat × Nat) := [(F.hallmarklaw03_small, 9), (F.hallmarkref03_Formed, 12), (F.hallmarkref03_Like, 14), (F.hallmarkref03_Parts, 34), (F.hallmarkref03_Number, 40), (F.hallmarkref03_UTF, 18), (F.hallmarkref03_Rise, 41), (F.hallmarkref03_All, 42), (F.value_Twin, 44), (F.hallmarkref03_width, 50), (F.hallmarkref03_texts, 46), (F.hallmarkref03_trail, 89), (F.tens_Formed, 36), (F.cmp_isNaN_string, 109), (F.hallmarklaw03_lives, 10), (F.value_Formed, 11), (F.value_Merge, 13), (F.value_Make, 17), (F.value_With, 19), (F.value_Get, 20), (F.value_Without, 21), (F.hallmarklaw03_ValueObjects, 6), (F.hallmarklaw03_fits, 22), (F.hallmarklaw03_right, 23), (F.hallmarklaw03_asked, 25), (F.hallmarklaw03_does, 26), (F.value_empty, 35), (F.utf_Valid, 37), (F.value_allFormed, 38), (F.value_rise, 39), (F.value_isObject, 43), (F.value_put, 45), (F.slices_ContainsFunc_Lstring_string, 48), (F.value_Make_S1, 49), (F.slices_Index_Lstring_string, 51), (F.slices_BinarySearch_Lstring_string, 52), (F.hallmarklaw03_smallAll, 55), (F.hallmarkref03_Make, 56), (F.hallmarkref03_Get, 57), (F.hallmarkref03_With, 58), (F.hallmarkref03_Without, 59), (F.hallmarkref03_Merge, 60), (F.hallmarkref03_Deep, 61), (F.hallmarkref03_Twin, 62), (F.value_Deep, 63), (F.unicode_utf8_ValidString, 81), (F.slices_ContainsFunc_LValue_Value, 82), (F.value_allFormed_S1, 83), (F.slices_IndexFunc_Lstring_string, 88), (F.cmp_Less_string, 90), (F.slices_isNaN_string, 91), (F.hallmarkref03_gather, 92), (F.hallmarkref03_object, 93), (F.hallmarkref03_Twins, 94), (F.value_deep, 95), (F.slices_IndexFunc_LValue_Value, 104), (F.hallmarkref03_next, 110), (F.hallmarkref03_last, 111), (F.unicode_utf8_word_string, 103), (F.slices_Clone_Lstring_string, 84), (F.slices_Clone_LValue_Value, 85), (F.slices_Delete_Lstring_string, 53), (F.slices_Delete_LValue_Value, 54), (F.slices_Insert_Lstring_string, 86), (F.slices_Insert_LValue_Value, 87)]
def tl : List (Nat × Nat) := []
def gA : Nat := 1
def gF : Nat := 0
def nm : Nm := ⟨fun f => (Hm.look fl f).getD 0, fun t => (Hm.look tl t).getD 0, [(.vptr (zavs accZ), .pointer (some ⟨gA, 0, none⟩)), (.vptr (zavs firZ), .pointer (some ⟨gF, 0, none⟩))]⟩
def sf : List (Nat × AFun) := [(F.hallmarklaw03_small, hallmarklaw03_small.fn), (F.hallmarkref03_Formed, hallmarkref03_Formed.fn), (F.hallmarkref03_Like, hallmarkref03_Like.fn), (F.hallmarkref03_Parts, hallmarkref03_Parts.fn), (F.hallmarkref03_Number, hallmarkref03_Number.fn), (F.hallmarkref03_UTF, hallmarkref03_UTF.fn), (F.hallmarkref03_Rise, hallmarkref03_Rise.fn), (F.hallmarkref03_All, hallmarkref03_All.fn), (F.value_Twin, value_Twin.fn), (F.hallmarkref03_width, hallmarkref03_width.fn), (F.hallmarkref03_texts, hallmarkref03_texts.fn), (F.hallmarkref03_trail, hallmarkref03_trail.fn), (F.tens_Formed, tens_Formed.fn), (F.cmp_isNaN_string, cmp_isNaN_string.fn), (F.hallmarklaw03_lives, hallmarklaw03_lives.fn), (F.value_Formed, value_Formed.fn), (F.value_Merge, value_Merge.fn), (F.value_Make, value_Make.fn), (F.value_With, value_With.fn), (F.value_Get, value_Get.fn), (F.value_Without, value_Without.fn), (F.hallmarklaw03_ValueObjects, hallmarklaw03_ValueObjects.fn), (F.hallmarklaw03_fits, hallmarklaw03_fits.fn), (F.hallmarklaw03_right, hallmarklaw03_right.fn), (F.hallmarklaw03_asked, hallmarklaw03_asked.fn), (F.hallmarklaw03_does, hallmarklaw03_does.fn), (F.value_empty, value_empty.fn), (F.utf_Valid, utf_Valid.fn), (F.value_allFormed, value_allFormed.fn), (F.value_rise, value_rise.fn), (F.value_isObject, value_isObject.fn), (F.value_put, value_put.fn), (F.slices_ContainsFunc_Lstring_string, slices_ContainsFunc_Lstring_string.fn), (F.value_Make_S1, value_Make_S1.fn), (F.slices_Index_Lstring_string, slices_Index_Lstring_string.fn), (F.slices_BinarySearch_Lstring_string, slices_BinarySearch_Lstring_string.fn), (F.hallmarklaw03_smallAll, hallmarklaw03_smallAll.fn), (F.hallmarkref03_Make, hallmarkref03_Make.fn), (F.hallmarkref03_Get, hallmarkref03_Get.fn), (F.hallmarkref03_With, hallmarkref03_With.fn), (F.hallmarkref03_Without, hallmarkref03_Without.fn), (F.hallmarkref03_Merge, hallmarkref03_Merge.fn), (F.hallmarkref03_Deep, hallmarkref03_Deep.fn), (F.hallmarkref03_Twin, hallmarkref03_Twin.fn), (F.value_Deep, value_Deep.fn), (F.unicode_utf8_ValidString, unicode_utf8_ValidString.fn), (F.slices_ContainsFunc_LValue_Value, slices_ContainsFunc_LValue_Value.fn), (F.value_allFormed_S1, value_allFormed_S1.fn), (F.slices_IndexFunc_Lstring_string, slices_IndexFunc_Lstring_string.fn), (F.cmp_Less_string, cmp_Less_string.fn), (F.slices_isNaN_string, slices_isNaN_string.fn), (F.hallmarkref03_gather, hallmarkref03_gather.fn), (F.hallmarkref03_object, hallmarkref03_object.fn), (F.hallmarkref03_Twins, hallmarkref03_Twins.fn), (F.value_deep, value_deep.fn), (F.slices_IndexFunc_LValue_Value, slices_IndexFunc_LValue_Value.fn), (F.hallmarkref03_next, hallmarkref03_next.fn), (F.hallmarkref03_last, hallmarkref03_last.fn), (F.unicode_utf8_word_string, unicode_utf8_word_string.fn)]
def tds : List (TD × Nat) := [(.slice 1, 1), (.struct [2, 3, 3, 4, 6, 5], 14), (.int .i64, 1), (.struct [2, 4, 4, 5, 6], 5), (.str, 1), (.slice 3, 1), (.slice 4, 1)]
def taus : List Nat := [44, 47, 3, 25, 9, 22, 23]
theorem okF : okFns Tryd.prog nm sf = true := by kernel_rfl
theorem okT : ((List.range tds.length).all fun i => okTy Tryd.prog (tauOf taus) (tsOf tds) i) = true := by kernel_rfl
theorem okR : (tds.all fun x => refsOk tds.length x.1) = true := by kernel_rfl
theorem mixed : Tryd.prog.follows .mixedOrders = true := by kernel_rfl
theorem okC_slices_Clone_Lstring_string : okFns Tryd.prog nm [(F.slices_Clone_Lstring_string, slices_Clone_Lstring_string.fn)] = true := by kernel_rfl
theorem mc_slices_Clone_Lstring_string : ∀ ys cr, pClone 1 ys = some cr → Meets Tryd.prog nm F.slices_Clone_Lstring_string ys cr :=
  meets_clone (Hm.linked mixed okC_slices_Clone_Lstring_string (by simp)) (fun rows hne hl => slices_Clone_Lstring_string_ret ⟨rfl, rfl, rfl⟩ rows hne hl) (fun nn => slices_Clone_Lstring_string_emp ⟨rfl, rfl, rfl⟩ nn)
theorem okC_slices_Clone_LValue_Value : okFns Tryd.prog nm [(F.slices_Clone_LValue_Value, slices_Clone_LValue_Value.fn)] = true := by kernel_rfl
theorem mc_slices_Clone_LValue_Value : ∀ ys cr, pClone 5 ys = some cr → Meets Tryd.prog nm F.slices_Clone_LValue_Value ys cr :=
  meets_clone (Hm.linked mixed okC_slices_Clone_LValue_Value (by simp)) (fun rows hne hl => slices_Clone_LValue_Value_ret ⟨rfl, rfl, rfl⟩ rows hne hl) (fun nn => slices_Clone_LValue_Value_emp ⟨rfl, rfl, rfl⟩ nn)
set_option maxHeartbeats 4000000 in
set_option maxRecDepth 100000 in
theorem delRun53 : DelRun Tryd.prog 53 1 23 where
  run := by
    intro w W1 W2 b n c i hi hn hc h1 h2
    try simp only [Nat.mul_one] at h1 h2
    have hw1 : IntKind.i64.wrap ((i : Int) + 1) = (i : Int) + 1 := by rw [IntKind.wrap_i64]; unfold maxLen at hc; omega
    have hb1 : (0 : Int) ≤ (i : Int) + 1 := by omega
    have hin : i ≤ n := by omega
    have hin2 : (i : Int) + 1 ≤ (n : Int) := by omega
    have htn : ((i : Int) + 1).toNat = i + 1 := by omega
    have hic : i ≤ c := by omega
    have hjc : (i : Int) + 1 ≤ (c : Int) := by omega
    have hjc2 : i + 1 ≤ c := by omega
    have hne : ¬ ((i : Int) = (i : Int) + 1) := by omega
    have hlec : (i : Int) ≤ (i : Int) + 1 := by omega
    have hnc : (n : Int) ≤ (c : Int) := by omega
    go_enter Tryd.func53, Tryd.ntmps53
    go_wp2_with fail
    go_region_law (refine step_appendR rfl _ _ 23 23 rfl _ _ (by simp [Act.eval, Act.put]) (by simp [Act.eval, Act.put]) (h1 _) ?_)
    go_wp2
    all_goals go_ret
    all_goals exact ⟨rfl, rfl⟩
theorem md_slices_Delete_Lstring_string : ∀ ys cr, pDel 1 ys = some cr → Meets Tryd.prog nm F.slices_Delete_Lstring_string ys cr := by
  obtain ⟨i0, hi, hz0, hz1, hz2⟩ := info_parts (show (Tryd.prog.info? 9).map (fun i => (i.zero, i.size, i.bytes)) = some (some (.string ⟨#[]⟩), 1, 16) by kernel_rfl)
  exact meets_delete (z := .string ⟨#[]⟩) (by decide) Tryd.underlying23 hi hz1 Tryd.zeroValue9 rfl (by decide) delRun53
set_option maxHeartbeats 4000000 in
set_option maxRecDepth 100000 in
theorem delRun54 : DelRun Tryd.prog 54 5 22 where
  run := by
    intro w W1 W2 b n c i hi hn hc h1 h2
    try simp only [Nat.mul_one] at h1 h2
    have hw1 : IntKind.i64.wrap ((i : Int) + 1) = (i : Int) + 1 := by rw [IntKind.wrap_i64]; unfold maxLen at hc; omega
    have hb1 : (0 : Int) ≤ (i : Int) + 1 := by omega
    have hin : i ≤ n := by omega
    have hin2 : (i : Int) + 1 ≤ (n : Int) := by omega
    have htn : ((i : Int) + 1).toNat = i + 1 := by omega
    have hic : i ≤ c := by omega
    have hjc : (i : Int) + 1 ≤ (c : Int) := by omega
    have hjc2 : i + 1 ≤ c := by omega
    have hne : ¬ ((i : Int) = (i : Int) + 1) := by omega
    have hlec : (i : Int) ≤ (i : Int) + 1 := by omega
    have hnc : (n : Int) ≤ (c : Int) := by omega
    go_enter Tryd.func54, Tryd.ntmps54
    go_wp2_with fail
    go_region_law (refine step_appendR rfl _ _ 22 22 rfl _ _ (by simp [Act.eval, Act.put]) (by simp [Act.eval, Act.put]) (h1 _) ?_)
    go_wp2
    all_goals go_ret
    all_goals exact ⟨rfl, rfl⟩
theorem md_slices_Delete_LValue_Value : ∀ ys cr, pDel 5 ys = some cr → Meets Tryd.prog nm F.slices_Delete_LValue_Value ys cr := by
  obtain ⟨i0, hi, hz0, hz1, hz2⟩ := info_parts (show (Tryd.prog.info? 25).map (fun i => (i.zero, i.size, i.bytes)) = some (some (.agg #[.int .i64 0, .string ⟨#[]⟩, .string ⟨#[]⟩, .slice none 0 0, .slice none 0 0]), 5, 88) by kernel_rfl)
  exact meets_delete (z := .agg #[.int .i64 0, .string ⟨#[]⟩, .string ⟨#[]⟩, .slice none 0 0, .slice none 0 0]) (by decide) Tryd.underlying22 hi hz1 Tryd.zeroValue25 rfl (by decide) delRun54
set_option maxHeartbeats 4000000 in
set_option maxRecDepth 100000 in
theorem insRun86 : InsRun Tryd.prog 86 1 23 3 where
  atEnd := by
    intro w w' base n c a vc v' hb hb0 hn hc hr
    go_enter Tryd.func86, Tryd.ntmps86
    cases base with
    | none =>
      obtain ⟨rfl, rfl⟩ := hb0 rfl
      go_wp2_with (at_builtin; refine Lib.wpList_append_run _ rfl _ _ _ _ rfl _ _ rfl rfl _ _ (hr _) ?_)
      go_ret
      exact ⟨rfl, rfl⟩
    | some x =>
      obtain ⟨b, rfl⟩ := hb x rfl
      go_wp2_with (at_builtin; refine Lib.wpList_append_run _ rfl _ _ _ _ rfl _ _ rfl rfl _ _ (hr _) ?_)
      all_goals (go_ret; exact ⟨rfl, rfl⟩)
  room := by
    intro w W1 W2 b n c i a vc hi hn hc hab ha hb hc1 hc2
    obtain ⟨xa, ea, fa, hxa, hxa0⟩ := ha
    obtain ⟨yb, eb, hyb, hyb0⟩ := hb
    have hov : ∀ lb cb, (callFunc 105 #[.slice (some a) 1 vc, .slice (some ⟨b, (i + 1) * 1, none⟩) lb cb]).run Tryd.prog w = .ok (.value (.bool false)) w := fun lb cb => by
      rw [run_callFunc_extern Tryd.func105 (by kernel_rfl) (by kernel_rfl) (by kernel_rfl) (e := Extern.SlicesOverlaps.overlaps #[23, 23] #[4]) (by kernel_rfl),
        run_overlaps_own w 23 4 9 Tryd.underlying23 1 Tryd.sizeOf9 a ⟨b, (i + 1) * 1, none⟩ 1 vc lb cb hab hxa hxa0 hyb hyb0]
      rfl
    try simp only [Nat.mul_one] at hov hc1 hc2
    have hz2 : ¬ ((i : Int) = (n : Int)) := by omega
    have hz3 : ¬ ((c : Int) < (n : Int) + 1) := by omega
    have hw1 : IntKind.i64.wrap ((i : Int) + 1) = (i : Int) + 1 := by rw [IntKind.wrap_i64]; unfold maxLen at hc; omega
    have hw2 : IntKind.i64.wrap ((n : Int) + 1) = (n : Int) + 1 := by rw [IntKind.wrap_i64]; unfold maxLen at hc; omega
    have hb1 : (0 : Int) ≤ (i : Int) + 1 := by omega
    have hin : i ≤ n := by omega
    have htn : ((i : Int) + 1).toNat = i + 1 := by omega
    have hb2 : ¬ (c = i + 1) := by omega
    have hb3 : (i : Int) ≤ (n : Int) + 1 := by omega
    have hb4 : ¬ (c = i) := by omega
    go_enter Tryd.func86, Tryd.ntmps86
    go_wp2_with (simp only [hov])
    go_region_law (refine step_copyR rfl _ _ 23 23 rfl _ _ (by simp [Act.eval, Act.put]) (by simp [Act.eval, Act.put]) (hc1 _ _ _) ?_)
    go_wp2_with (at_builtin; refine wpList_copyR _ rfl _ _ 23 23 rfl _ _ rfl rfl (hc2 _ _) ?_)
    go_ret
    exact ⟨rfl, rfl⟩
  grow := by
    intro w W1 W2 W3 b n c c2 g i a vc hi hn hcn hn2 hc2 h1 h2 h3
    try simp only [Nat.mul_one] at h2 h3
    have hz2 : ¬ ((i : Int) = (n : Int)) := by omega
    have hz3 : (c : Int) < (n : Int) + 1 := by omega
    have hw1 : IntKind.i64.wrap ((i : Int) + 1) = (i : Int) + 1 := by rw [IntKind.wrap_i64]; unfold maxLen at hc2; omega
    have hw2 : IntKind.i64.wrap ((n : Int) + 1) = (n : Int) + 1 := by rw [IntKind.wrap_i64]; unfold maxLen at hc2; omega
    have hw3 : IntKind.i64.wrap ((n : Int) + 1 - (i : Int)) = (n : Int) + 1 - (i : Int) := by rw [IntKind.wrap_i64]; unfold maxLen at hc2; omega
    have hb1 : (0 : Int) ≤ (i : Int) + 1 := by omega
    have hin : i ≤ n := by omega
    have htn : ((i : Int) + 1).toNat = i + 1 := by omega
    have hb3 : (i : Int) ≤ (n : Int) := by omega
    have hGi : ¬ (c2 = i) := by omega
    have hGim : ¬ (c2 = i + 1) := by omega
    have hci : ¬ (c = i) := by omega
    go_enter Tryd.func86, Tryd.ntmps86
    go_wp2_with (first
      | (at_builtin; refine Lib.wpList_append_run _ rfl _ _ _ _ rfl _ _ rfl rfl _ _ (h1 _) ?_)
      | (at_builtin; refine wpList_copyR _ rfl _ _ 23 23 rfl _ _ rfl rfl (h2 _ _) ?_))
    go_region_law (refine step_copyR rfl _ _ 23 23 rfl _ _ (by simp [Act.eval, Act.put]) (by simp [Act.eval, Act.put]) (h3 _ _ _) ?_)
    go_wp2
    go_ret
    exact ⟨rfl, rfl⟩
theorem mi_slices_Insert_Lstring_string : ∀ ys cr, pIns 1 ys = some cr → Meets Tryd.prog nm F.slices_Insert_Lstring_string ys cr := by
  obtain ⟨i0, hi, hz0, hz1, hz2⟩ := info_parts (show (Tryd.prog.info? 9).map (fun i => (i.zero, i.size, i.bytes)) = some (some (.string ⟨#[]⟩), 1, 16) by kernel_rfl)
  exact meets_insert (by decide) Tryd.underlying23 Tryd.underlying3 hi hz1 hz0 rfl (by omega) insRun86
set_option maxHeartbeats 4000000 in
set_option maxRecDepth 100000 in
theorem insRun87 : InsRun Tryd.prog 87 5 22 3 where
  atEnd := by
    intro w w' base n c a vc v' hb hb0 hn hc hr
    go_enter Tryd.func87, Tryd.ntmps87
    cases base with
    | none =>
      obtain ⟨rfl, rfl⟩ := hb0 rfl
      go_wp2_with (at_builtin; refine Lib.wpList_append_run _ rfl _ _ _ _ rfl _ _ rfl rfl _ _ (hr _) ?_)
      go_ret
      exact ⟨rfl, rfl⟩
    | some x =>
      obtain ⟨b, rfl⟩ := hb x rfl
      go_wp2_with (at_builtin; refine Lib.wpList_append_run _ rfl _ _ _ _ rfl _ _ rfl rfl _ _ (hr _) ?_)
      all_goals (go_ret; exact ⟨rfl, rfl⟩)
  room := by
    intro w W1 W2 b n c i a vc hi hn hc hab ha hb hc1 hc2
    obtain ⟨xa, ea, fa, hxa, hxa0⟩ := ha
    obtain ⟨yb, eb, hyb, hyb0⟩ := hb
    have hov : ∀ lb cb, (callFunc 107 #[.slice (some a) 1 vc, .slice (some ⟨b, (i + 1) * 5, none⟩) lb cb]).run Tryd.prog w = .ok (.value (.bool false)) w := fun lb cb => by
      rw [run_callFunc_extern Tryd.func107 (by kernel_rfl) (by kernel_rfl) (by kernel_rfl) (e := Extern.SlicesOverlaps.overlaps #[22, 22] #[4]) (by kernel_rfl),
        run_overlaps_own w 22 4 25 Tryd.underlying22 5 Tryd.sizeOf25 a ⟨b, (i + 1) * 5, none⟩ 1 vc lb cb hab hxa hxa0 hyb hyb0]
      rfl
    try simp only [Nat.mul_one] at hov hc1 hc2
    have hz2 : ¬ ((i : Int) = (n : Int)) := by omega
    have hz3 : ¬ ((c : Int) < (n : Int) + 1) := by omega
    have hw1 : IntKind.i64.wrap ((i : Int) + 1) = (i : Int) + 1 := by rw [IntKind.wrap_i64]; unfold maxLen at hc; omega
    have hw2 : IntKind.i64.wrap ((n : Int) + 1) = (n : Int) + 1 := by rw [IntKind.wrap_i64]; unfold maxLen at hc; omega
    have hb1 : (0 : Int) ≤ (i : Int) + 1 := by omega
    have hin : i ≤ n := by omega
    have htn : ((i : Int) + 1).toNat = i + 1 := by omega
    have hb2 : ¬ (c = i + 1) := by omega
    have hb3 : (i : Int) ≤ (n : Int) + 1 := by omega
    have hb4 : ¬ (c = i) := by omega
    go_enter Tryd.func87, Tryd.ntmps87
    go_wp2_with (simp only [hov])
    go_region_law (refine step_copyR rfl _ _ 22 22 rfl _ _ (by simp [Act.eval, Act.put]) (by simp [Act.eval, Act.put]) (hc1 _ _ _) ?_)
    go_wp2_with (at_builtin; refine wpList_copyR _ rfl _ _ 22 22 rfl _ _ rfl rfl (hc2 _ _) ?_)
    go_ret
    exact ⟨rfl, rfl⟩
  grow := by
    intro w W1 W2 W3 b n c c2 g i a vc hi hn hcn hn2 hc2 h1 h2 h3
    try simp only [Nat.mul_one] at h2 h3
    have hz2 : ¬ ((i : Int) = (n : Int)) := by omega
    have hz3 : (c : Int) < (n : Int) + 1 := by omega
    have hw1 : IntKind.i64.wrap ((i : Int) + 1) = (i : Int) + 1 := by rw [IntKind.wrap_i64]; unfold maxLen at hc2; omega
    have hw2 : IntKind.i64.wrap ((n : Int) + 1) = (n : Int) + 1 := by rw [IntKind.wrap_i64]; unfold maxLen at hc2; omega
    have hw3 : IntKind.i64.wrap ((n : Int) + 1 - (i : Int)) = (n : Int) + 1 - (i : Int) := by rw [IntKind.wrap_i64]; unfold maxLen at hc2; omega
    have hb1 : (0 : Int) ≤ (i : Int) + 1 := by omega
    have hin : i ≤ n := by omega
    have htn : ((i : Int) + 1).toNat = i + 1 := by omega
    have hb3 : (i : Int) ≤ (n : Int) := by omega
    have hGi : ¬ (c2 = i) := by omega
    have hGim : ¬ (c2 = i + 1) := by omega
    have hci : ¬ (c = i) := by omega
    go_enter Tryd.func87, Tryd.ntmps87
    go_wp2_with (first
      | (at_builtin; refine Lib.wpList_append_run _ rfl _ _ _ _ rfl _ _ rfl rfl _ _ (h1 _) ?_)
      | (at_builtin; refine wpList_copyR _ rfl _ _ 22 22 rfl _ _ rfl rfl (h2 _ _) ?_))
    go_region_law (refine step_copyR rfl _ _ 22 22 rfl _ _ (by simp [Act.eval, Act.put]) (by simp [Act.eval, Act.put]) (h3 _ _ _) ?_)
    go_wp2
    go_ret
    exact ⟨rfl, rfl⟩
theorem mi_slices_Insert_LValue_Value : ∀ ys cr, pIns 5 ys = some cr → Meets Tryd.prog nm F.slices_Insert_LValue_Value ys cr := by
  obtain ⟨i0, hi, hz0, hz1, hz2⟩ := info_parts (show (Tryd.prog.info? 25).map (fun i => (i.zero, i.size, i.bytes)) = some (some (.agg #[.int .i64 0, .string ⟨#[]⟩, .string ⟨#[]⟩, .slice none 0 0, .slice none 0 0]), 5, 88) by kernel_rfl)
  exact meets_insert (by decide) Tryd.underlying22 Tryd.underlying3 hi hz1 hz0 rfl (by omega) insRun87
def pr : List (Nat × (List PMode × (List Arg → Option CR))) := [(F.slices_Clone_Lstring_string, ([.val], pClone 1)), (F.slices_Clone_LValue_Value, ([.val], pClone 5)), (F.slices_Delete_Lstring_string, ([.mv, .val, .val], pDel 1)), (F.slices_Delete_LValue_Value, ([.mv, .val, .val], pDel 5)), (F.slices_Insert_Lstring_string, ([.mv, .val, .val], pIns 1)), (F.slices_Insert_LValue_Value, ([.mv, .val, .val], pIns 5))]
theorem lk : Linked Tryd.prog nm (tabOf sf pr) := Hm.linked mixed okF (by
  intro x hx
  simp only [pr, List.mem_cons, List.not_mem_nil, or_false] at hx
  rcases hx with rfl | rfl | rfl | rfl | rfl | rfl
  · exact ⟨⟨Tryd.f84, Tryd.func84, by kernel_rfl, by kernel_rfl⟩, mc_slices_Clone_Lstring_string⟩
  · exact ⟨⟨Tryd.f85, Tryd.func85, by kernel_rfl, by kernel_rfl⟩, mc_slices_Clone_LValue_Value⟩
  · exact ⟨⟨Tryd.f53, Tryd.func53, by kernel_rfl, by kernel_rfl⟩, md_slices_Delete_Lstring_string⟩
  · exact ⟨⟨Tryd.f54, Tryd.func54, by kernel_rfl, by kernel_rfl⟩, md_slices_Delete_LValue_Value⟩
  · exact ⟨⟨Tryd.f86, Tryd.func86, by kernel_rfl, by kernel_rfl⟩, mi_slices_Insert_Lstring_string⟩
  · exact ⟨⟨Tryd.f87, Tryd.func87, by kernel_rfl, by kernel_rfl⟩, mi_slices_Insert_LValue_Value⟩)
theorem fn0 (n : Nat) (c : AFun) (h : Hm.look sf n = some c := by rfl) (h0 : Hm.look pr n = none := by rfl) : Hm.Fn (tabOf sf pr) n c := ⟨by simp only [tabOf, h0]; rfl, h, by simp only [tabOf, h]⟩
theorem own : ownKnob Tryd.prog.godebug = none := by kernel_rfl
theorem laid : laidOutB Tryd.prog = true := by kernel_rfl
theorem readable : ∀ t ∈ Tryd.f6.params.toList, Tryd.prog.readableRec t = true ∧ t < Tryd.prog.types.size := by
  have h : (Tryd.f6.params.toList.all fun t => Tryd.prog.readableRec t && decide (t < Tryd.prog.types.size)) = true := by kernel_rfl
  intro t ht
  have := List.all_eq_true.1 h t ht
  simpa using this
theorem ptys : ([0] : List Nat).map (tauOf taus) = Tryd.f6.params.toList := by kernel_rfl

mutual
theorem ub1 {H : Type} : ∀ d : DataW H, Rows.uptoBulk d = bulkD d
  | .lit l => by cases l <;> rfl
  | .nil => rfl
  | .ptr d => by rw [Rows.uptoBulk, bulkD, ub1 d]
  | .slice a b => by rw [Rows.uptoBulk, bulkD, ub2 a, ub2 b]
  | .agg a => by rw [Rows.uptoBulk, bulkD, ub2 a]
  | .iface _ d => by rw [Rows.uptoBulk, bulkD, ub1 d]
  | .map a => by rw [Rows.uptoBulk, bulkD, ub3 a]
  | .held _ => rfl
theorem ub2 {H : Type} : ∀ l : List (DataW H), Rows.uptoBulkAll l = bulkAll l
  | [] => rfl
  | d :: r => by rw [Rows.uptoBulkAll, bulkAll, ub1 d, ub2 r]
theorem ub3 {H : Type} : ∀ l : List (Lit × DataW H), Rows.uptoBulkEntries l = bulkEntries l
  | [] => rfl
  | x :: r => by rw [Rows.uptoBulkEntries, bulkEntries, ub4 x, ub3 r]
theorem ub4 {H : Type} : ∀ x : Lit × DataW H, Rows.uptoBulkEntry x = bulkEntry x
  | (l, d) => by cases l <;> simp only [Rows.uptoBulkEntry, bulkEntry, ub1 d]
end

theorem gaN : Tryd.prog.globalNamed "unicode/utf8.acceptRanges" = some gA := by kernel_rfl
theorem gfN : Tryd.prog.globalNamed "unicode/utf8.first" = some gF := by kernel_rfl
theorem gaT : (Tryd.prog.globals[gA]?).map (·.type) = some 114 := by kernel_rfl
theorem gfT : (Tryd.prog.globals[gF]?).map (·.type) = some 111 := by kernel_rfl
theorem glob {W : World} (h : laidMetH Tryd.prog Rows.valueObjectsUptoRow.laid W) : ∀ x ∈ nm.g, VR nm W (fun b => b < W.heap.size) x.1 x.2 := by
  have h' : laidMet Tryd.prog Rows.valueObjectsUptoRow.laid W := h
  intro x hx
  simp only [nm, List.mem_cons, List.not_mem_nil, or_false] at hx
  rcases hx with rfl | rfl
  · exact vr_of_laid h' (name := "unicode/utf8.acceptRanges") (d := Rows.laid_unicode_utf8_acceptRanges) (by simp [Rows.valueObjectsUptoRow]) gaN gaT (FlatTy.array (e := 113) (n := 16) (c := 2) (by kernel_rfl) (by kernel_rfl) (by kernel_rfl) (FlatTy.pair (e := 5) (by kernel_rfl) (by kernel_rfl) (by kernel_rfl) (FlatTy.int (by kernel_rfl)))) (by kernel_rfl)
  · exact vr_of_laid h' (name := "unicode/utf8.first") (d := Rows.laid_unicode_utf8_first) (by simp [Rows.valueObjectsUptoRow]) gfN gfT (FlatTy.array (e := 5) (n := 256) (c := 1) (by kernel_rfl) (by kernel_rfl) (by kernel_rfl) (FlatTy.int (by kernel_rfl))) (by kernel_rfl)

set_option maxRecDepth 100000 in
theorem lives : Hm.Ret (tabOf sf pr) F.hallmarklaw03_lives [] (one (.bool true)) := ⟨⟨400, by kernel_rfl⟩⟩
theorem answers (xs : List AV) (h : HasAs (tsOf tds) [0] xs) (hb : bkRow xs ≤ 1048576) : Hm.Ret (tabOf sf pr) F.hallmarklaw03_ValueObjects (xs.map .val) ⟨[([.av (.bool true)], false)], []⟩ := by
  obtain ⟨a, r, rfl, ha, h⟩ := h.inv
  obtain rfl := h.nil_inv
  obtain ⟨l, rfl, hv⟩ := script_of_arg (tl := 0) (tp := 1) (tv := 3) (ti := 2) (ts := 4) (tvs := 5) (tss := 6) rfl rfl rfl rfl rfl rfl rfl rfl rfl rfl ha
  simp only [bkRow] at hb
  have tw : TwFns (tabOf sf pr) := ⟨fn0 _ _, rfl, rfl, rfl, rfl⟩
  have pt : PutFns (tabOf sf pr) := ⟨fn0 _ _, fn0 _ _, fn0 _ _, fn0 _ _, fn0 _ _, rfl, rfl, rfl, rfl⟩
  have fm : VfFns (tabOf sf pr) := ⟨fn0 _ _, fn0 _ _, fn0 _ _, fn0 _ _, fn0 _ _, fn0 _ _, fn0 _ _, fn0 _ _, fn0 _ _⟩
  have gw : GwFns (tabOf sf pr) := ⟨fn0 _ _, fn0 _ _, fn0 _ _, fn0 _ _, rfl, rfl, rfl, rfl⟩
  have ob : ObFns (tabOf sf pr) := ⟨tw, pt, fm, fn0 _ _, fn0 _ _⟩
  have po : PoF (tabOf sf pr) := ⟨⟨ob, fn0 _ _, fn0 _ _⟩, gw, ⟨fn0 _ _, fn0 _ _, fn0 _ _, fn0 _ _⟩, validOk (fn0 _ _) (fn0 _ _) (fn0 _ _)⟩
  have rd : RdF (tabOf sf pr) := ⟨⟨⟨fn0 _ _, fn0 _ _, fn0 _ _, fn0 _ _, fn0 _ _, fn0 _ _, fn0 _ _, fn0 _ _⟩, fn0 _ _, fn0 _ _, fn0 _ _, fn0 _ _, fn0 _ _, fn0 _ _, fn0 _ _, fn0 _ _, fn0 _ _, fn0 _ _, fn0 _ _⟩, fn0 _ _⟩
  exact ValueObjects_ret (fn0 _ _) (fn0 _ _) lives (fn0 _ _) (fn0 _ _) (fn0 _ _) (fn0 _ _) (fn0 _ _) (fn0 _ _) (fn0 _ _) (fn0 _ _) po rd l (by omega)

set_option maxRecDepth 100000 in
theorem contract (H : Type) (enc : TypeId × Value → H) (W : World) (base : Nat) (args : Array Value) (ds gs : List (DataW H)) (before : List MemPlace)
    (hval : ∀ (j : Nat) t v, Tryd.f6.params[j]? = some t → args[j]? = some v → Value.okWide Tryd.prog W .any base t v)
    (hW : DataW.Whole enc Tryd.prog Tryd.f6.params.toList Rows.valueObjectsSpec.vars false W args.toList ds gs before) (hk : Rows.uptoSmall H (ds ++ gs) = true) (hL : laidMetH Tryd.prog Rows.valueObjectsUptoRow.laid W) :
    Calls Tryd.prog 6 args W fun e W' => ∃ v, e = .returned v ∧ Rows.valueObjectsSpec.post enc Tryd.prog Tryd.f6 false true false false W args v W' := by
  have hW0 := hW
  obtain ⟨p, q, hA, hV, rfl, hfz, hnd⟩ := hW
  rw [← ptys] at hA
  obtain ⟨xs, a1, a2, a3⟩ := args_has (N := nm) (okTy_all okT) (refs_struct okR) (refs_slice okR) (b := base) (r := .any) (by decide) (fun j t v ht hv => by
    rw [ptys] at ht
    exact hval j t v (by simpa using ht) (by simpa using hv)) hA
  obtain ⟨rfl, rfl⟩ := trodVars_none hV
  have hbulk : bkRow xs ≤ 1048576 := by
    have h1 := of_decide_eq_true hk
    rw [List.append_nil, ub2] at h1
    exact Nat.le_trans a3 h1
  obtain ⟨n, hn⟩ := (answers xs a1 hbulk).out
  refine (law_call lk hn a2 (glob hL)).mono fun e W' ⟨he, hb⟩ => ?_
  refine ⟨_, he, law_post (tb := 4) laid readable Tryd.underlying4 (by kernel_rfl) rfl hW0 ?_ hb⟩
  have hl : ds.length = 1 := by
    have h1 := trodAll_len hA
    simpa using h1
  match ds, hl with
  | [d0], _ => rfl

def lay (cs : Array Value) : Obj → Obj
  | .cells _ t frozen => .cells cs t frozen
  | o => o
noncomputable def laidWorld (os : Os) : World :=
  { World.holding Tryd.prog os ⟨#[], #[], []⟩ with heap := ((World.holding Tryd.prog os ⟨#[], #[], []⟩).heap.modify gA (lay (zcells accZ).toArray)).modify gF (lay (zcells firZ).toArray) }
def wargs : Array Value := #[.slice none 0 0]
theorem laid_met (os : Os) : laidMet Tryd.prog Rows.valueObjectsUptoRow.laid ((laidWorld os).forCall (fun _ _ => 0) ⟨#[], wargs, []⟩).memory :=
  laidMet_of_run' 8 (by kernel_rfl) (by kernel_rfl)
theorem reads (os : Os) {H : Type} (enc : TypeId × Value → H) : ∃ places, DataW.whole enc Tryd.prog ((laidWorld os).forCall (fun _ _ => 0) ⟨#[], wargs, []⟩).memory Tryd.f6.params.toList Rows.valueObjectsSpec.vars false wargs.toList 8 = some ([.nil], [], places) :=
  ⟨[], by kernel_rfl⟩

set_option maxRecDepth 100000 in
theorem lifted (os : Os) (started : os.Started) (H : Type) (enc : TypeId × Value → H) (F : Stop.Interp) :
    ReturnsInHanded {} Tryd.checked os 6 .any ((Rows.OpenSpec.upto Rows.valueObjectsSpec).preRow enc Tryd.prog Tryd.f6 Rows.valueObjectsUptoRow.domain false Rows.valueObjectsUptoRow.laid) (((Rows.OpenSpec.upto Rows.valueObjectsSpec).at F).post enc Tryd.prog Tryd.f6 false true false false) := by
  obtain ⟨places, hx⟩ := reads os enc
  refine returnsInHanded_of_row (C := Tryd.checked) (s := Rows.OpenSpec.upto Rows.valueObjectsSpec) own started (by kernel_rfl) Tryd.func6
    (witness_row_at (enc := enc) (C := Tryd.checked) false (laidWorld os) wargs rfl (by kernel_rfl) (by kernel_rfl) (by kernel_rfl)
      (OpenSpec.preRow_of_cond 8 hx (by kernel_rfl) (fun k hk => by cases hk; kernel_rfl) (by kernel_rfl) (laid_met os))) ?_
  intro W base args ds gs before hval hW _ hcond _ hL _ _
  exact contract H enc W base args ds gs before hval hW (hcond _ rfl) hL

theorem over : Rows.valueObjectsUptoRow.holds Tryd.pinned (Rows.OpenSpec.upto Rows.valueObjectsSpec) :=
  OpenClaim.holds_of_cond 6 Tryd.f6 rfl rfl rfl rfl rfl rfl rfl ⟨rfl, rfl, rfl, rfl, rfl⟩ rfl rfl rfl rfl rfl (by kernel_rfl) Tryd.func6 (by kernel_rfl)
    (of_decide_eq_true (by kernel_rfl)) (by unfold Func.isWrapper; first | (rw [if_pos (by decide +kernel)]; kernel_rfl) | (rw [if_neg (by decide +kernel)]; exact ⟨rfl, rfl⟩))
    (fun os started H enc _ F => by rw [OpenClaim.pre_eq_preRow]; exact lifted os started H enc F)

theorem standIn : (Tryd.prog.funcs[6]?.map fun fn => fn.params.toList.all fun t => !Tryd.prog.wantsStandIn t) = some true := by kernel_rfl
theorem plain (f : FuncId) (fn : Func) (hf : Tryd.pinned.checked.prog.funcNamed "hallmark/hallmarklaw03.ValueObjects" = some f) (hfn : Tryd.pinned.checked.prog.funcs[f]? = some fn) :
    false = Tryd.pinned.checked.prog.looks [] ∧ ∀ (j : Nat) t, fn.params[j]? = some t → Tryd.pinned.checked.prog.wantsStandIn t = false := by
  obtain rfl : f = 6 := Option.some.inj ((show Tryd.prog.funcNamed "hallmark/hallmarklaw03.ValueObjects" = some 6 by kernel_rfl).symm.trans hf) |>.symm
  obtain rfl : fn = Tryd.f6 := (Option.some.inj (Tryd.func6.symm.trans hfn)).symm
  refine ⟨by kernel_rfl, fun j t ht => ?_⟩
  have h := standIn
  rw [Tryd.func6] at h
  simp only [Option.map_some, Option.some.injEq, List.all_eq_true, Bool.not_eq_true'] at h
  exact h t (Array.mem_toList_iff.2 (Array.mem_of_getElem? ht))

theorem proved : Rows.ValueObjectsUptoCardSaid :=
  Claim7.holds_tied_plain_at .later [] _ _ _ _ over (fun _ h => by cases h) (by kernel_rfl) (fun _ h => by cases h) valueObjectsUpto_row_tie rfl ⟨rfl, rfl⟩ (by kernel_rfl) rfl plain (by kernel_rfl)
end Go.Proofs.YtfbhbfganoanfaaDoor.hObjs
#print axioms Go.Proofs.YtfbhbfganoanfaaDoor.hObjs.proved
