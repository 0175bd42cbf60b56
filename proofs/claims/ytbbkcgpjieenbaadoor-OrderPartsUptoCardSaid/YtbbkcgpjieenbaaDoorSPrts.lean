/-
  OrderParts: whatever two lists are given (together of bulk at most 1048576), the law answers true and its arguments read as before; its row lists two tables of unicode/utf8, tied to the text. Conditions: none but the statement's own.
-/
import Derived.Test.YtbbkcgpjieenbaaDoorCards
import Derived.Test.YtbbkcgpjieenbaaDoorTie
import Derived.Test.YtbbkcgpjieenbaaDoorHD
import Derived.Test.YtbbkcgpjieenbaaDoorGPrts
import Derived.WalkKit
import Derived.ProofKit
import Derived.OpenShut
import Derived.JoinedCond
import Derived.Deep.DeepHandedRow
import Derived.Lib.LaidTab
namespace Go.Proofs.YtbbkcgpjieenbaaDoor.hPrts
open Go.ChangeShapes Go.WideShapes Go.ChangeAt Go.RowKit Hm
set_option linter.unusedVariables false
set_option linter.unnecessarySimpa false
set_option linter.unusedSimpArgs false

def fl : List (Nat × Nat) := [(F.hallmarkref03_Formed, 27), (F.value_Cmp, 30), (F.hallmarkref03_Number, 43), (F.hallmarkref03_UTF, 44), (F.hallmarkref03_Rise, 45), (F.hallmarkref03_All, 23), (F.value_Twin, 50), (F.value_side_alike, 53), (F.value_side_number, 54), (F.value_side_text, 55), (F.value_side_array, 56), (F.value_side_object, 57), (F.cmp_Compare_int, 58), (F.hallmarkref03_width, 64), (F.tens_Cmp, 69), (F.strings_Compare, 70), (F.slices_CompareFunc_LValue_LValue_Value_Value, 71), (F.slices_Compare_Lstring_string, 73), (F.cmp_Or_int, 72), (F.cmp_isNaN_int, 74), (F.hallmarkref03_trail, 78), (F.tens_Formed, 60), (F.tens_split, 79), (F.tens_size, 80), (F.cmp_Compare_string, 82), (F.cmp_isNaN_string, 86), (F.value_Formed, 38), (F.value_Same, 39), (F.value_empty, 59), (F.utf_Valid, 61), (F.value_allFormed, 62), (F.value_rise, 63), (F.unicode_utf8_ValidString, 75), (F.slices_ContainsFunc_LValue_Value, 76), (F.value_allFormed_S1, 77), (F.slices_IndexFunc_LValue_Value, 84), (F.unicode_utf8_word_string, 83), (F.hallmarkkit_SameStrings, 42), (F.hallmarkkit_SameValue, 26), (F.hallmarkkit_SameValues, 14), (F.hallmarklaw07_OrderKnown, 3), (F.hallmarklaw07_word, 9), (F.hallmarklaw07_whole, 10), (F.order_SortBy, 11), (F.order_Unique, 12), (F.order_Group, 13), (F.order_Merge, 15), (F.order_Least, 16), (F.order_Greatest, 17), (F.order_Search, 18), (F.order_Sort, 19), (F.hallmarklaw07_OrderParts, 7), (F.order_pairs, 29), (F.order_formed, 31), (F.order_rises, 32), (F.order_twins, 34), (F.order_merged_Value, 33), (F.order_best, 35), (F.order_Least_S1, 36), (F.order_Greatest_S1, 37), (F.order_sorted_Value, 40), (F.order_sorted_order_pair, 51), (F.order_pairs_S1, 52), (F.order_merged_order_pair, 68), (F.slices_Clone_Lstring_string, 66), (F.slices_Clone_LValue_Value, 67), (F.internal_bytealg_CompareString, 81)]
def tl : List (Nat × Nat) := []
def gA : Nat := 1
def gF : Nat := 0
def nm : Nm := ⟨fun f => (Hm.look fl f).getD 0, fun t => (Hm.look tl t).getD 0, [(.vptr (zavs accZ), .pointer (some ⟨gA, 0, none⟩)), (.vptr (zavs firZ), .pointer (some ⟨gF, 0, none⟩))]⟩
def sf : List (Nat × AFun) := [(F.hallmarkref03_Formed, hallmarkref03_Formed.fn), (F.value_Cmp, value_Cmp.fn), (F.hallmarkref03_Number, hallmarkref03_Number.fn), (F.hallmarkref03_UTF, hallmarkref03_UTF.fn), (F.hallmarkref03_Rise, hallmarkref03_Rise.fn), (F.hallmarkref03_All, hallmarkref03_All.fn), (F.value_Twin, value_Twin.fn), (F.value_side_alike, value_side_alike.fn), (F.value_side_number, value_side_number.fn), (F.value_side_text, value_side_text.fn), (F.value_side_array, value_side_array.fn), (F.value_side_object, value_side_object.fn), (F.cmp_Compare_int, cmp_Compare_int.fn), (F.hallmarkref03_width, hallmarkref03_width.fn), (F.tens_Cmp, tens_Cmp.fn), (F.strings_Compare, strings_Compare.fn), (F.slices_CompareFunc_LValue_LValue_Value_Value, slices_CompareFunc_LValue_LValue_Value_Value.fn), (F.slices_Compare_Lstring_string, slices_Compare_Lstring_string.fn), (F.cmp_Or_int, cmp_Or_int.fn), (F.cmp_isNaN_int, cmp_isNaN_int.fn), (F.hallmarkref03_trail, hallmarkref03_trail.fn), (F.tens_Formed, tens_Formed.fn), (F.tens_split, tens_split.fn), (F.tens_size, tens_size.fn), (F.cmp_Compare_string, cmp_Compare_string.fn), (F.cmp_isNaN_string, cmp_isNaN_string.fn), (F.value_Formed, value_Formed.fn), (F.value_Same, value_Same.fn), (F.value_empty, value_empty.fn), (F.utf_Valid, utf_Valid.fn), (F.value_allFormed, value_allFormed.fn), (F.value_rise, value_rise.fn), (F.unicode_utf8_ValidString, unicode_utf8_ValidString.fn), (F.slices_ContainsFunc_LValue_Value, slices_ContainsFunc_LValue_Value.fn), (F.value_allFormed_S1, value_allFormed_S1.fn), (F.slices_IndexFunc_LValue_Value, slices_IndexFunc_LValue_Value.fn), (F.unicode_utf8_word_string, unicode_utf8_word_string.fn), (F.hallmarkkit_SameStrings, hallmarkkit_SameStrings.fn), (F.hallmarkkit_SameValue, hallmarkkit_SameValue.fn), (F.hallmarkkit_SameValues, hallmarkkit_SameValues.fn), (F.hallmarklaw07_OrderKnown, hallmarklaw07_OrderKnown.fn), (F.hallmarklaw07_word, hallmarklaw07_word.fn), (F.hallmarklaw07_whole, hallmarklaw07_whole.fn), (F.order_SortBy, order_SortBy.fn), (F.order_Unique, order_Unique.fn), (F.order_Group, order_Group.fn), (F.order_Merge, order_Merge.fn), (F.order_Least, order_Least.fn), (F.order_Greatest, order_Greatest.fn), (F.order_Search, order_Search.fn), (F.order_Sort, order_Sort.fn), (F.hallmarklaw07_OrderParts, hallmarklaw07_OrderParts.fn), (F.order_pairs, order_pairs.fn), (F.order_formed, order_formed.fn), (F.order_rises, order_rises.fn), (F.order_twins, order_twins.fn), (F.order_merged_Value, order_merged_Value.fn), (F.order_best, order_best.fn), (F.order_Least_S1, order_Least_S1.fn), (F.order_Greatest_S1, order_Greatest_S1.fn), (F.order_sorted_Value, order_sorted_Value.fn), (F.order_sorted_order_pair, order_sorted_order_pair.fn), (F.order_pairs_S1, order_pairs_S1.fn), (F.order_merged_order_pair, order_merged_order_pair.fn)]
def tds : List (TD × Nat) := [(.slice 1, 1), (.struct [2, 3, 3, 0, 4], 5), (.int .i64, 1), (.str, 1), (.slice 3, 1)]
def taus : List Nat := [22, 25, 3, 9, 23]
theorem okF : okFns Tryd.prog nm sf = true := by kernel_rfl
theorem okT : ((List.range tds.length).all fun i => okTy Tryd.prog (tauOf taus) (tsOf tds) i) = true := by kernel_rfl
theorem okR : (tds.all fun x => refsOk tds.length x.1) = true := by kernel_rfl
theorem mixed : Tryd.prog.follows .mixedOrders = true := by kernel_rfl
theorem okC_slices_Clone_Lstring_string : okFns Tryd.prog nm [(F.slices_Clone_Lstring_string, slices_Clone_Lstring_string.fn)] = true := by kernel_rfl
theorem mc_slices_Clone_Lstring_string : ∀ ys cr, pClone 1 ys = some cr → Meets Tryd.prog nm F.slices_Clone_Lstring_string ys cr :=
  meets_clone (Hm.linked mixed okC_slices_Clone_Lstring_string (by simp)) (fun rows hne hl => slices_Clone_Lstring_string_ret ⟨rfl, rfl, rfl⟩ rows hne hl) (fun nn => slices_Clone_Lstring_string_emp ⟨rfl, rfl, rfl⟩ nn)
theorem okC_slices_Clone_LValue_Value : okFns Tryd.prog nm [(F.slices_Clone_LValue_Value, slices_Clone_LValue_Value.fn)] = true := by kernel_rfl
theorem mc_slices_Clone_LValue_Value : ∀ ys cr, pClone 5 ys = some cr → Meets Tryd.prog nm F.slices_Clone_LValue_Value ys cr :=
  meets_clone (Hm.linked mixed okC_slices_Clone_LValue_Value (by simp)) (fun rows hne hl => slices_Clone_LValue_Value_ret ⟨rfl, rfl, rfl⟩ rows hne hl) (fun nn => slices_Clone_LValue_Value_emp ⟨rfl, rfl, rfl⟩ nn)
set_option maxRecDepth 100000 in
theorem cmpString (a b : ByteArray) (w : World) : Calls Tryd.prog 81 #[.string a, .string b] w fun e w' => e = .returned (.int .i64 (Lib.compareBytes a.data.toList b.data.toList)) ∧ w' = w := by
  go_enter Tryd.func81, Tryd.ntmps81
  go_wp2
  rw [run_callFunc_extern Tryd.func85 (by kernel_rfl) (by kernel_rfl) (by kernel_rfl) (e := Extern.BytealgCompare.compare) (by kernel_rfl), Lib.run_compareString]
  simp only [Result.andThen]
  rw [Oper.upon_value]
  go_wp2
  go_ret
  exact ⟨rfl, rfl⟩
def pr : List (Nat × (List PMode × (List Arg → Option CR))) := [(F.slices_Clone_Lstring_string, ([.val], pClone 1)), (F.slices_Clone_LValue_Value, ([.val], pClone 5)), (F.internal_bytealg_CompareString, ([.val, .val], pCompare))]
theorem lk : Linked Tryd.prog nm (tabOf sf pr) := Hm.linked mixed okF (by
  intro x hx
  simp only [pr, List.mem_cons, List.not_mem_nil, or_false] at hx
  rcases hx with rfl | rfl | rfl
  · exact ⟨⟨Tryd.f66, Tryd.func66, by kernel_rfl, by kernel_rfl⟩, mc_slices_Clone_Lstring_string⟩
  · exact ⟨⟨Tryd.f67, Tryd.func67, by kernel_rfl, by kernel_rfl⟩, mc_slices_Clone_LValue_Value⟩
  · exact ⟨⟨Tryd.f81, Tryd.func81, by kernel_rfl, by kernel_rfl⟩, meets_compare cmpString⟩)
theorem fn0 (n : Nat) (c : AFun) (h : Hm.look sf n = some c := by rfl) (h0 : Hm.look pr n = none := by rfl) : Hm.Fn (tabOf sf pr) n c := ⟨by simp only [tabOf, h0]; rfl, h, by simp only [tabOf, h]⟩
theorem own : ownKnob Tryd.prog.godebug = none := by kernel_rfl
theorem laid : laidOutB Tryd.prog = true := by kernel_rfl
theorem readable : ∀ t ∈ Tryd.f7.params.toList, Tryd.prog.readableRec t = true ∧ t < Tryd.prog.types.size := by
  have h : (Tryd.f7.params.toList.all fun t => Tryd.prog.readableRec t && decide (t < Tryd.prog.types.size)) = true := by kernel_rfl
  intro t ht
  have := List.all_eq_true.1 h t ht
  simpa using this
theorem ptys : ([0, 0] : List Nat).map (tauOf taus) = Tryd.f7.params.toList := by kernel_rfl

mutual
theorem ub1 {H : Type} : ∀ d : DataW H, Rows.uptoBulk d = bulkD d
  | .lit l => by cases l <;> rfl
  | .nil => rfl
  | .ptr d => by rw [Rows.uptoBulk, bulkD, ub1 d]
  | .slice a b => by rw [Rows.uptoBulk, bulkD, ub2 a, ub2 b]
  | .agg a => by rw [Rows.uptoBulk, bulkD, ub2 a]
  | .iface _ d => by rw [Rows.uptoBulk, bulkD, ub1 d]
  | .map a => by rw [Rows.uptoBulk, bulkD, ub3 a]
  | .held _ => rfl
theorem ub2 {H : Type} : ∀ l : List (DataW H), Rows.uptoBulkAll l = bulkAll l
  | [] => rfl
  | d :: r => by rw [Rows.uptoBulkAll, bulkAll, ub1 d, ub2 r]
theorem ub3 {H : Type} : ∀ l : List (Lit × DataW H), Rows.uptoBulkEntries l = bulkEntries l
  | [] => rfl
  | x :: r => by rw [Rows.uptoBulkEntries, bulkEntries, ub4 x, ub3 r]
theorem ub4 {H : Type} : ∀ x : Lit × DataW H, Rows.uptoBulkEntry x = bulkEntry x
  | (l, d) => by cases l <;> simp only [Rows.uptoBulkEntry, bulkEntry, ub1 d]
end

theorem gaN : Tryd.prog.globalNamed "unicode/utf8.acceptRanges" = some gA := by kernel_rfl
theorem gfN : Tryd.prog.globalNamed "unicode/utf8.first" = some gF := by kernel_rfl
theorem gaT : (Tryd.prog.globals[gA]?).map (·.type) = some 87 := by kernel_rfl
theorem gfT : (Tryd.prog.globals[gF]?).map (·.type) = some 84 := by kernel_rfl
theorem glob {W : World} (h : laidMetH Tryd.prog Rows.orderPartsUptoRow.laid W) : ∀ x ∈ nm.g, VR nm W (fun b => b < W.heap.size) x.1 x.2 := by
  have h' : laidMet Tryd.prog Rows.orderPartsUptoRow.laid W := h
  intro x hx
  simp only [nm, List.mem_cons, List.not_mem_nil, or_false] at hx
  rcases hx with rfl | rfl
  · exact vr_of_laid h' (name := "unicode/utf8.acceptRanges") (d := Rows.laid_unicode_utf8_acceptRanges) (by simp [Rows.orderPartsUptoRow]) gaN gaT (FlatTy.array (e := 86) (n := 16) (c := 2) (by kernel_rfl) (by kernel_rfl) (by kernel_rfl) (FlatTy.pair (e := 5) (by kernel_rfl) (by kernel_rfl) (by kernel_rfl) (FlatTy.int (by kernel_rfl)))) (by kernel_rfl)
  · exact vr_of_laid h' (name := "unicode/utf8.first") (d := Rows.laid_unicode_utf8_first) (by simp [Rows.orderPartsUptoRow]) gfN gfT (FlatTy.array (e := 5) (n := 256) (c := 1) (by kernel_rfl) (by kernel_rfl) (by kernel_rfl) (FlatTy.int (by kernel_rfl))) (by kernel_rfl)

set_option maxRecDepth 100000 in
theorem known : Hm.Ret (tabOf sf pr) F.hallmarklaw07_OrderKnown [] (one (.bool true)) := ⟨⟨3000, by kernel_rfl⟩⟩
theorem answers (xs : List AV) (h : HasAs (tsOf tds) [0, 0] xs) (hb : bkRow xs ≤ 1048576) : Hm.Ret (tabOf sf pr) F.hallmarklaw07_OrderParts (xs.map .val) ⟨[([.av (.bool true)], false)], []⟩ := by
  obtain ⟨a, r, rfl, ha, h⟩ := h.inv
  obtain ⟨b, r, rfl, hb', h⟩ := h.inv
  obtain rfl := h.nil_inv
  obtain ⟨l, rfl, h1⟩ := vals_of_arg (tv := 1) (tss := 4) rfl rfl rfl rfl rfl rfl rfl ha
  obtain ⟨m, rfl, h2⟩ := vals_of_arg (tv := 1) (tss := 4) rfl rfl rfl rfl rfl rfl rfl hb'
  simp only [bkRow] at hb
  have vc : VcFns (tabOf sf pr) := ⟨fn0 _ _, fn0 _ _, fn0 _ _, fn0 _ _, fn0 _ _, fn0 _ _, fn0 _ _, fn0 _ _, fn0 _ _, fn0 _ _, fn0 _ _, fn0 _ _, fn0 _ _, fn0 _ _, fn0 _ _, fn0 _ _, fn0 _ _, fn0 _ _, rfl, rfl⟩
  have vf : VfFns (tabOf sf pr) := ⟨fn0 _ _, fn0 _ _, fn0 _ _, fn0 _ _, fn0 _ _, fn0 _ _, fn0 _ _, fn0 _ _, fn0 _ _⟩
  have f : OrFns (tabOf sf pr) := ⟨vc, vf, validOk (fn0 _ _) (fn0 _ _) (fn0 _ _), fn0 _ _, fn0 _ _, fn0 _ _, fn0 _ _, fn0 _ _, fn0 _ _, fn0 _ _, fn0 _ _, fn0 _ _⟩
  have s : SmFns (tabOf sf pr) := ⟨fn0 _ _, fn0 _ _, fn0 _ _⟩
  have tw : TwFns (tabOf sf pr) := ⟨fn0 _ _, rfl, rfl, rfl, rfl⟩
  have o : OsFns (tabOf sf pr) := ⟨f, tw, fn0 _ _, fn0 _ _, fn0 _ _, fn0 _ _, fn0 _ _⟩
  have p : OpFns (tabOf sf pr) := ⟨o, fn0 _ _, fn0 _ _, fn0 _ _, fn0 _ _, fn0 _ _⟩
  exact OrderParts_ret (fn0 _ _) (fn0 _ _) known p (fn0 _ _) (fn0 _ _) (fn0 _ _) (fn0 _ _) (fn0 _ _) (fn0 _ _) (fn0 _ _) (fn0 _ _) (fn0 _ _) s l m (by omega) (by omega)

set_option maxRecDepth 100000 in
theorem contract (H : Type) (enc : TypeId × Value → H) (W : World) (base : Nat) (args : Array Value) (ds gs : List (DataW H)) (before : List MemPlace)
    (hval : ∀ (j : Nat) t v, Tryd.f7.params[j]? = some t → args[j]? = some v → Value.okWide Tryd.prog W .any base t v)
    (hW : DataW.Whole enc Tryd.prog Tryd.f7.params.toList Rows.orderPartsSpec.vars false W args.toList ds gs before) (hk : Rows.uptoSmall H (ds ++ gs) = true) (hL : laidMetH Tryd.prog Rows.orderPartsUptoRow.laid W) :
    Calls Tryd.prog 7 args W fun e W' => ∃ v, e = .returned v ∧ Rows.orderPartsSpec.post enc Tryd.prog Tryd.f7 false true false false W args v W' := by
  have hW0 := hW
  obtain ⟨p, q, hA, hV, rfl, hfz, hnd⟩ := hW
  rw [← ptys] at hA
  obtain ⟨xs, a1, a2, a3⟩ := args_has (N := nm) (okTy_all okT) (refs_struct okR) (refs_slice okR) (b := base) (r := .any) (by decide) (fun j t v ht hv => by
    rw [ptys] at ht
    exact hval j t v (by simpa using ht) (by simpa using hv)) hA
  obtain ⟨rfl, rfl⟩ := trodVars_none hV
  have hbulk : bkRow xs ≤ 1048576 := by
    have h1 := of_decide_eq_true hk
    rw [List.append_nil, ub2] at h1
    exact Nat.le_trans a3 h1
  obtain ⟨n, hn⟩ := (answers xs a1 hbulk).out
  refine (law_call lk hn a2 (glob hL)).mono fun e W' ⟨he, hb⟩ => ?_
  refine ⟨_, he, law_post (tb := 4) laid readable Tryd.underlying4 (by kernel_rfl) rfl hW0 ?_ hb⟩
  have hl : ds.length = 2 := by
    have h1 := trodAll_len hA
    simpa using h1
  match ds, hl with
  | [d0, d1], _ => rfl

def lay (cs : Array Value) : Obj → Obj
  | .cells _ t frozen => .cells cs t frozen
  | o => o
noncomputable def laidWorld (os : Os) : World :=
  { World.holding Tryd.prog os ⟨#[], #[], []⟩ with heap := ((World.holding Tryd.prog os ⟨#[], #[], []⟩).heap.modify gA (lay (zcells accZ).toArray)).modify gF (lay (zcells firZ).toArray) }
def wargs : Array Value := #[.slice none 0 0, .slice none 0 0]
theorem laid_met (os : Os) : laidMet Tryd.prog Rows.orderPartsUptoRow.laid ((laidWorld os).forCall (fun _ _ => 0) ⟨#[], wargs, []⟩).memory :=
  laidMet_of_run' 8 (by kernel_rfl) (by kernel_rfl)
theorem reads (os : Os) {H : Type} (enc : TypeId × Value → H) : ∃ places, DataW.whole enc Tryd.prog ((laidWorld os).forCall (fun _ _ => 0) ⟨#[], wargs, []⟩).memory Tryd.f7.params.toList Rows.orderPartsSpec.vars false wargs.toList 8 = some ([.nil, .nil], [], places) :=
  ⟨[], by kernel_rfl⟩

set_option maxRecDepth 100000 in
theorem lifted (os : Os) (started : os.Started) (H : Type) (enc : TypeId × Value → H) (F : Stop.Interp) :
    ReturnsInHanded {} Tryd.checked os 7 .any ((Rows.OpenSpec.upto Rows.orderPartsSpec).preRow enc Tryd.prog Tryd.f7 Rows.orderPartsUptoRow.domain false Rows.orderPartsUptoRow.laid) (((Rows.OpenSpec.upto Rows.orderPartsSpec).at F).post enc Tryd.prog Tryd.f7 false true false false) := by
  obtain ⟨places, hx⟩ := reads os enc
  refine returnsInHanded_of_row (C := Tryd.checked) (s := Rows.OpenSpec.upto Rows.orderPartsSpec) own started (by kernel_rfl) Tryd.func7
    (witness_row_at (enc := enc) (C := Tryd.checked) false (laidWorld os) wargs rfl (by kernel_rfl) (by kernel_rfl) (by kernel_rfl)
      (OpenSpec.preRow_of_cond 8 hx (by kernel_rfl) (fun k hk => by cases hk; kernel_rfl) (by kernel_rfl) (laid_met os))) ?_
  intro W base args ds gs before hval hW _ hcond _ hL _ _
  exact contract H enc W base args ds gs before hval hW (hcond _ rfl) hL

theorem over : Rows.orderPartsUptoRow.holds Tryd.pinned (Rows.OpenSpec.upto Rows.orderPartsSpec) :=
  OpenClaim.holds_of_cond 7 Tryd.f7 rfl rfl rfl rfl rfl rfl rfl ⟨rfl, rfl, rfl, rfl, rfl⟩ rfl rfl rfl rfl rfl (by kernel_rfl) Tryd.func7 (by kernel_rfl)
    (of_decide_eq_true (by kernel_rfl)) (by unfold Func.isWrapper; first | (rw [if_pos (by decide +kernel)]; kernel_rfl) | (rw [if_neg (by decide +kernel)]; exact ⟨rfl, rfl⟩))
    (fun os started H enc _ F => by rw [OpenClaim.pre_eq_preRow]; exact lifted os started H enc F)

theorem standIn : (Tryd.prog.funcs[7]?.map fun fn => fn.params.toList.all fun t => !Tryd.prog.wantsStandIn t) = some true := by kernel_rfl
theorem plain (f : FuncId) (fn : Func) (hf : Tryd.pinned.checked.prog.funcNamed "hallmark/hallmarklaw07.OrderParts" = some f) (hfn : Tryd.pinned.checked.prog.funcs[f]? = some fn) :
    false = Tryd.pinned.checked.prog.looks [] ∧ ∀ (j : Nat) t, fn.params[j]? = some t → Tryd.pinned.checked.prog.wantsStandIn t = false := by
  obtain rfl : f = 7 := Option.some.inj ((show Tryd.prog.funcNamed "hallmark/hallmarklaw07.OrderParts" = some 7 by kernel_rfl).symm.trans hf) |>.symm
  obtain rfl : fn = Tryd.f7 := (Option.some.inj (Tryd.func7.symm.trans hfn)).symm
  refine ⟨by kernel_rfl, fun j t ht => ?_⟩
  have h := standIn
  rw [Tryd.func7] at h
  simp only [Option.map_some, Option.some.injEq, List.all_eq_true, Bool.not_eq_true'] at h
  exact h t (Array.mem_toList_iff.2 (Array.mem_of_getElem? ht))

theorem proved : Rows.OrderPartsUptoCardSaid :=
  Claim7.holds_tied_plain_at .later [] _ _ _ _ over (fun _ h => by cases h) (by kernel_rfl) (fun _ h => by cases h) orderPartsUpto_row_tie rfl ⟨rfl, rfl⟩ (by kernel_rfl) rfl plain (by kernel_rfl)
end Go.Proofs.YtbbkcgpjieenbaaDoor.hPrts
#print axioms Go.Proofs.YtbbkcgpjieenbaaDoor.hPrts.proved
