/-
  ValueRow: whatever three values are given (together of bulk at most 1048576), the law answers true and its arguments read as before. Conditions: none but the statement's own.
-/
import Derived.Test.YtfbhbfganoanfaaRows
import Derived.Test.YtfbhbfganoanfaaHD
import Derived.Test.YtfbhbfganoanfaaGRow
import Derived.WalkKit
import Derived.ProofKit
import Derived.OpenShut
import Derived.JoinedCond
namespace Go.Proofs.Ytfbhbfganoanfaa.hRow
open Go.ChangeShapes Go.WideShapes Go.ChangeAt Go.RowKit Hm
set_option linter.unusedVariables false
set_option linter.unnecessarySimpa false
set_option linter.unusedSimpArgs false

def fl : List (Nat × Nat) := [(F.hallmarklaw03_small, 11), (F.hallmarkref03_Formed, 12), (F.hallmarklaw03_ValueRow, 6), (F.value_Cmp, 22), (F.hallmarkref03_Like, 23), (F.hallmarkref03_Parts, 25), (F.hallmarkref03_Number, 26), (F.hallmarkref03_UTF, 27), (F.hallmarkref03_Rise, 28), (F.hallmarkref03_All, 29), (F.value_side_alike, 38), (F.value_side_number, 39), (F.value_side_text, 40), (F.value_side_array, 41), (F.value_side_object, 42), (F.cmp_Compare_int, 43), (F.hallmarkref03_width, 45), (F.tens_Cmp, 49), (F.strings_Compare, 50), (F.slices_CompareFunc_LValue_LValue_Value_Value, 51), (F.slices_Compare_Lstring_string, 53), (F.cmp_Or_int, 52), (F.cmp_isNaN_int, 54), (F.hallmarkref03_trail, 56), (F.tens_Formed, 57), (F.tens_split, 58), (F.tens_size, 59), (F.cmp_Compare_string, 61), (F.cmp_isNaN_string, 63), (F.internal_bytealg_CompareString, 60)]
def nm : Nm := ⟨fun f => (Hm.look fl f).getD 0, fun _ => 0, []⟩
def sf : List (Nat × AFun) := [(F.hallmarklaw03_small, hallmarklaw03_small.fn), (F.hallmarkref03_Formed, hallmarkref03_Formed.fn), (F.hallmarklaw03_ValueRow, hallmarklaw03_ValueRow.fn), (F.value_Cmp, value_Cmp.fn), (F.hallmarkref03_Like, hallmarkref03_Like.fn), (F.hallmarkref03_Parts, hallmarkref03_Parts.fn), (F.hallmarkref03_Number, hallmarkref03_Number.fn), (F.hallmarkref03_UTF, hallmarkref03_UTF.fn), (F.hallmarkref03_Rise, hallmarkref03_Rise.fn), (F.hallmarkref03_All, hallmarkref03_All.fn), (F.value_side_alike, value_side_alike.fn), (F.value_side_number, value_side_number.fn), (F.value_side_text, value_side_text.fn), (F.value_side_array, value_side_array.fn), (F.value_side_object, value_side_object.fn), (F.cmp_Compare_int, cmp_Compare_int.fn), (F.hallmarkref03_width, hallmarkref03_width.fn), (F.tens_Cmp, tens_Cmp.fn), (F.strings_Compare, strings_Compare.fn), (F.slices_CompareFunc_LValue_LValue_Value_Value, slices_CompareFunc_LValue_LValue_Value_Value.fn), (F.slices_Compare_Lstring_string, slices_Compare_Lstring_string.fn), (F.cmp_Or_int, cmp_Or_int.fn), (F.cmp_isNaN_int, cmp_isNaN_int.fn), (F.hallmarkref03_trail, hallmarkref03_trail.fn), (F.tens_Formed, tens_Formed.fn), (F.tens_split, tens_split.fn), (F.tens_size, tens_size.fn), (F.cmp_Compare_string, cmp_Compare_string.fn), (F.cmp_isNaN_string, cmp_isNaN_string.fn)]
def tds : List (TD × Nat) := [(.struct [1, 2, 2, 3, 4], 5), (.int .i64, 1), (.str, 1), (.slice 0, 1), (.slice 2, 1)]
def taus : List Nat := [25, 3, 9, 22, 23]
theorem okF : okFns Try.prog nm sf = true := by kernel_rfl
theorem okT : ((List.range tds.length).all fun i => okTy Try.prog (tauOf taus) (tsOf tds) i) = true := by kernel_rfl
theorem okR : (tds.all fun x => refsOk tds.length x.1) = true := by kernel_rfl
theorem mixed : Try.prog.follows .mixedOrders = true := by kernel_rfl
set_option maxRecDepth 100000 in
theorem cmpString (a b : ByteArray) (w : World) : Calls Try.prog 60 #[.string a, .string b] w fun e w' => e = .returned (.int .i64 (Lib.compareBytes a.data.toList b.data.toList)) ∧ w' = w := by
  go_enter Try.func60, Try.ntmps60
  go_wp2
  rw [run_callFunc_extern Try.func62 (by kernel_rfl) (by kernel_rfl) (by kernel_rfl) (e := Extern.BytealgCompare.compare) (by kernel_rfl), Lib.run_compareString]
  simp only [Result.andThen]
  rw [Oper.upon_value]
  go_wp2
  go_ret
  exact ⟨rfl, rfl⟩
def pr : List (Nat × (List PMode × (List Arg → Option CR))) := [(F.internal_bytealg_CompareString, ([.val, .val], pCompare))]
theorem lk : Linked Try.prog nm (tabOf sf pr) := Hm.linked mixed okF (by
  intro x hx
  simp only [pr, List.mem_cons, List.not_mem_nil, or_false] at hx
  rcases hx with rfl
  · exact ⟨⟨Try.f60, Try.func60, by kernel_rfl, by kernel_rfl⟩, meets_compare cmpString⟩)
theorem fn0 (n : Nat) (c : AFun) (h : Hm.look sf n = some c := by rfl) (h0 : Hm.look pr n = none := by rfl) : Hm.Fn (tabOf sf pr) n c := ⟨by simp only [tabOf, h0]; rfl, h, by simp only [tabOf, h]⟩
theorem own : ownKnob Try.prog.godebug = none := by kernel_rfl
theorem laid : laidOutB Try.prog = true := by kernel_rfl
theorem readable : ∀ t ∈ Try.f6.params.toList, Try.prog.readableRec t = true ∧ t < Try.prog.types.size := by
  have h : (Try.f6.params.toList.all fun t => Try.prog.readableRec t && decide (t < Try.prog.types.size)) = true := by kernel_rfl
  intro t ht
  have := List.all_eq_true.1 h t ht
  simpa using this
theorem ptys : ([0, 0, 0] : List Nat).map (tauOf taus) = Try.f6.params.toList := by kernel_rfl

mutual
theorem ub1 {H : Type} : ∀ d : DataW H, Rows.uptoBulk d = bulkD d
  | .lit l => by cases l <;> rfl
  | .nil => rfl
  | .ptr d => by rw [Rows.uptoBulk, bulkD, ub1 d]
  | .slice a b => by rw [Rows.uptoBulk, bulkD, ub2 a, ub2 b]
  | .agg a => by rw [Rows.uptoBulk, bulkD, ub2 a]
  | .iface _ d => by rw [Rows.uptoBulk, bulkD, ub1 d]
  | .map a => by rw [Rows.uptoBulk, bulkD, ub3 a]
  | .held _ => rfl
theorem ub2 {H : Type} : ∀ l : List (DataW H), Rows.uptoBulkAll l = bulkAll l
  | [] => rfl
  | d :: r => by rw [Rows.uptoBulkAll, bulkAll, ub1 d, ub2 r]
theorem ub3 {H : Type} : ∀ l : List (Lit × DataW H), Rows.uptoBulkEntries l = bulkEntries l
  | [] => rfl
  | x :: r => by rw [Rows.uptoBulkEntries, bulkEntries, ub4 x, ub3 r]
theorem ub4 {H : Type} : ∀ x : Lit × DataW H, Rows.uptoBulkEntry x = bulkEntry x
  | (l, d) => by cases l <;> simp only [Rows.uptoBulkEntry, bulkEntry, ub1 d]
end

theorem answers (xs : List AV) (h : HasAs (tsOf tds) [0, 0, 0] xs) (hb : bkRow xs ≤ 1048576) : Hm.Ret (tabOf sf pr) F.hallmarklaw03_ValueRow (xs.map .val) ⟨[([.av (.bool true)], false)], []⟩ := by
  obtain ⟨a, r, rfl, ha, h⟩ := h.inv
  obtain ⟨b, r, rfl, hb', h⟩ := h.inv
  obtain ⟨c, r, rfl, hc, h⟩ := h.inv
  obtain rfl := h.nil_inv
  obtain ⟨a, rfl, h1⟩ := V.of_arg rfl rfl rfl rfl rfl rfl rfl ha
  obtain ⟨b, rfl, h2⟩ := V.of_arg rfl rfl rfl rfl rfl rfl rfl hb'
  obtain ⟨c, rfl, h3⟩ := V.of_arg rfl rfl rfl rfl rfl rfl rfl hc
  simp only [bkRow, h1, h2, h3] at hb
  exact ValueRow_ret (fn0 _ _) ⟨fn0 _ _, fn0 _ _, fn0 _ _, fn0 _ _, fn0 _ _, fn0 _ _, fn0 _ _, fn0 _ _, fn0 _ _, fn0 _ _, fn0 _ _, fn0 _ _, fn0 _ _, fn0 _ _, fn0 _ _, fn0 _ _, fn0 _ _, fn0 _ _, rfl, rfl⟩ (fn0 _ _) (fn0 _ _) (fn0 _ _) (fn0 _ _) (fn0 _ _) (fn0 _ _) (fn0 _ _) (fn0 _ _) (fn0 _ _) (fn0 _ _) a b c (by omega) (by omega) (by omega)

set_option maxRecDepth 100000 in
theorem contract (H : Type) (enc : TypeId × Value → H) (W : World) (base : Nat) (args : Array Value) (ds gs : List (DataW H)) (before : List MemPlace)
    (hval : ∀ (j : Nat) t v, Try.f6.params[j]? = some t → args[j]? = some v → Value.okWide Try.prog W .any base t v)
    (hW : DataW.Whole enc Try.prog Try.f6.params.toList Rows.valueRowSpec.vars false W args.toList ds gs before) (hk : Rows.uptoSmall H (ds ++ gs) = true) :
    Calls Try.prog 6 args W fun e W' => ∃ v, e = .returned v ∧ Rows.valueRowSpec.post enc Try.prog Try.f6 false true false false W args v W' := by
  have hW0 := hW
  obtain ⟨p, q, hA, hV, rfl, hfz, hnd⟩ := hW
  rw [← ptys] at hA
  obtain ⟨xs, a1, a2, a3⟩ := args_has (N := nm) (okTy_all okT) (refs_struct okR) (refs_slice okR) (b := base) (r := .any) (by decide) (fun j t v ht hv => by
    rw [ptys] at ht
    exact hval j t v (by simpa using ht) (by simpa using hv)) hA
  obtain ⟨rfl, rfl⟩ := trodVars_none hV
  have hbulk : bkRow xs ≤ 1048576 := by
    have h1 := of_decide_eq_true hk
    rw [List.append_nil, ub2] at h1
    exact Nat.le_trans a3 h1
  obtain ⟨n, hn⟩ := (answers xs a1 hbulk).out
  refine (law_call lk hn a2 (by simp [nm])).mono fun e W' ⟨he, hb⟩ => ?_
  refine ⟨_, he, law_post (tb := 4) laid readable Try.underlying4 (by kernel_rfl) rfl hW0 ?_ hb⟩
  have hl : ds.length = 3 := by
    have h1 := trodAll_len hA
    simpa using h1
  match ds, hl with
  | [d0, d1, d2], _ => rfl

set_option maxRecDepth 100000 in
theorem lifted (os : Os) (started : os.Started) (H : Type) (enc : TypeId × Value → H) (F : Stop.Interp) :
    ReturnsInHanded {} Try.checked os 6 .any ((Rows.OpenSpec.upto Rows.valueRowSpec).pre6 enc Try.prog Try.f6 Rows.valueRowUptoRow.domain false) (((Rows.OpenSpec.upto Rows.valueRowSpec).at F).post enc Try.prog Try.f6 false true false false) := by
  refine returnsInHanded_of_cond (C := Try.checked) (s := Rows.OpenSpec.upto Rows.valueRowSpec) (k := Rows.uptoSmall) rfl own started (by kernel_rfl) Try.func6
    (OpenSpec.witness (enc := enc) (C := Try.checked) (s := Rows.OpenSpec.upto Rows.valueRowSpec) (k := Rows.uptoSmall) rfl false ⟨#[], #[.agg #[.int .i64 0, .string ⟨#[]⟩, .string ⟨#[]⟩, .slice none 0 0, .slice none 0 0], .agg #[.int .i64 0, .string ⟨#[]⟩, .string ⟨#[]⟩, .slice none 0 0, .slice none 0 0], .agg #[.int .i64 0, .string ⟨#[]⟩, .string ⟨#[]⟩, .slice none 0 0, .slice none 0 0]], []⟩ 8 (by kernel_rfl) (by kernel_rfl) (by kernel_rfl)
      (x := ([.agg [.lit (.int .i64 0), .lit (.string []), .lit (.string []), .nil, .nil], .agg [.lit (.int .i64 0), .lit (.string []), .lit (.string []), .nil, .nil], .agg [.lit (.int .i64 0), .lit (.string []), .lit (.string []), .nil, .nil]], [], [])) (by kernel_rfl) rfl (by kernel_rfl)) ?_
  intro W base args ds gs before hval hW _ hk _
  exact contract H enc W base args ds gs before hval hW hk

theorem over : Rows.valueRowUptoRow.holds Try.pinned (Rows.OpenSpec.upto Rows.valueRowSpec) :=
  OpenClaim.holds_of_cond 6 Try.f6 rfl rfl rfl rfl rfl rfl rfl ⟨rfl, rfl, rfl, rfl, rfl⟩ rfl rfl rfl rfl rfl (by kernel_rfl) Try.func6 (by kernel_rfl)
    (of_decide_eq_true (by kernel_rfl)) (by unfold Func.isWrapper; first | (rw [if_pos (by decide +kernel)]; kernel_rfl) | (rw [if_neg (by decide +kernel)]; exact ⟨rfl, rfl⟩))
    (fun os started H enc _ F => lifted os started H enc F)

theorem proved : Rows.ValueRowUptoSaid :=
  over
end Go.Proofs.Ytfbhbfganoanfaa.hRow
#print axioms Go.Proofs.Ytfbhbfganoanfaa.hRow.proved
