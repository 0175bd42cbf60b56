/-
  MemberKnown: the law answers true; its row lists five tables and the handle of the type error, tied to the text. Conditions: none but the statement's own.
-/
import Derived.Test.YtolnpaiimdohoaaDoorCards
import Derived.Test.YtolnpaiimdohoaaDoorTie
import Derived.Test.YtolnpaiimdohoaaDoorHD
import Derived.Test.YtolnpaiimdohoaaDoorGKnow
import Derived.WalkKit
import Derived.ProofKit
import Derived.OpenShut
import Derived.JoinedCond
import Derived.Deep.DeepHandedRow
import Derived.Lib.LaidTab
import Derived.LaidHandle
import Derived.LaidEql
import Derived.Stop.Asserts
import Derived.RowKitTokens
import Derived.Stop.Joined
namespace Go.Proofs.YtolnpaiimdohoaaDoor.hKnow
open Go.ChangeShapes Go.WideShapes Go.ChangeAt Go.RowKit Hm
set_option linter.unusedVariables false
set_option linter.unnecessarySimpa false
set_option linter.unusedSimpArgs false

def fl : List (Nat × Nat) := [(F.value_Twin, 59), (F.tens_Cmp, 36), (F.tens_Formed, 27), (F.tens_split, 51), (F.tens_size, 52), (F.cmp_isNaN_string, 65), (F.value_Formed, 14), (F.value_Get, 54), (F.value_empty, 26), (F.utf_Valid, 28), (F.value_allFormed, 29), (F.value_rise, 30), (F.slices_Index_Lstring_string, 37), (F.slices_BinarySearch_Lstring_string, 55), (F.unicode_utf8_ValidString, 44), (F.slices_ContainsFunc_LValue_Value, 45), (F.value_allFormed_S1, 46), (F.cmp_Less_string, 60), (F.slices_isNaN_string, 61), (F.slices_IndexFunc_LValue_Value, 57), (F.unicode_utf8_word_string, 56), (F.hallmarkkit_SameStrings, 40), (F.shape_worth, 48), (F.shape_Kinds, 16), (F.shape_Formed, 15), (F.shape_piece_every, 31), (F.shape_piece_nums, 32), (F.shape_piece_texts, 33), (F.shape_piece_arrays, 34), (F.shape_piece_objects, 35), (F.shape_piece_bare, 47), (F.shape_rise, 49), (F.shape_never, 50), (F.hallmarkkit_SameValue, 21), (F.hallmarkkit_SameValues, 12), (F.slices_Contains_Lstring_string, 18), (F.hallmarklaw10_MemberKnown, 3), (F.hallmarklaw10_whole, 5), (F.member_In, 4), (F.hallmarklaw10_why, 6), (F.hallmarklaw10_word, 7), (F.hallmarklaw10_fields, 8), (F.member_Why, 9), (F.member_formed, 10), (F.member_look, 11), (F.member_inSpan, 17), (F.member_lookArray, 19), (F.member_lookObject, 20), (F.tens_Of, 38), (F.member_lookFields, 39), (F.slices_Clone_Lstring_string, 63), (F.slices_Clone_LValue_Value, 64), (F.strconv_Itoa, 53), (F.errors_As, 13)]
def tl : List (Nat × Nat) := [(1, 53), (0, 55)]
def gA : Nat := 2
def gF : Nat := 1
def gE : Nat := 0
def nm : Nm := ⟨fun f => (Hm.look fl f).getD 0, fun t => (Hm.look tl t).getD 0, [(.vptr (zavs accZ), .pointer (some ⟨gA, 0, none⟩)), (.vptr (zavs firZ), .pointer (some ⟨gF, 0, none⟩)), (.tab 1, .pointer (some ⟨gE, 0, none⟩))], fun _ => .nilFunc,
  fun n => match n with | 1 => #[.iface 92 (.agg #[.pointer (some ⟨6, 46, none⟩)])] | _ => #[]⟩
def sf : List (Nat × AFun) := [(F.value_Twin, value_Twin.fn), (F.tens_Cmp, tens_Cmp.fn), (F.tens_Formed, tens_Formed.fn), (F.tens_split, tens_split.fn), (F.tens_size, tens_size.fn), (F.cmp_isNaN_string, cmp_isNaN_string.fn), (F.value_Formed, value_Formed.fn), (F.value_Get, value_Get.fn), (F.value_empty, value_empty.fn), (F.utf_Valid, utf_Valid.fn), (F.value_allFormed, value_allFormed.fn), (F.value_rise, value_rise.fn), (F.slices_Index_Lstring_string, slices_Index_Lstring_string.fn), (F.slices_BinarySearch_Lstring_string, slices_BinarySearch_Lstring_string.fn), (F.unicode_utf8_ValidString, unicode_utf8_ValidString.fn), (F.slices_ContainsFunc_LValue_Value, slices_ContainsFunc_LValue_Value.fn), (F.value_allFormed_S1, value_allFormed_S1.fn), (F.cmp_Less_string, cmp_Less_string.fn), (F.slices_isNaN_string, slices_isNaN_string.fn), (F.slices_IndexFunc_LValue_Value, slices_IndexFunc_LValue_Value.fn), (F.unicode_utf8_word_string, unicode_utf8_word_string.fn), (F.hallmarkkit_SameStrings, hallmarkkit_SameStrings.fn), (F.shape_worth, shape_worth.fn), (F.shape_Kinds, shape_Kinds.fn), (F.shape_Formed, shape_Formed.fn), (F.shape_piece_every, shape_piece_every.fn), (F.shape_piece_nums, shape_piece_nums.fn), (F.shape_piece_texts, shape_piece_texts.fn), (F.shape_piece_arrays, shape_piece_arrays.fn), (F.shape_piece_objects, shape_piece_objects.fn), (F.shape_piece_bare, shape_piece_bare.fn), (F.shape_rise, shape_rise.fn), (F.shape_never, shape_never.fn), (F.hallmarkkit_SameValue, hallmarkkit_SameValue.fn), (F.hallmarkkit_SameValues, hallmarkkit_SameValues.fn), (F.slices_Contains_Lstring_string, slices_Contains_Lstring_string.fn), (F.hallmarklaw10_MemberKnown, hallmarklaw10_MemberKnown.fn), (F.hallmarklaw10_whole, hallmarklaw10_whole.fn), (F.member_In, member_In.fn), (F.hallmarklaw10_why, hallmarklaw10_why.fn), (F.hallmarklaw10_word, hallmarklaw10_word.fn), (F.hallmarklaw10_fields, hallmarklaw10_fields.fn), (F.member_Why, member_Why.fn), (F.member_formed, member_formed.fn), (F.member_look, member_look.fn), (F.member_inSpan, member_inSpan.fn), (F.member_lookArray, member_lookArray.fn), (F.member_lookObject, member_lookObject.fn), (F.tens_Of, tens_Of.fn), (F.member_lookFields, member_lookFields.fn)]
def tds : List (TD × Nat) := []
def taus : List Nat := []
theorem okF : okFns Tryd.prog nm sf = true := by kernel_rfl
theorem okT : ((List.range tds.length).all fun i => okTy Tryd.prog (tauOf taus) (tsOf tds) i) = true := by kernel_rfl
theorem okR : (tds.all fun x => refsOk tds.length x.1) = true := by kernel_rfl
theorem mixed : Tryd.prog.follows .mixedOrders = true := by kernel_rfl
theorem okC_slices_Clone_Lstring_string : okFns Tryd.prog nm [(F.slices_Clone_Lstring_string, slices_Clone_Lstring_string.fn)] = true := by kernel_rfl
theorem mc_slices_Clone_Lstring_string : ∀ ys cr, pClone 1 ys = some cr → Meets Tryd.prog nm F.slices_Clone_Lstring_string ys cr :=
  meets_clone (Hm.linked mixed okC_slices_Clone_Lstring_string (by simp)) (fun rows hne hl => slices_Clone_Lstring_string_ret ⟨rfl, rfl, rfl⟩ rows hne hl) (fun nn => slices_Clone_Lstring_string_emp ⟨rfl, rfl, rfl⟩ nn)
theorem okC_slices_Clone_LValue_Value : okFns Tryd.prog nm [(F.slices_Clone_LValue_Value, slices_Clone_LValue_Value.fn)] = true := by kernel_rfl
theorem mc_slices_Clone_LValue_Value : ∀ ys cr, pClone 5 ys = some cr → Meets Tryd.prog nm F.slices_Clone_LValue_Value ys cr :=
  meets_clone (Hm.linked mixed okC_slices_Clone_LValue_Value (by simp)) (fun rows hne hl => slices_Clone_LValue_Value_ret ⟨rfl, rfl, rfl⟩ rows hne hl) (fun nn => slices_Clone_LValue_Value_emp ⟨rfl, rfl, rfl⟩ nn)
set_option maxRecDepth 100000 in
theorem itoa1 (w : World) : Calls Tryd.prog 53 #[.int .i64 1] w fun e w' => e = .returned (.string ⟨#[49]⟩) ∧ w' = w := by
  go_enter Tryd.func53, Tryd.ntmps53
  go_wp2
  go_ret
  exact ⟨rfl, rfl⟩
theorem m_itoa : ∀ ys cr, pIto1 ys = some cr → Meets Tryd.prog nm F.strconv_Itoa ys cr := meets_ito1 itoa1
/-! ### errors.As at this variable: the library's own text, walked (after the kit's worked toy) -/
open Go.RowKit Go.Extern.Stop Go.Stop Go.Extern in
theorem as_nil (t : Value) (w : World) :
    Calls Tryd.prog 13 #[.nilIface, t] w fun e w' => e = .returned (.bool false) ∧ w' = w := by
  go_enter Tryd.func13, Tryd.ntmps13
  go_wp2
  go_ret
  exact ⟨rfl, rfl⟩
section
open Go.RowKit Go.Extern.Stop Go.Stop Go.Extern
theorem ax.valueOfP (t : Addr) (w : World) : (ReflectliteValue.unpack (.iface 55 (.pointer (some t)))).run Tryd.prog w
    = .ok (.agg #[.pointer (some ⟨6, 55, none⟩), .pointer (some ⟨w.heap.size, 0, none⟩), .int .u64 150]) (w.alloc (.cells #[.pointer (some t)] 55)) := by kernel_rfl
theorem ax.typeP (a : Addr) (w : World) : (ReflectliteValue.methodAny (ReflectliteValue.valueError "reflectlite.Value.Type" 0) (fun t _ _ _ => ReflectliteType.toType t) #[.agg #[.pointer (some ⟨6, 55, none⟩), .pointer (some a), .int .u64 150]]).run Tryd.prog w
    = .ok (.iface 92 (.agg #[.pointer (some ⟨6, 55, none⟩)])) w := by kernel_rfl
theorem ax.methodKind (h : Value) (w : World) : (Go.method 271 92 (.agg #[h]) "Kind").run Tryd.prog w = .ok (91, h) w := by kernel_rfl
theorem ax.kindP (w : World) : ((ReflectliteType.abiMethod fun t => (fun a : Nat => Value.int IntKind.u8 (a : Int)) <$> Rtype.kind t) #[.pointer (some ⟨6, 55, none⟩)]).run Tryd.prog w = .ok (.int .u8 22) w := by kernel_rfl
theorem ax.kindE (w : World) : ((ReflectliteType.abiMethod fun t => (fun a : Nat => Value.int IntKind.u8 (a : Int)) <$> Rtype.kind t) #[.pointer (some ⟨6, 53, none⟩)]).run Tryd.prog w = .ok (.int .u8 22) w := by kernel_rfl
theorem ax.rlm (z : Sem Value) (f : TypeId → Addr → Nat → Nat → Sem Value) (v : Value) :
    ReflectliteValue.method z f #[v] = (do match ← ReflectliteValue.parts v with | none => z | some (t, a, fl) => f t a fl (fl % 32)) := rfl
theorem ax.partsP (a : Addr) (w : World) : (ReflectliteValue.parts (.agg #[.pointer (some ⟨6, 55, none⟩), .pointer (some a), .int .u64 150])).run Tryd.prog w = .ok (some (55, a, 150)) w := by kernel_rfl
theorem ax.isNilP (a p : Addr) (W : World) (ha : W.cell? a = some (.pointer (some p))) :
    (ReflectliteValue.method (ReflectliteValue.valueError "reflectlite.Value.IsNil" 0) ReflectliteValue.isNil #[.agg #[.pointer (some ⟨6, 55, none⟩), .pointer (some a), .int .u64 150]]).run Tryd.prog W = .ok (.bool false) W := by
  rw [ax.rlm]
  simp only [Sem.run_bind, ax.partsP, Result.andThen]
  simp [ReflectliteValue.isNil, loadVar, isAgg, underlying, Tryd.underlying55, ha, Result.andThen]
theorem ax.methodElem (h : Value) (w : World) : (Go.method 271 92 (.agg #[h]) "Elem").run Tryd.prog w = .ok (102, .agg #[h]) w := by kernel_rfl
theorem ax.methodImplements (h : Value) (w : World) : (Go.method 271 92 (.agg #[h]) "Implements").run Tryd.prog w = .ok (103, .agg #[h]) w := by kernel_rfl
theorem ax.methodAssignableTo (h : Value) (w : World) : (Go.method 271 92 (.agg #[h]) "AssignableTo").run Tryd.prog w = .ok (100, .agg #[h]) w := by kernel_rfl
theorem ax.elemP (w : World) : (ReflectliteType.method ReflectliteType.elem #[.agg #[.pointer (some ⟨6, 55, none⟩)]]).run Tryd.prog w = .ok (.iface 92 (.agg #[.pointer (some ⟨6, 53, none⟩)])) w := by kernel_rfl
theorem ax.implementsE (w : World) : (ReflectliteType.relation "Implements" ReflectliteType.implements_ #[.agg #[.pointer (some ⟨6, 53, none⟩)], .iface 92 (.agg #[.pointer (some ⟨6, 46, none⟩)])]).run Tryd.prog w = .ok (.bool true) w := by kernel_rfl
theorem ax.typeOfE (v : Value) (w : World) : (ReflectliteType.typeOf #[.iface 53 v]).run Tryd.prog w = .ok (.iface 92 (.agg #[.pointer (some ⟨6, 53, none⟩)])) w := by kernel_rfl
theorem ax.assignableE (w : World) : (ReflectliteType.relation "AssignableTo" ReflectliteType.assignableTo #[.agg #[.pointer (some ⟨6, 53, none⟩)], .iface 92 (.agg #[.pointer (some ⟨6, 53, none⟩)])]).run Tryd.prog w = .ok (.bool true) w := by kernel_rfl
theorem ax.valueOfE (e : Addr) (w : World) : (ReflectliteValue.unpack (.iface 53 (.pointer (some e)))).run Tryd.prog w
    = .ok (.agg #[.pointer (some ⟨6, 53, none⟩), .pointer (some ⟨w.heap.size, 0, none⟩), .int .u64 150]) (w.alloc (.cells #[.pointer (some e)] 53)) := by kernel_rfl
theorem ax.elemOfP (w : World) : (Rtype.elem? 55).run Tryd.prog w = .ok (some 53) w := by kernel_rfl
theorem ax.mkE (p : Addr) (w : World) : (ReflectliteValue.mk 53 p ReflectliteValue.flagAddr).run Tryd.prog w = .ok (.agg #[.pointer (some ⟨6, 53, none⟩), .pointer (some p), .int .u64 406]) w := by kernel_rfl
theorem ax.elemVP (a p : Addr) (W : World) (ha : W.cell? a = some (.pointer (some p))) :
    (ReflectliteValue.method (ReflectliteValue.valueError "reflectlite.Value.Elem" 0) ReflectliteValue.elem #[.agg #[.pointer (some ⟨6, 55, none⟩), .pointer (some a), .int .u64 150]]).run Tryd.prog W
      = .ok (.agg #[.pointer (some ⟨6, 53, none⟩), .pointer (some p), .int .u64 406]) W := by
  rw [ax.rlm]
  simp only [Sem.run_bind, ax.partsP, Result.andThen]
  simp [ReflectliteValue.elem, loadVar, isAgg, underlying, Tryd.underlying55, ha, Result.andThen, ax.elemOfP, ax.mkE]
theorem ax.rls (v x : Value) : ReflectliteValue.set #[v, x] = (do
    let (some (dst, a, fl), some (src, b, _)) := (← ReflectliteValue.parts v, ← ReflectliteValue.parts x)
      | unsupported (.noEntry "extern/(internal/reflectlite.Value).Set.zeroValue")
    if fl / ReflectliteValue.flagAddr % 2 == 0 then unsupported (.noEntry "extern/(internal/reflectlite.Value).Set.unaddressable")
    let val ← loadVar src b
    if ← Rtype.directlyAssignable dst src then storeVar dst a val
    else if ← Rtype.implements dst src then
      if (← Rtype.kind src) == 20 then
        match val with
        | .nilIface => unsupported (.noEntry "extern/reflectlite: a nil value of one interface type handed on as a value of another")
        | _ => storeVar dst a val
      else storeVar dst a (.iface src val)
    else panicString ("reflectlite.Set: value of type " ++ (← Rtype.spelt src) ++ " is not assignable to type " ++ (← Rtype.spelt dst))
    pure (.tuple #[])) := rfl
theorem ax.partsEa (a : Addr) (w : World) : (ReflectliteValue.parts (.agg #[.pointer (some ⟨6, 53, none⟩), .pointer (some a), .int .u64 406])).run Tryd.prog w = .ok (some (53, a, 406)) w := by kernel_rfl
theorem ax.partsE (a : Addr) (w : World) : (ReflectliteValue.parts (.agg #[.pointer (some ⟨6, 53, none⟩), .pointer (some a), .int .u64 150])).run Tryd.prog w = .ok (some (53, a, 150)) w := by kernel_rfl
theorem ax.directE (w : World) : (Rtype.directlyAssignable 53 53).run Tryd.prog w = .ok true w := by kernel_rfl
theorem ax.setE (ta b e : Addr) (old : Value) (W : World) (hb : W.cell? b = some (.pointer (some e))) (ht : W.cell? ta = some old) (hf : W.frozen? ta = false) :
    (ReflectliteValue.set #[.agg #[.pointer (some ⟨6, 53, none⟩), .pointer (some ta), .int .u64 406], .agg #[.pointer (some ⟨6, 53, none⟩), .pointer (some b), .int .u64 150]]).run Tryd.prog W
      = .ok (.tuple #[]) (W.setCell ta (.pointer (some e))) := by
  rw [ax.rls]
  simp only [Sem.run_bind, ax.partsEa, ax.partsE, Result.andThen]
  simp [ReflectliteValue.flagAddr, loadVar, isAgg, underlying, Tryd.underlying53, hb, Result.andThen, ax.directE, storeVar, Value.cells, storeCells, Addr.add]
  rw [run_store Tryd.prog W ta _ _ (by rfl)]
  simp [ht, hf]
set_option maxHeartbeats 4000000 in
set_option maxRecDepth 100000 in
theorem as_hit (e t : Addr) (old : Value) (w : World) (hg : w.cell? ⟨0, 0, none⟩ = some (.iface 92 (.agg #[.pointer (some ⟨6, 46, none⟩)]))) (ht0 : w.cell? t = some old) (hf0 : w.frozen? t = false) :
    Calls Tryd.prog 13 #[.iface 53 (.pointer (some e)), .iface 55 (.pointer (some t))] w fun ev w' => ev = .returned (.bool true) ∧ w' = ((((w.alloc (.cells #[.pointer (some t)] 55)).alloc (.cells #[.pointer (some ⟨6, 55, none⟩), .pointer (some ⟨w.heap.size, 0, none⟩), .int .u64 150] 69)).alloc (.cells #[.pointer (some ⟨6, 55, none⟩), .pointer (some ⟨w.heap.size, 0, none⟩), .int .u64 150] 69)).alloc (.cells #[.pointer (some e)] 53)).setCell t (.pointer (some e)) := by
  have h6 := @run_callFunc_extern Tryd.prog 22 _ (fun args => ReflectliteValue.unpack (args.getD 0 (.tuple #[]))) Tryd.func22 (by kernel_rfl) (by kernel_rfl) (by kernel_rfl) (by kernel_rfl)
  have h7 := @run_callFunc_extern Tryd.prog 23 _ (ReflectliteValue.methodAny (ReflectliteValue.valueError "reflectlite.Value.Type" 0) (fun t _ _ _ => ReflectliteType.toType t)) Tryd.func23 (by kernel_rfl) (by kernel_rfl) (by kernel_rfl) (by kernel_rfl)
  have h8 := @run_callFunc_extern Tryd.prog 24 _ (ReflectliteValue.method (ReflectliteValue.valueError "reflectlite.Value.IsNil" 0) ReflectliteValue.isNil) Tryd.func24 (by kernel_rfl) (by kernel_rfl) (by kernel_rfl) (by kernel_rfl)
  have h27 := @run_callFunc_extern Tryd.prog 91 _ (ReflectliteType.abiMethod fun t => do pure (.int .u8 (← Rtype.kind t))) Tryd.func91 (by kernel_rfl) (by kernel_rfl) (by kernel_rfl) (by kernel_rfl)
  have h37 := @run_callFunc_extern Tryd.prog 102 _ (ReflectliteType.method ReflectliteType.elem) Tryd.func102 (by kernel_rfl) (by kernel_rfl) (by kernel_rfl) (by kernel_rfl)
  have h38 := @run_callFunc_extern Tryd.prog 103 _ (ReflectliteType.relation "Implements" ReflectliteType.implements_) Tryd.func103 (by kernel_rfl) (by kernel_rfl) (by kernel_rfl) (by kernel_rfl)
  have h10 := @run_callFunc_extern Tryd.prog 41 _ ReflectliteType.typeOf Tryd.func41 (by kernel_rfl) (by kernel_rfl) (by kernel_rfl) (by kernel_rfl)
  have h35 := @run_callFunc_extern Tryd.prog 100 _ (ReflectliteType.relation "AssignableTo" ReflectliteType.assignableTo) Tryd.func100 (by kernel_rfl) (by kernel_rfl) (by kernel_rfl) (by kernel_rfl)
  have h11 := @run_callFunc_extern Tryd.prog 42 _ (ReflectliteValue.method (ReflectliteValue.valueError "reflectlite.Value.Elem" 0) ReflectliteValue.elem) Tryd.func42 (by kernel_rfl) (by kernel_rfl) (by kernel_rfl) (by kernel_rfl)
  have h12 := @run_callFunc_extern Tryd.prog 43 _ ReflectliteValue.set Tryd.func43 (by kernel_rfl) (by kernel_rfl) (by kernel_rfl) (by kernel_rfl)
  have tO := ax.typeOfE
  have mA := ax.methodAssignableTo
  have aE := ax.assignableE
  have vE := ax.valueOfE
  have f6 := ax.valueOfP
  have f7 := ax.typeP
  have mK := ax.methodKind
  have mE := ax.methodElem
  have mI := ax.methodImplements
  have kP := ax.kindP
  have kE := ax.kindE
  have eP := ax.elemP
  have iE := ax.implementsE
  have n8 := ax.isNilP ⟨w.heap.size, 0, none⟩ t ((w.alloc (.cells #[.pointer (some t)] 55)).alloc (.cells #[.pointer (some ⟨6, 55, none⟩), .pointer (some ⟨w.heap.size, 0, none⟩), .int .u64 150] 69)) (by simp)
  have hlt : 0 < w.heap.size := by
    rcases Nat.lt_or_ge 0 w.heap.size with h | h
    · exact h
    · simp [World.cell?, Array.getElem?_eq_none h] at hg
  have hg2 : ((w.alloc (.cells #[.pointer (some t)] 55)).alloc (.cells #[.pointer (some ⟨6, 55, none⟩), .pointer (some ⟨w.heap.size, 0, none⟩), .int .u64 150] 69)).cell? ⟨0, 0, none⟩ = some (.iface 92 (.agg #[.pointer (some ⟨6, 46, none⟩)])) := by
    rw [World.cell?_alloc_lt _ _ ⟨0, 0, none⟩ (by simp <;> omega), World.cell?_alloc_lt _ _ ⟨0, 0, none⟩ hlt]; exact hg
  have htl : t.block < w.heap.size := by
    rcases Nat.lt_or_ge t.block w.heap.size with h | h
    · exact h
    · simp [World.cell?, Array.getElem?_eq_none h] at ht0
  have el := ax.elemVP ⟨w.heap.size, 0, none⟩ t (((w.alloc (.cells #[.pointer (some t)] 55)).alloc (.cells #[.pointer (some ⟨6, 55, none⟩), .pointer (some ⟨w.heap.size, 0, none⟩), .int .u64 150] 69)).alloc (.cells #[.pointer (some ⟨6, 55, none⟩), .pointer (some ⟨w.heap.size, 0, none⟩), .int .u64 150] 69)) (by rw [World.cell?_alloc_lt _ _ ⟨w.heap.size, 0, none⟩ (by simp; omega)]; simp)
  have st := ax.setE t ⟨w.heap.size + 1 + 1 + 1, 0, none⟩ e old ((((w.alloc (.cells #[.pointer (some t)] 55)).alloc (.cells #[.pointer (some ⟨6, 55, none⟩), .pointer (some ⟨w.heap.size, 0, none⟩), .int .u64 150] 69)).alloc (.cells #[.pointer (some ⟨6, 55, none⟩), .pointer (some ⟨w.heap.size, 0, none⟩), .int .u64 150] 69)).alloc (.cells #[.pointer (some e)] 53))
    (by rw [World.cell?_alloc_at _ _ _ _ (by simp)]; rfl)
    (by rw [World.cell?_alloc_lt _ _ t (by simp; omega), World.cell?_alloc_lt _ _ t (by simp; omega), World.cell?_alloc_lt _ _ t (by simp; omega), World.cell?_alloc_lt _ _ t htl]; exact ht0)
    (by rw [World.frozen?_alloc_old _ _ t (by simp; omega), World.frozen?_alloc_old _ _ t (by simp; omega), World.frozen?_alloc_old _ _ t (by simp; omega), World.frozen?_alloc_old _ _ t (Nat.ne_of_lt htl)]; exact hf0)
  go_enter Tryd.func13, Tryd.ntmps13
  go_wp2
  refine wp_loop_rounds 1 ?_
  rw [rounds_succ]
  go_wp2
  go_ret
  exact ⟨rfl, rfl⟩
end
theorem askOk : AskOk Tryd.prog nm F.errors_As 1 0 := by
  refine ⟨fun vs w => run_callFunc (func := Tryd.f13) Tryd.func13 (by kernel_rfl) (by kernel_rfl) vs w, fun t w => as_nil t w, fun S w xa b old e hg hsp hb => ?_⟩
  have h := hg (.tab 1, .pointer (some ⟨0, 0, none⟩)) (by simp [nm, gE])
  have hc : w.cell? ⟨0, 0, none⟩ = some (.iface 92 (.agg #[.pointer (some ⟨6, 46, none⟩)])) := by
    cases h with
    | tab n b ty fr hS hc => simp [World.cell?, hc]; rfl
  have hbl : b < w.heap.size := (Array.getElem?_eq_some_iff.1 hb).1
  refine (as_hit xa ⟨b, 0, none⟩ old w hc (by simp [World.cell?, hb]) (by simp [World.frozen?, hb])).mono fun ev w' ⟨he, hw⟩ => ?_
  subst hw
  exact ⟨he, frm_ask w _ _ _ _ b old _ e hb⟩
def pr : List (Nat × (List PMode × (List Arg → Option CR))) := [(F.slices_Clone_Lstring_string, ([.val], pClone 1)), (F.slices_Clone_LValue_Value, ([.val], pClone 5)), (F.strconv_Itoa, ([.val], pIto1))]
theorem lk : Linked Tryd.prog nm (tabA sf pr F.errors_As 1 0) := Hm.linkedA mixed okF askOk (by
  intro x hx
  simp only [pr, List.mem_cons, List.not_mem_nil, or_false] at hx
  rcases hx with rfl | rfl | rfl
  · exact ⟨⟨Tryd.f63, Tryd.func63, by kernel_rfl, by kernel_rfl⟩, mc_slices_Clone_Lstring_string⟩
  · exact ⟨⟨Tryd.f64, Tryd.func64, by kernel_rfl, by kernel_rfl⟩, mc_slices_Clone_LValue_Value⟩
  · exact ⟨⟨Tryd.f53, Tryd.func53, by kernel_rfl, by kernel_rfl⟩, m_itoa⟩)
theorem fn0 (n : Nat) (c : AFun) (h : Hm.look sf n = some c := by rfl) (h0 : Hm.look pr n = none := by rfl) : Hm.Fn (tabA sf pr F.errors_As 1 0) n c := ⟨by simp only [tabA, tabOf, h0]; rfl, h, by simp only [tabA, tabOf, h]⟩
theorem own : ownKnob Tryd.prog.godebug = none := by kernel_rfl
theorem laid : laidOutB Tryd.prog = true := by kernel_rfl
theorem readable : ∀ t ∈ Tryd.f3.params.toList, Tryd.prog.readableRec t = true ∧ t < Tryd.prog.types.size := by
  have h : (Tryd.f3.params.toList.all fun t => Tryd.prog.readableRec t && decide (t < Tryd.prog.types.size)) = true := by kernel_rfl
  intro t ht
  have := List.all_eq_true.1 h t ht
  simpa using this
theorem ptys : ([] : List Nat).map (tauOf taus) = Tryd.f3.params.toList := by kernel_rfl

mutual
theorem ub1 {H : Type} : ∀ d : DataW H, Rows.uptoBulk d = bulkD d
  | .lit l => by cases l <;> rfl
  | .nil => rfl
  | .ptr d => by rw [Rows.uptoBulk, bulkD, ub1 d]
  | .slice a b => by rw [Rows.uptoBulk, bulkD, ub2 a, ub2 b]
  | .agg a => by rw [Rows.uptoBulk, bulkD, ub2 a]
  | .iface _ d => by rw [Rows.uptoBulk, bulkD, ub1 d]
  | .map a => by rw [Rows.uptoBulk, bulkD, ub3 a]
  | .held _ => rfl
theorem ub2 {H : Type} : ∀ l : List (DataW H), Rows.uptoBulkAll l = bulkAll l
  | [] => rfl
  | d :: r => by rw [Rows.uptoBulkAll, bulkAll, ub1 d, ub2 r]
theorem ub3 {H : Type} : ∀ l : List (Lit × DataW H), Rows.uptoBulkEntries l = bulkEntries l
  | [] => rfl
  | x :: r => by rw [Rows.uptoBulkEntries, bulkEntries, ub4 x, ub3 r]
theorem ub4 {H : Type} : ∀ x : Lit × DataW H, Rows.uptoBulkEntry x = bulkEntry x
  | (l, d) => by cases l <;> simp only [Rows.uptoBulkEntry, bulkEntry, ub1 d]
end

theorem gaN : Tryd.prog.globalNamed "unicode/utf8.acceptRanges" = some gA := by kernel_rfl
theorem gfN : Tryd.prog.globalNamed "unicode/utf8.first" = some gF := by kernel_rfl
theorem gaT : (Tryd.prog.globals[gA]?).map (·.type) = some 117 := by kernel_rfl
theorem gfT : (Tryd.prog.globals[gF]?).map (·.type) = some 114 := by kernel_rfl
def tabsL : List (String × DataW Unit) := [("math/bits.deBruijn32tab", Rows.laid_math_bits_deBruijn32tab), ("math/bits.deBruijn64tab", Rows.laid_math_bits_deBruijn64tab), ("internal/strconv.uint64pow10", Rows.laid_internal_strconv_uint64pow10), ("unicode/utf8.acceptRanges", Rows.laid_unicode_utf8_acceptRanges), ("unicode/utf8.first", Rows.laid_unicode_utf8_first)]
theorem laidH {W : World} (h : laidMetH Tryd.prog Rows.memberKnownUptoRow.laid W) : laidMet Tryd.prog tabsL W ∧ handlesMet Tryd.prog [("errors.errorType", Rows.laid_errors_errorType)] W := h
theorem geN : Tryd.prog.globalNamed "errors.errorType" = some gE := by kernel_rfl
theorem geR : (Tryd.prog.cutTypes.find? (·.1 == "internal/reflectlite.rtype")).map (·.2) = some 92 := by kernel_rfl
theorem geOne : ((List.range 171).filter fun t => Tryd.prog.rowNamed t [101, 114, 114, 111, 114]) = [46] := by kernel_rfl
theorem geSize : Tryd.prog.types.size = 171 := by kernel_rfl
theorem var_block {P : Program} {w : World} {name : String} {g : Nat} {cs : Array Value} (hg : P.globalNamed name = some g) (h : w.var? P name = some cs) : ∃ ty fr, w.heap[g]? = some (.cells cs ty fr) := by
  unfold World.var? at h
  simp only [hg, Option.bind_some] at h
  split at h
  · rename_i c ty fr he
    cases h
    exact ⟨ty, fr, he⟩
  · cases h
theorem handle_of {W : World} (h : handlesMet Tryd.prog [("errors.errorType", Rows.laid_errors_errorType)] W) : W.var? Tryd.prog "errors.errorType" = some #[.iface 92 (.agg #[.pointer (some ⟨6, 46, none⟩)])] := by
  obtain ⟨name, u, ty, e1, e2, e3, e4, e5⟩ := h _ (List.mem_singleton.2 rfl)
  have en : name = [101, 114, 114, 111, 114] := (Option.some.inj e1).symm
  subst en
  obtain rfl := Option.some.inj (geR.symm.trans e2)
  have hm : ty ∈ (List.range 171).filter fun t => Tryd.prog.rowNamed t [101, 114, 114, 111, 114] := List.mem_filter.2 ⟨List.mem_range.2 (by rw [← geSize]; exact e3), e4⟩
  rw [geOne] at hm
  obtain rfl := List.mem_singleton.1 hm
  have hh : typeHandle Tryd.prog 46 = .pointer (some ⟨6, 46, none⟩) := by kernel_rfl
  rw [hh] at e5
  exact e5
theorem glob {W : World} (h : laidMetH Tryd.prog Rows.memberKnownUptoRow.laid W) : ∀ x ∈ nm.g, VR nm W (fun b => b < W.heap.size) x.1 x.2 := by
  obtain ⟨h', hh⟩ := laidH h
  intro x hx
  simp only [nm, List.mem_cons, List.not_mem_nil, or_false] at hx
  rcases hx with rfl | rfl | rfl
  · exact vr_of_laid h' (name := "unicode/utf8.acceptRanges") (d := Rows.laid_unicode_utf8_acceptRanges) (by simp [tabsL]) gaN gaT (FlatTy.array (e := 116) (n := 16) (c := 2) (by kernel_rfl) (by kernel_rfl) (by kernel_rfl) (FlatTy.pair (e := 5) (by kernel_rfl) (by kernel_rfl) (by kernel_rfl) (FlatTy.int (by kernel_rfl)))) (by kernel_rfl)
  · exact vr_of_laid h' (name := "unicode/utf8.first") (d := Rows.laid_unicode_utf8_first) (by simp [tabsL]) gfN gfT (FlatTy.array (e := 5) (n := 256) (c := 1) (by kernel_rfl) (by kernel_rfl) (by kernel_rfl) (FlatTy.int (by kernel_rfl))) (by kernel_rfl)
  · obtain ⟨ty, fr, hc⟩ := var_block geN (handle_of hh)
    exact VR.tab 1 gE ty fr (Array.getElem?_eq_some_iff.1 hc).1 hc

set_option maxRecDepth 100000 in
theorem answers (xs : List AV) (h : HasAs (tsOf tds) [] xs) (hb : bkRow xs ≤ 1048576) : Hm.Ret (tabA sf pr F.errors_As 1 0) F.hallmarklaw10_MemberKnown (xs.map .val) ⟨[([.av (.bool true)], false)], []⟩ := by
  obtain rfl := h.nil_inv
  exact ⟨⟨3000, by kernel_rfl⟩⟩

set_option maxRecDepth 100000 in
theorem contract (H : Type) (enc : TypeId × Value → H) (W : World) (base : Nat) (args : Array Value) (ds gs : List (DataW H)) (before : List MemPlace)
    (hval : ∀ (j : Nat) t v, Tryd.f3.params[j]? = some t → args[j]? = some v → Value.okWide Tryd.prog W .any base t v)
    (hW : DataW.Whole enc Tryd.prog Tryd.f3.params.toList Rows.memberKnownSpec.vars false W args.toList ds gs before) (hk : Rows.uptoSmall H (ds ++ gs) = true) (hL : laidMetH Tryd.prog Rows.memberKnownUptoRow.laid W) :
    Calls Tryd.prog 3 args W fun e W' => ∃ v, e = .returned v ∧ Rows.memberKnownSpec.post enc Tryd.prog Tryd.f3 false true false false W args v W' := by
  have hW0 := hW
  obtain ⟨p, q, hA, hV, rfl, hfz, hnd⟩ := hW
  rw [← ptys] at hA
  obtain ⟨xs, a1, a2, a3⟩ := args_has (N := nm) (okTy_all okT) (refs_struct okR) (refs_slice okR) (b := base) (r := .any) (by decide) (fun j t v ht hv => by
    rw [ptys] at ht
    exact hval j t v (by simpa using ht) (by simpa using hv)) hA
  obtain ⟨rfl, rfl⟩ := trodVars_none hV
  have hbulk : bkRow xs ≤ 1048576 := by
    have h1 := of_decide_eq_true hk
    rw [List.append_nil, ub2] at h1
    exact Nat.le_trans a3 h1
  obtain ⟨n, hn⟩ := (answers xs a1 hbulk).out
  refine (law_call lk hn a2 (glob hL)).mono fun e W' ⟨he, hb⟩ => ?_
  refine ⟨_, he, law_post (tb := 4) laid readable Tryd.underlying4 (by kernel_rfl) rfl hW0 ?_ hb⟩
  have hl : ds.length = 0 := by
    have h1 := trodAll_len hA
    simpa using h1
  match ds, hl with
  | [], _ => rfl

def lay (cs : Array Value) : Obj → Obj
  | .cells _ t frozen => .cells cs t frozen
  | o => o
def cellsF : DataW Unit → Array Value
  | .agg l => (l.map fun d => match d with | .lit (.int k n) => Value.int k n | _ => .nilFunc).toArray
  | _ => #[]
noncomputable def laidWorld (os : Os) : World :=
  let w0 := World.holding Tryd.prog os ⟨#[], #[], []⟩
  { w0 with heap := ((((((w0.heap.modify gA (lay (zcells accZ).toArray)).modify gF (lay (zcells firZ).toArray)).modify gE (lay #[.iface 92 (.agg #[.pointer (some ⟨6, 46, none⟩)])])).modify 4 (lay (cellsF Rows.laid_math_bits_deBruijn32tab))).modify 5 (lay (cellsF Rows.laid_math_bits_deBruijn64tab))).modify 3 (lay (cellsF Rows.laid_internal_strconv_uint64pow10))) }
def wargs : Array Value := #[]
theorem laid_met0 (os : Os) : laidMet Tryd.prog tabsL ((laidWorld os).forCall (fun _ _ => 0) ⟨#[], wargs, []⟩).memory :=
  laidMet_of_run' 8 (by kernel_rfl) (by kernel_rfl)
theorem laid_met (os : Os) : laidMetH Tryd.prog Rows.memberKnownUptoRow.laid ((laidWorld os).forCall (fun _ _ => 0) ⟨#[], wargs, []⟩).memory :=
  laidMetH_of_parts (laid_met0 os) (by kernel_rfl)
theorem reads (os : Os) {H : Type} (enc : TypeId × Value → H) : ∃ places, DataW.whole enc Tryd.prog ((laidWorld os).forCall (fun _ _ => 0) ⟨#[], wargs, []⟩).memory Tryd.f3.params.toList Rows.memberKnownSpec.vars false wargs.toList 8 = some ([], [], places) :=
  ⟨[], by kernel_rfl⟩

set_option maxRecDepth 100000 in
theorem lifted (os : Os) (started : os.Started) (H : Type) (enc : TypeId × Value → H) (F : Stop.Interp) :
    ReturnsInHanded {} Tryd.checked os 3 .any ((Rows.OpenSpec.upto Rows.memberKnownSpec).preRow enc Tryd.prog Tryd.f3 Rows.memberKnownUptoRow.domain false Rows.memberKnownUptoRow.laid) (((Rows.OpenSpec.upto Rows.memberKnownSpec).at F).post enc Tryd.prog Tryd.f3 false true false false) := by
  obtain ⟨places, hx⟩ := reads os enc
  refine returnsInHanded_of_row (C := Tryd.checked) (s := Rows.OpenSpec.upto Rows.memberKnownSpec) own started (by kernel_rfl) Tryd.func3
    (witness_row_at (enc := enc) (C := Tryd.checked) false (laidWorld os) wargs rfl (by kernel_rfl) (by kernel_rfl) (by kernel_rfl)
      (OpenSpec.preRow_of_cond 8 hx (by kernel_rfl) (fun k hk => by cases hk; kernel_rfl) (by kernel_rfl) (laid_met os))) ?_
  intro W base args ds gs before hval hW _ hcond _ hL _ _
  exact contract H enc W base args ds gs before hval hW (hcond _ rfl) hL

theorem over : Rows.memberKnownUptoRow.holds Tryd.pinned (Rows.OpenSpec.upto Rows.memberKnownSpec) :=
  OpenClaim.holds_of_cond 3 Tryd.f3 rfl rfl rfl rfl rfl rfl rfl ⟨rfl, rfl, rfl, rfl, rfl⟩ rfl rfl rfl rfl rfl (by kernel_rfl) Tryd.func3 (by kernel_rfl)
    (of_decide_eq_true (by kernel_rfl)) (by unfold Func.isWrapper; first | (rw [if_pos (by decide +kernel)]; kernel_rfl) | (rw [if_neg (by decide +kernel)]; exact ⟨rfl, rfl⟩))
    (fun os started H enc _ F => by rw [OpenClaim.pre_eq_preRow]; exact lifted os started H enc F)

theorem standIn : (Tryd.prog.funcs[3]?.map fun fn => fn.params.toList.all fun t => !Tryd.prog.wantsStandIn t) = some true := by kernel_rfl
theorem plain (f : FuncId) (fn : Func) (hf : Tryd.pinned.checked.prog.funcNamed "hallmark/hallmarklaw10.MemberKnown" = some f) (hfn : Tryd.pinned.checked.prog.funcs[f]? = some fn) :
    true = Tryd.pinned.checked.prog.looks [] ∧ ∀ (j : Nat) t, fn.params[j]? = some t → Tryd.pinned.checked.prog.wantsStandIn t = false := by
  obtain rfl : f = 3 := Option.some.inj ((show Tryd.prog.funcNamed "hallmark/hallmarklaw10.MemberKnown" = some 3 by kernel_rfl).symm.trans hf) |>.symm
  obtain rfl : fn = Tryd.f3 := (Option.some.inj (Tryd.func3.symm.trans hfn)).symm
  refine ⟨by kernel_rfl, fun j t ht => ?_⟩
  have h := standIn
  rw [Tryd.func3] at h
  simp only [Option.map_some, Option.some.injEq, List.all_eq_true, Bool.not_eq_true'] at h
  exact h t (Array.mem_toList_iff.2 (Array.mem_of_getElem? ht))

theorem proved : Rows.MemberKnownUptoCardSaid :=
  Claim7.holds_tied_plain_at .later [] _ _ _ _ over (fun _ h => by cases h) (by kernel_rfl) (fun _ h => by cases h) memberKnownUpto_row_tie rfl ⟨rfl, rfl⟩ (by kernel_rfl) rfl plain (by kernel_rfl)
end Go.Proofs.YtolnpaiimdohoaaDoor.hKnow
#print axioms Go.Proofs.YtolnpaiimdohoaaDoor.hKnow.proved
