/-
  ValueNames: whatever kind and value are given, the law answers true and its arguments read as before. Conditions: none but the statement's own.
-/
import Derived.Test.YtfbhbfganoanfaaRows
import Derived.Test.YtfbhbfganoanfaaHD
import Derived.Test.YtfbhbfganoanfaaVNames
import Derived.WalkKit
import Derived.ProofKit
import Derived.OpenShut
import Derived.JoinedOf
import Derived.Handed
import Derived.JoinedCond
namespace Go.Proofs.Ytfbhbfganoanfaa.hNames
open Go.ChangeShapes Go.WideShapes Go.ChangeAt Go.RowKit Hm
set_option linter.unusedVariables false
set_option linter.unnecessarySimpa false
set_option linter.unusedSimpArgs false

def fl : List (Nat × Nat) := [(F.hallmarklaw03_ValueNames, 3), (F.value_Name, 7), (F.hallmarkref03_Name, 8), (F.value_True, 9)]
def nm : Nm := ⟨fun f => (Hm.look fl f).getD 0, fun _ => 0, []⟩
def sf : List (Nat × AFun) := [(F.hallmarklaw03_ValueNames, hallmarklaw03_ValueNames.fn), (F.value_Name, value_Name.fn), (F.hallmarkref03_Name, hallmarkref03_Name.fn), (F.value_True, value_True.fn)]
def tds : List (TD × Nat) := [(.int .i64, 1), (.struct [0, 2, 2, 3, 4], 5), (.str, 1), (.slice 1, 1), (.slice 2, 1)]
def taus : List Nat := [3, 25, 9, 22, 23]
theorem okF : okFns Try.prog nm sf = true := by kernel_rfl
theorem okT : ((List.range tds.length).all fun i => okTy Try.prog (tauOf taus) (tsOf tds) i) = true := by kernel_rfl
theorem okR : (tds.all fun x => refsOk tds.length x.1) = true := by kernel_rfl
theorem mixed : Try.prog.follows .mixedOrders = true := by kernel_rfl
theorem lk : Linked Try.prog nm (tabOf sf []) := Hm.linked mixed okF (by simp)
theorem own : ownKnob Try.prog.godebug = none := by kernel_rfl
theorem laid : laidOutB Try.prog = true := by kernel_rfl
theorem readable : ∀ t ∈ Try.f3.params.toList, Try.prog.readableRec t = true ∧ t < Try.prog.types.size := by
  have h : (Try.f3.params.toList.all fun t => Try.prog.readableRec t && decide (t < Try.prog.types.size)) = true := by kernel_rfl
  intro t ht
  have := List.all_eq_true.1 h t ht
  simpa using this
theorem ptys : ([0, 1] : List Nat).map (tauOf taus) = Try.f3.params.toList := by kernel_rfl

theorem fns (n : Nat) (c : AFun) (h : Hm.look sf n = some c := by rfl) : Hm.Fn (tabOf sf []) n c := ⟨rfl, h, by simp only [tabOf, h]⟩

theorem answers (xs : List AV) (h : HasAs (tsOf tds) [0, 1] xs) : Hm.Ret (tabOf sf []) F.hallmarklaw03_ValueNames (xs.map .val) ⟨[([.av (.bool true)], false)], []⟩ := by
  obtain ⟨a, r, rfl, ha, h⟩ := h.inv
  obtain ⟨b, r, rfl, hb, h⟩ := h.inv
  obtain rfl := h.nil_inv
  obtain ⟨k, rfl, _⟩ := ha.int_inv rfl
  obtain ⟨cs, rfl, hc⟩ := hb.struct_inv rfl
  obtain ⟨c1, r1, rfl, h1, hc⟩ := (hc.struct_inv rfl).inv
  obtain ⟨c2, r2, rfl, h2, hc⟩ := hc.inv
  obtain ⟨c3, r3, rfl, h3, hc⟩ := hc.inv
  obtain ⟨c4, r4, rfl, h4, hc⟩ := hc.inv
  obtain ⟨c5, r5, rfl, h5, hc⟩ := hc.inv
  obtain rfl := hc.nil_inv
  obtain ⟨n1, rfl, _⟩ := h1.int_inv rfl
  obtain ⟨n2, rfl⟩ := h2.str_inv rfl
  obtain ⟨n3, rfl⟩ := h3.str_inv rfl
  obtain ⟨n4, rfl, _⟩ := h4.slice_inv rfl
  obtain ⟨n5, rfl, _⟩ := h5.slice_inv rfl
  exact ValueNames_ret (fns _ _) (fns _ _) (fns _ _) (fns _ _) k n1 n2 n3 n4 n5

theorem contract (H : Type) (enc : TypeId × Value → H) (W : World) (base : Nat) (args : Array Value) (ds gs : List (DataW H)) (before : List MemPlace)
    (hval : ∀ (j : Nat) t v, Try.f3.params[j]? = some t → args[j]? = some v → Value.okWide Try.prog W .any base t v)
    (hW : DataW.Whole enc Try.prog Try.f3.params.toList Rows.valueNamesSpec.vars false W args.toList ds gs before) :
    Calls Try.prog 3 args W fun e W' => ∃ v, e = .returned v ∧ Rows.valueNamesSpec.post enc Try.prog Try.f3 false true false false W args v W' := by
  have hW0 := hW
  obtain ⟨p, q, hA, hV, rfl, hfz, hnd⟩ := hW
  rw [← ptys] at hA
  obtain ⟨xs, a1, a2, a3⟩ := args_has (N := nm) (okTy_all okT) (refs_struct okR) (refs_slice okR) (b := base) (r := .any) (by decide) (fun j t v ht hv => by
    rw [ptys] at ht
    exact hval j t v (by simpa using ht) (by simpa using hv)) hA
  obtain ⟨rfl, rfl⟩ := trodVars_none hV
  obtain ⟨n, hn⟩ := (answers xs a1).out
  refine (law_call lk hn a2 (by simp [nm])).mono fun e W' ⟨he, hb⟩ => ?_
  refine ⟨_, he, law_post (tb := 4) laid readable Try.underlying4 (by kernel_rfl) rfl hW0 ?_ hb⟩
  have hl : ds.length = 2 := by
    have h1 := trodAll_len hA
    simpa using h1
  match ds, hl with
  | [d0, d1], _ => rfl

set_option maxRecDepth 100000 in
theorem lifted (os : Os) (started : os.Started) (H : Type) (enc : TypeId × Value → H) :
    ReturnsInHanded {} Try.checked os 3 .any ((OpenSpec.ofChange Rows.valueNamesSpec).pre6 enc Try.prog Try.f3 Rows.valueNamesRow.domain false) (Rows.valueNamesSpec.post enc Try.prog Try.f3 false true false false) := by
  refine returnsInHanded_of_change (C := Try.checked) (s := Rows.valueNamesSpec) own started (by kernel_rfl) Try.func3
    (ChangeSpec.witness6 (enc := enc) (C := Try.checked) (s := Rows.valueNamesSpec) false ⟨#[], #[.int .i64 0, .agg #[.int .i64 0, .string ⟨#[]⟩, .string ⟨#[]⟩, .slice none 0 0, .slice none 0 0]], []⟩ 8 (by kernel_rfl) (by kernel_rfl) (by kernel_rfl) (by kernel_rfl)) ?_
  intro W base args ds gs before hval hW _ _
  exact contract H enc W base args ds gs before hval hW

theorem over : Rows.valueNamesRow.holds Try.pinned (OpenSpec.ofChange Rows.valueNamesSpec) :=
  OpenClaim.holds_of_wide 3 Try.f3 rfl rfl rfl rfl rfl rfl rfl ⟨rfl, rfl, rfl, rfl, rfl⟩ rfl rfl rfl rfl rfl (by kernel_rfl) Try.func3 (by kernel_rfl)
    (of_decide_eq_true (by kernel_rfl)) (by unfold Func.isWrapper; first | (rw [if_pos (by decide +kernel)]; kernel_rfl) | (rw [if_neg (by decide +kernel)]; exact ⟨rfl, rfl⟩))
    (fun os started H enc _ => lifted os started H enc)

theorem proved : Rows.ValueNamesSaid :=
  over
end Go.Proofs.Ytfbhbfganoanfaa.hNames
#print axioms Go.Proofs.Ytfbhbfganoanfaa.hNames.proved
