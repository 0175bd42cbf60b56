/-
  MemberNames: whatever the input, the law answers true. Conditions: none but the statement's own.
-/
import Derived.Test.YtolnpaiimdohoaaRows
import Derived.Test.YtolnpaiimdohoaaHD
import Derived.Test.YtolnpaiimdohoaaVMNames
import Derived.WalkKit
import Derived.ProofKit
import Derived.OpenShut
import Derived.JoinedOf
import Derived.Handed
import Derived.JoinedCond
namespace Go.Proofs.Ytolnpaiimdohoaa.hMNames
open Go.ChangeShapes Go.WideShapes Go.ChangeAt Go.RowKit Hm
set_option linter.unusedVariables false
set_option linter.unnecessarySimpa false
set_option linter.unusedSimpArgs false

def fl : List (Nat × Nat) := [(F.hallmarklaw10_MemberNames, 3)]
def nm : Nm := ⟨fun f => (Hm.look fl f).getD 0, fun _ => 0, []⟩
def sf : List (Nat × AFun) := [(F.hallmarklaw10_MemberNames, hallmarklaw10_MemberNames.fn)]
def tds : List (TD × Nat) := []
def taus : List Nat := []
theorem okF : okFns Try.prog nm sf = true := by kernel_rfl
theorem okT : ((List.range tds.length).all fun i => okTy Try.prog (tauOf taus) (tsOf tds) i) = true := by kernel_rfl
theorem okR : (tds.all fun x => refsOk tds.length x.1) = true := by kernel_rfl
theorem mixed : Try.prog.follows .mixedOrders = true := by kernel_rfl
theorem lk : Linked Try.prog nm (tabOf sf []) := Hm.linked mixed okF (by simp)
theorem own : ownKnob Try.prog.godebug = none := by kernel_rfl
theorem laid : laidOutB Try.prog = true := by kernel_rfl
theorem readable : ∀ t ∈ Try.f3.params.toList, Try.prog.readableRec t = true ∧ t < Try.prog.types.size := by
  have h : (Try.f3.params.toList.all fun t => Try.prog.readableRec t && decide (t < Try.prog.types.size)) = true := by kernel_rfl
  intro t ht
  have := List.all_eq_true.1 h t ht
  simpa using this
theorem ptys : ([] : List Nat).map (tauOf taus) = Try.f3.params.toList := by kernel_rfl

theorem fns (n : Nat) (c : AFun) (h : Hm.look sf n = some c := by rfl) : Hm.Fn (tabOf sf []) n c := ⟨rfl, h, by simp only [tabOf, h]⟩

theorem answers (xs : List AV) (h : HasAs (tsOf tds) [] xs) : Hm.Ret (tabOf sf []) F.hallmarklaw10_MemberNames (xs.map .val) ⟨[([.av (.bool true)], false)], []⟩ := by
  obtain rfl := h.nil_inv
  exact MemberNames_ret (fns _ _)

theorem contract (H : Type) (enc : TypeId × Value → H) (W : World) (base : Nat) (args : Array Value) (ds gs : List (DataW H)) (before : List MemPlace)
    (hval : ∀ (j : Nat) t v, Try.f3.params[j]? = some t → args[j]? = some v → Value.okWide Try.prog W .any base t v)
    (hW : DataW.Whole enc Try.prog Try.f3.params.toList Rows.memberNamesSpec.vars false W args.toList ds gs before) :
    Calls Try.prog 3 args W fun e W' => ∃ v, e = .returned v ∧ Rows.memberNamesSpec.post enc Try.prog Try.f3 false true false false W args v W' := by
  have hW0 := hW
  obtain ⟨p, q, hA, hV, rfl, hfz, hnd⟩ := hW
  rw [← ptys] at hA
  obtain ⟨xs, a1, a2, a3⟩ := args_has (N := nm) (okTy_all okT) (refs_struct okR) (refs_slice okR) (b := base) (r := .any) (by decide) (fun j t v ht hv => by
    rw [ptys] at ht
    exact hval j t v (by simpa using ht) (by simpa using hv)) hA
  obtain ⟨rfl, rfl⟩ := trodVars_none hV
  obtain ⟨n, hn⟩ := (answers xs a1).out
  refine (law_call lk hn a2 (by simp [nm])).mono fun e W' ⟨he, hb⟩ => ?_
  refine ⟨_, he, law_post (tb := 4) laid readable Try.underlying4 (by kernel_rfl) rfl hW0 ?_ hb⟩
  have hl : ds.length = 0 := by
    have h1 := trodAll_len hA
    simpa using h1
  match ds, hl with
  | [], _ => rfl

set_option maxRecDepth 100000 in
theorem lifted (os : Os) (started : os.Started) (H : Type) (enc : TypeId × Value → H) :
    ReturnsInHanded {} Try.checked os 3 .any ((OpenSpec.ofChange Rows.memberNamesSpec).pre6 enc Try.prog Try.f3 Rows.memberNamesRow.domain false) (Rows.memberNamesSpec.post enc Try.prog Try.f3 false true false false) := by
  refine returnsInHanded_of_change (C := Try.checked) (s := Rows.memberNamesSpec) own started (by kernel_rfl) Try.func3
    (ChangeSpec.witness6 (enc := enc) (C := Try.checked) (s := Rows.memberNamesSpec) false ⟨#[], #[], []⟩ 8 (by kernel_rfl) (by kernel_rfl) (by kernel_rfl) (by kernel_rfl)) ?_
  intro W base args ds gs before hval hW _ _
  exact contract H enc W base args ds gs before hval hW

theorem over : Rows.memberNamesRow.holds Try.pinned (OpenSpec.ofChange Rows.memberNamesSpec) :=
  OpenClaim.holds_of_wide 3 Try.f3 rfl rfl rfl rfl rfl rfl rfl ⟨rfl, rfl, rfl, rfl, rfl⟩ rfl rfl rfl rfl rfl (by kernel_rfl) Try.func3 (by kernel_rfl)
    (of_decide_eq_true (by kernel_rfl)) (by unfold Func.isWrapper; first | (rw [if_pos (by decide +kernel)]; kernel_rfl) | (rw [if_neg (by decide +kernel)]; exact ⟨rfl, rfl⟩))
    (fun os started H enc _ => lifted os started H enc)

theorem proved : Rows.MemberNamesSaid :=
  over
end Go.Proofs.Ytolnpaiimdohoaa.hMNames
#print axioms Go.Proofs.Ytolnpaiimdohoaa.hMNames.proved
