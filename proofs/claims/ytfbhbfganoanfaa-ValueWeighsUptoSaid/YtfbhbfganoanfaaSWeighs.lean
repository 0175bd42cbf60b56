/-
  ValueWeighs: whatever value is given (of bulk at most 1048576), the law answers true and its argument reads as before. Conditions: none but the statement's own.
-/
import Derived.Test.YtfbhbfganoanfaaRows
import Derived.Test.YtfbhbfganoanfaaHD
import Derived.Test.YtfbhbfganoanfaaGWeighs
import Derived.WalkKit
import Derived.ProofKit
import Derived.OpenShut
import Derived.JoinedCond
namespace Go.Proofs.Ytfbhbfganoanfaa.hWeighs
open Go.ChangeShapes Go.WideShapes Go.ChangeAt Go.RowKit Hm
set_option linter.unusedVariables false
set_option linter.unnecessarySimpa false
set_option linter.unusedSimpArgs false

def fl : List (Nat × Nat) := [(F.hallmarklaw03_ValueWeighs, 4), (F.value_Weight, 10), (F.hallmarklaw03_small, 11), (F.hallmarkref03_Formed, 12), (F.hallmarkref03_Weight, 13), (F.value_Depth, 14), (F.hallmarkref03_Depth, 15), (F.strings_TrimPrefix, 24), (F.hallmarkref03_Parts, 25), (F.hallmarkref03_Number, 26), (F.hallmarkref03_UTF, 27), (F.hallmarkref03_Rise, 28), (F.hallmarkref03_All, 29), (F.internal_stringslite_TrimPrefix, 44), (F.hallmarkref03_width, 45), (F.internal_stringslite_HasPrefix, 55), (F.hallmarkref03_trail, 56)]
def nm : Nm := ⟨fun f => (Hm.look fl f).getD 0, fun _ => 0, []⟩
def sf : List (Nat × AFun) := [(F.hallmarklaw03_ValueWeighs, hallmarklaw03_ValueWeighs.fn), (F.value_Weight, value_Weight.fn), (F.hallmarklaw03_small, hallmarklaw03_small.fn), (F.hallmarkref03_Formed, hallmarkref03_Formed.fn), (F.hallmarkref03_Weight, hallmarkref03_Weight.fn), (F.value_Depth, value_Depth.fn), (F.hallmarkref03_Depth, hallmarkref03_Depth.fn), (F.strings_TrimPrefix, strings_TrimPrefix.fn), (F.hallmarkref03_Parts, hallmarkref03_Parts.fn), (F.hallmarkref03_Number, hallmarkref03_Number.fn), (F.hallmarkref03_UTF, hallmarkref03_UTF.fn), (F.hallmarkref03_Rise, hallmarkref03_Rise.fn), (F.hallmarkref03_All, hallmarkref03_All.fn), (F.internal_stringslite_TrimPrefix, internal_stringslite_TrimPrefix.fn), (F.hallmarkref03_width, hallmarkref03_width.fn), (F.internal_stringslite_HasPrefix, internal_stringslite_HasPrefix.fn), (F.hallmarkref03_trail, hallmarkref03_trail.fn)]
def tds : List (TD × Nat) := [(.struct [1, 2, 2, 3, 4], 5), (.int .i64, 1), (.str, 1), (.slice 0, 1), (.slice 2, 1)]
def taus : List Nat := [25, 3, 9, 22, 23]
theorem okF : okFns Try.prog nm sf = true := by kernel_rfl
theorem okT : ((List.range tds.length).all fun i => okTy Try.prog (tauOf taus) (tsOf tds) i) = true := by kernel_rfl
theorem okR : (tds.all fun x => refsOk tds.length x.1) = true := by kernel_rfl
theorem mixed : Try.prog.follows .mixedOrders = true := by kernel_rfl
theorem lk : Linked Try.prog nm (tabOf sf []) := Hm.linked mixed okF (by simp)
theorem own : ownKnob Try.prog.godebug = none := by kernel_rfl
theorem laid : laidOutB Try.prog = true := by kernel_rfl
theorem readable : ∀ t ∈ Try.f4.params.toList, Try.prog.readableRec t = true ∧ t < Try.prog.types.size := by
  have h : (Try.f4.params.toList.all fun t => Try.prog.readableRec t && decide (t < Try.prog.types.size)) = true := by kernel_rfl
  intro t ht
  have := List.all_eq_true.1 h t ht
  simpa using this
theorem ptys : ([0] : List Nat).map (tauOf taus) = Try.f4.params.toList := by kernel_rfl

mutual
theorem ub1 {H : Type} : ∀ d : DataW H, Rows.uptoBulk d = bulkD d
  | .lit l => by cases l <;> rfl
  | .nil => rfl
  | .ptr d => by rw [Rows.uptoBulk, bulkD, ub1 d]
  | .slice a b => by rw [Rows.uptoBulk, bulkD, ub2 a, ub2 b]
  | .agg a => by rw [Rows.uptoBulk, bulkD, ub2 a]
  | .iface _ d => by rw [Rows.uptoBulk, bulkD, ub1 d]
  | .map a => by rw [Rows.uptoBulk, bulkD, ub3 a]
  | .held _ => rfl
theorem ub2 {H : Type} : ∀ l : List (DataW H), Rows.uptoBulkAll l = bulkAll l
  | [] => rfl
  | d :: r => by rw [Rows.uptoBulkAll, bulkAll, ub1 d, ub2 r]
theorem ub3 {H : Type} : ∀ l : List (Lit × DataW H), Rows.uptoBulkEntries l = bulkEntries l
  | [] => rfl
  | x :: r => by rw [Rows.uptoBulkEntries, bulkEntries, ub4 x, ub3 r]
theorem ub4 {H : Type} : ∀ x : Lit × DataW H, Rows.uptoBulkEntry x = bulkEntry x
  | (l, d) => by cases l <;> simp only [Rows.uptoBulkEntry, bulkEntry, ub1 d]
end

theorem fns (n : Nat) (c : AFun) (h : Hm.look sf n = some c := by rfl) : Hm.Fn (tabOf sf []) n c := ⟨rfl, h, by simp only [tabOf, h]⟩

theorem answers (xs : List AV) (h : HasAs (tsOf tds) [0] xs) (hb : bkRow xs ≤ 1048576) : Hm.Ret (tabOf sf []) F.hallmarklaw03_ValueWeighs (xs.map .val) ⟨[([.av (.bool true)], false)], []⟩ := by
  obtain ⟨a, r, rfl, ha, h⟩ := h.inv
  obtain rfl := h.nil_inv
  obtain ⟨v, rfl, hv⟩ := V.of_arg rfl rfl rfl rfl rfl rfl rfl ha
  simp only [bkRow, hv] at hb
  exact ValueWeighs_ret (fns _ _) (fns _ _) (fns _ _) (fns _ _) (fns _ _) (fns _ _) (fns _ _) (fns _ _) (fns _ _) (fns _ _) (fns _ _) (fns _ _) (fns _ _) (fns _ _) (fns _ _) (fns _ _) (fns _ _) v (by omega)

theorem contract (H : Type) (enc : TypeId × Value → H) (W : World) (base : Nat) (args : Array Value) (ds gs : List (DataW H)) (before : List MemPlace)
    (hval : ∀ (j : Nat) t v, Try.f4.params[j]? = some t → args[j]? = some v → Value.okWide Try.prog W .any base t v)
    (hW : DataW.Whole enc Try.prog Try.f4.params.toList Rows.valueWeighsSpec.vars false W args.toList ds gs before) (hk : Rows.uptoSmall H (ds ++ gs) = true) :
    Calls Try.prog 4 args W fun e W' => ∃ v, e = .returned v ∧ Rows.valueWeighsSpec.post enc Try.prog Try.f4 false true false false W args v W' := by
  have hW0 := hW
  obtain ⟨p, q, hA, hV, rfl, hfz, hnd⟩ := hW
  rw [← ptys] at hA
  obtain ⟨xs, a1, a2, a3⟩ := args_has (N := nm) (okTy_all okT) (refs_struct okR) (refs_slice okR) (b := base) (r := .any) (by decide) (fun j t v ht hv => by
    rw [ptys] at ht
    exact hval j t v (by simpa using ht) (by simpa using hv)) hA
  obtain ⟨rfl, rfl⟩ := trodVars_none hV
  have hbulk : bkRow xs ≤ 1048576 := by
    have h1 := of_decide_eq_true hk
    rw [List.append_nil, ub2] at h1
    exact Nat.le_trans a3 h1
  obtain ⟨n, hn⟩ := (answers xs a1 hbulk).out
  refine (law_call lk hn a2 (by simp [nm])).mono fun e W' ⟨he, hb⟩ => ?_
  refine ⟨_, he, law_post (tb := 4) laid readable Try.underlying4 (by kernel_rfl) rfl hW0 ?_ hb⟩
  have hl : ds.length = 1 := by
    have h1 := trodAll_len hA
    simpa using h1
  match ds, hl with
  | [d0], _ => rfl

set_option maxRecDepth 100000 in
theorem lifted (os : Os) (started : os.Started) (H : Type) (enc : TypeId × Value → H) (F : Stop.Interp) :
    ReturnsInHanded {} Try.checked os 4 .any ((Rows.OpenSpec.upto Rows.valueWeighsSpec).pre6 enc Try.prog Try.f4 Rows.valueWeighsUptoRow.domain false) (((Rows.OpenSpec.upto Rows.valueWeighsSpec).at F).post enc Try.prog Try.f4 false true false false) := by
  refine returnsInHanded_of_cond (C := Try.checked) (s := Rows.OpenSpec.upto Rows.valueWeighsSpec) (k := Rows.uptoSmall) rfl own started (by kernel_rfl) Try.func4
    (OpenSpec.witness (enc := enc) (C := Try.checked) (s := Rows.OpenSpec.upto Rows.valueWeighsSpec) (k := Rows.uptoSmall) rfl false ⟨#[], #[.agg #[.int .i64 0, .string ⟨#[]⟩, .string ⟨#[]⟩, .slice none 0 0, .slice none 0 0]], []⟩ 8 (by kernel_rfl) (by kernel_rfl) (by kernel_rfl)
      (x := ([.agg [.lit (.int .i64 0), .lit (.string []), .lit (.string []), .nil, .nil]], [], [])) (by kernel_rfl) rfl (by kernel_rfl)) ?_
  intro W base args ds gs before hval hW _ hk _
  exact contract H enc W base args ds gs before hval hW hk

theorem over : Rows.valueWeighsUptoRow.holds Try.pinned (Rows.OpenSpec.upto Rows.valueWeighsSpec) :=
  OpenClaim.holds_of_cond 4 Try.f4 rfl rfl rfl rfl rfl rfl rfl ⟨rfl, rfl, rfl, rfl, rfl⟩ rfl rfl rfl rfl rfl (by kernel_rfl) Try.func4 (by kernel_rfl)
    (of_decide_eq_true (by kernel_rfl)) (by unfold Func.isWrapper; first | (rw [if_pos (by decide +kernel)]; kernel_rfl) | (rw [if_neg (by decide +kernel)]; exact ⟨rfl, rfl⟩))
    (fun os started H enc _ F => lifted os started H enc F)

theorem proved : Rows.ValueWeighsUptoSaid :=
  over
end Go.Proofs.Ytfbhbfganoanfaa.hWeighs
#print axioms Go.Proofs.Ytfbhbfganoanfaa.hWeighs.proved
