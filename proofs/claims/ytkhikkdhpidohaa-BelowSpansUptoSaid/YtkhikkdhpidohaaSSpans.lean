/-
  BelowSpans: whatever spans and text are given (together of bulk at most 1048576), the law answers true and its arguments read as before. Conditions: none but the statement's own.
-/
import Derived.Test.YtkhikkdhpidohaaRows
import Derived.Test.YtkhikkdhpidohaaHD
import Derived.Test.YtkhikkdhpidohaaGSpans
import Derived.WalkKit
import Derived.ProofKit
import Derived.OpenShut
import Derived.JoinedCond
namespace Go.Proofs.Ytkhikkdhpidohaa.hSpans
open Go.ChangeShapes Go.WideShapes Go.ChangeAt Go.RowKit Hm
set_option linter.unusedVariables false
set_option linter.unnecessarySimpa false
set_option linter.unusedSimpArgs false

def fl : List (Nat × Nat) := [(F.hallmarkref03_Number, 10), (F.tens_Cmp, 54), (F.tens_Formed, 80), (F.tens_split, 81), (F.tens_size, 82), (F.hallmarkref03_Numbers, 27), (F.hallmarkref03_Texts, 55), (F.hallmarkref09_InSpan, 11), (F.hallmarklaw12_BelowSpans, 3), (F.below_Span, 7), (F.hallmarklaw12_bounds, 8), (F.hallmarkref12_Span, 9), (F.below_hollow, 24), (F.below_worth, 25), (F.hallmarkref12_Hollow, 26)]
def nm : Nm := ⟨fun f => (Hm.look fl f).getD 0, fun _ => 0, []⟩
def sf : List (Nat × AFun) := [(F.hallmarkref03_Number, hallmarkref03_Number.fn), (F.tens_Cmp, tens_Cmp.fn), (F.tens_Formed, tens_Formed.fn), (F.tens_split, tens_split.fn), (F.tens_size, tens_size.fn), (F.hallmarkref03_Numbers, hallmarkref03_Numbers.fn), (F.hallmarkref03_Texts, hallmarkref03_Texts.fn), (F.hallmarkref09_InSpan, hallmarkref09_InSpan.fn), (F.hallmarklaw12_BelowSpans, hallmarklaw12_BelowSpans.fn), (F.below_Span, below_Span.fn), (F.hallmarklaw12_bounds, hallmarklaw12_bounds.fn), (F.hallmarkref12_Span, hallmarkref12_Span.fn), (F.below_hollow, below_hollow.fn), (F.below_worth, below_worth.fn), (F.hallmarkref12_Hollow, hallmarkref12_Hollow.fn)]
def tds : List (TD × Nat) := [(.struct [1, 1], 2), (.str, 1)]
def taus : List Nat := [23, 9]
theorem okF : okFns Try.prog nm sf = true := by kernel_rfl
theorem okT : ((List.range tds.length).all fun i => okTy Try.prog (tauOf taus) (tsOf tds) i) = true := by kernel_rfl
theorem okR : (tds.all fun x => refsOk tds.length x.1) = true := by kernel_rfl
theorem mixed : Try.prog.follows .mixedOrders = true := by kernel_rfl
theorem lk : Linked Try.prog nm (tabOf sf []) := Hm.linked mixed okF (by simp)
theorem own : ownKnob Try.prog.godebug = none := by kernel_rfl
theorem laid : laidOutB Try.prog = true := by kernel_rfl
theorem readable : ∀ t ∈ Try.f3.params.toList, Try.prog.readableRec t = true ∧ t < Try.prog.types.size := by
  have h : (Try.f3.params.toList.all fun t => Try.prog.readableRec t && decide (t < Try.prog.types.size)) = true := by kernel_rfl
  intro t ht
  have := List.all_eq_true.1 h t ht
  simpa using this
theorem ptys : ([0, 0, 1] : List Nat).map (tauOf taus) = Try.f3.params.toList := by kernel_rfl

mutual
theorem ub1 {H : Type} : ∀ d : DataW H, Rows.uptoBulk d = bulkD d
  | .lit l => by cases l <;> rfl
  | .nil => rfl
  | .ptr d => by rw [Rows.uptoBulk, bulkD, ub1 d]
  | .slice a b => by rw [Rows.uptoBulk, bulkD, ub2 a, ub2 b]
  | .agg a => by rw [Rows.uptoBulk, bulkD, ub2 a]
  | .iface _ d => by rw [Rows.uptoBulk, bulkD, ub1 d]
  | .map a => by rw [Rows.uptoBulk, bulkD, ub3 a]
  | .held _ => rfl
theorem ub2 {H : Type} : ∀ l : List (DataW H), Rows.uptoBulkAll l = bulkAll l
  | [] => rfl
  | d :: r => by rw [Rows.uptoBulkAll, bulkAll, ub1 d, ub2 r]
theorem ub3 {H : Type} : ∀ l : List (Lit × DataW H), Rows.uptoBulkEntries l = bulkEntries l
  | [] => rfl
  | x :: r => by rw [Rows.uptoBulkEntries, bulkEntries, ub4 x, ub3 r]
theorem ub4 {H : Type} : ∀ x : Lit × DataW H, Rows.uptoBulkEntry x = bulkEntry x
  | (l, d) => by cases l <;> simp only [Rows.uptoBulkEntry, bulkEntry, ub1 d]
end

theorem fns (n : Nat) (c : AFun) (h : Hm.look sf n = some c := by rfl) : Hm.Fn (tabOf sf []) n c := ⟨rfl, h, by simp only [tabOf, h]⟩

theorem span_of (x : AV) (h : HasA (tsOf tds) 0 x) : ∃ s : Sp, x = s.av ∧ bkA x = (s.1.length + 1) + (s.2.length + 1) := by
  obtain ⟨cs, rfl, hc⟩ := h.struct_inv rfl
  obtain ⟨c1, r1, rfl, h1, hc⟩ := (hc.struct_inv rfl).inv
  obtain ⟨c2, r2, rfl, h2, hc⟩ := hc.inv
  obtain rfl := hc.nil_inv
  obtain ⟨s1, rfl⟩ := h1.str_inv rfl
  obtain ⟨s2, rfl⟩ := h2.str_inv rfl
  exact ⟨(s1, s2), rfl, by simp [bkA, bkRow]⟩

theorem answers (xs : List AV) (h : HasAs (tsOf tds) [0, 0, 1] xs) (hb : bkRow xs ≤ 1048576) : Hm.Ret (tabOf sf []) F.hallmarklaw12_BelowSpans (xs.map .val) ⟨[([.av (.bool true)], false)], []⟩ := by
  obtain ⟨a, r, rfl, ha, h⟩ := h.inv
  obtain ⟨b, r, rfl, hb', h⟩ := h.inv
  obtain ⟨c, r, rfl, hc, h⟩ := h.inv
  obtain rfl := h.nil_inv
  obtain ⟨a, rfl, h1⟩ := span_of a ha
  obtain ⟨b, rfl, h2⟩ := span_of b hb'
  obtain ⟨n, rfl⟩ := hc.str_inv rfl
  simp only [bkRow, h1, h2, bkA] at hb
  exact BelowSpans_ret (fns _ _) (fns _ _) (fns _ _) (fns _ _) (fns _ _) (fns _ _) (fns _ _) (fns _ _) (fns _ _) (fns _ _) (fns _ _) (fns _ _) (fns _ _) (fns _ _) (fns _ _) a b n (by omega) (by omega) (by omega) (by omega) (by omega)

set_option maxRecDepth 100000 in
theorem contract (H : Type) (enc : TypeId × Value → H) (W : World) (base : Nat) (args : Array Value) (ds gs : List (DataW H)) (before : List MemPlace)
    (hval : ∀ (j : Nat) t v, Try.f3.params[j]? = some t → args[j]? = some v → Value.okWide Try.prog W .any base t v)
    (hW : DataW.Whole enc Try.prog Try.f3.params.toList Rows.belowSpansSpec.vars false W args.toList ds gs before) (hk : Rows.uptoSmall H (ds ++ gs) = true) :
    Calls Try.prog 3 args W fun e W' => ∃ v, e = .returned v ∧ Rows.belowSpansSpec.post enc Try.prog Try.f3 false true false false W args v W' := by
  have hW0 := hW
  obtain ⟨p, q, hA, hV, rfl, hfz, hnd⟩ := hW
  rw [← ptys] at hA
  obtain ⟨xs, a1, a2, a3⟩ := args_has (N := nm) (okTy_all okT) (refs_struct okR) (refs_slice okR) (b := base) (r := .any) (by decide) (fun j t v ht hv => by
    rw [ptys] at ht
    exact hval j t v (by simpa using ht) (by simpa using hv)) hA
  obtain ⟨rfl, rfl⟩ := trodVars_none hV
  have hbulk : bkRow xs ≤ 1048576 := by
    have h1 := of_decide_eq_true hk
    rw [List.append_nil, ub2] at h1
    exact Nat.le_trans a3 h1
  obtain ⟨n, hn⟩ := (answers xs a1 hbulk).out
  refine (law_call lk hn a2 (by simp [nm])).mono fun e W' ⟨he, hb⟩ => ?_
  refine ⟨_, he, law_post (tb := 4) laid readable Try.underlying4 (by kernel_rfl) rfl hW0 ?_ hb⟩
  have hl : ds.length = 3 := by
    have h1 := trodAll_len hA
    simpa using h1
  match ds, hl with
  | [d0, d1, d2], _ => rfl

set_option maxRecDepth 100000 in
theorem lifted (os : Os) (started : os.Started) (H : Type) (enc : TypeId × Value → H) (F : Stop.Interp) :
    ReturnsInHanded {} Try.checked os 3 .any ((Rows.OpenSpec.upto Rows.belowSpansSpec).pre6 enc Try.prog Try.f3 Rows.belowSpansUptoRow.domain false) (((Rows.OpenSpec.upto Rows.belowSpansSpec).at F).post enc Try.prog Try.f3 false true false false) := by
  refine returnsInHanded_of_cond (C := Try.checked) (s := Rows.OpenSpec.upto Rows.belowSpansSpec) (k := Rows.uptoSmall) rfl own started (by kernel_rfl) Try.func3
    (OpenSpec.witness (enc := enc) (C := Try.checked) (s := Rows.OpenSpec.upto Rows.belowSpansSpec) (k := Rows.uptoSmall) rfl false ⟨#[], #[.agg #[.string ⟨#[]⟩, .string ⟨#[]⟩], .agg #[.string ⟨#[]⟩, .string ⟨#[]⟩], .string ⟨#[]⟩], []⟩ 8 (by kernel_rfl) (by kernel_rfl) (by kernel_rfl)
      (x := ([.agg [.lit (.string []), .lit (.string [])], .agg [.lit (.string []), .lit (.string [])], .lit (.string [])], [], [])) (by kernel_rfl) rfl (by kernel_rfl)) ?_
  intro W base args ds gs before hval hW _ hk _
  exact contract H enc W base args ds gs before hval hW hk

theorem over : Rows.belowSpansUptoRow.holds Try.pinned (Rows.OpenSpec.upto Rows.belowSpansSpec) :=
  OpenClaim.holds_of_cond 3 Try.f3 rfl rfl rfl rfl rfl rfl rfl ⟨rfl, rfl, rfl, rfl, rfl⟩ rfl rfl rfl rfl rfl (by kernel_rfl) Try.func3 (by kernel_rfl)
    (of_decide_eq_true (by kernel_rfl)) (by unfold Func.isWrapper; first | (rw [if_pos (by decide +kernel)]; kernel_rfl) | (rw [if_neg (by decide +kernel)]; exact ⟨rfl, rfl⟩))
    (fun os started H enc _ F => lifted os started H enc F)

theorem proved : Rows.BelowSpansUptoSaid :=
  over
end Go.Proofs.Ytkhikkdhpidohaa.hSpans
#print axioms Go.Proofs.Ytkhikkdhpidohaa.hSpans.proved
