/- What the law answers on the abstract machine. Conditions: see each theorem. -/
import Derived.Test.YtfbhbfganoanfaaDoorVMrg2
set_option linter.unusedVariables false
set_option linter.unusedSimpArgs false
/- Objects made of lists. Conditions: see each theorem. -/
namespace Hm
open Go (IntKind)
set_option maxHeartbeats 4000000
set_option maxRecDepth 4000
/-- What Make reaches. -/
structure MkFns (T : Tab) : Prop where
  a1 : Fn T F.value_Make value_Make.fn
  a2 : Fn T F.value_Make_S1 value_Make_S1.fn
  a3 : Fn T F.slices_ContainsFunc_Lstring_string slices_ContainsFunc_Lstring_string.fn
  a4 : Fn T F.slices_IndexFunc_Lstring_string slices_IndexFunc_Lstring_string.fn
section
variable {T : Tab}
theorem indexFuncS_ret (h : Fn T F.slices_IndexFunc_Lstring_string slices_IndexFunc_Lstring_string.fn) {p : Str → Bool} {g : Nat} (hg : T.modes g = [.val]) (l : List Str) (hl : l.length ≤ 1073741824)
    (ih : ∀ x ∈ l, Ret T g [.val (.str x)] (one (.bool (p x)))) : ∃ n : Int, (0 ≤ n ↔ l.any p = true) ∧ Ret T F.slices_IndexFunc_Lstring_string [.val (.lst 1 (srow l)), .val (.clo g [] [])] (one (.int .i64 n)) := by
  have e1 := srow_len l
  refine Ret.ex1 (g := fun n => AV.int .i64 n) (R := fun n => (0 ≤ n ↔ l.any p = true)) h rfl ?_
  repeat' (first | refine WO.cons ?_ | refine WB.cons ?_ | refine WP.one ?_ | ((first | apply W1.add64 | apply W1.sub64); (iterate 3 exact rfl); omega; omega) | (apply W1.iadr; (iterate 3 exact rfl); omega; first | assumption | ((first | apply V.get_row | apply get_srow | apply get_ty | apply get_ar | apply get_ob | apply get_sprow | apply get_brow); assumption)) | (apply W1.idxS; (iterate 3 exact rfl); omega; omega) | (apply W1.slcS; (iterate 4 exact rfl); omega) | (apply W1.pickT; exact rfl; exact rfl; (first | with_reducible rfl | assumption | (simp only [bn]; first | omega | assumption | decide)); exact rfl) | (apply W1.pickF; exact rfl; exact rfl; (first | with_reducible rfl | assumption | (simp only [bn]; first | omega | assumption | decide)); exact rfl) | (apply W1.op; (iterate 3 exact rfl)) | (apply W1.no; exact rfl) | ((first | apply W1.knowT | apply W1.knowFn | apply WQ.knowT | apply WQ.knowFn | apply W.condT); exact rfl; (first | with_reducible rfl | assumption | (simp only [bn]; first | omega | assumption | decide))) | ((first | apply W1.knowTn | apply W1.knowF | apply WQ.knowTn | apply WQ.knowF | apply W.condF); exact rfl; (first | with_reducible rfl | assumption | (simp only [bn]; first | omega | assumption | decide))) | (apply WQ.go; exact rfl; exact rfl) | (apply WQ.no; exact rfl) | ((first | apply W1.bothT | apply W1.bothF | apply WQ.bothT | apply WQ.bothF | apply W.cond); exact rfl; all_goals intro hc; all_goals first | (cases hc; done) | ((try simp only [hc]); (try simp only [bm] at hc))) | refine WO.nil ?_ | refine WB.nil ?_ | refine WP.bag rfl ?_ | refine WP.nil ?_ | refine W.seq ?_ | refine W.reg ?_ | refine W.dreg ?_ | refine W.block ?_ | refine W.ret ?_ | refine W.skip ?_ | refine W.exit ?_ | (simp only [srow_len, List.length_map, Qit, Int.toNat_natCast, entry, Opd.eat, cellsOf, TV.ofCells, allAv, Qseq, Qblk, List.map_cons, List.map_nil, putD, kp, Nat.reduceEqDiff, ↓reduceIte, beq_self_eq_true, Nat.reduceBEq]))
  refine W.listP l (fun i (_ : Unit) s => s.put 8 (.av (.int .i64 (i : Int)))) (fun i _ => (l.take i).any p = false) () (by simp) rfl ?_ ?_
  · intro i x u hx hi hp
    have r := ih x (List.mem_of_getElem? hx)
    repeat' (first | refine WO.cons ?_ | refine WB.cons ?_ | refine WP.one ?_ | (first | (apply WQ.call (hm := hg); (iterate 4 exact rfl)) | (apply W1.callV (hm := hg); (iterate 5 exact rfl); exact (r); exact rfl)) | ((first | apply W1.add64 | apply W1.sub64); (iterate 3 exact rfl); omega; omega) | (apply W1.iadr; (iterate 3 exact rfl); omega; first | assumption | ((first | apply V.get_row | apply get_srow | apply get_ty | apply get_ar | apply get_ob | apply get_sprow | apply get_brow); assumption)) | (apply W1.idxS; (iterate 3 exact rfl); omega; omega) | (apply W1.slcS; (iterate 4 exact rfl); omega) | (apply W1.pickT; exact rfl; exact rfl; (first | with_reducible rfl | assumption | (simp only [bn]; first | omega | assumption | decide)); exact rfl) | (apply W1.pickF; exact rfl; exact rfl; (first | with_reducible rfl | assumption | (simp only [bn]; first | omega | assumption | decide)); exact rfl) | (apply W1.op; (iterate 3 exact rfl)) | (apply W1.no; exact rfl) | ((first | apply W1.knowT | apply W1.knowFn | apply WQ.knowT | apply WQ.knowFn | apply W.condT); exact rfl; (first | with_reducible rfl | assumption | (simp only [bn]; first | omega | assumption | decide))) | ((first | apply W1.knowTn | apply W1.knowF | apply WQ.knowTn | apply WQ.knowF | apply W.condF); exact rfl; (first | with_reducible rfl | assumption | (simp only [bn]; first | omega | assumption | decide))) | (apply WQ.go; exact rfl; exact rfl) | (apply WQ.no; exact rfl) | ((first | apply W1.bothT | apply W1.bothF | apply WQ.bothT | apply WQ.bothF | apply W.cond); exact rfl; all_goals intro hc; all_goals first | (cases hc; done) | ((try simp only [hc]); (try simp only [bm] at hc))) | refine WO.nil ?_ | refine WB.nil ?_ | refine WP.bag rfl ?_ | refine WP.nil ?_ | refine W.seq ?_ | refine W.reg ?_ | refine W.dreg ?_ | refine W.block ?_ | refine W.ret ?_ | refine W.skip ?_ | refine W.exit ?_ | (simp only [srow_len, List.length_map, Qit, Int.toNat_natCast, entry, Opd.eat, cellsOf, TV.ofCells, allAv, Qseq, Qblk, List.map_cons, List.map_nil, putD, kp, Nat.reduceEqDiff, ↓reduceIte, beq_self_eq_true, Nat.reduceBEq]))
    all_goals clear r
    · refine ⟨_, ?_, Qend.num rfl rfl rfl⟩
      have : l.any p = true := List.any_eq_true.2 ⟨x, List.mem_of_getElem? hx, by assumption⟩
      simp [this]
    · refine ⟨(), ?_, rfl⟩
      rw [List.take_add_one, hx, List.any_append, hp]; simp_all
  · intro u hp
    rw [List.take_length] at hp
    repeat' (first | refine WO.cons ?_ | refine WB.cons ?_ | refine WP.one ?_ | ((first | apply W1.add64 | apply W1.sub64); (iterate 3 exact rfl); omega; omega) | (apply W1.iadr; (iterate 3 exact rfl); omega; first | assumption | ((first | apply V.get_row | apply get_srow | apply get_ty | apply get_ar | apply get_ob | apply get_sprow | apply get_brow); assumption)) | (apply W1.idxS; (iterate 3 exact rfl); omega; omega) | (apply W1.slcS; (iterate 4 exact rfl); omega) | (apply W1.pickT; exact rfl; exact rfl; (first | with_reducible rfl | assumption | (simp only [bn]; first | omega | assumption | decide)); exact rfl) | (apply W1.pickF; exact rfl; exact rfl; (first | with_reducible rfl | assumption | (simp only [bn]; first | omega | assumption | decide)); exact rfl) | (apply W1.op; (iterate 3 exact rfl)) | (apply W1.no; exact rfl) | ((first | apply W1.knowT | apply W1.knowFn | apply WQ.knowT | apply WQ.knowFn | apply W.condT); exact rfl; (first | with_reducible rfl | assumption | (simp only [bn]; first | omega | assumption | decide))) | ((first | apply W1.knowTn | apply W1.knowF | apply WQ.knowTn | apply WQ.knowF | apply W.condF); exact rfl; (first | with_reducible rfl | assumption | (simp only [bn]; first | omega | assumption | decide))) | (apply WQ.go; exact rfl; exact rfl) | (apply WQ.no; exact rfl) | ((first | apply W1.bothT | apply W1.bothF | apply WQ.bothT | apply WQ.bothF | apply W.cond); exact rfl; all_goals intro hc; all_goals first | (cases hc; done) | ((try simp only [hc]); (try simp only [bm] at hc))) | refine WO.nil ?_ | refine WB.nil ?_ | refine WP.bag rfl ?_ | refine WP.nil ?_ | refine W.seq ?_ | refine W.reg ?_ | refine W.dreg ?_ | refine W.block ?_ | refine W.ret ?_ | refine W.skip ?_ | refine W.exit ?_ | (simp only [srow_len, List.length_map, Qit, Int.toNat_natCast, entry, Opd.eat, cellsOf, TV.ofCells, allAv, Qseq, Qblk, List.map_cons, List.map_nil, putD, kp, Nat.reduceEqDiff, ↓reduceIte, beq_self_eq_true, Nat.reduceBEq]))
    refine ⟨_, ?_, Qend.num rfl rfl rfl⟩
    rw [hp]; simp
theorem containsFuncS_ret (h : Fn T F.slices_ContainsFunc_Lstring_string slices_ContainsFunc_Lstring_string.fn) (hi : Fn T F.slices_IndexFunc_Lstring_string slices_IndexFunc_Lstring_string.fn) {p : Str → Bool} {g : Nat} (hg : T.modes g = [.val]) (l : List Str) (hl : l.length ≤ 1073741824)
    (ih : ∀ x ∈ l, Ret T g [.val (.str x)] (one (.bool (p x)))) : Ret T F.slices_ContainsFunc_Lstring_string [.val (.lst 1 (srow l)), .val (.clo g [] [])] (one (.bool (l.any p))) := by
  obtain ⟨n, hn, r⟩ := indexFuncS_ret hi hg l hl ih
  refine Ret.mk h rfl ?_
  repeat' (first | refine WO.cons ?_ | refine WB.cons ?_ | refine WP.one ?_ | (first | (apply WQ.call (hm := hi.modes); (iterate 4 exact rfl)) | (apply W1.callV (hm := hi.modes); (iterate 5 exact rfl); exact (r); exact rfl)) | ((first | apply W1.add64 | apply W1.sub64); (iterate 3 exact rfl); omega; omega) | (apply W1.iadr; (iterate 3 exact rfl); omega; first | assumption | ((first | apply V.get_row | apply get_srow | apply get_ty | apply get_ar | apply get_ob | apply get_sprow | apply get_brow); assumption)) | (apply W1.idxS; (iterate 3 exact rfl); omega; omega) | (apply W1.slcS; (iterate 4 exact rfl); omega) | (apply W1.pickT; exact rfl; exact rfl; (first | with_reducible rfl | assumption | (simp only [bn]; first | omega | assumption | decide)); exact rfl) | (apply W1.pickF; exact rfl; exact rfl; (first | with_reducible rfl | assumption | (simp only [bn]; first | omega | assumption | decide)); exact rfl) | (apply W1.op; (iterate 3 exact rfl)) | (apply W1.no; exact rfl) | ((first | apply W1.knowT | apply W1.knowFn | apply WQ.knowT | apply WQ.knowFn | apply W.condT); exact rfl; (first | with_reducible rfl | assumption | (simp only [bn]; first | omega | assumption | decide))) | ((first | apply W1.knowTn | apply W1.knowF | apply WQ.knowTn | apply WQ.knowF | apply W.condF); exact rfl; (first | with_reducible rfl | assumption | (simp only [bn]; first | omega | assumption | decide))) | (apply WQ.go; exact rfl; exact rfl) | (apply WQ.no; exact rfl) | ((first | apply W1.bothT | apply W1.bothF | apply WQ.bothT | apply WQ.bothF | apply W.cond); exact rfl; all_goals intro hc; all_goals first | (cases hc; done) | ((try simp only [hc]); (try simp only [bm] at hc))) | refine WO.nil ?_ | refine WB.nil ?_ | refine WP.bag rfl ?_ | refine WP.nil ?_ | refine W.seq ?_ | refine W.reg ?_ | refine W.dreg ?_ | refine W.block ?_ | refine W.ret ?_ | refine W.skip ?_ | refine W.exit ?_ | (simp only [srow_len, List.length_map, Qit, Int.toNat_natCast, entry, Opd.eat, cellsOf, TV.ofCells, allAv, Qseq, Qblk, List.map_cons, List.map_nil, putD, kp, Nat.reduceEqDiff, ↓reduceIte, beq_self_eq_true, Nat.reduceBEq]))
  refine Qend.boo rfl rfl ?_
  rw [Bool.eq_iff_iff, ← hn]; simp
/-- All values of a list, as the program tests them. -/
theorem valueAll_ret (f : VfFns T) (hv : ValidOk T) (l : List V) (hb : V.bks l ≤ 1073741824) : Ret T F.value_allFormed [.val (.lst 5 (l.map V.row))] (one (.bool (l.all formed))) := by
  have hl := V.len_bks l
  have rc : ∀ x ∈ l, Ret T F.value_allFormed_S1 [.val x.av] (one (.bool (!formed x))) := fun x hx => by
    have r := valueFormed_ret f hv x (by have := V.bk_mem hx; omega)
    refine Ret.mk f.a3 rfl ?_
    rw [V.av_eq] at *
    repeat' (first | refine WO.cons ?_ | refine WB.cons ?_ | refine WP.one ?_ | (first | (apply WQ.call (hm := f.a1.modes); (iterate 4 exact rfl)) | (apply W1.callV (hm := f.a1.modes); (iterate 5 exact rfl); exact (r); exact rfl)) | ((first | apply W1.add64 | apply W1.sub64); (iterate 3 exact rfl); omega; omega) | (apply W1.iadr; (iterate 3 exact rfl); omega; first | assumption | ((first | apply V.get_row | apply get_srow | apply get_ty | apply get_ar | apply get_ob | apply get_sprow | apply get_brow); assumption)) | (apply W1.idxS; (iterate 3 exact rfl); omega; omega) | (apply W1.slcS; (iterate 4 exact rfl); omega) | (apply W1.pickT; exact rfl; exact rfl; (first | with_reducible rfl | assumption | (simp only [bn]; first | omega | assumption | decide)); exact rfl) | (apply W1.pickF; exact rfl; exact rfl; (first | with_reducible rfl | assumption | (simp only [bn]; first | omega | assumption | decide)); exact rfl) | (apply W1.op; (iterate 3 exact rfl)) | (apply W1.no; exact rfl) | ((first | apply W1.knowT | apply W1.knowFn | apply WQ.knowT | apply WQ.knowFn | apply W.condT); exact rfl; (first | with_reducible rfl | assumption | (simp only [bn]; first | omega | assumption | decide))) | ((first | apply W1.knowTn | apply W1.knowF | apply WQ.knowTn | apply WQ.knowF | apply W.condF); exact rfl; (first | with_reducible rfl | assumption | (simp only [bn]; first | omega | assumption | decide))) | (apply WQ.go; exact rfl; exact rfl) | (apply WQ.no; exact rfl) | ((first | apply W1.bothT | apply W1.bothF | apply WQ.bothT | apply WQ.bothF | apply W.cond); exact rfl; all_goals intro hc; all_goals first | (cases hc; done) | ((try simp only [hc]); (try simp only [bm] at hc))) | refine WO.nil ?_ | refine WB.nil ?_ | refine WP.bag rfl ?_ | refine WP.nil ?_ | refine W.seq ?_ | refine W.reg ?_ | refine W.dreg ?_ | refine W.block ?_ | refine W.ret ?_ | refine W.skip ?_ | refine W.exit ?_ | (simp only [srow_len, List.length_map, Qit, Int.toNat_natCast, entry, Opd.eat, cellsOf, TV.ofCells, allAv, Qseq, Qblk, List.map_cons, List.map_nil, putD, kp, Nat.reduceEqDiff, ↓reduceIte, beq_self_eq_true, Nat.reduceBEq]))
    exact Qend.boo rfl rfl rfl
  have r5 := containsFuncV_ret f.a8 f.a9 (p := fun x => !formed x) f.a3.modes l (by omega) rc
  refine Ret.mk f.a2 rfl ?_
  repeat' (first | refine WO.cons ?_ | refine WB.cons ?_ | refine WP.one ?_ | (first | (apply WQ.call (hm := f.a8.modes); (iterate 4 exact rfl)) | (apply W1.callV (hm := f.a8.modes); (iterate 5 exact rfl); exact (r5); exact rfl)) | ((first | apply W1.add64 | apply W1.sub64); (iterate 3 exact rfl); omega; omega) | (apply W1.iadr; (iterate 3 exact rfl); omega; first | assumption | ((first | apply V.get_row | apply get_srow | apply get_ty | apply get_ar | apply get_ob | apply get_sprow | apply get_brow); assumption)) | (apply W1.idxS; (iterate 3 exact rfl); omega; omega) | (apply W1.slcS; (iterate 4 exact rfl); omega) | (apply W1.pickT; exact rfl; exact rfl; (first | with_reducible rfl | assumption | (simp only [bn]; first | omega | assumption | decide)); exact rfl) | (apply W1.pickF; exact rfl; exact rfl; (first | with_reducible rfl | assumption | (simp only [bn]; first | omega | assumption | decide)); exact rfl) | (apply W1.op; (iterate 3 exact rfl)) | (apply W1.no; exact rfl) | ((first | apply W1.knowT | apply W1.knowFn | apply WQ.knowT | apply WQ.knowFn | apply W.condT); exact rfl; (first | with_reducible rfl | assumption | (simp only [bn]; first | omega | assumption | decide))) | ((first | apply W1.knowTn | apply W1.knowF | apply WQ.knowTn | apply WQ.knowF | apply W.condF); exact rfl; (first | with_reducible rfl | assumption | (simp only [bn]; first | omega | assumption | decide))) | (apply WQ.go; exact rfl; exact rfl) | (apply WQ.no; exact rfl) | ((first | apply W1.bothT | apply W1.bothF | apply WQ.bothT | apply WQ.bothF | apply W.cond); exact rfl; all_goals intro hc; all_goals first | (cases hc; done) | ((try simp only [hc]); (try simp only [bm] at hc))) | refine WO.nil ?_ | refine WB.nil ?_ | refine WP.bag rfl ?_ | refine WP.nil ?_ | refine W.seq ?_ | refine W.reg ?_ | refine W.dreg ?_ | refine W.block ?_ | refine W.ret ?_ | refine W.skip ?_ | refine W.exit ?_ | (simp only [srow_len, List.length_map, Qit, Int.toNat_natCast, entry, Opd.eat, cellsOf, TV.ofCells, allAv, Qseq, Qblk, List.map_cons, List.map_nil, putD, kp, Nat.reduceEqDiff, ↓reduceIte, beq_self_eq_true, Nat.reduceBEq]))
  refine Qend.boo rfl rfl ?_
  rw [List.all_eq_not_any_not]
theorem anyBad_ret (g : MkFns T) (hu : Fn T F.utf_Valid utf_Valid.fn) (hv : ValidOk T) (l : List Str) (hb : sbk l ≤ 1073741824) : Ret T F.slices_ContainsFunc_Lstring_string [.val (.lst 1 (srow l)), .val (.clo F.value_Make_S1 [] [])] (one (.bool (l.any fun s => !utf s))) := by
  have hl := len_sbk l
  refine containsFuncS_ret g.a3 g.a4 g.a2.modes l (by omega) fun x hx => ?_
  have r := hv x (by have := sbk_mem hx; omega)
  refine Ret.mk g.a2 rfl ?_
  repeat' (first | refine WO.cons ?_ | refine WB.cons ?_ | refine WP.one ?_ | (first | (apply WQ.call (hm := hu.modes); (iterate 4 exact rfl)) | (apply W1.callV (hm := hu.modes); (iterate 5 exact rfl); exact (r); exact rfl)) | ((first | apply W1.add64 | apply W1.sub64); (iterate 3 exact rfl); omega; omega) | (apply W1.iadr; (iterate 3 exact rfl); omega; first | assumption | ((first | apply V.get_row | apply get_srow | apply get_ty | apply get_ar | apply get_ob | apply get_sprow | apply get_brow); assumption)) | (apply W1.idxS; (iterate 3 exact rfl); omega; omega) | (apply W1.slcS; (iterate 4 exact rfl); omega) | (apply W1.pickT; exact rfl; exact rfl; (first | with_reducible rfl | assumption | (simp only [bn]; first | omega | assumption | decide)); exact rfl) | (apply W1.pickF; exact rfl; exact rfl; (first | with_reducible rfl | assumption | (simp only [bn]; first | omega | assumption | decide)); exact rfl) | (apply W1.op; (iterate 3 exact rfl)) | (apply W1.no; exact rfl) | ((first | apply W1.knowT | apply W1.knowFn | apply WQ.knowT | apply WQ.knowFn | apply W.condT); exact rfl; (first | with_reducible rfl | assumption | (simp only [bn]; first | omega | assumption | decide))) | ((first | apply W1.knowTn | apply W1.knowF | apply WQ.knowTn | apply WQ.knowF | apply W.condF); exact rfl; (first | with_reducible rfl | assumption | (simp only [bn]; first | omega | assumption | decide))) | (apply WQ.go; exact rfl; exact rfl) | (apply WQ.no; exact rfl) | ((first | apply W1.bothT | apply W1.bothF | apply WQ.bothT | apply WQ.bothF | apply W.cond); exact rfl; all_goals intro hc; all_goals first | (cases hc; done) | ((try simp only [hc]); (try simp only [bm] at hc))) | refine WO.nil ?_ | refine WB.nil ?_ | refine WP.bag rfl ?_ | refine WP.nil ?_ | refine W.seq ?_ | refine W.reg ?_ | refine W.dreg ?_ | refine W.block ?_ | refine W.ret ?_ | refine W.skip ?_ | refine W.exit ?_ | (simp only [srow_len, List.length_map, Qit, Int.toNat_natCast, entry, Opd.eat, cellsOf, TV.ofCells, allAv, Qseq, Qblk, List.map_cons, List.map_nil, putD, kp, Nat.reduceEqDiff, ↓reduceIte, beq_self_eq_true, Nat.reduceBEq]))
  exact Qend.boo rfl rfl rfl
theorem valueMake_ret (f : ObFns T) (g : MkFns T) (hv : ValidOk T) (b : List Fld) (hk : ∀ x ∈ b, utf x.1 = true) (hi : ∀ x ∈ b, formed x.2 = true) (lb : szF b ≤ 1000000000) :
    ∃ C, sealRow C = (objF (mergeF [] b)).row ∧ Ret T F.value_Make [.val (.lst 1 (srow (b.map (·.1)))), .val (.lst 5 ((b.map (·.2)).map V.row))] ⟨[(C, true), ([.av (.int .i64 0)], false)], []⟩ := by
  have sz := sz_eq b
  have r1 := valueAll_ret f.fm hv (b.map (·.2)) (by omega)
  have r2 := anyBad_ret g f.fm.a6 hv (b.map (·.1)) (by omega)
  rw [show (b.map (·.2)).all formed = true by rw [List.all_map, List.all_eq_true]; exact hi] at r1
  rw [show (b.map (·.1)).any (fun s => !utf s) = false by
    rw [List.any_map, List.any_eq_false]; intro x hx; simp [hk x hx]] at r2
  have main : ∃ r : CR, (∃ C, sealRow C = (objF (mergeF [] b)).row ∧ r = ⟨[(C, true), ([.av (.int .i64 0)], false)], []⟩) ∧ Ret T F.value_Make [.val (.lst 1 (srow (b.map (·.1)))), .val (.lst 5 ((b.map (·.2)).map V.row))] r := by
    refine Ret.ex g.a1 rfl ?_
    have l1 := len_sz b
    have el : (srow (b.map (·.1))).length = b.length := by rw [srow_len, List.length_map]
    have el2 : ((b.map (·.2)).map V.row).length = b.length := by rw [List.length_map, List.length_map]
    repeat' (first | refine WO.cons ?_ | refine WB.cons ?_ | refine WP.one ?_ | (first | (apply WQ.call (hm := f.fm.a2.modes); (iterate 4 exact rfl)) | (apply W1.callV (hm := f.fm.a2.modes); (iterate 5 exact rfl); exact (r1); exact rfl)) | (first | (apply WQ.call (hm := g.a3.modes); (iterate 4 exact rfl)) | (apply W1.callV (hm := g.a3.modes); (iterate 5 exact rfl); exact (r2); exact rfl)) | ((first | apply W1.add64 | apply W1.sub64); (iterate 3 exact rfl); omega; omega) | (apply W1.iadr; (iterate 3 exact rfl); omega; first | assumption | ((first | apply V.get_row | apply get_srow | apply get_ty | apply get_ar | apply get_ob | apply get_sprow | apply get_brow); assumption)) | (apply W1.idxS; (iterate 3 exact rfl); omega; omega) | (apply W1.slcS; (iterate 4 exact rfl); omega) | (apply W1.pickT; exact rfl; exact rfl; (first | with_reducible rfl | assumption | (simp only [bn]; first | omega | assumption | decide)); exact rfl) | (apply W1.pickF; exact rfl; exact rfl; (first | with_reducible rfl | assumption | (simp only [bn]; first | omega | assumption | decide)); exact rfl) | (apply W1.op; (iterate 3 exact rfl)) | (apply W1.no; exact rfl) | ((first | apply W1.knowT | apply W1.knowFn | apply WQ.knowT | apply WQ.knowFn | apply W.condT); exact rfl; (first | with_reducible rfl | assumption | (simp only [bn]; first | omega | assumption | decide))) | ((first | apply W1.knowTn | apply W1.knowF | apply WQ.knowTn | apply WQ.knowF | apply W.condF); exact rfl; (first | with_reducible rfl | assumption | (simp only [bn]; first | omega | assumption | decide))) | (apply WQ.go; exact rfl; exact rfl) | (apply WQ.no; exact rfl) | ((first | apply W1.bothT | apply W1.bothF | apply WQ.bothT | apply WQ.bothF | apply W.cond); exact rfl; all_goals intro hc; all_goals first | (cases hc; done) | ((try simp only [hc]); (try simp only [bm] at hc))) | refine WO.nil ?_ | refine WB.nil ?_ | refine WP.bag rfl ?_ | refine WP.nil ?_ | refine W.seq ?_ | refine W.reg ?_ | refine W.dreg ?_ | refine W.block ?_ | refine W.ret ?_ | refine W.skip ?_ | refine W.exit ?_ | (simp only [srow_len, List.length_map, Qit, Int.toNat_natCast, entry, Opd.eat, cellsOf, TV.ofCells, allAv, Qseq, Qblk, List.map_cons, List.map_nil, putD, kp, Nat.reduceEqDiff, ↓reduceIte, beq_self_eq_true, Nat.reduceBEq]))
    all_goals first | (exfalso; simp_all; done) | skip
    refine W.list b (fun i (R : List (List Cell)) => ⟨lstE [(1, .av (.lst 5 ((b.map fun x : Fld => x.2).map V.row))), (4, .plc ⟨.box 4, [], 0⟩), (6, .plc ⟨.box 6, [], 0⟩), (25, .av (.lst 1 (srow (b.map fun x : Fld => x.1)))), (26, .av (.int .i64 (b.length : Nat))), (27, .av (.int .i64 (i : Int)))],
      lstB [(1, none), (4, some [.av (.int .i64 0), .av (.str []), .av (.str []), .own 5 [], .own 1 []]), (6, some (obC (mergeF [] (b.take i)) R)), (25, none), (26, none), (27, none)]⟩)
      (fun i R => ItC (mergeF [] (b.take i)) R) [] rfl ⟨rfl, by simp⟩ ?_ ?_
    · intro i x R hx hi hR
      have g1 := get_fst hx
      have g2 := get_snd hx
      have sm := sz_merge (b.take i) []
      have lm := len_sz (mergeF [] (b.take i))
      have st := szF_take b i
      have sx := szF_mem (List.mem_of_getElem? hx)
      have s0 : szF [] = 0 := rfl
      have rt := valueTwin_ret f.tw x.2 (by omega)
      obtain ⟨R', hR', rp⟩ := putF_ret f.pt hR (asc_merge List.Pairwise.nil) (by omega) x.1 x.2
      rw [← mergeF_take_succ hx] at hR' rp
      have hC := seal_twC x.2
      rw [V.av, V.row_eq] at rp rt
      rw [V.row_eq] at g2 hC
      repeat' (first | refine WO.cons ?_ | refine WB.cons ?_ | refine WP.one ?_ | ((apply W1.callD1 (hm := f.tw.a1.modes) hC; (iterate 5 exact rfl); exact rt; exact rfl)) | ((apply W1.callM1 (hm := f.pt.a1.modes); exact rfl; exact rfl; exact rfl; exact rp; exact rfl)) | ((first | apply W1.add64 | apply W1.sub64); (iterate 3 exact rfl); omega; omega) | (apply W1.iadr; (iterate 3 exact rfl); omega; first | assumption | ((first | apply V.get_row | apply get_srow | apply get_ty | apply get_ar | apply get_ob | apply get_sprow | apply get_brow); assumption)) | (apply W1.idxS; (iterate 3 exact rfl); omega; omega) | (apply W1.slcS; (iterate 4 exact rfl); omega) | (apply W1.pickT; exact rfl; exact rfl; (first | with_reducible rfl | assumption | (simp only [bn]; first | omega | assumption | decide)); exact rfl) | (apply W1.pickF; exact rfl; exact rfl; (first | with_reducible rfl | assumption | (simp only [bn]; first | omega | assumption | decide)); exact rfl) | (apply W1.op; (iterate 3 exact rfl)) | (apply W1.no; exact rfl) | ((first | apply W1.knowT | apply W1.knowFn | apply WQ.knowT | apply WQ.knowFn | apply W.condT); exact rfl; (first | with_reducible rfl | assumption | (simp only [bn]; first | omega | assumption | decide))) | ((first | apply W1.knowTn | apply W1.knowF | apply WQ.knowTn | apply WQ.knowF | apply W.condF); exact rfl; (first | with_reducible rfl | assumption | (simp only [bn]; first | omega | assumption | decide))) | (apply WQ.go; exact rfl; exact rfl) | (apply WQ.no; exact rfl) | ((first | apply W1.bothT | apply W1.bothF | apply WQ.bothT | apply WQ.bothF | apply W.cond); exact rfl; all_goals intro hc; all_goals first | (cases hc; done) | ((try simp only [hc]); (try simp only [bm] at hc))) | refine WO.nil ?_ | refine WB.nil ?_ | refine WP.bag rfl ?_ | refine WP.nil ?_ | refine W.seq ?_ | refine W.reg ?_ | refine W.dreg ?_ | refine W.block ?_ | refine W.ret ?_ | refine W.skip ?_ | refine W.exit ?_ | (simp only [srow_len, List.length_map, Qit, Int.toNat_natCast, entry, Opd.eat, cellsOf, TV.ofCells, allAv, Qseq, Qblk, List.map_cons, List.map_nil, putD, kp, Nat.reduceEqDiff, ↓reduceIte, beq_self_eq_true, Nat.reduceBEq]))
      all_goals exact ⟨R', hR', rfl⟩
    · intro R hR
      rw [List.take_length] at hR
      repeat' (first | refine WO.cons ?_ | refine WB.cons ?_ | refine WP.one ?_ | ((first | apply W1.add64 | apply W1.sub64); (iterate 3 exact rfl); omega; omega) | (apply W1.iadr; (iterate 3 exact rfl); omega; first | assumption | ((first | apply V.get_row | apply get_srow | apply get_ty | apply get_ar | apply get_ob | apply get_sprow | apply get_brow); assumption)) | (apply W1.idxS; (iterate 3 exact rfl); omega; omega) | (apply W1.slcS; (iterate 4 exact rfl); omega) | (apply W1.pickT; exact rfl; exact rfl; (first | with_reducible rfl | assumption | (simp only [bn]; first | omega | assumption | decide)); exact rfl) | (apply W1.pickF; exact rfl; exact rfl; (first | with_reducible rfl | assumption | (simp only [bn]; first | omega | assumption | decide)); exact rfl) | (apply W1.op; (iterate 3 exact rfl)) | (apply W1.no; exact rfl) | ((first | apply W1.knowT | apply W1.knowFn | apply WQ.knowT | apply WQ.knowFn | apply W.condT); exact rfl; (first | with_reducible rfl | assumption | (simp only [bn]; first | omega | assumption | decide))) | ((first | apply W1.knowTn | apply W1.knowF | apply WQ.knowTn | apply WQ.knowF | apply W.condF); exact rfl; (first | with_reducible rfl | assumption | (simp only [bn]; first | omega | assumption | decide))) | (apply WQ.go; exact rfl; exact rfl) | (apply WQ.no; exact rfl) | ((first | apply W1.bothT | apply W1.bothF | apply WQ.bothT | apply WQ.bothF | apply W.cond); exact rfl; all_goals intro hc; all_goals first | (cases hc; done) | ((try simp only [hc]); (try simp only [bm] at hc))) | refine WO.nil ?_ | refine WB.nil ?_ | refine WP.bag rfl ?_ | refine WP.nil ?_ | refine W.seq ?_ | refine W.reg ?_ | refine W.dreg ?_ | refine W.block ?_ | refine W.ret ?_ | refine W.skip ?_ | refine W.exit ?_ | (simp only [srow_len, List.length_map, Qit, Int.toNat_natCast, entry, Opd.eat, cellsOf, TV.ofCells, allAv, Qseq, Qblk, List.map_cons, List.map_nil, putD, kp, Nat.reduceEqDiff, ↓reduceIte, beq_self_eq_true, Nat.reduceBEq]))
      refine ⟨_, ⟨_, ?_, rfl⟩, .inr rfl, rfl, rfl⟩
      rw [List.take_length]
      exact seal_obC hR
  obtain ⟨r, ⟨C, hC, rfl⟩, hr⟩ := main
  exact ⟨C, hC, hr⟩
end
end Hm

/- The law of merging by threes. Conditions: see each theorem. -/
namespace Hm
open Go (IntKind)
set_option maxHeartbeats 4000000
set_option maxRecDepth 4000
theorem bLess_of_rise {l : List Str} (h : rise l = true) : l.Pairwise fun a b => binA.bLess a b = true := by
  rw [rise] at h
  have hs : ∀ i a b, l[i]? = some a → l[i + 1]? = some b → binA.bLess a b = true := by
    intro i a b ha hb
    have hl : i + 1 < l.length := (List.getElem?_eq_some_iff.1 hb).1
    have := List.all_eq_true.1 h (i + 1) (List.mem_range.2 hl)
    simp only [riseAt, List.getD, hb, Nat.add_sub_cancel, ha, Option.getD_some] at this
    simp_all
  clear h
  induction l with
  | nil => exact List.Pairwise.nil
  | cons a r ih =>
    have ih' := ih fun i x y hx hy => hs (i + 1) x y (by simpa using hx) (by simpa using hy)
    refine List.pairwise_cons.2 ⟨fun y hy => ?_, ih'⟩
    cases r with
    | nil => cases hy
    | cons b s =>
      have hab := hs 0 a b rfl rfl
      rcases List.mem_cons.1 hy with rfl | hy
      · exact hab
      · exact bLess_trans _ _ _ hab ((List.pairwise_cons.1 ih').1 y hy)
theorem rise_of {l : List Str} (h : l.Pairwise fun a b => binA.bLess a b = true) (hu : ∀ s ∈ l, utf s = true) : rise l = true := by
  refine rise_true fun j hj => ?_
  have h1 : utf (l.getD j []) = true := by
    rw [List.getD, List.getElem?_eq_getElem hj]
    exact hu _ (List.getElem_mem hj)
  have h2 : 0 < j → binA.bLess (l.getD (j - 1) []) (l.getD j []) = true := fun h0 => by
    rw [List.getD, List.getD, List.getElem?_eq_getElem hj, List.getElem?_eq_getElem (show j - 1 < l.length by omega)]
    exact List.pairwise_iff_getElem.1 h (j - 1) j (by omega) hj (by omega)
  simp only [riseAt, h1]
  cases j with
  | zero => simp
  | succ j =>
    have h3 := h2 (by omega)
    rw [h3]; simp
theorem utf_of_rise {l : List Str} (h : rise l = true) : ∀ s ∈ l, utf s = true := by
  intro s hs
  rw [rise] at h
  obtain ⟨i, hi⟩ := List.mem_iff_getElem?.1 hs
  have hl : i < l.length := (List.getElem?_eq_some_iff.1 hi).1
  have := List.all_eq_true.1 h i (List.mem_range.2 hl)
  simp only [riseAt, List.getD, hi, Option.getD_some] at this
  simp_all
/-- A well shaped object is a list of fields in order. -/
theorem obj_of {v : V} (h : formed v = true) (hk : v.kind = 6) : ∃ m, v = objF m ∧ AscF m ∧ (∀ x ∈ m, utf x.1 = true) ∧ ∀ x ∈ m, formed x.2 = true := by
  obtain ⟨_, f2, f3, f4, f5, f6, f7, f8, f9⟩ := formed_inv h
  obtain ⟨k, n, t, is, ks⟩ := v
  simp only [V.kind, V.num, V.text, V.items, V.keys] at *
  subst hk
  obtain rfl := f3 (by decide)
  obtain rfl := f5 (by decide)
  obtain ⟨hl, hr⟩ := f8 rfl
  have e1 : (ks.zip is).map (·.1) = ks := List.map_fst_zip (by omega)
  have e2 : (ks.zip is).map (·.2) = is := List.map_snd_zip (by omega)
  refine ⟨ks.zip is, by rw [objF, e1, e2], ?_, ?_, ?_⟩
  · have := bLess_of_rise hr
    rw [← e1] at this
    exact List.pairwise_map.1 this
  · intro x hx
    exact utf_of_rise hr x.1 (by rw [← e1]; exact List.mem_map.2 ⟨x, hx, rfl⟩)
  · intro x hx
    exact f9 x.2 (by rw [← e2]; exact List.mem_map.2 ⟨x, hx, rfl⟩)
theorem formed_obj {m : List Fld} (h1 : AscF m) (h2 : ∀ x ∈ m, utf x.1 = true) (h3 : ∀ x ∈ m, formed x.2 = true) : formed (objF m) = true := by
  rw [objF, vformed_eq]
  have hr : rise (m.map (·.1)) = true := rise_of (List.pairwise_map.2 h1) fun s hs => by
    obtain ⟨x, hx, rfl⟩ := List.mem_map.1 hs
    exact h2 x hx
  have ha : (m.map (·.2)).all formed = true := by rw [List.all_map, List.all_eq_true]; exact h3
  rw [hr, ha]
  simp
theorem merge_all {p : Fld → Prop} {b : List Fld} : ∀ {a : List Fld}, (∀ x ∈ a, p x) → (∀ x ∈ b, p x) → ∀ x ∈ mergeF a b, p x := by
  induction b with
  | nil => intro a ha _; exact ha
  | cons f r ih =>
    intro a ha hb
    refine ih (a := insA a f.1 f.2) (fun x hx => ?_) (fun x hx => hb x (by simp [hx]))
    rcases mem_ins hx with rfl | hx
    · exact hb f (by simp)
    · exact ha x hx
/-- A list of fields that is a well shaped object. -/
structure Obj (m : List Fld) : Prop where
  asc : AscF m
  key : ∀ x ∈ m, utf x.1 = true
  val : ∀ x ∈ m, formed x.2 = true
theorem Obj.formed {m : List Fld} (h : Obj m) : formed (objF m) = true := formed_obj h.asc h.key h.val
theorem Obj.merge {a b : List Fld} (ha : Obj a) (hb : Obj b) : Obj (mergeF a b) := ⟨asc_merge ha.asc, merge_all ha.key hb.key, merge_all ha.val hb.val⟩
theorem Obj.nil : Obj [] := ⟨List.Pairwise.nil, by simp, by simp⟩
end Hm

/- The law of merging by threes. Conditions: see each theorem. -/
namespace Hm
open Go (IntKind)
set_option maxHeartbeats 4000000
set_option maxRecDepth 4000
theorem like_same {T : Tab} (h : Fn T F.hallmarkref03_Like hallmarkref03_Like.fn) (a : V) (hb : a.bk ≤ 1073741824) : Ret T F.hallmarkref03_Like [.val a.av, .val a.av] (one (.bool true)) := by
  have r := likeE_ret h a hb a hb
  rw [sameV_self] at r
  exact r
theorem ValueMerges_ret {T : Tab} (h : Fn T F.hallmarklaw03_ValueMerges hallmarklaw03_ValueMerges.fn) (hl : Fn T F.hallmarklaw03_lives hallmarklaw03_lives.fn) (rl : Ret T F.hallmarklaw03_lives [] (one (.bool true))) (f : ObFns T) (g : MkFns T) (ro : RoFns T) (hv : ValidOk T)
    (h1 : Fn T F.hallmarkref03_Like hallmarkref03_Like.fn)
    (a8 : Fn T F.hallmarkref03_Formed hallmarkref03_Formed.fn) (a9 : Fn T F.hallmarkref03_All hallmarkref03_All.fn) (b1 : Fn T F.hallmarkref03_Rise hallmarkref03_Rise.fn) (b2 : Fn T F.hallmarkref03_UTF hallmarkref03_UTF.fn) (b3 : Fn T F.hallmarkref03_width hallmarkref03_width.fn)
    (b4 : Fn T F.hallmarkref03_trail hallmarkref03_trail.fn) (b5 : Fn T F.hallmarkref03_Number hallmarkref03_Number.fn) (b6 : Fn T F.hallmarklaw03_small hallmarklaw03_small.fn) (b7 : Fn T F.hallmarkref03_Parts hallmarkref03_Parts.fn)
    (a b c : V) (hs : a.bk + b.bk + c.bk ≤ 1048576) : Ret T F.hallmarklaw03_ValueMerges [.val a.av, .val b.av, .val c.av] (one (.bool true)) := by
  obtain ⟨sa, -, r1⟩ := small03_ret b6 b7 a (by omega)
  obtain ⟨sb, -, r2⟩ := small03_ret b6 b7 b (by omega)
  obtain ⟨sc, -, r3⟩ := small03_ret b6 b7 c (by omega)
  have r4 := refFormed_ret a8 a9 b5 b1 b2 b3 b4 a (by omega)
  have r5 := refFormed_ret a8 a9 b5 b1 b2 b3 b4 b (by omega)
  have r6 := refFormed_ret a8 a9 b5 b1 b2 b3 b4 c (by omega)
  refine Ret.mk h rfl ?_
  by_cases hf : (formed a = true ∧ a.kind = 6) ∧ (formed b = true ∧ b.kind = 6) ∧ (formed c = true ∧ c.kind = 6)
  · obtain ⟨⟨fa, ka⟩, ⟨fb, kb⟩, ⟨fc, kc⟩⟩ := hf
    rw [fa] at r4
    rw [fb] at r5
    rw [fc] at r6
    obtain ⟨ma, rfl, u1, u2, u3⟩ := obj_of fa ka
    obtain ⟨mb, rfl, u4, u5, u6⟩ := obj_of fb kb
    obtain ⟨mc, rfl, u7, u8, u9⟩ := obj_of fc kc
    have oa : Obj ma := ⟨u1, u2, u3⟩
    have ob : Obj mb := ⟨u4, u5, u6⟩
    have oc : Obj mc := ⟨u7, u8, u9⟩
    rw [objF_bk, objF_bk, objF_bk] at hs
    have z1 := sz_merge mc mb
    have z2 := sz_merge mb ma
    have z3 := sz_merge (mergeF mb mc) ma
    have z4 := sz_merge mc (mergeF ma mb)
    have z5 : szF [] = 0 := rfl
    obtain ⟨C1, c1, q1⟩ := valueMerge_ret f hv mb mc ob.formed oc.formed ob.asc (by omega)
    obtain ⟨C2, c2, q2⟩ := valueMerge_ret f hv ma mb oa.formed ob.formed oa.asc (by omega)
    obtain ⟨C3, c3, q3⟩ := valueMerge_ret f hv ma (mergeF mb mc) oa.formed (ob.merge oc).formed oa.asc (by omega)
    obtain ⟨C4, c4, q4⟩ := valueMerge_ret f hv (mergeF ma mb) mc (oa.merge ob).formed oc.formed (oa.merge ob).asc (by omega)
    obtain ⟨C5, c5, q5⟩ := valueMerge_ret f hv ma [] oa.formed Obj.nil.formed oa.asc (by omega)
    obtain ⟨C6, c6, q6⟩ := valueMerge_ret f hv [] ma Obj.nil.formed oa.formed List.Pairwise.nil (by omega)
    rw [merge_assoc oa.asc ob.asc oc.asc] at c3
    rw [merge_nil] at c5
    rw [nil_merge oa.asc] at c6
    have p1 := like_same h1 (objF (mergeF (mergeF ma mb) mc)) (by rw [objF_bk]; omega)
    have p2 := like_same h1 (objF ma) (by rw [objF_bk]; omega)
    have p3 := like_same h1 (objF (mergeF ma mb)) (by rw [objF_bk]; omega)
    have sz := sz_eq ma
    have l1 := len_sz ma
    have l2 := len_sz mb
    have t1 := roomyKeys_ret ro (ma.map (·.1)) (by rw [List.length_map]; omega)
    obtain ⟨R, hR, t2⟩ := roomyItems_ret ro (ma.map (·.2)) (by omega)
    have lR := hR.len
    rw [List.length_map] at lR
    have lK : (crow (srow (ma.map (·.1)))).length = ma.length := by rw [crow_len, srow_len, List.length_map]
    have lB : (List.map (fun r : List AV => r.map Cell.av) (srow (mb.map (·.1)))).length = mb.length := by rw [List.length_map, srow_len, List.length_map]
    have lI : (List.map (fun r : List AV => r.map Cell.av) ((mb.map (·.2)).map V.row)).length = mb.length := by rw [List.length_map, List.length_map, List.length_map]
    obtain ⟨C7, c7, q7⟩ := valueMake_ret f g hv (ma ++ mb) (fun x hx => (List.mem_append.1 hx).elim (u2 x) (u5 x)) (fun x hx => (List.mem_append.1 hx).elim (u3 x) (u6 x)) (by rw [szF_append]; omega)
    rw [merge_append, nil_merge oa.asc] at c7
    have k1 : srow ((ma ++ mb).map (·.1)) = sealRows (crow (srow (ma.map (·.1))) ++ (srow (mb.map (·.1))).map (fun r => r.map .av)) := by
      rw [sealRows_append, seal_crow, show List.map (fun r : List AV => r.map Cell.av) (srow (mb.map (·.1))) = crow (srow (mb.map (·.1))) from rfl, seal_crow, List.map_append]
      simp [srow]
    have k2 : ((ma ++ mb).map (·.2)).map V.row = sealRows (R ++ ((mb.map (·.2)).map V.row).map (fun r => r.map .av)) := by
      rw [sealRows_append, hR.1, show List.map (fun r : List AV => r.map Cell.av) ((mb.map (·.2)).map V.row) = crow ((mb.map (·.2)).map V.row) from rfl, seal_crow, List.map_append, List.map_append]
    rw [k1, k2] at q7
    rw [objF_row] at c1 c2 c3 c4 c5 c6 c7
    simp only [objF_av] at *
    clear fa fb fc ka kb kc u1 u2 u3 u4 u5 u6 u7 u8 u9 oa ob oc z1 z2 z3 z4 z5 k1 k2
    repeat' (first | refine WO.cons ?_ | refine WB.cons ?_ | refine WP.one ?_ | (refine WP.bagH rfl ?_) | (refine WB.consH ?_) | (refine ⟨rfl, ?_⟩) | (first | (apply WQ.call (hm := hl.modes); (iterate 4 exact rfl)) | (apply W1.callV (hm := hl.modes); (iterate 5 exact rfl); exact (rl); exact rfl)) | (first | (apply WQ.call (hm := b6.modes); (iterate 4 exact rfl)) | (apply W1.callV (hm := b6.modes); (iterate 5 exact rfl); exact (r1); exact rfl)) | (first | (apply WQ.call (hm := b6.modes); (iterate 4 exact rfl)) | (apply W1.callV (hm := b6.modes); (iterate 5 exact rfl); exact (r2); exact rfl)) | (first | (apply WQ.call (hm := b6.modes); (iterate 4 exact rfl)) | (apply W1.callV (hm := b6.modes); (iterate 5 exact rfl); exact (r3); exact rfl)) | (first | (apply WQ.call (hm := a8.modes); (iterate 4 exact rfl)) | (apply W1.callV (hm := a8.modes); (iterate 5 exact rfl); exact (r4); exact rfl)) | (first | (apply WQ.call (hm := a8.modes); (iterate 4 exact rfl)) | (apply W1.callV (hm := a8.modes); (iterate 5 exact rfl); exact (r5); exact rfl)) | (first | (apply WQ.call (hm := a8.modes); (iterate 4 exact rfl)) | (apply W1.callV (hm := a8.modes); (iterate 5 exact rfl); exact (r6); exact rfl)) | ((apply W1.callD2 (hm := f.a1.modes) c1; (iterate 5 exact rfl); exact q1; exact rfl)) | ((apply W1.callD2 (hm := f.a1.modes) c2; (iterate 5 exact rfl); exact q2; exact rfl)) | ((apply W1.callD2 (hm := f.a1.modes) c3; (iterate 5 exact rfl); exact q3; exact rfl)) | ((apply W1.callD2 (hm := f.a1.modes) c4; (iterate 5 exact rfl); exact q4; exact rfl)) | ((apply W1.callD2 (hm := f.a1.modes) c5; (iterate 5 exact rfl); exact q5; exact rfl)) | ((apply W1.callD2 (hm := f.a1.modes) c6; (iterate 5 exact rfl); exact q6; exact rfl)) | ((apply W1.callD2 (hm := g.a1.modes) c7; (iterate 5 exact rfl); exact q7; exact rfl)) | (first | (apply WQ.call (hm := h1.modes); (iterate 4 exact rfl)) | (apply W1.callV (hm := h1.modes); (iterate 5 exact rfl); exact (p1); exact rfl)) | (first | (apply WQ.call (hm := h1.modes); (iterate 4 exact rfl)) | (apply W1.callV (hm := h1.modes); (iterate 5 exact rfl); exact (p2); exact rfl)) | (first | (apply WQ.call (hm := h1.modes); (iterate 4 exact rfl)) | (apply W1.callV (hm := h1.modes); (iterate 5 exact rfl); exact (p3); exact rfl)) | (first | (apply WQ.call (hm := ro.a2.modes); (iterate 4 exact rfl)) | (apply W1.callV (hm := ro.a2.modes); (iterate 5 exact rfl); exact (t1); exact rfl)) | (first | (apply WQ.call (hm := ro.a3.modes); (iterate 4 exact rfl)) | (apply W1.callV (hm := ro.a3.modes); (iterate 5 exact rfl); exact (t2); exact rfl)) | ((apply W1.appendO; exact rfl; exact rfl; exact rfl; (show _ ≤ 4294967296; omega))) | ((first | apply W1.add64 | apply W1.sub64); (iterate 3 exact rfl); omega; omega) | (apply W1.iadr; (iterate 3 exact rfl); omega; first | assumption | ((first | apply V.get_row | apply get_srow | apply get_ty | apply get_ar | apply get_ob | apply get_sprow | apply get_brow); assumption)) | (apply W1.idxS; (iterate 3 exact rfl); omega; omega) | (apply W1.slcS; (iterate 4 exact rfl); omega) | (apply W1.pickT; exact rfl; exact rfl; (first | with_reducible rfl | assumption | (simp only [bn]; first | omega | assumption | decide)); exact rfl) | (apply W1.pickF; exact rfl; exact rfl; (first | with_reducible rfl | assumption | (simp only [bn]; first | omega | assumption | decide)); exact rfl) | (apply W1.op; (iterate 3 exact rfl)) | (apply W1.no; exact rfl) | ((first | apply W1.knowT | apply W1.knowFn | apply WQ.knowT | apply WQ.knowFn | apply W.condT); exact rfl; (first | with_reducible rfl | assumption | (simp only [bn]; first | omega | assumption | decide))) | ((first | apply W1.knowTn | apply W1.knowF | apply WQ.knowTn | apply WQ.knowF | apply W.condF); exact rfl; (first | with_reducible rfl | assumption | (simp only [bn]; first | omega | assumption | decide))) | (apply WQ.go; exact rfl; exact rfl) | (apply WQ.no; exact rfl) | ((first | apply W1.bothT | apply W1.bothF | apply WQ.bothT | apply WQ.bothF | apply W.cond); exact rfl; all_goals intro hc; all_goals first | (cases hc; done) | ((try simp only [hc]); (try simp only [bm] at hc))) | refine WO.nil ?_ | refine WB.nil ?_ | refine WP.bag rfl ?_ | refine WP.nil ?_ | refine W.seq ?_ | refine W.reg ?_ | refine W.dreg ?_ | refine W.block ?_ | refine W.ret ?_ | refine W.skip ?_ | refine W.exit ?_ | (simp only [srow_len, List.length_map, Qit, Int.toNat_natCast, entry, Opd.eat, cellsOf, TV.ofCells, allAv, Qseq, Qblk, List.map_cons, List.map_nil, putD, kp, Nat.reduceEqDiff, ↓reduceIte, beq_self_eq_true, Nat.reduceBEq]))
    all_goals first | refine Qend.boo rfl rfl ?_ | skip
    all_goals first | rfl | (simp_all; done) | (exfalso; simp_all; done) | trace_state
  · have hf' : formed a = false ∨ formed b = false ∨ formed c = false ∨ a.kind ≠ 6 ∨ b.kind ≠ 6 ∨ c.kind ≠ 6 := by
      cases h1 : formed a <;> cases h2 : formed b <;> cases h3 : formed c <;> simp_all
      by_cases h4 : a.kind = 6
      · by_cases h5 : b.kind = 6
        · exact .inr (.inr (hf h4 h5))
        · exact .inr (.inl h5)
      · exact .inl h4
    generalize formed a = fa at *
    generalize formed b = fb at *
    generalize formed c = fc at *
    rw [V.av_eq, V.av_eq, V.av_eq] at *
    repeat' (first | refine WO.cons ?_ | refine WB.cons ?_ | refine WP.one ?_ | (first | (apply WQ.call (hm := hl.modes); (iterate 4 exact rfl)) | (apply W1.callV (hm := hl.modes); (iterate 5 exact rfl); exact (rl); exact rfl)) | (first | (apply WQ.call (hm := b6.modes); (iterate 4 exact rfl)) | (apply W1.callV (hm := b6.modes); (iterate 5 exact rfl); exact (r1); exact rfl)) | (first | (apply WQ.call (hm := b6.modes); (iterate 4 exact rfl)) | (apply W1.callV (hm := b6.modes); (iterate 5 exact rfl); exact (r2); exact rfl)) | (first | (apply WQ.call (hm := b6.modes); (iterate 4 exact rfl)) | (apply W1.callV (hm := b6.modes); (iterate 5 exact rfl); exact (r3); exact rfl)) | (first | (apply WQ.call (hm := a8.modes); (iterate 4 exact rfl)) | (apply W1.callV (hm := a8.modes); (iterate 5 exact rfl); exact (r4); exact rfl)) | (first | (apply WQ.call (hm := a8.modes); (iterate 4 exact rfl)) | (apply W1.callV (hm := a8.modes); (iterate 5 exact rfl); exact (r5); exact rfl)) | (first | (apply WQ.call (hm := a8.modes); (iterate 4 exact rfl)) | (apply W1.callV (hm := a8.modes); (iterate 5 exact rfl); exact (r6); exact rfl)) | ((first | apply W1.add64 | apply W1.sub64); (iterate 3 exact rfl); omega; omega) | (apply W1.iadr; (iterate 3 exact rfl); omega; first | assumption | ((first | apply V.get_row | apply get_srow | apply get_ty | apply get_ar | apply get_ob | apply get_sprow | apply get_brow); assumption)) | (apply W1.idxS; (iterate 3 exact rfl); omega; omega) | (apply W1.slcS; (iterate 4 exact rfl); omega) | (apply W1.pickT; exact rfl; exact rfl; (first | with_reducible rfl | assumption | (simp only [bn]; first | omega | assumption | decide)); exact rfl) | (apply W1.pickF; exact rfl; exact rfl; (first | with_reducible rfl | assumption | (simp only [bn]; first | omega | assumption | decide)); exact rfl) | (apply W1.op; (iterate 3 exact rfl)) | (apply W1.no; exact rfl) | ((first | apply W1.knowT | apply W1.knowFn | apply WQ.knowT | apply WQ.knowFn | apply W.condT); exact rfl; (first | with_reducible rfl | assumption | (simp only [bn]; first | omega | assumption | decide))) | ((first | apply W1.knowTn | apply W1.knowF | apply WQ.knowTn | apply WQ.knowF | apply W.condF); exact rfl; (first | with_reducible rfl | assumption | (simp only [bn]; first | omega | assumption | decide))) | (apply WQ.go; exact rfl; exact rfl) | (apply WQ.no; exact rfl) | ((first | apply W1.bothT | apply W1.bothF | apply WQ.bothT | apply WQ.bothF | apply W.cond); exact rfl; all_goals intro hc; all_goals first | (cases hc; done) | ((try simp only [hc]); (try simp only [bm] at hc))) | refine WO.nil ?_ | refine WB.nil ?_ | refine WP.bag rfl ?_ | refine WP.nil ?_ | refine W.seq ?_ | refine W.reg ?_ | refine W.dreg ?_ | refine W.block ?_ | refine W.ret ?_ | refine W.skip ?_ | refine W.exit ?_ | (simp only [srow_len, List.length_map, Qit, Int.toNat_natCast, entry, Opd.eat, cellsOf, TV.ofCells, allAv, Qseq, Qblk, List.map_cons, List.map_nil, putD, kp, Nat.reduceEqDiff, ↓reduceIte, beq_self_eq_true, Nat.reduceBEq]))
    all_goals clear r1 r2 r3 r4 r5 r6 rl
    all_goals first | refine Qend.boo rfl rfl ?_ | skip
    all_goals first | rfl | (simp_all; done) | (exfalso; simp_all; done) | trace_state
end Hm
