/- What the law answers on the abstract machine. Conditions: see each theorem. -/
import Derived.Test.YtfbhbfganoanfaaVRow1
set_option linter.unusedVariables false
set_option linter.unusedSimpArgs false
/- Which values are well shaped, as the program's reference has it. Conditions: see each theorem. -/
namespace Hm
open Go (IntKind)
set_option maxHeartbeats 4000000
set_option maxRecDepth 4000
mutual
def formed : V → Bool
  | .mk k n t is ks =>
    !(decide (k < 0) || decide (k > 6)) && !((k == 3 && !number n) || (k != 3 && !(n == []))) && !((k == 4 && !utf t) || (k != 4 && !(t == []))) &&
    !((decide (k < 5) && decide (0 < is.length)) || (decide (k < 6) && decide (0 < ks.length))) && !(k == 6 && (!(ks.length == is.length) || !rise ks)) && formedAll is
def formedAll : List V → Bool
  | [] => true
  | v :: r => formed v && formedAll r
end
theorem formedAll_eq (l : List V) : formedAll l = l.all formed := by
  induction l with
  | nil => rfl
  | cons x l ih => simp only [formedAll, List.all_cons, ih]
theorem refAll_of {T : Tab} (h : Fn T F.hallmarkref03_All hallmarkref03_All.fn) (hf : Fn T F.hallmarkref03_Formed hallmarkref03_Formed.fn) (l : List V) (hb : V.bks l ≤ 1073741824)
    (ih : ∀ x ∈ l, Ret T F.hallmarkref03_Formed [.val x.av] (one (.bool (formed x)))) : Ret T F.hallmarkref03_All [.val (.lst 5 (l.map V.row))] (one (.bool (formedAll l))) := by
  refine Ret.mk h rfl ?_
  rw [formedAll_eq]
  have hl := V.len_bks l
  have e2 : (l.map V.row).length = l.length := List.length_map ..
  repeat' (first
    | refine WO.cons ?_ | refine WB.cons ?_ | refine WP.one ?_
    | (apply W1.add64; exact rfl; exact rfl; exact rfl; omega; omega) | (apply W1.sub64; exact rfl; exact rfl; exact rfl; omega; omega)
    | (apply W1.iadr; exact rfl; exact rfl; exact rfl; omega; first | exact V.get_row (by assumption) | exact get_srow (by assumption) | exact get_ty (by assumption) | exact get_ar (by assumption) | exact get_ob (by assumption) | exact get_sprow (by assumption) | exact get_brow (by assumption) | assumption)
    | (apply W1.idxS; exact rfl; exact rfl; exact rfl; omega; omega) | (apply W1.slcS; exact rfl; exact rfl; exact rfl; exact rfl; omega)
    | (apply W1.pickT; exact rfl; exact rfl; exact (by first | with_reducible rfl | assumption | (simp only [Bool.not_eq_true', Bool.not_eq_false', decide_eq_true_eq, decide_eq_false_iff_not, bne_iff_ne, beq_iff_eq, bne_eq_false_iff_eq, beq_eq_false_iff_ne, ne_eq]; first | omega | assumption | decide)); exact rfl) | (apply W1.pickF; exact rfl; exact rfl; exact (by first | with_reducible rfl | assumption | (simp only [Bool.not_eq_true', Bool.not_eq_false', decide_eq_true_eq, decide_eq_false_iff_not, bne_iff_ne, beq_iff_eq, bne_eq_false_iff_eq, beq_eq_false_iff_ne, ne_eq]; first | omega | assumption | decide)); exact rfl)
    | (apply W1.op; exact rfl; exact rfl; exact rfl) | (apply W1.no; exact rfl)
    | (refine W1.knowT (by exact rfl) (by first | with_reducible rfl | assumption | (simp only [Bool.not_eq_true', Bool.not_eq_false', decide_eq_true_eq, decide_eq_false_iff_not, bne_iff_ne, beq_iff_eq, bne_eq_false_iff_eq, beq_eq_false_iff_ne, ne_eq]; first | omega | assumption | decide)) ?_) | (refine W1.knowTn (by exact rfl) (by first | with_reducible rfl | assumption | (simp only [Bool.not_eq_true', Bool.not_eq_false', decide_eq_true_eq, decide_eq_false_iff_not, bne_iff_ne, beq_iff_eq, bne_eq_false_iff_eq, beq_eq_false_iff_ne, ne_eq]; first | omega | assumption | decide)) ?_) | (refine W1.knowF (by exact rfl) (by first | with_reducible rfl | assumption | (simp only [Bool.not_eq_true', Bool.not_eq_false', decide_eq_true_eq, decide_eq_false_iff_not, bne_iff_ne, beq_iff_eq, bne_eq_false_iff_eq, beq_eq_false_iff_ne, ne_eq]; first | omega | assumption | decide)) ?_) | (refine W1.knowFn (by exact rfl) (by first | with_reducible rfl | assumption | (simp only [Bool.not_eq_true', Bool.not_eq_false', decide_eq_true_eq, decide_eq_false_iff_not, bne_iff_ne, beq_iff_eq, bne_eq_false_iff_eq, beq_eq_false_iff_ne, ne_eq]; first | omega | assumption | decide)) ?_)
    | (refine W1.bothT (by exact rfl) (fun hc => ?_) (fun hc => ?_) <;> first | (cases hc; done) | ((try simp only [hc]); (try simp only [decide_eq_true_eq, decide_eq_false_iff_not, Int.not_le, Int.not_lt, bne_iff_ne, beq_iff_eq, bne_eq_false_iff_eq, beq_eq_false_iff_ne, ne_eq] at hc))) | (refine W1.bothF (by exact rfl) (fun hc => ?_) (fun hc => ?_) <;> first | (cases hc; done) | ((try simp only [hc]); (try simp only [decide_eq_true_eq, decide_eq_false_iff_not, Int.not_le, Int.not_lt, bne_iff_ne, beq_iff_eq, bne_eq_false_iff_eq, beq_eq_false_iff_ne, ne_eq] at hc)))
    | (apply WQ.go; exact rfl; exact rfl) | (apply WQ.no; exact rfl)
    | (refine WQ.knowT (by exact rfl) (by first | with_reducible rfl | assumption | (simp only [Bool.not_eq_true', Bool.not_eq_false', decide_eq_true_eq, decide_eq_false_iff_not, bne_iff_ne, beq_iff_eq, bne_eq_false_iff_eq, beq_eq_false_iff_ne, ne_eq]; first | omega | assumption | decide)) ?_) | (refine WQ.knowTn (by exact rfl) (by first | with_reducible rfl | assumption | (simp only [Bool.not_eq_true', Bool.not_eq_false', decide_eq_true_eq, decide_eq_false_iff_not, bne_iff_ne, beq_iff_eq, bne_eq_false_iff_eq, beq_eq_false_iff_ne, ne_eq]; first | omega | assumption | decide)) ?_) | (refine WQ.knowF (by exact rfl) (by first | with_reducible rfl | assumption | (simp only [Bool.not_eq_true', Bool.not_eq_false', decide_eq_true_eq, decide_eq_false_iff_not, bne_iff_ne, beq_iff_eq, bne_eq_false_iff_eq, beq_eq_false_iff_ne, ne_eq]; first | omega | assumption | decide)) ?_) | (refine WQ.knowFn (by exact rfl) (by first | with_reducible rfl | assumption | (simp only [Bool.not_eq_true', Bool.not_eq_false', decide_eq_true_eq, decide_eq_false_iff_not, bne_iff_ne, beq_iff_eq, bne_eq_false_iff_eq, beq_eq_false_iff_ne, ne_eq]; first | omega | assumption | decide)) ?_)
    | (refine WQ.bothT (by exact rfl) (fun hc => ?_) (fun hc => ?_) <;> first | (cases hc; done) | ((try simp only [hc]); (try simp only [decide_eq_true_eq, decide_eq_false_iff_not, Int.not_le, Int.not_lt, bne_iff_ne, beq_iff_eq, bne_eq_false_iff_eq, beq_eq_false_iff_ne, ne_eq] at hc))) | (refine WQ.bothF (by exact rfl) (fun hc => ?_) (fun hc => ?_) <;> first | (cases hc; done) | ((try simp only [hc]); (try simp only [decide_eq_true_eq, decide_eq_false_iff_not, Int.not_le, Int.not_lt, bne_iff_ne, beq_iff_eq, bne_eq_false_iff_eq, beq_eq_false_iff_ne, ne_eq] at hc)))
    | refine WO.nil ?_ | refine WB.nil ?_ | refine WP.bag rfl ?_ | refine WP.nil ?_ | refine W.seq ?_ | refine W.reg ?_ | refine W.dreg ?_ | refine W.block ?_
    | (refine W.condT (by exact rfl) (by first | with_reducible rfl | assumption | (simp only [Bool.not_eq_true', Bool.not_eq_false', decide_eq_true_eq, decide_eq_false_iff_not, bne_iff_ne, beq_iff_eq, bne_eq_false_iff_eq, beq_eq_false_iff_ne, ne_eq]; first | omega | assumption | decide)) ?_) | (refine W.condF (by exact rfl) (by first | with_reducible rfl | assumption | (simp only [Bool.not_eq_true', Bool.not_eq_false', decide_eq_true_eq, decide_eq_false_iff_not, bne_iff_ne, beq_iff_eq, bne_eq_false_iff_eq, beq_eq_false_iff_ne, ne_eq]; first | omega | assumption | decide)) ?_)
    | (refine W.cond (by exact rfl) (fun hc => ?_) (fun hc => ?_) <;> first | (cases hc; done) | ((try simp only [hc]); (try simp only [decide_eq_true_eq, decide_eq_false_iff_not, Int.not_le, Int.not_lt, bne_iff_ne, beq_iff_eq, bne_eq_false_iff_eq, beq_eq_false_iff_ne, ne_eq] at hc)))
    | refine W.ret ?_ | refine W.skip ?_ | refine W.exit ?_
    | (simp only [srow_len, List.length_map, Qit, Int.toNat_natCast, entry, Opd.eat, cellsOf, getE_upd, getB_upd, TV.ofCells, allAv, Qseq, Qblk, keep_eq, List.map_cons, List.map_nil, putD, put_env, put_box, lstE_cons, lstE_nil, lstB_cons, lstB_nil, Nat.reduceEqDiff, ↓reduceIte, kept_av, kept_own, kept_und, kept_skp, kept_tup, kept_plcB, kept_plcS, kept_aliN, kept_aliB, kept_aliS, List.contains_cons, List.contains_nil, beq_self_eq_true, Nat.reduceBEq, Bool.or_false, Bool.false_or, Bool.or_true, Bool.true_or]))
  refine W.listP l (fun i (_ : Unit) s => s.put 3 (.av (.int .i64 (i : Int)))) (fun i _ => (l.take i).all formed = true) () (by simp) rfl ?_ ?_
  · intro i x u hx hi hp
    have hret := ih x (List.mem_of_getElem? hx)
    rw [V.av_eq] at hret
    repeat' (first
      | refine WO.cons ?_ | refine WB.cons ?_ | refine WP.one ?_
      | (first | (apply WQ.call (g := F.hallmarkref03_Formed) (hm := hf.modes); exact rfl; exact rfl; exact rfl; exact rfl) | (apply W1.callV (g := F.hallmarkref03_Formed) (hm := hf.modes); exact rfl; exact rfl; exact rfl; exact rfl; exact rfl; exact (hret); exact rfl))
      | (apply W1.add64; exact rfl; exact rfl; exact rfl; omega; omega) | (apply W1.sub64; exact rfl; exact rfl; exact rfl; omega; omega)
      | (apply W1.iadr; exact rfl; exact rfl; exact rfl; omega; first | exact V.get_row (by assumption) | exact get_srow (by assumption) | exact get_ty (by assumption) | exact get_ar (by assumption) | exact get_ob (by assumption) | exact get_sprow (by assumption) | exact get_brow (by assumption) | assumption)
      | (apply W1.idxS; exact rfl; exact rfl; exact rfl; omega; omega) | (apply W1.slcS; exact rfl; exact rfl; exact rfl; exact rfl; omega)
      | (apply W1.pickT; exact rfl; exact rfl; exact (by first | with_reducible rfl | assumption | (simp only [Bool.not_eq_true', Bool.not_eq_false', decide_eq_true_eq, decide_eq_false_iff_not, bne_iff_ne, beq_iff_eq, bne_eq_false_iff_eq, beq_eq_false_iff_ne, ne_eq]; first | omega | assumption | decide)); exact rfl) | (apply W1.pickF; exact rfl; exact rfl; exact (by first | with_reducible rfl | assumption | (simp only [Bool.not_eq_true', Bool.not_eq_false', decide_eq_true_eq, decide_eq_false_iff_not, bne_iff_ne, beq_iff_eq, bne_eq_false_iff_eq, beq_eq_false_iff_ne, ne_eq]; first | omega | assumption | decide)); exact rfl)
      | (apply W1.op; exact rfl; exact rfl; exact rfl) | (apply W1.no; exact rfl)
      | (refine W1.knowT (by exact rfl) (by first | with_reducible rfl | assumption | (simp only [Bool.not_eq_true', Bool.not_eq_false', decide_eq_true_eq, decide_eq_false_iff_not, bne_iff_ne, beq_iff_eq, bne_eq_false_iff_eq, beq_eq_false_iff_ne, ne_eq]; first | omega | assumption | decide)) ?_) | (refine W1.knowTn (by exact rfl) (by first | with_reducible rfl | assumption | (simp only [Bool.not_eq_true', Bool.not_eq_false', decide_eq_true_eq, decide_eq_false_iff_not, bne_iff_ne, beq_iff_eq, bne_eq_false_iff_eq, beq_eq_false_iff_ne, ne_eq]; first | omega | assumption | decide)) ?_) | (refine W1.knowF (by exact rfl) (by first | with_reducible rfl | assumption | (simp only [Bool.not_eq_true', Bool.not_eq_false', decide_eq_true_eq, decide_eq_false_iff_not, bne_iff_ne, beq_iff_eq, bne_eq_false_iff_eq, beq_eq_false_iff_ne, ne_eq]; first | omega | assumption | decide)) ?_) | (refine W1.knowFn (by exact rfl) (by first | with_reducible rfl | assumption | (simp only [Bool.not_eq_true', Bool.not_eq_false', decide_eq_true_eq, decide_eq_false_iff_not, bne_iff_ne, beq_iff_eq, bne_eq_false_iff_eq, beq_eq_false_iff_ne, ne_eq]; first | omega | assumption | decide)) ?_)
      | (refine W1.bothT (by exact rfl) (fun hc => ?_) (fun hc => ?_) <;> first | (cases hc; done) | ((try simp only [hc]); (try simp only [decide_eq_true_eq, decide_eq_false_iff_not, Int.not_le, Int.not_lt, bne_iff_ne, beq_iff_eq, bne_eq_false_iff_eq, beq_eq_false_iff_ne, ne_eq] at hc))) | (refine W1.bothF (by exact rfl) (fun hc => ?_) (fun hc => ?_) <;> first | (cases hc; done) | ((try simp only [hc]); (try simp only [decide_eq_true_eq, decide_eq_false_iff_not, Int.not_le, Int.not_lt, bne_iff_ne, beq_iff_eq, bne_eq_false_iff_eq, beq_eq_false_iff_ne, ne_eq] at hc)))
      | (apply WQ.go; exact rfl; exact rfl) | (apply WQ.no; exact rfl)
      | (refine WQ.knowT (by exact rfl) (by first | with_reducible rfl | assumption | (simp only [Bool.not_eq_true', Bool.not_eq_false', decide_eq_true_eq, decide_eq_false_iff_not, bne_iff_ne, beq_iff_eq, bne_eq_false_iff_eq, beq_eq_false_iff_ne, ne_eq]; first | omega | assumption | decide)) ?_) | (refine WQ.knowTn (by exact rfl) (by first | with_reducible rfl | assumption | (simp only [Bool.not_eq_true', Bool.not_eq_false', decide_eq_true_eq, decide_eq_false_iff_not, bne_iff_ne, beq_iff_eq, bne_eq_false_iff_eq, beq_eq_false_iff_ne, ne_eq]; first | omega | assumption | decide)) ?_) | (refine WQ.knowF (by exact rfl) (by first | with_reducible rfl | assumption | (simp only [Bool.not_eq_true', Bool.not_eq_false', decide_eq_true_eq, decide_eq_false_iff_not, bne_iff_ne, beq_iff_eq, bne_eq_false_iff_eq, beq_eq_false_iff_ne, ne_eq]; first | omega | assumption | decide)) ?_) | (refine WQ.knowFn (by exact rfl) (by first | with_reducible rfl | assumption | (simp only [Bool.not_eq_true', Bool.not_eq_false', decide_eq_true_eq, decide_eq_false_iff_not, bne_iff_ne, beq_iff_eq, bne_eq_false_iff_eq, beq_eq_false_iff_ne, ne_eq]; first | omega | assumption | decide)) ?_)
      | (refine WQ.bothT (by exact rfl) (fun hc => ?_) (fun hc => ?_) <;> first | (cases hc; done) | ((try simp only [hc]); (try simp only [decide_eq_true_eq, decide_eq_false_iff_not, Int.not_le, Int.not_lt, bne_iff_ne, beq_iff_eq, bne_eq_false_iff_eq, beq_eq_false_iff_ne, ne_eq] at hc))) | (refine WQ.bothF (by exact rfl) (fun hc => ?_) (fun hc => ?_) <;> first | (cases hc; done) | ((try simp only [hc]); (try simp only [decide_eq_true_eq, decide_eq_false_iff_not, Int.not_le, Int.not_lt, bne_iff_ne, beq_iff_eq, bne_eq_false_iff_eq, beq_eq_false_iff_ne, ne_eq] at hc)))
      | refine WO.nil ?_ | refine WB.nil ?_ | refine WP.bag rfl ?_ | refine WP.nil ?_ | refine W.seq ?_ | refine W.reg ?_ | refine W.dreg ?_ | refine W.block ?_
      | (refine W.condT (by exact rfl) (by first | with_reducible rfl | assumption | (simp only [Bool.not_eq_true', Bool.not_eq_false', decide_eq_true_eq, decide_eq_false_iff_not, bne_iff_ne, beq_iff_eq, bne_eq_false_iff_eq, beq_eq_false_iff_ne, ne_eq]; first | omega | assumption | decide)) ?_) | (refine W.condF (by exact rfl) (by first | with_reducible rfl | assumption | (simp only [Bool.not_eq_true', Bool.not_eq_false', decide_eq_true_eq, decide_eq_false_iff_not, bne_iff_ne, beq_iff_eq, bne_eq_false_iff_eq, beq_eq_false_iff_ne, ne_eq]; first | omega | assumption | decide)) ?_)
      | (refine W.cond (by exact rfl) (fun hc => ?_) (fun hc => ?_) <;> first | (cases hc; done) | ((try simp only [hc]); (try simp only [decide_eq_true_eq, decide_eq_false_iff_not, Int.not_le, Int.not_lt, bne_iff_ne, beq_iff_eq, bne_eq_false_iff_eq, beq_eq_false_iff_ne, ne_eq] at hc)))
      | refine W.ret ?_ | refine W.skip ?_ | refine W.exit ?_
      | (simp only [srow_len, List.length_map, Qit, Int.toNat_natCast, entry, Opd.eat, cellsOf, getE_upd, getB_upd, TV.ofCells, allAv, Qseq, Qblk, keep_eq, List.map_cons, List.map_nil, putD, put_env, put_box, lstE_cons, lstE_nil, lstB_cons, lstB_nil, Nat.reduceEqDiff, ↓reduceIte, kept_av, kept_own, kept_und, kept_skp, kept_tup, kept_plcB, kept_plcS, kept_aliN, kept_aliB, kept_aliS, List.contains_cons, List.contains_nil, beq_self_eq_true, Nat.reduceBEq, Bool.or_false, Bool.false_or, Bool.or_true, Bool.true_or]))
    · refine Qend.boo rfl rfl ?_
      rw [all_false hx (by simp_all)]
    · refine ⟨(), ?_, rfl⟩
      rw [all_take_succ hx, hp]; simp_all
  · intro u hp
    rw [List.take_length] at hp
    repeat' (first
      | refine WO.cons ?_ | refine WB.cons ?_ | refine WP.one ?_
      | (apply W1.add64; exact rfl; exact rfl; exact rfl; omega; omega) | (apply W1.sub64; exact rfl; exact rfl; exact rfl; omega; omega)
      | (apply W1.iadr; exact rfl; exact rfl; exact rfl; omega; first | exact V.get_row (by assumption) | exact get_srow (by assumption) | exact get_ty (by assumption) | exact get_ar (by assumption) | exact get_ob (by assumption) | exact get_sprow (by assumption) | exact get_brow (by assumption) | assumption)
      | (apply W1.idxS; exact rfl; exact rfl; exact rfl; omega; omega) | (apply W1.slcS; exact rfl; exact rfl; exact rfl; exact rfl; omega)
      | (apply W1.pickT; exact rfl; exact rfl; exact (by first | with_reducible rfl | assumption | (simp only [Bool.not_eq_true', Bool.not_eq_false', decide_eq_true_eq, decide_eq_false_iff_not, bne_iff_ne, beq_iff_eq, bne_eq_false_iff_eq, beq_eq_false_iff_ne, ne_eq]; first | omega | assumption | decide)); exact rfl) | (apply W1.pickF; exact rfl; exact rfl; exact (by first | with_reducible rfl | assumption | (simp only [Bool.not_eq_true', Bool.not_eq_false', decide_eq_true_eq, decide_eq_false_iff_not, bne_iff_ne, beq_iff_eq, bne_eq_false_iff_eq, beq_eq_false_iff_ne, ne_eq]; first | omega | assumption | decide)); exact rfl)
      | (apply W1.op; exact rfl; exact rfl; exact rfl) | (apply W1.no; exact rfl)
      | (refine W1.knowT (by exact rfl) (by first | with_reducible rfl | assumption | (simp only [Bool.not_eq_true', Bool.not_eq_false', decide_eq_true_eq, decide_eq_false_iff_not, bne_iff_ne, beq_iff_eq, bne_eq_false_iff_eq, beq_eq_false_iff_ne, ne_eq]; first | omega | assumption | decide)) ?_) | (refine W1.knowTn (by exact rfl) (by first | with_reducible rfl | assumption | (simp only [Bool.not_eq_true', Bool.not_eq_false', decide_eq_true_eq, decide_eq_false_iff_not, bne_iff_ne, beq_iff_eq, bne_eq_false_iff_eq, beq_eq_false_iff_ne, ne_eq]; first | omega | assumption | decide)) ?_) | (refine W1.knowF (by exact rfl) (by first | with_reducible rfl | assumption | (simp only [Bool.not_eq_true', Bool.not_eq_false', decide_eq_true_eq, decide_eq_false_iff_not, bne_iff_ne, beq_iff_eq, bne_eq_false_iff_eq, beq_eq_false_iff_ne, ne_eq]; first | omega | assumption | decide)) ?_) | (refine W1.knowFn (by exact rfl) (by first | with_reducible rfl | assumption | (simp only [Bool.not_eq_true', Bool.not_eq_false', decide_eq_true_eq, decide_eq_false_iff_not, bne_iff_ne, beq_iff_eq, bne_eq_false_iff_eq, beq_eq_false_iff_ne, ne_eq]; first | omega | assumption | decide)) ?_)
      | (refine W1.bothT (by exact rfl) (fun hc => ?_) (fun hc => ?_) <;> first | (cases hc; done) | ((try simp only [hc]); (try simp only [decide_eq_true_eq, decide_eq_false_iff_not, Int.not_le, Int.not_lt, bne_iff_ne, beq_iff_eq, bne_eq_false_iff_eq, beq_eq_false_iff_ne, ne_eq] at hc))) | (refine W1.bothF (by exact rfl) (fun hc => ?_) (fun hc => ?_) <;> first | (cases hc; done) | ((try simp only [hc]); (try simp only [decide_eq_true_eq, decide_eq_false_iff_not, Int.not_le, Int.not_lt, bne_iff_ne, beq_iff_eq, bne_eq_false_iff_eq, beq_eq_false_iff_ne, ne_eq] at hc)))
      | (apply WQ.go; exact rfl; exact rfl) | (apply WQ.no; exact rfl)
      | (refine WQ.knowT (by exact rfl) (by first | with_reducible rfl | assumption | (simp only [Bool.not_eq_true', Bool.not_eq_false', decide_eq_true_eq, decide_eq_false_iff_not, bne_iff_ne, beq_iff_eq, bne_eq_false_iff_eq, beq_eq_false_iff_ne, ne_eq]; first | omega | assumption | decide)) ?_) | (refine WQ.knowTn (by exact rfl) (by first | with_reducible rfl | assumption | (simp only [Bool.not_eq_true', Bool.not_eq_false', decide_eq_true_eq, decide_eq_false_iff_not, bne_iff_ne, beq_iff_eq, bne_eq_false_iff_eq, beq_eq_false_iff_ne, ne_eq]; first | omega | assumption | decide)) ?_) | (refine WQ.knowF (by exact rfl) (by first | with_reducible rfl | assumption | (simp only [Bool.not_eq_true', Bool.not_eq_false', decide_eq_true_eq, decide_eq_false_iff_not, bne_iff_ne, beq_iff_eq, bne_eq_false_iff_eq, beq_eq_false_iff_ne, ne_eq]; first | omega | assumption | decide)) ?_) | (refine WQ.knowFn (by exact rfl) (by first | with_reducible rfl | assumption | (simp only [Bool.not_eq_true', Bool.not_eq_false', decide_eq_true_eq, decide_eq_false_iff_not, bne_iff_ne, beq_iff_eq, bne_eq_false_iff_eq, beq_eq_false_iff_ne, ne_eq]; first | omega | assumption | decide)) ?_)
      | (refine WQ.bothT (by exact rfl) (fun hc => ?_) (fun hc => ?_) <;> first | (cases hc; done) | ((try simp only [hc]); (try simp only [decide_eq_true_eq, decide_eq_false_iff_not, Int.not_le, Int.not_lt, bne_iff_ne, beq_iff_eq, bne_eq_false_iff_eq, beq_eq_false_iff_ne, ne_eq] at hc))) | (refine WQ.bothF (by exact rfl) (fun hc => ?_) (fun hc => ?_) <;> first | (cases hc; done) | ((try simp only [hc]); (try simp only [decide_eq_true_eq, decide_eq_false_iff_not, Int.not_le, Int.not_lt, bne_iff_ne, beq_iff_eq, bne_eq_false_iff_eq, beq_eq_false_iff_ne, ne_eq] at hc)))
      | refine WO.nil ?_ | refine WB.nil ?_ | refine WP.bag rfl ?_ | refine WP.nil ?_ | refine W.seq ?_ | refine W.reg ?_ | refine W.dreg ?_ | refine W.block ?_
      | (refine W.condT (by exact rfl) (by first | with_reducible rfl | assumption | (simp only [Bool.not_eq_true', Bool.not_eq_false', decide_eq_true_eq, decide_eq_false_iff_not, bne_iff_ne, beq_iff_eq, bne_eq_false_iff_eq, beq_eq_false_iff_ne, ne_eq]; first | omega | assumption | decide)) ?_) | (refine W.condF (by exact rfl) (by first | with_reducible rfl | assumption | (simp only [Bool.not_eq_true', Bool.not_eq_false', decide_eq_true_eq, decide_eq_false_iff_not, bne_iff_ne, beq_iff_eq, bne_eq_false_iff_eq, beq_eq_false_iff_ne, ne_eq]; first | omega | assumption | decide)) ?_)
      | (refine W.cond (by exact rfl) (fun hc => ?_) (fun hc => ?_) <;> first | (cases hc; done) | ((try simp only [hc]); (try simp only [decide_eq_true_eq, decide_eq_false_iff_not, Int.not_le, Int.not_lt, bne_iff_ne, beq_iff_eq, bne_eq_false_iff_eq, beq_eq_false_iff_ne, ne_eq] at hc)))
      | refine W.ret ?_ | refine W.skip ?_ | refine W.exit ?_
      | (simp only [srow_len, List.length_map, Qit, Int.toNat_natCast, entry, Opd.eat, cellsOf, getE_upd, getB_upd, TV.ofCells, allAv, Qseq, Qblk, keep_eq, List.map_cons, List.map_nil, putD, put_env, put_box, lstE_cons, lstE_nil, lstB_cons, lstB_nil, Nat.reduceEqDiff, ↓reduceIte, kept_av, kept_own, kept_und, kept_skp, kept_tup, kept_plcB, kept_plcS, kept_aliN, kept_aliB, kept_aliS, List.contains_cons, List.contains_nil, beq_self_eq_true, Nat.reduceBEq, Bool.or_false, Bool.false_or, Bool.or_true, Bool.true_or]))
    refine Qend.boo rfl rfl ?_
    rw [hp]
theorem refFormed_ret {T : Tab} (hf : Fn T F.hallmarkref03_Formed hallmarkref03_Formed.fn) (h : Fn T F.hallmarkref03_All hallmarkref03_All.fn) (hn : Fn T F.hallmarkref03_Number hallmarkref03_Number.fn) (hr : Fn T F.hallmarkref03_Rise hallmarkref03_Rise.fn)
    (hu : Fn T F.hallmarkref03_UTF hallmarkref03_UTF.fn) (hw : Fn T F.hallmarkref03_width hallmarkref03_width.fn) (ht : Fn T F.hallmarkref03_trail hallmarkref03_trail.fn) :
    ∀ (v : V), v.bk ≤ 1073741824 → Ret T F.hallmarkref03_Formed [.val v.av] (one (.bool (formed v))) := by
  intro v
  induction v using V.ind with
  | h v ih =>
  intro hb
  have hbk := V.bk_eq v
  have hk := len_sbk v.keys
  have hl := V.len_bks v.items
  have e1 := srow_len v.keys
  have e2 : (v.items.map V.row).length = v.items.length := List.length_map ..
  have r1 := refNumber_ret hn v.num (by omega)
  have r2 := refUTF_ret hu hw ht v.text (by omega)
  have r3 := refRise_ret hr hu hw ht v.keys (by omega)
  have r4 := refAll_of h hf v.items (by omega) (fun x hx => ih x hx (by have := V.bk_item hx; omega))
  refine Ret.mk hf rfl ?_
  obtain ⟨k, n, t, is, ks⟩ := v
  rw [V.av_eq]
  simp only [V.kind, V.num, V.text, V.items, V.keys] at *
  repeat' (first
    | refine WO.cons ?_ | refine WB.cons ?_ | refine WP.one ?_
    | (first | (apply WQ.call (g := F.hallmarkref03_Number) (hm := hn.modes); exact rfl; exact rfl; exact rfl; exact rfl) | (apply W1.callV (g := F.hallmarkref03_Number) (hm := hn.modes); exact rfl; exact rfl; exact rfl; exact rfl; exact rfl; exact (r1); exact rfl))
    | (first | (apply WQ.call (g := F.hallmarkref03_UTF) (hm := hu.modes); exact rfl; exact rfl; exact rfl; exact rfl) | (apply W1.callV (g := F.hallmarkref03_UTF) (hm := hu.modes); exact rfl; exact rfl; exact rfl; exact rfl; exact rfl; exact (r2); exact rfl))
    | (first | (apply WQ.call (g := F.hallmarkref03_Rise) (hm := hr.modes); exact rfl; exact rfl; exact rfl; exact rfl) | (apply W1.callV (g := F.hallmarkref03_Rise) (hm := hr.modes); exact rfl; exact rfl; exact rfl; exact rfl; exact rfl; exact (r3); exact rfl))
    | (first | (apply WQ.call (g := F.hallmarkref03_All) (hm := h.modes); exact rfl; exact rfl; exact rfl; exact rfl) | (apply W1.callV (g := F.hallmarkref03_All) (hm := h.modes); exact rfl; exact rfl; exact rfl; exact rfl; exact rfl; exact (r4); exact rfl))
    | (apply W1.add64; exact rfl; exact rfl; exact rfl; omega; omega) | (apply W1.sub64; exact rfl; exact rfl; exact rfl; omega; omega)
    | (apply W1.iadr; exact rfl; exact rfl; exact rfl; omega; first | exact V.get_row (by assumption) | exact get_srow (by assumption) | exact get_ty (by assumption) | exact get_ar (by assumption) | exact get_ob (by assumption) | exact get_sprow (by assumption) | exact get_brow (by assumption) | assumption)
    | (apply W1.idxS; exact rfl; exact rfl; exact rfl; omega; omega) | (apply W1.slcS; exact rfl; exact rfl; exact rfl; exact rfl; omega)
    | (apply W1.pickT; exact rfl; exact rfl; exact (by first | with_reducible rfl | assumption | (simp only [Bool.not_eq_true', Bool.not_eq_false', decide_eq_true_eq, decide_eq_false_iff_not, bne_iff_ne, beq_iff_eq, bne_eq_false_iff_eq, beq_eq_false_iff_ne, ne_eq]; first | omega | assumption | decide)); exact rfl) | (apply W1.pickF; exact rfl; exact rfl; exact (by first | with_reducible rfl | assumption | (simp only [Bool.not_eq_true', Bool.not_eq_false', decide_eq_true_eq, decide_eq_false_iff_not, bne_iff_ne, beq_iff_eq, bne_eq_false_iff_eq, beq_eq_false_iff_ne, ne_eq]; first | omega | assumption | decide)); exact rfl)
    | (apply W1.op; exact rfl; exact rfl; exact rfl) | (apply W1.no; exact rfl)
    | (refine W1.knowT (by exact rfl) (by first | with_reducible rfl | assumption | (simp only [Bool.not_eq_true', Bool.not_eq_false', decide_eq_true_eq, decide_eq_false_iff_not, bne_iff_ne, beq_iff_eq, bne_eq_false_iff_eq, beq_eq_false_iff_ne, ne_eq]; first | omega | assumption | decide)) ?_) | (refine W1.knowTn (by exact rfl) (by first | with_reducible rfl | assumption | (simp only [Bool.not_eq_true', Bool.not_eq_false', decide_eq_true_eq, decide_eq_false_iff_not, bne_iff_ne, beq_iff_eq, bne_eq_false_iff_eq, beq_eq_false_iff_ne, ne_eq]; first | omega | assumption | decide)) ?_) | (refine W1.knowF (by exact rfl) (by first | with_reducible rfl | assumption | (simp only [Bool.not_eq_true', Bool.not_eq_false', decide_eq_true_eq, decide_eq_false_iff_not, bne_iff_ne, beq_iff_eq, bne_eq_false_iff_eq, beq_eq_false_iff_ne, ne_eq]; first | omega | assumption | decide)) ?_) | (refine W1.knowFn (by exact rfl) (by first | with_reducible rfl | assumption | (simp only [Bool.not_eq_true', Bool.not_eq_false', decide_eq_true_eq, decide_eq_false_iff_not, bne_iff_ne, beq_iff_eq, bne_eq_false_iff_eq, beq_eq_false_iff_ne, ne_eq]; first | omega | assumption | decide)) ?_)
    | (refine W1.bothT (by exact rfl) (fun hc => ?_) (fun hc => ?_) <;> first | (cases hc; done) | ((try simp only [hc]); (try simp only [decide_eq_true_eq, decide_eq_false_iff_not, Int.not_le, Int.not_lt, bne_iff_ne, beq_iff_eq, bne_eq_false_iff_eq, beq_eq_false_iff_ne, ne_eq] at hc))) | (refine W1.bothF (by exact rfl) (fun hc => ?_) (fun hc => ?_) <;> first | (cases hc; done) | ((try simp only [hc]); (try simp only [decide_eq_true_eq, decide_eq_false_iff_not, Int.not_le, Int.not_lt, bne_iff_ne, beq_iff_eq, bne_eq_false_iff_eq, beq_eq_false_iff_ne, ne_eq] at hc)))
    | (apply WQ.go; exact rfl; exact rfl) | (apply WQ.no; exact rfl)
    | (refine WQ.knowT (by exact rfl) (by first | with_reducible rfl | assumption | (simp only [Bool.not_eq_true', Bool.not_eq_false', decide_eq_true_eq, decide_eq_false_iff_not, bne_iff_ne, beq_iff_eq, bne_eq_false_iff_eq, beq_eq_false_iff_ne, ne_eq]; first | omega | assumption | decide)) ?_) | (refine WQ.knowTn (by exact rfl) (by first | with_reducible rfl | assumption | (simp only [Bool.not_eq_true', Bool.not_eq_false', decide_eq_true_eq, decide_eq_false_iff_not, bne_iff_ne, beq_iff_eq, bne_eq_false_iff_eq, beq_eq_false_iff_ne, ne_eq]; first | omega | assumption | decide)) ?_) | (refine WQ.knowF (by exact rfl) (by first | with_reducible rfl | assumption | (simp only [Bool.not_eq_true', Bool.not_eq_false', decide_eq_true_eq, decide_eq_false_iff_not, bne_iff_ne, beq_iff_eq, bne_eq_false_iff_eq, beq_eq_false_iff_ne, ne_eq]; first | omega | assumption | decide)) ?_) | (refine WQ.knowFn (by exact rfl) (by first | with_reducible rfl | assumption | (simp only [Bool.not_eq_true', Bool.not_eq_false', decide_eq_true_eq, decide_eq_false_iff_not, bne_iff_ne, beq_iff_eq, bne_eq_false_iff_eq, beq_eq_false_iff_ne, ne_eq]; first | omega | assumption | decide)) ?_)
    | (refine WQ.bothT (by exact rfl) (fun hc => ?_) (fun hc => ?_) <;> first | (cases hc; done) | ((try simp only [hc]); (try simp only [decide_eq_true_eq, decide_eq_false_iff_not, Int.not_le, Int.not_lt, bne_iff_ne, beq_iff_eq, bne_eq_false_iff_eq, beq_eq_false_iff_ne, ne_eq] at hc))) | (refine WQ.bothF (by exact rfl) (fun hc => ?_) (fun hc => ?_) <;> first | (cases hc; done) | ((try simp only [hc]); (try simp only [decide_eq_true_eq, decide_eq_false_iff_not, Int.not_le, Int.not_lt, bne_iff_ne, beq_iff_eq, bne_eq_false_iff_eq, beq_eq_false_iff_ne, ne_eq] at hc)))
    | refine WO.nil ?_ | refine WB.nil ?_ | refine WP.bag rfl ?_ | refine WP.nil ?_ | refine W.seq ?_ | refine W.reg ?_ | refine W.dreg ?_ | refine W.block ?_
    | (refine W.condT (by exact rfl) (by first | with_reducible rfl | assumption | (simp only [Bool.not_eq_true', Bool.not_eq_false', decide_eq_true_eq, decide_eq_false_iff_not, bne_iff_ne, beq_iff_eq, bne_eq_false_iff_eq, beq_eq_false_iff_ne, ne_eq]; first | omega | assumption | decide)) ?_) | (refine W.condF (by exact rfl) (by first | with_reducible rfl | assumption | (simp only [Bool.not_eq_true', Bool.not_eq_false', decide_eq_true_eq, decide_eq_false_iff_not, bne_iff_ne, beq_iff_eq, bne_eq_false_iff_eq, beq_eq_false_iff_ne, ne_eq]; first | omega | assumption | decide)) ?_)
    | (refine W.cond (by exact rfl) (fun hc => ?_) (fun hc => ?_) <;> first | (cases hc; done) | ((try simp only [hc]); (try simp only [decide_eq_true_eq, decide_eq_false_iff_not, Int.not_le, Int.not_lt, bne_iff_ne, beq_iff_eq, bne_eq_false_iff_eq, beq_eq_false_iff_ne, ne_eq] at hc)))
    | refine W.ret ?_ | refine W.skip ?_ | refine W.exit ?_
    | (simp only [srow_len, List.length_map, Qit, Int.toNat_natCast, entry, Opd.eat, cellsOf, getE_upd, getB_upd, TV.ofCells, allAv, Qseq, Qblk, keep_eq, List.map_cons, List.map_nil, putD, put_env, put_box, lstE_cons, lstE_nil, lstB_cons, lstB_nil, Nat.reduceEqDiff, ↓reduceIte, kept_av, kept_own, kept_und, kept_skp, kept_tup, kept_plcB, kept_plcS, kept_aliN, kept_aliB, kept_aliS, List.contains_cons, List.contains_nil, beq_self_eq_true, Nat.reduceBEq, Bool.or_false, Bool.false_or, Bool.or_true, Bool.true_or]))
  all_goals refine Qend.boo rfl rfl ?_
  all_goals clear r1 r2 r3 r4 ih hb hbk hk hl e1 e2
  all_goals simp only [formed]
  all_goals simp only [List.length_map, srow_len, gt_iff_lt, ge_iff_le, Bool.not_eq_true', Bool.not_eq_false', beq_iff_eq] at *
  all_goals first
    | (simp_all; done)
    | (simp_all; omega)
    | trace_state
end Hm

/- Numbers and texts in order. Conditions: none (definitions and plain lemmas). -/
namespace Hm
open Go (IntKind)
set_option maxHeartbeats 4000000
set_option maxRecDepth 4000
def tcmp (a b : Str) : Int := if binA.bLess a b then -1 else if !(binA.bLess a b || a == b) then 1 else 0
def ncmp (a b : Str) : Int := if a.length = b.length then tcmp a b else if a.length < b.length then -1 else 1
def minus (a : Str) : Bool := decide (((bAt a 0).toNat : Int) = 45)
def zcmp (a b : Str) : Int := if minus a && !minus b then -1 else if minus b && !minus a then 1 else if minus a then ncmp (b.drop 1) (a.drop 1) else ncmp a b
theorem number_len {s : Str} (h : number s = true) : 0 < s.length := by
  cases s with
  | nil => simp [number, digs] at h
  | cons c r => simp
theorem number_drop {s : Str} (h : number s = true) (hm : ((bAt s 0).toNat : Int) = 45) : 0 < (s.drop 1).length ∧ ¬ ((bAt (s.drop 1) 0).toNat : Int) = 45 := by
  have hl := number_len h
  have hd : digs s = s.drop 1 := by rw [digs, if_pos ⟨hl, (u8_eq _ 45 (by omega)).1 hm⟩]
  simp only [number, hd, Bool.and_eq_true, decide_eq_true_eq, List.all_eq_true] at h
  refine ⟨h.1.2, fun he => ?_⟩
  have := h.1.1 (bAt (s.drop 1) 0) (by
    have hx := h.1.2
    cases hs : s.drop 1 with
    | nil => rw [hs] at hx; simp at hx
    | cons c r => simp [bAt])
  simp only [isDig, Bool.and_eq_true, decide_eq_true_eq] at this
  omega
end Hm

/- Comparisons that set things in a row. Conditions: none (definitions and plain lemmas). -/
namespace Hm
/-- A comparison is good on the things of a kind. -/
structure Good {α : Type} (P : α → Prop) (c : α → α → Int) : Prop where
  rng : ∀ a b, P a → P b → -1 ≤ c a b ∧ c a b ≤ 1
  anti : ∀ a b, P a → P b → c a b = - c b a
  trans : ∀ a b d, P a → P b → P d → c a b ≤ 0 → c b d ≤ 0 → c a d ≤ 0
  eq : ∀ a b, P a → P b → c a b = 0 → a = b
theorem Good.refl {α : Type} {P : α → Prop} {c : α → α → Int} (h : Good P c) (a : α) (ha : P a) : c a a = 0 := by
  have := h.anti a a ha ha; omega
theorem Good.lt_trans {α : Type} {P : α → Prop} {c : α → α → Int} (h : Good P c) {a b d : α} (ha : P a) (hb : P b) (hd : P d) (h1 : c a b < 0) (h2 : c b d ≤ 0) : c a d < 0 := by
  have h3 := h.trans a b d ha hb hd (by omega) h2
  by_cases h0 : c a d = 0
  · have := h.eq a d ha hd h0
    subst this
    have := h.anti a b ha hb
    omega
  · omega
theorem bLess_irrefl : ∀ a : Str, binA.bLess a a = false
  | [] => rfl
  | x :: r => by simp [binA.bLess, bLess_irrefl r]
theorem bLess_trans : ∀ a b d : Str, binA.bLess a b = true → binA.bLess b d = true → binA.bLess a d = true
  | [], [], _, h, _ => by simp [binA.bLess] at h
  | [], _ :: _, [], _, h => by simp [binA.bLess] at h
  | [], _ :: _, _ :: _, _, _ => by simp [binA.bLess]
  | _ :: _, [], _, h, _ => by simp [binA.bLess] at h
  | _ :: _, _ :: _, [], _, h => by simp [binA.bLess] at h
  | x :: a, y :: b, z :: d, h1, h2 => by
    simp only [binA.bLess, Bool.or_eq_true, Bool.and_eq_true, decide_eq_true_eq, beq_iff_eq] at *
    rcases h1 with h1 | ⟨h1, h1'⟩
    · rcases h2 with h2 | ⟨h2, _⟩
      · exact .inl (UInt8.lt_trans h1 h2)
      · subst h2; exact .inl h1
    · subst h1
      rcases h2 with h2 | ⟨h2, h2'⟩
      · exact .inl h2
      · subst h2; exact .inr ⟨rfl, bLess_trans a b d h1' h2'⟩
theorem bLess_tri : ∀ a b : Str, binA.bLess a b = true ∨ a = b ∨ binA.bLess b a = true
  | [], [] => .inr (.inl rfl)
  | [], _ :: _ => .inl rfl
  | _ :: _, [] => .inr (.inr rfl)
  | x :: a, y :: b => by
    simp only [binA.bLess, Bool.or_eq_true, Bool.and_eq_true, decide_eq_true_eq, beq_iff_eq, List.cons.injEq]
    by_cases h : x = y
    · subst h
      rcases bLess_tri a b with h | h | h
      · exact .inl (.inr ⟨rfl, h⟩)
      · exact .inr (.inl ⟨rfl, h⟩)
      · exact .inr (.inr (.inr ⟨rfl, h⟩))
    · rcases UInt8.lt_or_lt_of_ne h with h | h
      · exact .inl (.inl h)
      · exact .inr (.inr (.inl h))
end Hm

/- Texts and numbers stand in a row. Conditions: see each theorem. -/
namespace Hm
theorem tcmp_cases (a b : Str) : (tcmp a b = -1 ∧ binA.bLess a b = true) ∨ (tcmp a b = 0 ∧ a = b) ∨ (tcmp a b = 1 ∧ binA.bLess b a = true) := by
  by_cases h : binA.bLess a b = true
  · left; simp [tcmp, h]
  · rw [Bool.not_eq_true] at h
    rcases bLess_tri a b with h' | h' | h'
    · rw [h] at h'; cases h'
    · right; left; subst h'; simp [tcmp, bLess_irrefl]
    · right; right
      have hne : ¬ a = b := fun he => by subst he; rw [bLess_irrefl] at h'; cases h'
      simp [tcmp, h, h', hne]
theorem tcmp_good : Good (fun _ => True) tcmp where
  rng a b _ _ := by rcases tcmp_cases a b with h | h | h <;> omega
  anti a b _ _ := by
    rcases tcmp_cases a b with ⟨h, h1⟩ | ⟨h, h1⟩ | ⟨h, h1⟩ <;> rcases tcmp_cases b a with ⟨k, k1⟩ | ⟨k, k1⟩ | ⟨k, k1⟩ <;> try omega
    · have := bLess_trans a b a h1 k1; rw [bLess_irrefl] at this; cases this
    · subst k1; rw [bLess_irrefl] at h1; cases h1
    · subst h1; rw [bLess_irrefl] at k1; cases k1
    · subst h1; rw [bLess_irrefl] at k1; cases k1
    · subst k1; rw [bLess_irrefl] at h1; cases h1
    · have := bLess_trans b a b h1 k1; rw [bLess_irrefl] at this; cases this
  trans a b d _ _ _ h1 h2 := by
    rcases tcmp_cases a b with ⟨h, k1⟩ | ⟨h, k1⟩ | ⟨h, k1⟩
    · rcases tcmp_cases b d with ⟨h', k2⟩ | ⟨h', k2⟩ | ⟨h', k2⟩
      · have := bLess_trans a b d k1 k2
        rcases tcmp_cases a d with ⟨h'', k3⟩ | ⟨h'', k3⟩ | ⟨h'', k3⟩
        · omega
        · omega
        · have := bLess_trans a d a this k3; rw [bLess_irrefl] at this; cases this
      · subst k2; omega
      · omega
    · subst k1; omega
    · omega
  eq a b _ _ h := by rcases tcmp_cases a b with h' | h' | h' <;> first | exact h'.2 | omega
theorem ncmp_good : Good (fun _ => True) ncmp where
  rng a b _ _ := by
    simp only [ncmp]; split
    · exact tcmp_good.rng a b trivial trivial
    · split <;> omega
  anti a b _ _ := by
    simp only [ncmp]
    by_cases h : a.length = b.length
    · rw [if_pos h, if_pos h.symm]; exact tcmp_good.anti a b trivial trivial
    · have h' : ¬ b.length = a.length := fun e => h e.symm
      simp only [h, h', if_false]
      by_cases hl : a.length < b.length
      · have : ¬ b.length < a.length := by omega
        simp [hl, this]
      · have : b.length < a.length := by omega
        simp [hl, this]
  trans a b d _ _ _ h1 h2 := by
    simp only [ncmp] at *
    by_cases e1 : a.length = b.length
    · rw [if_pos e1] at h1
      by_cases e2 : b.length = d.length
      · rw [if_pos e2] at h2; rw [if_pos (by omega)]; exact tcmp_good.trans a b d trivial trivial trivial h1 h2
      · rw [if_neg e2] at h2; rw [if_neg (by omega)]; split at h2 <;> split <;> omega
    · rw [if_neg e1] at h1
      by_cases e2 : b.length = d.length
      · rw [if_neg (by omega)]; split at h1 <;> split <;> omega
      · rw [if_neg e2] at h2
        have : a.length < b.length := by split at h1 <;> omega
        have : b.length < d.length := by split at h2 <;> omega
        rw [if_neg (by omega), if_pos (by omega)]; omega
  eq a b _ _ h := by
    simp only [ncmp] at h
    by_cases e : a.length = b.length
    · rw [if_pos e] at h; exact tcmp_good.eq a b trivial trivial h
    · rw [if_neg e] at h; split at h <;> omega
theorem minus_eq {a : Str} (h : number a = true) (hm : minus a = true) : a = 45 :: a.drop 1 := by
  have hl := number_len h
  simp only [minus, decide_eq_true_eq] at hm
  have h45 := (u8_eq (bAt a 0) 45 (by omega)).1 hm
  cases a with
  | nil => simp at hl
  | cons c r => simp [bAt] at h45; simp [h45]
theorem zcmp_good : Good (fun a => number a = true) zcmp where
  rng a b _ _ := by
    have h1 := ncmp_good.rng (b.drop 1) (a.drop 1) trivial trivial
    have h2 := ncmp_good.rng a b trivial trivial
    simp only [List.drop_one] at h1
    simp only [zcmp]; cases minus a <;> cases minus b <;> simp <;> first | exact h1 | exact h2
  anti a b _ _ := by
    have h1 := ncmp_good.anti (b.drop 1) (a.drop 1) trivial trivial
    have h2 := ncmp_good.anti a b trivial trivial
    simp only [zcmp]; cases minus a <;> cases minus b <;> simp <;> first | exact h2 | simpa using h1
  trans a b d _ _ _ h1 h2 := by
    have t1 := ncmp_good.trans a b d trivial trivial trivial
    have t2 := ncmp_good.trans (d.drop 1) (b.drop 1) (a.drop 1) trivial trivial trivial
    simp only [zcmp] at *
    cases ma : minus a <;> cases mb : minus b <;> cases md : minus d <;> simp [ma, mb, md] at *
    all_goals first
      | exact t1 h1 h2
      | exact t2 h2 h1
      | omega
  eq a b ha hb h := by
    simp only [zcmp] at h
    cases ma : minus a <;> cases mb : minus b <;> simp only [ma, mb] at h
    · exact ncmp_good.eq a b trivial trivial (by simpa using h)
    · simp at h
    · simp at h
    · have := ncmp_good.eq (b.drop 1) (a.drop 1) trivial trivial (by simpa using h)
      rw [minus_eq ha ma, minus_eq hb mb, this]
end Hm

/- Comparisons part by part, and of lists. Conditions: none (definitions and plain lemmas). -/
namespace Hm
/-- A comparison that sets things in a row, up to what it does not look at. -/
structure Pre {α : Type} (P : α → Prop) (c : α → α → Int) : Prop where
  rng : ∀ a b, P a → P b → -1 ≤ c a b ∧ c a b ≤ 1
  anti : ∀ a b, P a → P b → c a b = - c b a
  trans : ∀ a b d, P a → P b → P d → c a b ≤ 0 → c b d ≤ 0 → c a d ≤ 0
def orI (x y : Int) : Int := if x = 0 then y else x
theorem orI0 (y : Int) : orI 0 y = y := rfl
theorem orI_ne {x y : Int} (h : x ≠ 0) : orI x y = x := by simp [orI, h]
theorem orI_zero {x y : Int} (h : orI x y = 0) : x = 0 ∧ y = 0 := by
  unfold orI at h
  split at h
  · exact ⟨by assumption, h⟩
  · exact absurd h (by assumption)
section
variable {α β : Type} {P : α → Prop} {Q : β → Prop} {c c1 c2 : α → α → Int}
theorem Good.pre (h : Good P c) : Pre P c := ⟨h.rng, h.anti, h.trans⟩
theorem Pre.refl (h : Pre P c) {a : α} (ha : P a) : c a a = 0 := by have := h.anti a a ha ha; omega
theorem Pre.eq0 (h : Pre P c) {a b d : α} (ha : P a) (hb : P b) (hd : P d) (h1 : c a b = 0) (h2 : c b d = 0) : c a d = 0 := by
  have k1 := h.anti a b ha hb
  have k2 := h.anti b d hb hd
  have k3 := h.anti a d ha hd
  have := h.trans a b d ha hb hd (by omega) (by omega)
  have := h.trans d b a hd hb ha (by omega) (by omega)
  omega
theorem Pre.lt (h : Pre P c) {a b d : α} (ha : P a) (hb : P b) (hd : P d) (h1 : c a b < 0) (h2 : c b d ≤ 0) : c a d < 0 := by
  have k1 := h.anti a b ha hb
  have k3 := h.anti a d ha hd
  have := h.trans a b d ha hb hd (by omega) (by omega)
  by_cases h0 : c a d = 0
  · have := h.trans b d a hb hd ha h2 (by omega); omega
  · omega
theorem Pre.lt' (h : Pre P c) {a b d : α} (ha : P a) (hb : P b) (hd : P d) (h1 : c a b ≤ 0) (h2 : c b d < 0) : c a d < 0 := by
  have k1 := h.anti b d hb hd
  have k3 := h.anti a d ha hd
  have := h.trans a b d ha hb hd (by omega) (by omega)
  by_cases h0 : c a d = 0
  · have := h.trans d a b hd ha hb (by omega) h1; omega
  · omega
theorem Pre.or_trans (h : Pre P c) {a b d : α} (ha : P a) (hb : P b) (hd : P d) {x y z : Int} (h1 : orI (c a b) x ≤ 0) (h2 : orI (c b d) y ≤ 0) (h3 : x ≤ 0 → y ≤ 0 → z ≤ 0) : orI (c a d) z ≤ 0 := by
  by_cases e1 : c a b = 0
  · rw [e1, orI0] at h1
    by_cases e2 : c b d = 0
    · rw [e2, orI0] at h2
      rw [h.eq0 ha hb hd e1 e2, orI0]; exact h3 h1 h2
    · rw [orI_ne e2] at h2
      have := h.lt' ha hb hd (by omega) (by omega : c b d < 0)
      rw [orI_ne (by omega)]; omega
  · rw [orI_ne e1] at h1
    have hbd : c b d ≤ 0 := by
      by_cases e2 : c b d = 0
      · omega
      · rw [orI_ne e2] at h2; exact h2
    have := h.lt ha hb hd (by omega : c a b < 0) hbd
    rw [orI_ne (by omega)]; omega
theorem Pre.or_anti (h : Pre P c) {a b : α} (ha : P a) (hb : P b) {x y : Int} (h1 : x = - y) : orI (c a b) x = - orI (c b a) y := by
  have := h.anti a b ha hb
  by_cases e : c a b = 0
  · have : c b a = 0 := by omega
    rw [e, this, orI0, orI0]; exact h1
  · rw [orI_ne e, orI_ne (by omega)]; exact this
theorem Pre.or_rng (h : Pre P c) {a b : α} (ha : P a) (hb : P b) {x : Int} (h1 : -1 ≤ x ∧ x ≤ 1) : -1 ≤ orI (c a b) x ∧ orI (c a b) x ≤ 1 := by
  unfold orI; split
  · exact h1
  · exact h.rng a b ha hb
theorem Pre.or (h1 : Pre P c1) (h2 : Pre P c2) : Pre P fun a b => orI (c1 a b) (c2 a b) where
  rng a b ha hb := h1.or_rng ha hb (h2.rng a b ha hb)
  anti a b ha hb := h1.or_anti ha hb (h2.anti a b ha hb)
  trans a b d ha hb hd k1 k2 := h1.or_trans ha hb hd k1 k2 (h2.trans a b d ha hb hd)
theorem Pre.comap {f : α → β} {c : β → β → Int} (h : Pre Q c) (hp : ∀ a, P a → Q (f a)) : Pre P fun a b => c (f a) (f b) where
  rng a b ha hb := h.rng _ _ (hp a ha) (hp b hb)
  anti a b ha hb := h.anti _ _ (hp a ha) (hp b hb)
  trans a b d ha hb hd := h.trans _ _ _ (hp a ha) (hp b hb) (hp d hd)
theorem Pre.mono {P' : α → Prop} (h : Pre P c) (hp : ∀ a, P' a → P a) : Pre P' c where
  rng a b ha hb := h.rng _ _ (hp a ha) (hp b hb)
  anti a b ha hb := h.anti _ _ (hp a ha) (hp b hb)
  trans a b d ha hb hd := h.trans _ _ _ (hp a ha) (hp b hb) (hp d hd)
theorem Pre.congr {c' : α → α → Int} (h : Pre P c) (e : ∀ a b, c' a b = c a b) : Pre P c' where
  rng a b ha hb := by rw [e]; exact h.rng a b ha hb
  anti a b ha hb := by rw [e, e]; exact h.anti a b ha hb
  trans a b d ha hb hd := by rw [e, e, e]; exact h.trans a b d ha hb hd
def lcmp (c : α → α → Int) : List α → List α → Int
  | [], [] => 0
  | [], _ :: _ => -1
  | _ :: _, [] => 1
  | a :: l, b :: m => orI (c a b) (lcmp c l m)
theorem Pre.list (h : Pre P c) : Pre (fun l : List α => ∀ x ∈ l, P x) (lcmp c) where
  rng := by
    intro l
    induction l with
    | nil => intro m _ _; cases m <;> simp [lcmp]
    | cons a l ih =>
      intro m hl hm
      cases m with
      | nil => simp [lcmp]
      | cons b m => exact h.or_rng (hl a (by simp)) (hm b (by simp)) (ih m (fun x hx => hl x (by simp [hx])) (fun x hx => hm x (by simp [hx])))
  anti := by
    intro l
    induction l with
    | nil => intro m _ _; cases m <;> simp [lcmp]
    | cons a l ih =>
      intro m hl hm
      cases m with
      | nil => simp [lcmp]
      | cons b m => exact h.or_anti (hl a (by simp)) (hm b (by simp)) (ih m (fun x hx => hl x (by simp [hx])) (fun x hx => hm x (by simp [hx])))
  trans := by
    intro l
    induction l with
    | nil => intro m n _ _ _ _ _; cases n <;> simp [lcmp]
    | cons a l ih =>
      intro m n hl hm hn h1 h2
      cases m with
      | nil => simp [lcmp] at h1
      | cons b m =>
        cases n with
        | nil => simp [lcmp] at h2
        | cons d n =>
          exact h.or_trans (hl a (by simp)) (hm b (by simp)) (hn d (by simp)) h1 h2 (ih m n (fun x hx => hl x (by simp [hx])) (fun x hx => hm x (by simp [hx])) (fun x hx => hn x (by simp [hx])))
theorem lcmp_eq (he : ∀ a b, P a → P b → c a b = 0 → a = b) : ∀ (l m : List α), (∀ x ∈ l, P x) → (∀ x ∈ m, P x) → lcmp c l m = 0 → l = m
  | [], [], _, _, _ => rfl
  | [], _ :: _, _, _, h => by simp [lcmp] at h
  | _ :: _, [], _, _, h => by simp [lcmp] at h
  | a :: l, b :: m, hl, hm, h => by
    obtain ⟨h1, h2⟩ := orI_zero (show orI (c a b) (lcmp c l m) = 0 from h)
    rw [he a b (hl a (by simp)) (hm b (by simp)) h1, lcmp_eq he l m (fun x hx => hl x (by simp [hx])) (fun x hx => hm x (by simp [hx])) h2]
end
def icmp (a b : Int) : Int := if a < b then -1 else if a > b then 1 else 0
theorem icmp_pre : Pre (fun _ => True) icmp where
  rng a b _ _ := by unfold icmp; split <;> (try split) <;> omega
  anti a b _ _ := by unfold icmp; split <;> split <;> (try split) <;> (try split) <;> omega
  trans a b d _ _ _ h1 h2 := by
    unfold icmp at *
    by_cases e1 : a < b
    · by_cases e2 : b < d
      · rw [if_pos (by omega)]; omega
      · rw [if_neg e2] at h2
        split at h2
        · omega
        · rw [if_pos (by omega)]; omega
    · rw [if_neg e1] at h1
      split at h1
      · omega
      · by_cases e2 : b < d
        · rw [if_pos (by omega)]; omega
        · rw [if_neg e2] at h2
          split at h2
          · omega
          · rw [if_neg (by omega), if_neg (by omega)]; omega
theorem icmp_eq {a b : Int} (h : icmp a b = 0) : a = b := by
  unfold icmp at h
  split at h
  · omega
  · split at h <;> omega
theorem zcmp_pre : Pre (fun _ => True) zcmp where
  rng a b _ _ := by
    have h1 := ncmp_good.rng (b.drop 1) (a.drop 1) trivial trivial
    have h2 := ncmp_good.rng a b trivial trivial
    simp only [List.drop_one] at h1
    simp only [zcmp]; cases minus a <;> cases minus b <;> simp <;> first | exact h1 | exact h2
  anti a b _ _ := by
    have h1 := ncmp_good.anti (b.drop 1) (a.drop 1) trivial trivial
    have h2 := ncmp_good.anti a b trivial trivial
    simp only [zcmp]; cases minus a <;> cases minus b <;> simp <;> first | exact h2 | simpa using h1
  trans a b d _ _ _ h1 h2 := by
    have t1 := ncmp_good.trans a b d trivial trivial trivial
    have t2 := ncmp_good.trans (d.drop 1) (b.drop 1) (a.drop 1) trivial trivial trivial
    simp only [zcmp] at *
    cases ma : minus a <;> cases mb : minus b <;> cases md : minus d <;> simp [ma, mb, md] at *
    all_goals first
      | exact t1 h1 h2
      | exact t2 h2 h1
      | omega
end Hm

/- Whole numbers in tens, as the program has them. Conditions: see each theorem. -/
namespace Hm
open Go (IntKind)
set_option maxHeartbeats 4000000
set_option maxRecDepth 4000
def two (v w : AV) : CR := ⟨[([.av v], false), ([.av w], false)], []⟩
theorem Qend.two {fn : AFun} {as : List Arg} {v w v' w' : AV} {st : St} (hr : results st fn.results = some [([.av v], false), ([.av w], false)]) (ho : outs st 0 as = some []) (h : v = v') (h' : w = w') : Qend fn as (Hm.two v' w') .ret st := by
  subst h h'; exact ⟨.inr rfl, hr, ho⟩
theorem tensFormed_ret {T : Tab} (h : Fn T F.tens_Formed tens_Formed.fn) (s : Str) (hb : s.length ≤ 1073741824) : Ret T F.tens_Formed [.val (.str s)] (one (.bool (number s))) := by
  refine Ret.mk h rfl ?_
  by_cases hs : s = [48]
  · subst hs
    repeat' (first
      | refine WO.cons ?_ | refine WB.cons ?_ | refine WP.one ?_
      | (apply W1.add64; exact rfl; exact rfl; exact rfl; omega; omega) | (apply W1.sub64; exact rfl; exact rfl; exact rfl; omega; omega)
      | (apply W1.iadr; exact rfl; exact rfl; exact rfl; omega; first | exact V.get_row (by assumption) | exact get_srow (by assumption) | exact get_ty (by assumption) | exact get_ar (by assumption) | exact get_ob (by assumption) | exact get_sprow (by assumption) | exact get_brow (by assumption) | assumption)
      | (apply W1.idxS; exact rfl; exact rfl; exact rfl; omega; omega) | (apply W1.slcS; exact rfl; exact rfl; exact rfl; exact rfl; omega)
      | (apply W1.pickT; exact rfl; exact rfl; exact (by first | with_reducible rfl | assumption | (simp only [Bool.not_eq_true', Bool.not_eq_false', decide_eq_true_eq, decide_eq_false_iff_not, bne_iff_ne, beq_iff_eq, bne_eq_false_iff_eq, beq_eq_false_iff_ne, ne_eq]; first | omega | assumption | decide)); exact rfl) | (apply W1.pickF; exact rfl; exact rfl; exact (by first | with_reducible rfl | assumption | (simp only [Bool.not_eq_true', Bool.not_eq_false', decide_eq_true_eq, decide_eq_false_iff_not, bne_iff_ne, beq_iff_eq, bne_eq_false_iff_eq, beq_eq_false_iff_ne, ne_eq]; first | omega | assumption | decide)); exact rfl)
      | (apply W1.op; exact rfl; exact rfl; exact rfl) | (apply W1.no; exact rfl)
      | (refine W1.knowT (by exact rfl) (by first | with_reducible rfl | assumption | (simp only [Bool.not_eq_true', Bool.not_eq_false', decide_eq_true_eq, decide_eq_false_iff_not, bne_iff_ne, beq_iff_eq, bne_eq_false_iff_eq, beq_eq_false_iff_ne, ne_eq]; first | omega | assumption | decide)) ?_) | (refine W1.knowTn (by exact rfl) (by first | with_reducible rfl | assumption | (simp only [Bool.not_eq_true', Bool.not_eq_false', decide_eq_true_eq, decide_eq_false_iff_not, bne_iff_ne, beq_iff_eq, bne_eq_false_iff_eq, beq_eq_false_iff_ne, ne_eq]; first | omega | assumption | decide)) ?_) | (refine W1.knowF (by exact rfl) (by first | with_reducible rfl | assumption | (simp only [Bool.not_eq_true', Bool.not_eq_false', decide_eq_true_eq, decide_eq_false_iff_not, bne_iff_ne, beq_iff_eq, bne_eq_false_iff_eq, beq_eq_false_iff_ne, ne_eq]; first | omega | assumption | decide)) ?_) | (refine W1.knowFn (by exact rfl) (by first | with_reducible rfl | assumption | (simp only [Bool.not_eq_true', Bool.not_eq_false', decide_eq_true_eq, decide_eq_false_iff_not, bne_iff_ne, beq_iff_eq, bne_eq_false_iff_eq, beq_eq_false_iff_ne, ne_eq]; first | omega | assumption | decide)) ?_)
      | (refine W1.bothT (by exact rfl) (fun hc => ?_) (fun hc => ?_) <;> first | (cases hc; done) | ((try simp only [hc]); (try simp only [decide_eq_true_eq, decide_eq_false_iff_not, Int.not_le, Int.not_lt, bne_iff_ne, beq_iff_eq, bne_eq_false_iff_eq, beq_eq_false_iff_ne, ne_eq] at hc))) | (refine W1.bothF (by exact rfl) (fun hc => ?_) (fun hc => ?_) <;> first | (cases hc; done) | ((try simp only [hc]); (try simp only [decide_eq_true_eq, decide_eq_false_iff_not, Int.not_le, Int.not_lt, bne_iff_ne, beq_iff_eq, bne_eq_false_iff_eq, beq_eq_false_iff_ne, ne_eq] at hc)))
      | (apply WQ.go; exact rfl; exact rfl) | (apply WQ.no; exact rfl)
      | (refine WQ.knowT (by exact rfl) (by first | with_reducible rfl | assumption | (simp only [Bool.not_eq_true', Bool.not_eq_false', decide_eq_true_eq, decide_eq_false_iff_not, bne_iff_ne, beq_iff_eq, bne_eq_false_iff_eq, beq_eq_false_iff_ne, ne_eq]; first | omega | assumption | decide)) ?_) | (refine WQ.knowTn (by exact rfl) (by first | with_reducible rfl | assumption | (simp only [Bool.not_eq_true', Bool.not_eq_false', decide_eq_true_eq, decide_eq_false_iff_not, bne_iff_ne, beq_iff_eq, bne_eq_false_iff_eq, beq_eq_false_iff_ne, ne_eq]; first | omega | assumption | decide)) ?_) | (refine WQ.knowF (by exact rfl) (by first | with_reducible rfl | assumption | (simp only [Bool.not_eq_true', Bool.not_eq_false', decide_eq_true_eq, decide_eq_false_iff_not, bne_iff_ne, beq_iff_eq, bne_eq_false_iff_eq, beq_eq_false_iff_ne, ne_eq]; first | omega | assumption | decide)) ?_) | (refine WQ.knowFn (by exact rfl) (by first | with_reducible rfl | assumption | (simp only [Bool.not_eq_true', Bool.not_eq_false', decide_eq_true_eq, decide_eq_false_iff_not, bne_iff_ne, beq_iff_eq, bne_eq_false_iff_eq, beq_eq_false_iff_ne, ne_eq]; first | omega | assumption | decide)) ?_)
      | (refine WQ.bothT (by exact rfl) (fun hc => ?_) (fun hc => ?_) <;> first | (cases hc; done) | ((try simp only [hc]); (try simp only [decide_eq_true_eq, decide_eq_false_iff_not, Int.not_le, Int.not_lt, bne_iff_ne, beq_iff_eq, bne_eq_false_iff_eq, beq_eq_false_iff_ne, ne_eq] at hc))) | (refine WQ.bothF (by exact rfl) (fun hc => ?_) (fun hc => ?_) <;> first | (cases hc; done) | ((try simp only [hc]); (try simp only [decide_eq_true_eq, decide_eq_false_iff_not, Int.not_le, Int.not_lt, bne_iff_ne, beq_iff_eq, bne_eq_false_iff_eq, beq_eq_false_iff_ne, ne_eq] at hc)))
      | refine WO.nil ?_ | refine WB.nil ?_ | refine WP.bag rfl ?_ | refine WP.nil ?_ | refine W.seq ?_ | refine W.reg ?_ | refine W.dreg ?_ | refine W.block ?_
      | (refine W.condT (by exact rfl) (by first | with_reducible rfl | assumption | (simp only [Bool.not_eq_true', Bool.not_eq_false', decide_eq_true_eq, decide_eq_false_iff_not, bne_iff_ne, beq_iff_eq, bne_eq_false_iff_eq, beq_eq_false_iff_ne, ne_eq]; first | omega | assumption | decide)) ?_) | (refine W.condF (by exact rfl) (by first | with_reducible rfl | assumption | (simp only [Bool.not_eq_true', Bool.not_eq_false', decide_eq_true_eq, decide_eq_false_iff_not, bne_iff_ne, beq_iff_eq, bne_eq_false_iff_eq, beq_eq_false_iff_ne, ne_eq]; first | omega | assumption | decide)) ?_)
      | (refine W.cond (by exact rfl) (fun hc => ?_) (fun hc => ?_) <;> first | (cases hc; done) | ((try simp only [hc]); (try simp only [decide_eq_true_eq, decide_eq_false_iff_not, Int.not_le, Int.not_lt, bne_iff_ne, beq_iff_eq, bne_eq_false_iff_eq, beq_eq_false_iff_ne, ne_eq] at hc)))
      | refine W.ret ?_ | refine W.skip ?_ | refine W.exit ?_
      | (simp only [sprow_len, brow_len, srow_len, List.length_map, Qit, Int.toNat_natCast, entry, Opd.eat, cellsOf, getE_upd, getB_upd, TV.ofCells, allAv, Qseq, Qblk, keep_eq, List.map_cons, List.map_nil, putD, put_env, put_box, lstE_cons, lstE_nil, lstB_cons, lstB_nil, Nat.reduceEqDiff, ↓reduceIte, kept_av, kept_own, kept_und, kept_skp, kept_tup, kept_plcB, kept_plcS, kept_aliN, kept_aliB, kept_aliS, List.contains_cons, List.contains_nil, beq_self_eq_true, Nat.reduceBEq, Bool.or_false, Bool.false_or, Bool.or_true, Bool.true_or]))
    exact Qend.boo rfl rfl rfl
  have hs' : (s == [48]) = false := beq_eq_false_iff_ne.2 hs
  have hnum : number s = ((digs s).all isDig && decide (0 < (digs s).length) && !(bAt (digs s) 0 == 48)) := by simp only [number, hs', Bool.not_false, Bool.and_true]
  have fin : ∀ d : Str, d = digs s → 0 < d.length → ¬ ((bAt d 0).toNat : Int) = 48 → d.length ≤ 1073741824 → W T (AC.loop [0, 23, 24] tens_Formed.l1) ⟨lstE [(0, .av (.str d)), (23, .av (.int .i64 (d.length : Nat))), (24, .av (.int .i64 0))], lstB [(0, none), (23, none), (24, none)]⟩
      (Qblk 0 (Qseq T ((AC.reg tens_Formed.r13 [2]).seq AC.ret) (Qend tens_Formed.fn [.val (.str s)] (one (.bool (number s)))))) := by
    intro d hd hl h48 hlb
    refine W.listP d (fun i (_ : Unit) s => s.put 24 (.av (.int .i64 (i : Int)))) (fun i _ => (d.take i).all isDig = true) () (by simp) rfl ?_ ?_
    · intro i x u hx hi hp
      have e := bAt_get hx
      have e' : bAt d ((i : Int)).toNat = x := e
      repeat' (first
        | refine WO.cons ?_ | refine WB.cons ?_ | refine WP.one ?_
        | (apply W1.add64; exact rfl; exact rfl; exact rfl; omega; omega) | (apply W1.sub64; exact rfl; exact rfl; exact rfl; omega; omega)
        | (apply W1.iadr; exact rfl; exact rfl; exact rfl; omega; first | exact V.get_row (by assumption) | exact get_srow (by assumption) | exact get_ty (by assumption) | exact get_ar (by assumption) | exact get_ob (by assumption) | exact get_sprow (by assumption) | exact get_brow (by assumption) | assumption)
        | (apply W1.idxS; exact rfl; exact rfl; exact rfl; omega; omega) | (apply W1.slcS; exact rfl; exact rfl; exact rfl; exact rfl; omega)
        | (apply W1.pickT; exact rfl; exact rfl; exact (by first | with_reducible rfl | assumption | (simp only [Bool.not_eq_true', Bool.not_eq_false', decide_eq_true_eq, decide_eq_false_iff_not, bne_iff_ne, beq_iff_eq, bne_eq_false_iff_eq, beq_eq_false_iff_ne, ne_eq]; first | omega | assumption | decide)); exact rfl) | (apply W1.pickF; exact rfl; exact rfl; exact (by first | with_reducible rfl | assumption | (simp only [Bool.not_eq_true', Bool.not_eq_false', decide_eq_true_eq, decide_eq_false_iff_not, bne_iff_ne, beq_iff_eq, bne_eq_false_iff_eq, beq_eq_false_iff_ne, ne_eq]; first | omega | assumption | decide)); exact rfl)
        | (apply W1.op; exact rfl; exact rfl; exact rfl) | (apply W1.no; exact rfl)
        | (refine W1.knowT (by exact rfl) (by first | with_reducible rfl | assumption | (simp only [Bool.not_eq_true', Bool.not_eq_false', decide_eq_true_eq, decide_eq_false_iff_not, bne_iff_ne, beq_iff_eq, bne_eq_false_iff_eq, beq_eq_false_iff_ne, ne_eq]; first | omega | assumption | decide)) ?_) | (refine W1.knowTn (by exact rfl) (by first | with_reducible rfl | assumption | (simp only [Bool.not_eq_true', Bool.not_eq_false', decide_eq_true_eq, decide_eq_false_iff_not, bne_iff_ne, beq_iff_eq, bne_eq_false_iff_eq, beq_eq_false_iff_ne, ne_eq]; first | omega | assumption | decide)) ?_) | (refine W1.knowF (by exact rfl) (by first | with_reducible rfl | assumption | (simp only [Bool.not_eq_true', Bool.not_eq_false', decide_eq_true_eq, decide_eq_false_iff_not, bne_iff_ne, beq_iff_eq, bne_eq_false_iff_eq, beq_eq_false_iff_ne, ne_eq]; first | omega | assumption | decide)) ?_) | (refine W1.knowFn (by exact rfl) (by first | with_reducible rfl | assumption | (simp only [Bool.not_eq_true', Bool.not_eq_false', decide_eq_true_eq, decide_eq_false_iff_not, bne_iff_ne, beq_iff_eq, bne_eq_false_iff_eq, beq_eq_false_iff_ne, ne_eq]; first | omega | assumption | decide)) ?_)
        | (refine W1.bothT (by exact rfl) (fun hc => ?_) (fun hc => ?_) <;> first | (cases hc; done) | ((try simp only [hc]); (try simp only [decide_eq_true_eq, decide_eq_false_iff_not, Int.not_le, Int.not_lt, bne_iff_ne, beq_iff_eq, bne_eq_false_iff_eq, beq_eq_false_iff_ne, ne_eq] at hc))) | (refine W1.bothF (by exact rfl) (fun hc => ?_) (fun hc => ?_) <;> first | (cases hc; done) | ((try simp only [hc]); (try simp only [decide_eq_true_eq, decide_eq_false_iff_not, Int.not_le, Int.not_lt, bne_iff_ne, beq_iff_eq, bne_eq_false_iff_eq, beq_eq_false_iff_ne, ne_eq] at hc)))
        | (apply WQ.go; exact rfl; exact rfl) | (apply WQ.no; exact rfl)
        | (refine WQ.knowT (by exact rfl) (by first | with_reducible rfl | assumption | (simp only [Bool.not_eq_true', Bool.not_eq_false', decide_eq_true_eq, decide_eq_false_iff_not, bne_iff_ne, beq_iff_eq, bne_eq_false_iff_eq, beq_eq_false_iff_ne, ne_eq]; first | omega | assumption | decide)) ?_) | (refine WQ.knowTn (by exact rfl) (by first | with_reducible rfl | assumption | (simp only [Bool.not_eq_true', Bool.not_eq_false', decide_eq_true_eq, decide_eq_false_iff_not, bne_iff_ne, beq_iff_eq, bne_eq_false_iff_eq, beq_eq_false_iff_ne, ne_eq]; first | omega | assumption | decide)) ?_) | (refine WQ.knowF (by exact rfl) (by first | with_reducible rfl | assumption | (simp only [Bool.not_eq_true', Bool.not_eq_false', decide_eq_true_eq, decide_eq_false_iff_not, bne_iff_ne, beq_iff_eq, bne_eq_false_iff_eq, beq_eq_false_iff_ne, ne_eq]; first | omega | assumption | decide)) ?_) | (refine WQ.knowFn (by exact rfl) (by first | with_reducible rfl | assumption | (simp only [Bool.not_eq_true', Bool.not_eq_false', decide_eq_true_eq, decide_eq_false_iff_not, bne_iff_ne, beq_iff_eq, bne_eq_false_iff_eq, beq_eq_false_iff_ne, ne_eq]; first | omega | assumption | decide)) ?_)
        | (refine WQ.bothT (by exact rfl) (fun hc => ?_) (fun hc => ?_) <;> first | (cases hc; done) | ((try simp only [hc]); (try simp only [decide_eq_true_eq, decide_eq_false_iff_not, Int.not_le, Int.not_lt, bne_iff_ne, beq_iff_eq, bne_eq_false_iff_eq, beq_eq_false_iff_ne, ne_eq] at hc))) | (refine WQ.bothF (by exact rfl) (fun hc => ?_) (fun hc => ?_) <;> first | (cases hc; done) | ((try simp only [hc]); (try simp only [decide_eq_true_eq, decide_eq_false_iff_not, Int.not_le, Int.not_lt, bne_iff_ne, beq_iff_eq, bne_eq_false_iff_eq, beq_eq_false_iff_ne, ne_eq] at hc)))
        | refine WO.nil ?_ | refine WB.nil ?_ | refine WP.bag rfl ?_ | refine WP.nil ?_ | refine W.seq ?_ | refine W.reg ?_ | refine W.dreg ?_ | refine W.block ?_
        | (refine W.condT (by exact rfl) (by first | with_reducible rfl | assumption | (simp only [Bool.not_eq_true', Bool.not_eq_false', decide_eq_true_eq, decide_eq_false_iff_not, bne_iff_ne, beq_iff_eq, bne_eq_false_iff_eq, beq_eq_false_iff_ne, ne_eq]; first | omega | assumption | decide)) ?_) | (refine W.condF (by exact rfl) (by first | with_reducible rfl | assumption | (simp only [Bool.not_eq_true', Bool.not_eq_false', decide_eq_true_eq, decide_eq_false_iff_not, bne_iff_ne, beq_iff_eq, bne_eq_false_iff_eq, beq_eq_false_iff_ne, ne_eq]; first | omega | assumption | decide)) ?_)
        | (refine W.cond (by exact rfl) (fun hc => ?_) (fun hc => ?_) <;> first | (cases hc; done) | ((try simp only [hc]); (try simp only [decide_eq_true_eq, decide_eq_false_iff_not, Int.not_le, Int.not_lt, bne_iff_ne, beq_iff_eq, bne_eq_false_iff_eq, beq_eq_false_iff_ne, ne_eq] at hc)))
        | refine W.ret ?_ | refine W.skip ?_ | refine W.exit ?_
        | (simp only [sprow_len, brow_len, srow_len, List.length_map, Qit, Int.toNat_natCast, entry, Opd.eat, cellsOf, getE_upd, getB_upd, TV.ofCells, allAv, Qseq, Qblk, keep_eq, List.map_cons, List.map_nil, putD, put_env, put_box, lstE_cons, lstE_nil, lstB_cons, lstB_nil, Nat.reduceEqDiff, ↓reduceIte, kept_av, kept_own, kept_und, kept_skp, kept_tup, kept_plcB, kept_plcS, kept_aliN, kept_aliB, kept_aliS, List.contains_cons, List.contains_nil, beq_self_eq_true, Nat.reduceBEq, Bool.or_false, Bool.false_or, Bool.or_true, Bool.true_or]))
      all_goals first
        | (refine Qend.boo rfl rfl ?_; rw [hnum, ← hd, all_false hx (by rw [← e]; simp only [isDig, Bool.and_eq_false_iff, decide_eq_false_iff_not]; simp only [Int.toNat_natCast] at *; omega)]; rfl)
        | (refine ⟨(), ?_, rfl⟩; rw [all_take_succ hx, hp, ← e]; simp only [isDig, Bool.true_and, Bool.and_eq_true, decide_eq_true_eq]; simp only [Int.toNat_natCast] at *; omega)
        | skip
    · intro u hp
      rw [List.take_length] at hp
      repeat' (first
        | refine WO.cons ?_ | refine WB.cons ?_ | refine WP.one ?_
        | (apply W1.add64; exact rfl; exact rfl; exact rfl; omega; omega) | (apply W1.sub64; exact rfl; exact rfl; exact rfl; omega; omega)
        | (apply W1.iadr; exact rfl; exact rfl; exact rfl; omega; first | exact V.get_row (by assumption) | exact get_srow (by assumption) | exact get_ty (by assumption) | exact get_ar (by assumption) | exact get_ob (by assumption) | exact get_sprow (by assumption) | exact get_brow (by assumption) | assumption)
        | (apply W1.idxS; exact rfl; exact rfl; exact rfl; omega; omega) | (apply W1.slcS; exact rfl; exact rfl; exact rfl; exact rfl; omega)
        | (apply W1.pickT; exact rfl; exact rfl; exact (by first | with_reducible rfl | assumption | (simp only [Bool.not_eq_true', Bool.not_eq_false', decide_eq_true_eq, decide_eq_false_iff_not, bne_iff_ne, beq_iff_eq, bne_eq_false_iff_eq, beq_eq_false_iff_ne, ne_eq]; first | omega | assumption | decide)); exact rfl) | (apply W1.pickF; exact rfl; exact rfl; exact (by first | with_reducible rfl | assumption | (simp only [Bool.not_eq_true', Bool.not_eq_false', decide_eq_true_eq, decide_eq_false_iff_not, bne_iff_ne, beq_iff_eq, bne_eq_false_iff_eq, beq_eq_false_iff_ne, ne_eq]; first | omega | assumption | decide)); exact rfl)
        | (apply W1.op; exact rfl; exact rfl; exact rfl) | (apply W1.no; exact rfl)
        | (refine W1.knowT (by exact rfl) (by first | with_reducible rfl | assumption | (simp only [Bool.not_eq_true', Bool.not_eq_false', decide_eq_true_eq, decide_eq_false_iff_not, bne_iff_ne, beq_iff_eq, bne_eq_false_iff_eq, beq_eq_false_iff_ne, ne_eq]; first | omega | assumption | decide)) ?_) | (refine W1.knowTn (by exact rfl) (by first | with_reducible rfl | assumption | (simp only [Bool.not_eq_true', Bool.not_eq_false', decide_eq_true_eq, decide_eq_false_iff_not, bne_iff_ne, beq_iff_eq, bne_eq_false_iff_eq, beq_eq_false_iff_ne, ne_eq]; first | omega | assumption | decide)) ?_) | (refine W1.knowF (by exact rfl) (by first | with_reducible rfl | assumption | (simp only [Bool.not_eq_true', Bool.not_eq_false', decide_eq_true_eq, decide_eq_false_iff_not, bne_iff_ne, beq_iff_eq, bne_eq_false_iff_eq, beq_eq_false_iff_ne, ne_eq]; first | omega | assumption | decide)) ?_) | (refine W1.knowFn (by exact rfl) (by first | with_reducible rfl | assumption | (simp only [Bool.not_eq_true', Bool.not_eq_false', decide_eq_true_eq, decide_eq_false_iff_not, bne_iff_ne, beq_iff_eq, bne_eq_false_iff_eq, beq_eq_false_iff_ne, ne_eq]; first | omega | assumption | decide)) ?_)
        | (refine W1.bothT (by exact rfl) (fun hc => ?_) (fun hc => ?_) <;> first | (cases hc; done) | ((try simp only [hc]); (try simp only [decide_eq_true_eq, decide_eq_false_iff_not, Int.not_le, Int.not_lt, bne_iff_ne, beq_iff_eq, bne_eq_false_iff_eq, beq_eq_false_iff_ne, ne_eq] at hc))) | (refine W1.bothF (by exact rfl) (fun hc => ?_) (fun hc => ?_) <;> first | (cases hc; done) | ((try simp only [hc]); (try simp only [decide_eq_true_eq, decide_eq_false_iff_not, Int.not_le, Int.not_lt, bne_iff_ne, beq_iff_eq, bne_eq_false_iff_eq, beq_eq_false_iff_ne, ne_eq] at hc)))
        | (apply WQ.go; exact rfl; exact rfl) | (apply WQ.no; exact rfl)
        | (refine WQ.knowT (by exact rfl) (by first | with_reducible rfl | assumption | (simp only [Bool.not_eq_true', Bool.not_eq_false', decide_eq_true_eq, decide_eq_false_iff_not, bne_iff_ne, beq_iff_eq, bne_eq_false_iff_eq, beq_eq_false_iff_ne, ne_eq]; first | omega | assumption | decide)) ?_) | (refine WQ.knowTn (by exact rfl) (by first | with_reducible rfl | assumption | (simp only [Bool.not_eq_true', Bool.not_eq_false', decide_eq_true_eq, decide_eq_false_iff_not, bne_iff_ne, beq_iff_eq, bne_eq_false_iff_eq, beq_eq_false_iff_ne, ne_eq]; first | omega | assumption | decide)) ?_) | (refine WQ.knowF (by exact rfl) (by first | with_reducible rfl | assumption | (simp only [Bool.not_eq_true', Bool.not_eq_false', decide_eq_true_eq, decide_eq_false_iff_not, bne_iff_ne, beq_iff_eq, bne_eq_false_iff_eq, beq_eq_false_iff_ne, ne_eq]; first | omega | assumption | decide)) ?_) | (refine WQ.knowFn (by exact rfl) (by first | with_reducible rfl | assumption | (simp only [Bool.not_eq_true', Bool.not_eq_false', decide_eq_true_eq, decide_eq_false_iff_not, bne_iff_ne, beq_iff_eq, bne_eq_false_iff_eq, beq_eq_false_iff_ne, ne_eq]; first | omega | assumption | decide)) ?_)
        | (refine WQ.bothT (by exact rfl) (fun hc => ?_) (fun hc => ?_) <;> first | (cases hc; done) | ((try simp only [hc]); (try simp only [decide_eq_true_eq, decide_eq_false_iff_not, Int.not_le, Int.not_lt, bne_iff_ne, beq_iff_eq, bne_eq_false_iff_eq, beq_eq_false_iff_ne, ne_eq] at hc))) | (refine WQ.bothF (by exact rfl) (fun hc => ?_) (fun hc => ?_) <;> first | (cases hc; done) | ((try simp only [hc]); (try simp only [decide_eq_true_eq, decide_eq_false_iff_not, Int.not_le, Int.not_lt, bne_iff_ne, beq_iff_eq, bne_eq_false_iff_eq, beq_eq_false_iff_ne, ne_eq] at hc)))
        | refine WO.nil ?_ | refine WB.nil ?_ | refine WP.bag rfl ?_ | refine WP.nil ?_ | refine W.seq ?_ | refine W.reg ?_ | refine W.dreg ?_ | refine W.block ?_
        | (refine W.condT (by exact rfl) (by first | with_reducible rfl | assumption | (simp only [Bool.not_eq_true', Bool.not_eq_false', decide_eq_true_eq, decide_eq_false_iff_not, bne_iff_ne, beq_iff_eq, bne_eq_false_iff_eq, beq_eq_false_iff_ne, ne_eq]; first | omega | assumption | decide)) ?_) | (refine W.condF (by exact rfl) (by first | with_reducible rfl | assumption | (simp only [Bool.not_eq_true', Bool.not_eq_false', decide_eq_true_eq, decide_eq_false_iff_not, bne_iff_ne, beq_iff_eq, bne_eq_false_iff_eq, beq_eq_false_iff_ne, ne_eq]; first | omega | assumption | decide)) ?_)
        | (refine W.cond (by exact rfl) (fun hc => ?_) (fun hc => ?_) <;> first | (cases hc; done) | ((try simp only [hc]); (try simp only [decide_eq_true_eq, decide_eq_false_iff_not, Int.not_le, Int.not_lt, bne_iff_ne, beq_iff_eq, bne_eq_false_iff_eq, beq_eq_false_iff_ne, ne_eq] at hc)))
        | refine W.ret ?_ | refine W.skip ?_ | refine W.exit ?_
        | (simp only [sprow_len, brow_len, srow_len, List.length_map, Qit, Int.toNat_natCast, entry, Opd.eat, cellsOf, getE_upd, getB_upd, TV.ofCells, allAv, Qseq, Qblk, keep_eq, List.map_cons, List.map_nil, putD, put_env, put_box, lstE_cons, lstE_nil, lstB_cons, lstB_nil, Nat.reduceEqDiff, ↓reduceIte, kept_av, kept_own, kept_und, kept_skp, kept_tup, kept_plcB, kept_plcS, kept_aliN, kept_aliB, kept_aliS, List.contains_cons, List.contains_nil, beq_self_eq_true, Nat.reduceBEq, Bool.or_false, Bool.false_or, Bool.or_true, Bool.true_or]))
      refine Qend.boo rfl rfl ?_
      have : ¬ bAt d 0 = 48 := fun h => h48 ((u8_eq _ 48 (by omega)).2 h)
      have : (bAt d 0 == 48) = false := beq_eq_false_iff_ne.2 this
      rw [hnum, ← hd, hp, decide_eq_true hl, this]; rfl
  by_cases hm : 0 < s.length ∧ ((bAt s 0).toNat : Int) = 45
  · have hd : digs s = s.drop 1 := by rw [digs, if_pos ⟨hm.1, (u8_eq _ 45 (by omega)).1 hm.2⟩]
    have ed : List.drop (Int.toNat 1) (List.take s.length s) = s.drop 1 := by rw [List.take_length]; rfl
    have hne : ¬ s = [] := (fun h => by rw [h] at hm; simp at hm)
    have hm' : ((bAt s (Int.toNat 0)).toNat : Int) = 45 := hm.2
    by_cases hl : 0 < (s.drop 1).length
    · have hne2 : ¬ List.drop (Int.toNat 1) (List.take s.length s) = [] := by rw [ed]; exact (fun h => by rw [h] at hl; simp at hl)
      have hl2 : 0 < (List.drop (Int.toNat 1) (List.take s.length s)).length := by rw [ed]; exact hl
      by_cases h48 : ((bAt (s.drop 1) 0).toNat : Int) = 48
      · have h48' : ((bAt (List.drop (Int.toNat 1) (List.take s.length s)) (Int.toNat 0)).toNat : Int) = 48 := by rw [ed]; exact h48
        repeat' (first
          | refine WO.cons ?_ | refine WB.cons ?_ | refine WP.one ?_
          | (apply W1.add64; exact rfl; exact rfl; exact rfl; omega; omega) | (apply W1.sub64; exact rfl; exact rfl; exact rfl; omega; omega)
          | (apply W1.iadr; exact rfl; exact rfl; exact rfl; omega; first | exact V.get_row (by assumption) | exact get_srow (by assumption) | exact get_ty (by assumption) | exact get_ar (by assumption) | exact get_ob (by assumption) | exact get_sprow (by assumption) | exact get_brow (by assumption) | assumption)
          | (apply W1.idxS; exact rfl; exact rfl; exact rfl; omega; omega) | (apply W1.slcS; exact rfl; exact rfl; exact rfl; exact rfl; omega)
          | (apply W1.pickT; exact rfl; exact rfl; exact (by first | with_reducible rfl | assumption | (simp only [Bool.not_eq_true', Bool.not_eq_false', decide_eq_true_eq, decide_eq_false_iff_not, bne_iff_ne, beq_iff_eq, bne_eq_false_iff_eq, beq_eq_false_iff_ne, ne_eq]; first | omega | assumption | decide)); exact rfl) | (apply W1.pickF; exact rfl; exact rfl; exact (by first | with_reducible rfl | assumption | (simp only [Bool.not_eq_true', Bool.not_eq_false', decide_eq_true_eq, decide_eq_false_iff_not, bne_iff_ne, beq_iff_eq, bne_eq_false_iff_eq, beq_eq_false_iff_ne, ne_eq]; first | omega | assumption | decide)); exact rfl)
          | (apply W1.op; exact rfl; exact rfl; exact rfl) | (apply W1.no; exact rfl)
          | (refine W1.knowT (by exact rfl) (by first | with_reducible rfl | assumption | (simp only [Bool.not_eq_true', Bool.not_eq_false', decide_eq_true_eq, decide_eq_false_iff_not, bne_iff_ne, beq_iff_eq, bne_eq_false_iff_eq, beq_eq_false_iff_ne, ne_eq]; first | omega | assumption | decide)) ?_) | (refine W1.knowTn (by exact rfl) (by first | with_reducible rfl | assumption | (simp only [Bool.not_eq_true', Bool.not_eq_false', decide_eq_true_eq, decide_eq_false_iff_not, bne_iff_ne, beq_iff_eq, bne_eq_false_iff_eq, beq_eq_false_iff_ne, ne_eq]; first | omega | assumption | decide)) ?_) | (refine W1.knowF (by exact rfl) (by first | with_reducible rfl | assumption | (simp only [Bool.not_eq_true', Bool.not_eq_false', decide_eq_true_eq, decide_eq_false_iff_not, bne_iff_ne, beq_iff_eq, bne_eq_false_iff_eq, beq_eq_false_iff_ne, ne_eq]; first | omega | assumption | decide)) ?_) | (refine W1.knowFn (by exact rfl) (by first | with_reducible rfl | assumption | (simp only [Bool.not_eq_true', Bool.not_eq_false', decide_eq_true_eq, decide_eq_false_iff_not, bne_iff_ne, beq_iff_eq, bne_eq_false_iff_eq, beq_eq_false_iff_ne, ne_eq]; first | omega | assumption | decide)) ?_)
          | (refine W1.bothT (by exact rfl) (fun hc => ?_) (fun hc => ?_) <;> first | (cases hc; done) | ((try simp only [hc]); (try simp only [decide_eq_true_eq, decide_eq_false_iff_not, Int.not_le, Int.not_lt, bne_iff_ne, beq_iff_eq, bne_eq_false_iff_eq, beq_eq_false_iff_ne, ne_eq] at hc))) | (refine W1.bothF (by exact rfl) (fun hc => ?_) (fun hc => ?_) <;> first | (cases hc; done) | ((try simp only [hc]); (try simp only [decide_eq_true_eq, decide_eq_false_iff_not, Int.not_le, Int.not_lt, bne_iff_ne, beq_iff_eq, bne_eq_false_iff_eq, beq_eq_false_iff_ne, ne_eq] at hc)))
          | (apply WQ.go; exact rfl; exact rfl) | (apply WQ.no; exact rfl)
          | (refine WQ.knowT (by exact rfl) (by first | with_reducible rfl | assumption | (simp only [Bool.not_eq_true', Bool.not_eq_false', decide_eq_true_eq, decide_eq_false_iff_not, bne_iff_ne, beq_iff_eq, bne_eq_false_iff_eq, beq_eq_false_iff_ne, ne_eq]; first | omega | assumption | decide)) ?_) | (refine WQ.knowTn (by exact rfl) (by first | with_reducible rfl | assumption | (simp only [Bool.not_eq_true', Bool.not_eq_false', decide_eq_true_eq, decide_eq_false_iff_not, bne_iff_ne, beq_iff_eq, bne_eq_false_iff_eq, beq_eq_false_iff_ne, ne_eq]; first | omega | assumption | decide)) ?_) | (refine WQ.knowF (by exact rfl) (by first | with_reducible rfl | assumption | (simp only [Bool.not_eq_true', Bool.not_eq_false', decide_eq_true_eq, decide_eq_false_iff_not, bne_iff_ne, beq_iff_eq, bne_eq_false_iff_eq, beq_eq_false_iff_ne, ne_eq]; first | omega | assumption | decide)) ?_) | (refine WQ.knowFn (by exact rfl) (by first | with_reducible rfl | assumption | (simp only [Bool.not_eq_true', Bool.not_eq_false', decide_eq_true_eq, decide_eq_false_iff_not, bne_iff_ne, beq_iff_eq, bne_eq_false_iff_eq, beq_eq_false_iff_ne, ne_eq]; first | omega | assumption | decide)) ?_)
          | (refine WQ.bothT (by exact rfl) (fun hc => ?_) (fun hc => ?_) <;> first | (cases hc; done) | ((try simp only [hc]); (try simp only [decide_eq_true_eq, decide_eq_false_iff_not, Int.not_le, Int.not_lt, bne_iff_ne, beq_iff_eq, bne_eq_false_iff_eq, beq_eq_false_iff_ne, ne_eq] at hc))) | (refine WQ.bothF (by exact rfl) (fun hc => ?_) (fun hc => ?_) <;> first | (cases hc; done) | ((try simp only [hc]); (try simp only [decide_eq_true_eq, decide_eq_false_iff_not, Int.not_le, Int.not_lt, bne_iff_ne, beq_iff_eq, bne_eq_false_iff_eq, beq_eq_false_iff_ne, ne_eq] at hc)))
          | refine WO.nil ?_ | refine WB.nil ?_ | refine WP.bag rfl ?_ | refine WP.nil ?_ | refine W.seq ?_ | refine W.reg ?_ | refine W.dreg ?_ | refine W.block ?_
          | (refine W.condT (by exact rfl) (by first | with_reducible rfl | assumption | (simp only [Bool.not_eq_true', Bool.not_eq_false', decide_eq_true_eq, decide_eq_false_iff_not, bne_iff_ne, beq_iff_eq, bne_eq_false_iff_eq, beq_eq_false_iff_ne, ne_eq]; first | omega | assumption | decide)) ?_) | (refine W.condF (by exact rfl) (by first | with_reducible rfl | assumption | (simp only [Bool.not_eq_true', Bool.not_eq_false', decide_eq_true_eq, decide_eq_false_iff_not, bne_iff_ne, beq_iff_eq, bne_eq_false_iff_eq, beq_eq_false_iff_ne, ne_eq]; first | omega | assumption | decide)) ?_)
          | (refine W.cond (by exact rfl) (fun hc => ?_) (fun hc => ?_) <;> first | (cases hc; done) | ((try simp only [hc]); (try simp only [decide_eq_true_eq, decide_eq_false_iff_not, Int.not_le, Int.not_lt, bne_iff_ne, beq_iff_eq, bne_eq_false_iff_eq, beq_eq_false_iff_ne, ne_eq] at hc)))
          | refine W.ret ?_ | refine W.skip ?_ | refine W.exit ?_
          | (simp only [sprow_len, brow_len, srow_len, List.length_map, Qit, Int.toNat_natCast, entry, Opd.eat, cellsOf, getE_upd, getB_upd, TV.ofCells, allAv, Qseq, Qblk, keep_eq, List.map_cons, List.map_nil, putD, put_env, put_box, lstE_cons, lstE_nil, lstB_cons, lstB_nil, Nat.reduceEqDiff, ↓reduceIte, kept_av, kept_own, kept_und, kept_skp, kept_tup, kept_plcB, kept_plcS, kept_aliN, kept_aliB, kept_aliS, List.contains_cons, List.contains_nil, beq_self_eq_true, Nat.reduceBEq, Bool.or_false, Bool.false_or, Bool.or_true, Bool.true_or]))
        refine Qend.boo rfl rfl ?_
        have : (bAt (s.drop 1) 0) = 48 := (u8_eq _ 48 (by omega)).1 h48
        rw [hnum, hd, this]; simp
      · have h48' : ¬ ((bAt (List.drop (Int.toNat 1) (List.take s.length s)) (Int.toNat 0)).toNat : Int) = 48 := by rw [ed]; exact h48
        repeat' (first
          | refine WO.cons ?_ | refine WB.cons ?_ | refine WP.one ?_
          | (exact fin _ (ed.trans hd.symm) (by rw [ed]; exact hl) h48' (by rw [ed]; simp; omega))
          | (apply W1.add64; exact rfl; exact rfl; exact rfl; omega; omega) | (apply W1.sub64; exact rfl; exact rfl; exact rfl; omega; omega)
          | (apply W1.iadr; exact rfl; exact rfl; exact rfl; omega; first | exact V.get_row (by assumption) | exact get_srow (by assumption) | exact get_ty (by assumption) | exact get_ar (by assumption) | exact get_ob (by assumption) | exact get_sprow (by assumption) | exact get_brow (by assumption) | assumption)
          | (apply W1.idxS; exact rfl; exact rfl; exact rfl; omega; omega) | (apply W1.slcS; exact rfl; exact rfl; exact rfl; exact rfl; omega)
          | (apply W1.pickT; exact rfl; exact rfl; exact (by first | with_reducible rfl | assumption | (simp only [Bool.not_eq_true', Bool.not_eq_false', decide_eq_true_eq, decide_eq_false_iff_not, bne_iff_ne, beq_iff_eq, bne_eq_false_iff_eq, beq_eq_false_iff_ne, ne_eq]; first | omega | assumption | decide)); exact rfl) | (apply W1.pickF; exact rfl; exact rfl; exact (by first | with_reducible rfl | assumption | (simp only [Bool.not_eq_true', Bool.not_eq_false', decide_eq_true_eq, decide_eq_false_iff_not, bne_iff_ne, beq_iff_eq, bne_eq_false_iff_eq, beq_eq_false_iff_ne, ne_eq]; first | omega | assumption | decide)); exact rfl)
          | (apply W1.op; exact rfl; exact rfl; exact rfl) | (apply W1.no; exact rfl)
          | (refine W1.knowT (by exact rfl) (by first | with_reducible rfl | assumption | (simp only [Bool.not_eq_true', Bool.not_eq_false', decide_eq_true_eq, decide_eq_false_iff_not, bne_iff_ne, beq_iff_eq, bne_eq_false_iff_eq, beq_eq_false_iff_ne, ne_eq]; first | omega | assumption | decide)) ?_) | (refine W1.knowTn (by exact rfl) (by first | with_reducible rfl | assumption | (simp only [Bool.not_eq_true', Bool.not_eq_false', decide_eq_true_eq, decide_eq_false_iff_not, bne_iff_ne, beq_iff_eq, bne_eq_false_iff_eq, beq_eq_false_iff_ne, ne_eq]; first | omega | assumption | decide)) ?_) | (refine W1.knowF (by exact rfl) (by first | with_reducible rfl | assumption | (simp only [Bool.not_eq_true', Bool.not_eq_false', decide_eq_true_eq, decide_eq_false_iff_not, bne_iff_ne, beq_iff_eq, bne_eq_false_iff_eq, beq_eq_false_iff_ne, ne_eq]; first | omega | assumption | decide)) ?_) | (refine W1.knowFn (by exact rfl) (by first | with_reducible rfl | assumption | (simp only [Bool.not_eq_true', Bool.not_eq_false', decide_eq_true_eq, decide_eq_false_iff_not, bne_iff_ne, beq_iff_eq, bne_eq_false_iff_eq, beq_eq_false_iff_ne, ne_eq]; first | omega | assumption | decide)) ?_)
          | (refine W1.bothT (by exact rfl) (fun hc => ?_) (fun hc => ?_) <;> first | (cases hc; done) | ((try simp only [hc]); (try simp only [decide_eq_true_eq, decide_eq_false_iff_not, Int.not_le, Int.not_lt, bne_iff_ne, beq_iff_eq, bne_eq_false_iff_eq, beq_eq_false_iff_ne, ne_eq] at hc))) | (refine W1.bothF (by exact rfl) (fun hc => ?_) (fun hc => ?_) <;> first | (cases hc; done) | ((try simp only [hc]); (try simp only [decide_eq_true_eq, decide_eq_false_iff_not, Int.not_le, Int.not_lt, bne_iff_ne, beq_iff_eq, bne_eq_false_iff_eq, beq_eq_false_iff_ne, ne_eq] at hc)))
          | (apply WQ.go; exact rfl; exact rfl) | (apply WQ.no; exact rfl)
          | (refine WQ.knowT (by exact rfl) (by first | with_reducible rfl | assumption | (simp only [Bool.not_eq_true', Bool.not_eq_false', decide_eq_true_eq, decide_eq_false_iff_not, bne_iff_ne, beq_iff_eq, bne_eq_false_iff_eq, beq_eq_false_iff_ne, ne_eq]; first | omega | assumption | decide)) ?_) | (refine WQ.knowTn (by exact rfl) (by first | with_reducible rfl | assumption | (simp only [Bool.not_eq_true', Bool.not_eq_false', decide_eq_true_eq, decide_eq_false_iff_not, bne_iff_ne, beq_iff_eq, bne_eq_false_iff_eq, beq_eq_false_iff_ne, ne_eq]; first | omega | assumption | decide)) ?_) | (refine WQ.knowF (by exact rfl) (by first | with_reducible rfl | assumption | (simp only [Bool.not_eq_true', Bool.not_eq_false', decide_eq_true_eq, decide_eq_false_iff_not, bne_iff_ne, beq_iff_eq, bne_eq_false_iff_eq, beq_eq_false_iff_ne, ne_eq]; first | omega | assumption | decide)) ?_) | (refine WQ.knowFn (by exact rfl) (by first | with_reducible rfl | assumption | (simp only [Bool.not_eq_true', Bool.not_eq_false', decide_eq_true_eq, decide_eq_false_iff_not, bne_iff_ne, beq_iff_eq, bne_eq_false_iff_eq, beq_eq_false_iff_ne, ne_eq]; first | omega | assumption | decide)) ?_)
          | (refine WQ.bothT (by exact rfl) (fun hc => ?_) (fun hc => ?_) <;> first | (cases hc; done) | ((try simp only [hc]); (try simp only [decide_eq_true_eq, decide_eq_false_iff_not, Int.not_le, Int.not_lt, bne_iff_ne, beq_iff_eq, bne_eq_false_iff_eq, beq_eq_false_iff_ne, ne_eq] at hc))) | (refine WQ.bothF (by exact rfl) (fun hc => ?_) (fun hc => ?_) <;> first | (cases hc; done) | ((try simp only [hc]); (try simp only [decide_eq_true_eq, decide_eq_false_iff_not, Int.not_le, Int.not_lt, bne_iff_ne, beq_iff_eq, bne_eq_false_iff_eq, beq_eq_false_iff_ne, ne_eq] at hc)))
          | refine WO.nil ?_ | refine WB.nil ?_ | refine WP.bag rfl ?_ | refine WP.nil ?_ | refine W.seq ?_ | refine W.reg ?_ | refine W.dreg ?_ | refine W.block ?_
          | (refine W.condT (by exact rfl) (by first | with_reducible rfl | assumption | (simp only [Bool.not_eq_true', Bool.not_eq_false', decide_eq_true_eq, decide_eq_false_iff_not, bne_iff_ne, beq_iff_eq, bne_eq_false_iff_eq, beq_eq_false_iff_ne, ne_eq]; first | omega | assumption | decide)) ?_) | (refine W.condF (by exact rfl) (by first | with_reducible rfl | assumption | (simp only [Bool.not_eq_true', Bool.not_eq_false', decide_eq_true_eq, decide_eq_false_iff_not, bne_iff_ne, beq_iff_eq, bne_eq_false_iff_eq, beq_eq_false_iff_ne, ne_eq]; first | omega | assumption | decide)) ?_)
          | (refine W.cond (by exact rfl) (fun hc => ?_) (fun hc => ?_) <;> first | (cases hc; done) | ((try simp only [hc]); (try simp only [decide_eq_true_eq, decide_eq_false_iff_not, Int.not_le, Int.not_lt, bne_iff_ne, beq_iff_eq, bne_eq_false_iff_eq, beq_eq_false_iff_ne, ne_eq] at hc)))
          | refine W.ret ?_ | refine W.skip ?_ | refine W.exit ?_
          | (simp only [sprow_len, brow_len, srow_len, List.length_map, Qit, Int.toNat_natCast, entry, Opd.eat, cellsOf, getE_upd, getB_upd, TV.ofCells, allAv, Qseq, Qblk, keep_eq, List.map_cons, List.map_nil, putD, put_env, put_box, lstE_cons, lstE_nil, lstB_cons, lstB_nil, Nat.reduceEqDiff, ↓reduceIte, kept_av, kept_own, kept_und, kept_skp, kept_tup, kept_plcB, kept_plcS, kept_aliN, kept_aliB, kept_aliS, List.contains_cons, List.contains_nil, beq_self_eq_true, Nat.reduceBEq, Bool.or_false, Bool.false_or, Bool.or_true, Bool.true_or]))
    · have e0 : s.drop 1 = [] := List.eq_nil_of_length_eq_zero (by omega)
      have hne2 : List.drop (Int.toNat 1) (List.take s.length s) = [] := by rw [ed, e0]
      repeat' (first
        | refine WO.cons ?_ | refine WB.cons ?_ | refine WP.one ?_
        | (apply W1.add64; exact rfl; exact rfl; exact rfl; omega; omega) | (apply W1.sub64; exact rfl; exact rfl; exact rfl; omega; omega)
        | (apply W1.iadr; exact rfl; exact rfl; exact rfl; omega; first | exact V.get_row (by assumption) | exact get_srow (by assumption) | exact get_ty (by assumption) | exact get_ar (by assumption) | exact get_ob (by assumption) | exact get_sprow (by assumption) | exact get_brow (by assumption) | assumption)
        | (apply W1.idxS; exact rfl; exact rfl; exact rfl; omega; omega) | (apply W1.slcS; exact rfl; exact rfl; exact rfl; exact rfl; omega)
        | (apply W1.pickT; exact rfl; exact rfl; exact (by first | with_reducible rfl | assumption | (simp only [Bool.not_eq_true', Bool.not_eq_false', decide_eq_true_eq, decide_eq_false_iff_not, bne_iff_ne, beq_iff_eq, bne_eq_false_iff_eq, beq_eq_false_iff_ne, ne_eq]; first | omega | assumption | decide)); exact rfl) | (apply W1.pickF; exact rfl; exact rfl; exact (by first | with_reducible rfl | assumption | (simp only [Bool.not_eq_true', Bool.not_eq_false', decide_eq_true_eq, decide_eq_false_iff_not, bne_iff_ne, beq_iff_eq, bne_eq_false_iff_eq, beq_eq_false_iff_ne, ne_eq]; first | omega | assumption | decide)); exact rfl)
        | (apply W1.op; exact rfl; exact rfl; exact rfl) | (apply W1.no; exact rfl)
        | (refine W1.knowT (by exact rfl) (by first | with_reducible rfl | assumption | (simp only [Bool.not_eq_true', Bool.not_eq_false', decide_eq_true_eq, decide_eq_false_iff_not, bne_iff_ne, beq_iff_eq, bne_eq_false_iff_eq, beq_eq_false_iff_ne, ne_eq]; first | omega | assumption | decide)) ?_) | (refine W1.knowTn (by exact rfl) (by first | with_reducible rfl | assumption | (simp only [Bool.not_eq_true', Bool.not_eq_false', decide_eq_true_eq, decide_eq_false_iff_not, bne_iff_ne, beq_iff_eq, bne_eq_false_iff_eq, beq_eq_false_iff_ne, ne_eq]; first | omega | assumption | decide)) ?_) | (refine W1.knowF (by exact rfl) (by first | with_reducible rfl | assumption | (simp only [Bool.not_eq_true', Bool.not_eq_false', decide_eq_true_eq, decide_eq_false_iff_not, bne_iff_ne, beq_iff_eq, bne_eq_false_iff_eq, beq_eq_false_iff_ne, ne_eq]; first | omega | assumption | decide)) ?_) | (refine W1.knowFn (by exact rfl) (by first | with_reducible rfl | assumption | (simp only [Bool.not_eq_true', Bool.not_eq_false', decide_eq_true_eq, decide_eq_false_iff_not, bne_iff_ne, beq_iff_eq, bne_eq_false_iff_eq, beq_eq_false_iff_ne, ne_eq]; first | omega | assumption | decide)) ?_)
        | (refine W1.bothT (by exact rfl) (fun hc => ?_) (fun hc => ?_) <;> first | (cases hc; done) | ((try simp only [hc]); (try simp only [decide_eq_true_eq, decide_eq_false_iff_not, Int.not_le, Int.not_lt, bne_iff_ne, beq_iff_eq, bne_eq_false_iff_eq, beq_eq_false_iff_ne, ne_eq] at hc))) | (refine W1.bothF (by exact rfl) (fun hc => ?_) (fun hc => ?_) <;> first | (cases hc; done) | ((try simp only [hc]); (try simp only [decide_eq_true_eq, decide_eq_false_iff_not, Int.not_le, Int.not_lt, bne_iff_ne, beq_iff_eq, bne_eq_false_iff_eq, beq_eq_false_iff_ne, ne_eq] at hc)))
        | (apply WQ.go; exact rfl; exact rfl) | (apply WQ.no; exact rfl)
        | (refine WQ.knowT (by exact rfl) (by first | with_reducible rfl | assumption | (simp only [Bool.not_eq_true', Bool.not_eq_false', decide_eq_true_eq, decide_eq_false_iff_not, bne_iff_ne, beq_iff_eq, bne_eq_false_iff_eq, beq_eq_false_iff_ne, ne_eq]; first | omega | assumption | decide)) ?_) | (refine WQ.knowTn (by exact rfl) (by first | with_reducible rfl | assumption | (simp only [Bool.not_eq_true', Bool.not_eq_false', decide_eq_true_eq, decide_eq_false_iff_not, bne_iff_ne, beq_iff_eq, bne_eq_false_iff_eq, beq_eq_false_iff_ne, ne_eq]; first | omega | assumption | decide)) ?_) | (refine WQ.knowF (by exact rfl) (by first | with_reducible rfl | assumption | (simp only [Bool.not_eq_true', Bool.not_eq_false', decide_eq_true_eq, decide_eq_false_iff_not, bne_iff_ne, beq_iff_eq, bne_eq_false_iff_eq, beq_eq_false_iff_ne, ne_eq]; first | omega | assumption | decide)) ?_) | (refine WQ.knowFn (by exact rfl) (by first | with_reducible rfl | assumption | (simp only [Bool.not_eq_true', Bool.not_eq_false', decide_eq_true_eq, decide_eq_false_iff_not, bne_iff_ne, beq_iff_eq, bne_eq_false_iff_eq, beq_eq_false_iff_ne, ne_eq]; first | omega | assumption | decide)) ?_)
        | (refine WQ.bothT (by exact rfl) (fun hc => ?_) (fun hc => ?_) <;> first | (cases hc; done) | ((try simp only [hc]); (try simp only [decide_eq_true_eq, decide_eq_false_iff_not, Int.not_le, Int.not_lt, bne_iff_ne, beq_iff_eq, bne_eq_false_iff_eq, beq_eq_false_iff_ne, ne_eq] at hc))) | (refine WQ.bothF (by exact rfl) (fun hc => ?_) (fun hc => ?_) <;> first | (cases hc; done) | ((try simp only [hc]); (try simp only [decide_eq_true_eq, decide_eq_false_iff_not, Int.not_le, Int.not_lt, bne_iff_ne, beq_iff_eq, bne_eq_false_iff_eq, beq_eq_false_iff_ne, ne_eq] at hc)))
        | refine WO.nil ?_ | refine WB.nil ?_ | refine WP.bag rfl ?_ | refine WP.nil ?_ | refine W.seq ?_ | refine W.reg ?_ | refine W.dreg ?_ | refine W.block ?_
        | (refine W.condT (by exact rfl) (by first | with_reducible rfl | assumption | (simp only [Bool.not_eq_true', Bool.not_eq_false', decide_eq_true_eq, decide_eq_false_iff_not, bne_iff_ne, beq_iff_eq, bne_eq_false_iff_eq, beq_eq_false_iff_ne, ne_eq]; first | omega | assumption | decide)) ?_) | (refine W.condF (by exact rfl) (by first | with_reducible rfl | assumption | (simp only [Bool.not_eq_true', Bool.not_eq_false', decide_eq_true_eq, decide_eq_false_iff_not, bne_iff_ne, beq_iff_eq, bne_eq_false_iff_eq, beq_eq_false_iff_ne, ne_eq]; first | omega | assumption | decide)) ?_)
        | (refine W.cond (by exact rfl) (fun hc => ?_) (fun hc => ?_) <;> first | (cases hc; done) | ((try simp only [hc]); (try simp only [decide_eq_true_eq, decide_eq_false_iff_not, Int.not_le, Int.not_lt, bne_iff_ne, beq_iff_eq, bne_eq_false_iff_eq, beq_eq_false_iff_ne, ne_eq] at hc)))
        | refine W.ret ?_ | refine W.skip ?_ | refine W.exit ?_
        | (simp only [sprow_len, brow_len, srow_len, List.length_map, Qit, Int.toNat_natCast, entry, Opd.eat, cellsOf, getE_upd, getB_upd, TV.ofCells, allAv, Qseq, Qblk, keep_eq, List.map_cons, List.map_nil, putD, put_env, put_box, lstE_cons, lstE_nil, lstB_cons, lstB_nil, Nat.reduceEqDiff, ↓reduceIte, kept_av, kept_own, kept_und, kept_skp, kept_tup, kept_plcB, kept_plcS, kept_aliN, kept_aliB, kept_aliS, List.contains_cons, List.contains_nil, beq_self_eq_true, Nat.reduceBEq, Bool.or_false, Bool.false_or, Bool.or_true, Bool.true_or]))
      refine Qend.boo rfl rfl ?_
      rw [hnum, hd, e0]; rfl
  · have hd : digs s = s := by rw [digs, if_neg (fun h => hm ⟨h.1, (u8_eq _ 45 (by omega)).2 h.2⟩)]
    by_cases hl : 0 < s.length
    · have hne : ¬ s = [] := (fun h => by rw [h] at hl; simp at hl)
      have hm' : ¬ ((bAt s (Int.toNat 0)).toNat : Int) = 45 := fun h => hm ⟨hl, h⟩
      by_cases h48 : ((bAt s 0).toNat : Int) = 48
      · have h48' : ((bAt s (Int.toNat 0)).toNat : Int) = 48 := h48
        repeat' (first
          | refine WO.cons ?_ | refine WB.cons ?_ | refine WP.one ?_
          | (apply W1.add64; exact rfl; exact rfl; exact rfl; omega; omega) | (apply W1.sub64; exact rfl; exact rfl; exact rfl; omega; omega)
          | (apply W1.iadr; exact rfl; exact rfl; exact rfl; omega; first | exact V.get_row (by assumption) | exact get_srow (by assumption) | exact get_ty (by assumption) | exact get_ar (by assumption) | exact get_ob (by assumption) | exact get_sprow (by assumption) | exact get_brow (by assumption) | assumption)
          | (apply W1.idxS; exact rfl; exact rfl; exact rfl; omega; omega) | (apply W1.slcS; exact rfl; exact rfl; exact rfl; exact rfl; omega)
          | (apply W1.pickT; exact rfl; exact rfl; exact (by first | with_reducible rfl | assumption | (simp only [Bool.not_eq_true', Bool.not_eq_false', decide_eq_true_eq, decide_eq_false_iff_not, bne_iff_ne, beq_iff_eq, bne_eq_false_iff_eq, beq_eq_false_iff_ne, ne_eq]; first | omega | assumption | decide)); exact rfl) | (apply W1.pickF; exact rfl; exact rfl; exact (by first | with_reducible rfl | assumption | (simp only [Bool.not_eq_true', Bool.not_eq_false', decide_eq_true_eq, decide_eq_false_iff_not, bne_iff_ne, beq_iff_eq, bne_eq_false_iff_eq, beq_eq_false_iff_ne, ne_eq]; first | omega | assumption | decide)); exact rfl)
          | (apply W1.op; exact rfl; exact rfl; exact rfl) | (apply W1.no; exact rfl)
          | (refine W1.knowT (by exact rfl) (by first | with_reducible rfl | assumption | (simp only [Bool.not_eq_true', Bool.not_eq_false', decide_eq_true_eq, decide_eq_false_iff_not, bne_iff_ne, beq_iff_eq, bne_eq_false_iff_eq, beq_eq_false_iff_ne, ne_eq]; first | omega | assumption | decide)) ?_) | (refine W1.knowTn (by exact rfl) (by first | with_reducible rfl | assumption | (simp only [Bool.not_eq_true', Bool.not_eq_false', decide_eq_true_eq, decide_eq_false_iff_not, bne_iff_ne, beq_iff_eq, bne_eq_false_iff_eq, beq_eq_false_iff_ne, ne_eq]; first | omega | assumption | decide)) ?_) | (refine W1.knowF (by exact rfl) (by first | with_reducible rfl | assumption | (simp only [Bool.not_eq_true', Bool.not_eq_false', decide_eq_true_eq, decide_eq_false_iff_not, bne_iff_ne, beq_iff_eq, bne_eq_false_iff_eq, beq_eq_false_iff_ne, ne_eq]; first | omega | assumption | decide)) ?_) | (refine W1.knowFn (by exact rfl) (by first | with_reducible rfl | assumption | (simp only [Bool.not_eq_true', Bool.not_eq_false', decide_eq_true_eq, decide_eq_false_iff_not, bne_iff_ne, beq_iff_eq, bne_eq_false_iff_eq, beq_eq_false_iff_ne, ne_eq]; first | omega | assumption | decide)) ?_)
          | (refine W1.bothT (by exact rfl) (fun hc => ?_) (fun hc => ?_) <;> first | (cases hc; done) | ((try simp only [hc]); (try simp only [decide_eq_true_eq, decide_eq_false_iff_not, Int.not_le, Int.not_lt, bne_iff_ne, beq_iff_eq, bne_eq_false_iff_eq, beq_eq_false_iff_ne, ne_eq] at hc))) | (refine W1.bothF (by exact rfl) (fun hc => ?_) (fun hc => ?_) <;> first | (cases hc; done) | ((try simp only [hc]); (try simp only [decide_eq_true_eq, decide_eq_false_iff_not, Int.not_le, Int.not_lt, bne_iff_ne, beq_iff_eq, bne_eq_false_iff_eq, beq_eq_false_iff_ne, ne_eq] at hc)))
          | (apply WQ.go; exact rfl; exact rfl) | (apply WQ.no; exact rfl)
          | (refine WQ.knowT (by exact rfl) (by first | with_reducible rfl | assumption | (simp only [Bool.not_eq_true', Bool.not_eq_false', decide_eq_true_eq, decide_eq_false_iff_not, bne_iff_ne, beq_iff_eq, bne_eq_false_iff_eq, beq_eq_false_iff_ne, ne_eq]; first | omega | assumption | decide)) ?_) | (refine WQ.knowTn (by exact rfl) (by first | with_reducible rfl | assumption | (simp only [Bool.not_eq_true', Bool.not_eq_false', decide_eq_true_eq, decide_eq_false_iff_not, bne_iff_ne, beq_iff_eq, bne_eq_false_iff_eq, beq_eq_false_iff_ne, ne_eq]; first | omega | assumption | decide)) ?_) | (refine WQ.knowF (by exact rfl) (by first | with_reducible rfl | assumption | (simp only [Bool.not_eq_true', Bool.not_eq_false', decide_eq_true_eq, decide_eq_false_iff_not, bne_iff_ne, beq_iff_eq, bne_eq_false_iff_eq, beq_eq_false_iff_ne, ne_eq]; first | omega | assumption | decide)) ?_) | (refine WQ.knowFn (by exact rfl) (by first | with_reducible rfl | assumption | (simp only [Bool.not_eq_true', Bool.not_eq_false', decide_eq_true_eq, decide_eq_false_iff_not, bne_iff_ne, beq_iff_eq, bne_eq_false_iff_eq, beq_eq_false_iff_ne, ne_eq]; first | omega | assumption | decide)) ?_)
          | (refine WQ.bothT (by exact rfl) (fun hc => ?_) (fun hc => ?_) <;> first | (cases hc; done) | ((try simp only [hc]); (try simp only [decide_eq_true_eq, decide_eq_false_iff_not, Int.not_le, Int.not_lt, bne_iff_ne, beq_iff_eq, bne_eq_false_iff_eq, beq_eq_false_iff_ne, ne_eq] at hc))) | (refine WQ.bothF (by exact rfl) (fun hc => ?_) (fun hc => ?_) <;> first | (cases hc; done) | ((try simp only [hc]); (try simp only [decide_eq_true_eq, decide_eq_false_iff_not, Int.not_le, Int.not_lt, bne_iff_ne, beq_iff_eq, bne_eq_false_iff_eq, beq_eq_false_iff_ne, ne_eq] at hc)))
          | refine WO.nil ?_ | refine WB.nil ?_ | refine WP.bag rfl ?_ | refine WP.nil ?_ | refine W.seq ?_ | refine W.reg ?_ | refine W.dreg ?_ | refine W.block ?_
          | (refine W.condT (by exact rfl) (by first | with_reducible rfl | assumption | (simp only [Bool.not_eq_true', Bool.not_eq_false', decide_eq_true_eq, decide_eq_false_iff_not, bne_iff_ne, beq_iff_eq, bne_eq_false_iff_eq, beq_eq_false_iff_ne, ne_eq]; first | omega | assumption | decide)) ?_) | (refine W.condF (by exact rfl) (by first | with_reducible rfl | assumption | (simp only [Bool.not_eq_true', Bool.not_eq_false', decide_eq_true_eq, decide_eq_false_iff_not, bne_iff_ne, beq_iff_eq, bne_eq_false_iff_eq, beq_eq_false_iff_ne, ne_eq]; first | omega | assumption | decide)) ?_)
          | (refine W.cond (by exact rfl) (fun hc => ?_) (fun hc => ?_) <;> first | (cases hc; done) | ((try simp only [hc]); (try simp only [decide_eq_true_eq, decide_eq_false_iff_not, Int.not_le, Int.not_lt, bne_iff_ne, beq_iff_eq, bne_eq_false_iff_eq, beq_eq_false_iff_ne, ne_eq] at hc)))
          | refine W.ret ?_ | refine W.skip ?_ | refine W.exit ?_
          | (simp only [sprow_len, brow_len, srow_len, List.length_map, Qit, Int.toNat_natCast, entry, Opd.eat, cellsOf, getE_upd, getB_upd, TV.ofCells, allAv, Qseq, Qblk, keep_eq, List.map_cons, List.map_nil, putD, put_env, put_box, lstE_cons, lstE_nil, lstB_cons, lstB_nil, Nat.reduceEqDiff, ↓reduceIte, kept_av, kept_own, kept_und, kept_skp, kept_tup, kept_plcB, kept_plcS, kept_aliN, kept_aliB, kept_aliS, List.contains_cons, List.contains_nil, beq_self_eq_true, Nat.reduceBEq, Bool.or_false, Bool.false_or, Bool.or_true, Bool.true_or]))
        refine Qend.boo rfl rfl ?_
        have : (bAt s 0) = 48 := (u8_eq _ 48 (by omega)).1 h48
        rw [hnum, hd, this]; simp
      · have h48' : ¬ ((bAt s (Int.toNat 0)).toNat : Int) = 48 := h48
        repeat' (first
          | refine WO.cons ?_ | refine WB.cons ?_ | refine WP.one ?_
          | (exact fin s hd.symm hl h48 hb)
          | (apply W1.add64; exact rfl; exact rfl; exact rfl; omega; omega) | (apply W1.sub64; exact rfl; exact rfl; exact rfl; omega; omega)
          | (apply W1.iadr; exact rfl; exact rfl; exact rfl; omega; first | exact V.get_row (by assumption) | exact get_srow (by assumption) | exact get_ty (by assumption) | exact get_ar (by assumption) | exact get_ob (by assumption) | exact get_sprow (by assumption) | exact get_brow (by assumption) | assumption)
          | (apply W1.idxS; exact rfl; exact rfl; exact rfl; omega; omega) | (apply W1.slcS; exact rfl; exact rfl; exact rfl; exact rfl; omega)
          | (apply W1.pickT; exact rfl; exact rfl; exact (by first | with_reducible rfl | assumption | (simp only [Bool.not_eq_true', Bool.not_eq_false', decide_eq_true_eq, decide_eq_false_iff_not, bne_iff_ne, beq_iff_eq, bne_eq_false_iff_eq, beq_eq_false_iff_ne, ne_eq]; first | omega | assumption | decide)); exact rfl) | (apply W1.pickF; exact rfl; exact rfl; exact (by first | with_reducible rfl | assumption | (simp only [Bool.not_eq_true', Bool.not_eq_false', decide_eq_true_eq, decide_eq_false_iff_not, bne_iff_ne, beq_iff_eq, bne_eq_false_iff_eq, beq_eq_false_iff_ne, ne_eq]; first | omega | assumption | decide)); exact rfl)
          | (apply W1.op; exact rfl; exact rfl; exact rfl) | (apply W1.no; exact rfl)
          | (refine W1.knowT (by exact rfl) (by first | with_reducible rfl | assumption | (simp only [Bool.not_eq_true', Bool.not_eq_false', decide_eq_true_eq, decide_eq_false_iff_not, bne_iff_ne, beq_iff_eq, bne_eq_false_iff_eq, beq_eq_false_iff_ne, ne_eq]; first | omega | assumption | decide)) ?_) | (refine W1.knowTn (by exact rfl) (by first | with_reducible rfl | assumption | (simp only [Bool.not_eq_true', Bool.not_eq_false', decide_eq_true_eq, decide_eq_false_iff_not, bne_iff_ne, beq_iff_eq, bne_eq_false_iff_eq, beq_eq_false_iff_ne, ne_eq]; first | omega | assumption | decide)) ?_) | (refine W1.knowF (by exact rfl) (by first | with_reducible rfl | assumption | (simp only [Bool.not_eq_true', Bool.not_eq_false', decide_eq_true_eq, decide_eq_false_iff_not, bne_iff_ne, beq_iff_eq, bne_eq_false_iff_eq, beq_eq_false_iff_ne, ne_eq]; first | omega | assumption | decide)) ?_) | (refine W1.knowFn (by exact rfl) (by first | with_reducible rfl | assumption | (simp only [Bool.not_eq_true', Bool.not_eq_false', decide_eq_true_eq, decide_eq_false_iff_not, bne_iff_ne, beq_iff_eq, bne_eq_false_iff_eq, beq_eq_false_iff_ne, ne_eq]; first | omega | assumption | decide)) ?_)
          | (refine W1.bothT (by exact rfl) (fun hc => ?_) (fun hc => ?_) <;> first | (cases hc; done) | ((try simp only [hc]); (try simp only [decide_eq_true_eq, decide_eq_false_iff_not, Int.not_le, Int.not_lt, bne_iff_ne, beq_iff_eq, bne_eq_false_iff_eq, beq_eq_false_iff_ne, ne_eq] at hc))) | (refine W1.bothF (by exact rfl) (fun hc => ?_) (fun hc => ?_) <;> first | (cases hc; done) | ((try simp only [hc]); (try simp only [decide_eq_true_eq, decide_eq_false_iff_not, Int.not_le, Int.not_lt, bne_iff_ne, beq_iff_eq, bne_eq_false_iff_eq, beq_eq_false_iff_ne, ne_eq] at hc)))
          | (apply WQ.go; exact rfl; exact rfl) | (apply WQ.no; exact rfl)
          | (refine WQ.knowT (by exact rfl) (by first | with_reducible rfl | assumption | (simp only [Bool.not_eq_true', Bool.not_eq_false', decide_eq_true_eq, decide_eq_false_iff_not, bne_iff_ne, beq_iff_eq, bne_eq_false_iff_eq, beq_eq_false_iff_ne, ne_eq]; first | omega | assumption | decide)) ?_) | (refine WQ.knowTn (by exact rfl) (by first | with_reducible rfl | assumption | (simp only [Bool.not_eq_true', Bool.not_eq_false', decide_eq_true_eq, decide_eq_false_iff_not, bne_iff_ne, beq_iff_eq, bne_eq_false_iff_eq, beq_eq_false_iff_ne, ne_eq]; first | omega | assumption | decide)) ?_) | (refine WQ.knowF (by exact rfl) (by first | with_reducible rfl | assumption | (simp only [Bool.not_eq_true', Bool.not_eq_false', decide_eq_true_eq, decide_eq_false_iff_not, bne_iff_ne, beq_iff_eq, bne_eq_false_iff_eq, beq_eq_false_iff_ne, ne_eq]; first | omega | assumption | decide)) ?_) | (refine WQ.knowFn (by exact rfl) (by first | with_reducible rfl | assumption | (simp only [Bool.not_eq_true', Bool.not_eq_false', decide_eq_true_eq, decide_eq_false_iff_not, bne_iff_ne, beq_iff_eq, bne_eq_false_iff_eq, beq_eq_false_iff_ne, ne_eq]; first | omega | assumption | decide)) ?_)
          | (refine WQ.bothT (by exact rfl) (fun hc => ?_) (fun hc => ?_) <;> first | (cases hc; done) | ((try simp only [hc]); (try simp only [decide_eq_true_eq, decide_eq_false_iff_not, Int.not_le, Int.not_lt, bne_iff_ne, beq_iff_eq, bne_eq_false_iff_eq, beq_eq_false_iff_ne, ne_eq] at hc))) | (refine WQ.bothF (by exact rfl) (fun hc => ?_) (fun hc => ?_) <;> first | (cases hc; done) | ((try simp only [hc]); (try simp only [decide_eq_true_eq, decide_eq_false_iff_not, Int.not_le, Int.not_lt, bne_iff_ne, beq_iff_eq, bne_eq_false_iff_eq, beq_eq_false_iff_ne, ne_eq] at hc)))
          | refine WO.nil ?_ | refine WB.nil ?_ | refine WP.bag rfl ?_ | refine WP.nil ?_ | refine W.seq ?_ | refine W.reg ?_ | refine W.dreg ?_ | refine W.block ?_
          | (refine W.condT (by exact rfl) (by first | with_reducible rfl | assumption | (simp only [Bool.not_eq_true', Bool.not_eq_false', decide_eq_true_eq, decide_eq_false_iff_not, bne_iff_ne, beq_iff_eq, bne_eq_false_iff_eq, beq_eq_false_iff_ne, ne_eq]; first | omega | assumption | decide)) ?_) | (refine W.condF (by exact rfl) (by first | with_reducible rfl | assumption | (simp only [Bool.not_eq_true', Bool.not_eq_false', decide_eq_true_eq, decide_eq_false_iff_not, bne_iff_ne, beq_iff_eq, bne_eq_false_iff_eq, beq_eq_false_iff_ne, ne_eq]; first | omega | assumption | decide)) ?_)
          | (refine W.cond (by exact rfl) (fun hc => ?_) (fun hc => ?_) <;> first | (cases hc; done) | ((try simp only [hc]); (try simp only [decide_eq_true_eq, decide_eq_false_iff_not, Int.not_le, Int.not_lt, bne_iff_ne, beq_iff_eq, bne_eq_false_iff_eq, beq_eq_false_iff_ne, ne_eq] at hc)))
          | refine W.ret ?_ | refine W.skip ?_ | refine W.exit ?_
          | (simp only [sprow_len, brow_len, srow_len, List.length_map, Qit, Int.toNat_natCast, entry, Opd.eat, cellsOf, getE_upd, getB_upd, TV.ofCells, allAv, Qseq, Qblk, keep_eq, List.map_cons, List.map_nil, putD, put_env, put_box, lstE_cons, lstE_nil, lstB_cons, lstB_nil, Nat.reduceEqDiff, ↓reduceIte, kept_av, kept_own, kept_und, kept_skp, kept_tup, kept_plcB, kept_plcS, kept_aliN, kept_aliB, kept_aliS, List.contains_cons, List.contains_nil, beq_self_eq_true, Nat.reduceBEq, Bool.or_false, Bool.false_or, Bool.or_true, Bool.true_or]))
    · have e0 : s = [] := List.eq_nil_of_length_eq_zero (by omega)
      subst e0
      repeat' (first
        | refine WO.cons ?_ | refine WB.cons ?_ | refine WP.one ?_
        | (apply W1.add64; exact rfl; exact rfl; exact rfl; omega; omega) | (apply W1.sub64; exact rfl; exact rfl; exact rfl; omega; omega)
        | (apply W1.iadr; exact rfl; exact rfl; exact rfl; omega; first | exact V.get_row (by assumption) | exact get_srow (by assumption) | exact get_ty (by assumption) | exact get_ar (by assumption) | exact get_ob (by assumption) | exact get_sprow (by assumption) | exact get_brow (by assumption) | assumption)
        | (apply W1.idxS; exact rfl; exact rfl; exact rfl; omega; omega) | (apply W1.slcS; exact rfl; exact rfl; exact rfl; exact rfl; omega)
        | (apply W1.pickT; exact rfl; exact rfl; exact (by first | with_reducible rfl | assumption | (simp only [Bool.not_eq_true', Bool.not_eq_false', decide_eq_true_eq, decide_eq_false_iff_not, bne_iff_ne, beq_iff_eq, bne_eq_false_iff_eq, beq_eq_false_iff_ne, ne_eq]; first | omega | assumption | decide)); exact rfl) | (apply W1.pickF; exact rfl; exact rfl; exact (by first | with_reducible rfl | assumption | (simp only [Bool.not_eq_true', Bool.not_eq_false', decide_eq_true_eq, decide_eq_false_iff_not, bne_iff_ne, beq_iff_eq, bne_eq_false_iff_eq, beq_eq_false_iff_ne, ne_eq]; first | omega | assumption | decide)); exact rfl)
        | (apply W1.op; exact rfl; exact rfl; exact rfl) | (apply W1.no; exact rfl)
        | (refine W1.knowT (by exact rfl) (by first | with_reducible rfl | assumption | (simp only [Bool.not_eq_true', Bool.not_eq_false', decide_eq_true_eq, decide_eq_false_iff_not, bne_iff_ne, beq_iff_eq, bne_eq_false_iff_eq, beq_eq_false_iff_ne, ne_eq]; first | omega | assumption | decide)) ?_) | (refine W1.knowTn (by exact rfl) (by first | with_reducible rfl | assumption | (simp only [Bool.not_eq_true', Bool.not_eq_false', decide_eq_true_eq, decide_eq_false_iff_not, bne_iff_ne, beq_iff_eq, bne_eq_false_iff_eq, beq_eq_false_iff_ne, ne_eq]; first | omega | assumption | decide)) ?_) | (refine W1.knowF (by exact rfl) (by first | with_reducible rfl | assumption | (simp only [Bool.not_eq_true', Bool.not_eq_false', decide_eq_true_eq, decide_eq_false_iff_not, bne_iff_ne, beq_iff_eq, bne_eq_false_iff_eq, beq_eq_false_iff_ne, ne_eq]; first | omega | assumption | decide)) ?_) | (refine W1.knowFn (by exact rfl) (by first | with_reducible rfl | assumption | (simp only [Bool.not_eq_true', Bool.not_eq_false', decide_eq_true_eq, decide_eq_false_iff_not, bne_iff_ne, beq_iff_eq, bne_eq_false_iff_eq, beq_eq_false_iff_ne, ne_eq]; first | omega | assumption | decide)) ?_)
        | (refine W1.bothT (by exact rfl) (fun hc => ?_) (fun hc => ?_) <;> first | (cases hc; done) | ((try simp only [hc]); (try simp only [decide_eq_true_eq, decide_eq_false_iff_not, Int.not_le, Int.not_lt, bne_iff_ne, beq_iff_eq, bne_eq_false_iff_eq, beq_eq_false_iff_ne, ne_eq] at hc))) | (refine W1.bothF (by exact rfl) (fun hc => ?_) (fun hc => ?_) <;> first | (cases hc; done) | ((try simp only [hc]); (try simp only [decide_eq_true_eq, decide_eq_false_iff_not, Int.not_le, Int.not_lt, bne_iff_ne, beq_iff_eq, bne_eq_false_iff_eq, beq_eq_false_iff_ne, ne_eq] at hc)))
        | (apply WQ.go; exact rfl; exact rfl) | (apply WQ.no; exact rfl)
        | (refine WQ.knowT (by exact rfl) (by first | with_reducible rfl | assumption | (simp only [Bool.not_eq_true', Bool.not_eq_false', decide_eq_true_eq, decide_eq_false_iff_not, bne_iff_ne, beq_iff_eq, bne_eq_false_iff_eq, beq_eq_false_iff_ne, ne_eq]; first | omega | assumption | decide)) ?_) | (refine WQ.knowTn (by exact rfl) (by first | with_reducible rfl | assumption | (simp only [Bool.not_eq_true', Bool.not_eq_false', decide_eq_true_eq, decide_eq_false_iff_not, bne_iff_ne, beq_iff_eq, bne_eq_false_iff_eq, beq_eq_false_iff_ne, ne_eq]; first | omega | assumption | decide)) ?_) | (refine WQ.knowF (by exact rfl) (by first | with_reducible rfl | assumption | (simp only [Bool.not_eq_true', Bool.not_eq_false', decide_eq_true_eq, decide_eq_false_iff_not, bne_iff_ne, beq_iff_eq, bne_eq_false_iff_eq, beq_eq_false_iff_ne, ne_eq]; first | omega | assumption | decide)) ?_) | (refine WQ.knowFn (by exact rfl) (by first | with_reducible rfl | assumption | (simp only [Bool.not_eq_true', Bool.not_eq_false', decide_eq_true_eq, decide_eq_false_iff_not, bne_iff_ne, beq_iff_eq, bne_eq_false_iff_eq, beq_eq_false_iff_ne, ne_eq]; first | omega | assumption | decide)) ?_)
        | (refine WQ.bothT (by exact rfl) (fun hc => ?_) (fun hc => ?_) <;> first | (cases hc; done) | ((try simp only [hc]); (try simp only [decide_eq_true_eq, decide_eq_false_iff_not, Int.not_le, Int.not_lt, bne_iff_ne, beq_iff_eq, bne_eq_false_iff_eq, beq_eq_false_iff_ne, ne_eq] at hc))) | (refine WQ.bothF (by exact rfl) (fun hc => ?_) (fun hc => ?_) <;> first | (cases hc; done) | ((try simp only [hc]); (try simp only [decide_eq_true_eq, decide_eq_false_iff_not, Int.not_le, Int.not_lt, bne_iff_ne, beq_iff_eq, bne_eq_false_iff_eq, beq_eq_false_iff_ne, ne_eq] at hc)))
        | refine WO.nil ?_ | refine WB.nil ?_ | refine WP.bag rfl ?_ | refine WP.nil ?_ | refine W.seq ?_ | refine W.reg ?_ | refine W.dreg ?_ | refine W.block ?_
        | (refine W.condT (by exact rfl) (by first | with_reducible rfl | assumption | (simp only [Bool.not_eq_true', Bool.not_eq_false', decide_eq_true_eq, decide_eq_false_iff_not, bne_iff_ne, beq_iff_eq, bne_eq_false_iff_eq, beq_eq_false_iff_ne, ne_eq]; first | omega | assumption | decide)) ?_) | (refine W.condF (by exact rfl) (by first | with_reducible rfl | assumption | (simp only [Bool.not_eq_true', Bool.not_eq_false', decide_eq_true_eq, decide_eq_false_iff_not, bne_iff_ne, beq_iff_eq, bne_eq_false_iff_eq, beq_eq_false_iff_ne, ne_eq]; first | omega | assumption | decide)) ?_)
        | (refine W.cond (by exact rfl) (fun hc => ?_) (fun hc => ?_) <;> first | (cases hc; done) | ((try simp only [hc]); (try simp only [decide_eq_true_eq, decide_eq_false_iff_not, Int.not_le, Int.not_lt, bne_iff_ne, beq_iff_eq, bne_eq_false_iff_eq, beq_eq_false_iff_ne, ne_eq] at hc)))
        | refine W.ret ?_ | refine W.skip ?_ | refine W.exit ?_
        | (simp only [sprow_len, brow_len, srow_len, List.length_map, Qit, Int.toNat_natCast, entry, Opd.eat, cellsOf, getE_upd, getB_upd, TV.ofCells, allAv, Qseq, Qblk, keep_eq, List.map_cons, List.map_nil, putD, put_env, put_box, lstE_cons, lstE_nil, lstB_cons, lstB_nil, Nat.reduceEqDiff, ↓reduceIte, kept_av, kept_own, kept_und, kept_skp, kept_tup, kept_plcB, kept_plcS, kept_aliN, kept_aliB, kept_aliS, List.contains_cons, List.contains_nil, beq_self_eq_true, Nat.reduceBEq, Bool.or_false, Bool.false_or, Bool.or_true, Bool.true_or]))
      exact Qend.boo rfl rfl rfl
end Hm

/- Whole numbers in tens in order, as the program has them. Conditions: see each theorem. -/
namespace Hm
open Go (IntKind)
set_option maxHeartbeats 4000000
set_option maxRecDepth 4000
theorem tensSize_ret {T : Tab} (h : Fn T F.tens_size tens_size.fn) (a b : Str) (hl : a.length ≤ 1073741824) (hl' : b.length ≤ 1073741824) : Ret T F.tens_size [.val (.str a), .val (.str b)] (one (.int .i64 (ncmp a b))) := by
  refine Ret.mk h rfl ?_
  repeat' (first
    | refine WO.cons ?_ | refine WB.cons ?_ | refine WP.one ?_
    | (apply W1.add64; exact rfl; exact rfl; exact rfl; omega; omega) | (apply W1.sub64; exact rfl; exact rfl; exact rfl; omega; omega)
    | (apply W1.iadr; exact rfl; exact rfl; exact rfl; omega; first | exact V.get_row (by assumption) | exact get_srow (by assumption) | exact get_ty (by assumption) | exact get_ar (by assumption) | exact get_ob (by assumption) | exact get_sprow (by assumption) | exact get_brow (by assumption) | assumption)
    | (apply W1.idxS; exact rfl; exact rfl; exact rfl; omega; omega) | (apply W1.slcS; exact rfl; exact rfl; exact rfl; exact rfl; omega)
    | (apply W1.pickT; exact rfl; exact rfl; exact (by first | with_reducible rfl | assumption | (simp only [Bool.not_eq_true', Bool.not_eq_false', decide_eq_true_eq, decide_eq_false_iff_not, bne_iff_ne, beq_iff_eq, bne_eq_false_iff_eq, beq_eq_false_iff_ne, ne_eq]; first | omega | assumption | decide)); exact rfl) | (apply W1.pickF; exact rfl; exact rfl; exact (by first | with_reducible rfl | assumption | (simp only [Bool.not_eq_true', Bool.not_eq_false', decide_eq_true_eq, decide_eq_false_iff_not, bne_iff_ne, beq_iff_eq, bne_eq_false_iff_eq, beq_eq_false_iff_ne, ne_eq]; first | omega | assumption | decide)); exact rfl)
    | (apply W1.op; exact rfl; exact rfl; exact rfl) | (apply W1.no; exact rfl)
    | (refine W1.knowT (by exact rfl) (by first | with_reducible rfl | assumption | (simp only [Bool.not_eq_true', Bool.not_eq_false', decide_eq_true_eq, decide_eq_false_iff_not, bne_iff_ne, beq_iff_eq, bne_eq_false_iff_eq, beq_eq_false_iff_ne, ne_eq]; first | omega | assumption | decide)) ?_) | (refine W1.knowTn (by exact rfl) (by first | with_reducible rfl | assumption | (simp only [Bool.not_eq_true', Bool.not_eq_false', decide_eq_true_eq, decide_eq_false_iff_not, bne_iff_ne, beq_iff_eq, bne_eq_false_iff_eq, beq_eq_false_iff_ne, ne_eq]; first | omega | assumption | decide)) ?_) | (refine W1.knowF (by exact rfl) (by first | with_reducible rfl | assumption | (simp only [Bool.not_eq_true', Bool.not_eq_false', decide_eq_true_eq, decide_eq_false_iff_not, bne_iff_ne, beq_iff_eq, bne_eq_false_iff_eq, beq_eq_false_iff_ne, ne_eq]; first | omega | assumption | decide)) ?_) | (refine W1.knowFn (by exact rfl) (by first | with_reducible rfl | assumption | (simp only [Bool.not_eq_true', Bool.not_eq_false', decide_eq_true_eq, decide_eq_false_iff_not, bne_iff_ne, beq_iff_eq, bne_eq_false_iff_eq, beq_eq_false_iff_ne, ne_eq]; first | omega | assumption | decide)) ?_)
    | (refine W1.bothT (by exact rfl) (fun hc => ?_) (fun hc => ?_) <;> first | (cases hc; done) | ((try simp only [hc]); (try simp only [decide_eq_true_eq, decide_eq_false_iff_not, Int.not_le, Int.not_lt, bne_iff_ne, beq_iff_eq, bne_eq_false_iff_eq, beq_eq_false_iff_ne, ne_eq] at hc))) | (refine W1.bothF (by exact rfl) (fun hc => ?_) (fun hc => ?_) <;> first | (cases hc; done) | ((try simp only [hc]); (try simp only [decide_eq_true_eq, decide_eq_false_iff_not, Int.not_le, Int.not_lt, bne_iff_ne, beq_iff_eq, bne_eq_false_iff_eq, beq_eq_false_iff_ne, ne_eq] at hc)))
    | (apply WQ.go; exact rfl; exact rfl) | (apply WQ.no; exact rfl)
    | (refine WQ.knowT (by exact rfl) (by first | with_reducible rfl | assumption | (simp only [Bool.not_eq_true', Bool.not_eq_false', decide_eq_true_eq, decide_eq_false_iff_not, bne_iff_ne, beq_iff_eq, bne_eq_false_iff_eq, beq_eq_false_iff_ne, ne_eq]; first | omega | assumption | decide)) ?_) | (refine WQ.knowTn (by exact rfl) (by first | with_reducible rfl | assumption | (simp only [Bool.not_eq_true', Bool.not_eq_false', decide_eq_true_eq, decide_eq_false_iff_not, bne_iff_ne, beq_iff_eq, bne_eq_false_iff_eq, beq_eq_false_iff_ne, ne_eq]; first | omega | assumption | decide)) ?_) | (refine WQ.knowF (by exact rfl) (by first | with_reducible rfl | assumption | (simp only [Bool.not_eq_true', Bool.not_eq_false', decide_eq_true_eq, decide_eq_false_iff_not, bne_iff_ne, beq_iff_eq, bne_eq_false_iff_eq, beq_eq_false_iff_ne, ne_eq]; first | omega | assumption | decide)) ?_) | (refine WQ.knowFn (by exact rfl) (by first | with_reducible rfl | assumption | (simp only [Bool.not_eq_true', Bool.not_eq_false', decide_eq_true_eq, decide_eq_false_iff_not, bne_iff_ne, beq_iff_eq, bne_eq_false_iff_eq, beq_eq_false_iff_ne, ne_eq]; first | omega | assumption | decide)) ?_)
    | (refine WQ.bothT (by exact rfl) (fun hc => ?_) (fun hc => ?_) <;> first | (cases hc; done) | ((try simp only [hc]); (try simp only [decide_eq_true_eq, decide_eq_false_iff_not, Int.not_le, Int.not_lt, bne_iff_ne, beq_iff_eq, bne_eq_false_iff_eq, beq_eq_false_iff_ne, ne_eq] at hc))) | (refine WQ.bothF (by exact rfl) (fun hc => ?_) (fun hc => ?_) <;> first | (cases hc; done) | ((try simp only [hc]); (try simp only [decide_eq_true_eq, decide_eq_false_iff_not, Int.not_le, Int.not_lt, bne_iff_ne, beq_iff_eq, bne_eq_false_iff_eq, beq_eq_false_iff_ne, ne_eq] at hc)))
    | refine WO.nil ?_ | refine WB.nil ?_ | refine WP.bag rfl ?_ | refine WP.nil ?_ | refine W.seq ?_ | refine W.reg ?_ | refine W.dreg ?_ | refine W.block ?_
    | (refine W.condT (by exact rfl) (by first | with_reducible rfl | assumption | (simp only [Bool.not_eq_true', Bool.not_eq_false', decide_eq_true_eq, decide_eq_false_iff_not, bne_iff_ne, beq_iff_eq, bne_eq_false_iff_eq, beq_eq_false_iff_ne, ne_eq]; first | omega | assumption | decide)) ?_) | (refine W.condF (by exact rfl) (by first | with_reducible rfl | assumption | (simp only [Bool.not_eq_true', Bool.not_eq_false', decide_eq_true_eq, decide_eq_false_iff_not, bne_iff_ne, beq_iff_eq, bne_eq_false_iff_eq, beq_eq_false_iff_ne, ne_eq]; first | omega | assumption | decide)) ?_)
    | (refine W.cond (by exact rfl) (fun hc => ?_) (fun hc => ?_) <;> first | (cases hc; done) | ((try simp only [hc]); (try simp only [decide_eq_true_eq, decide_eq_false_iff_not, Int.not_le, Int.not_lt, bne_iff_ne, beq_iff_eq, bne_eq_false_iff_eq, beq_eq_false_iff_ne, ne_eq] at hc)))
    | refine W.ret ?_ | refine W.skip ?_ | refine W.exit ?_
    | (simp only [srow_len, List.length_map, Qit, Int.toNat_natCast, entry, Opd.eat, cellsOf, getE_upd, getB_upd, TV.ofCells, allAv, Qseq, Qblk, keep_eq, List.map_cons, List.map_nil, putD, put_env, put_box, lstE_cons, lstE_nil, lstB_cons, lstB_nil, Nat.reduceEqDiff, ↓reduceIte, kept_av, kept_own, kept_und, kept_skp, kept_tup, kept_plcB, kept_plcS, kept_aliN, kept_aliB, kept_aliS, List.contains_cons, List.contains_nil, beq_self_eq_true, Nat.reduceBEq, Bool.or_false, Bool.false_or, Bool.or_true, Bool.true_or]))
  all_goals refine Qend.num rfl rfl ?_
  all_goals simp only [ncmp, tcmp]
  · have hne : ¬ a.length = b.length := by omega
    simp only [hne, if_false]
    by_cases h1 : a.length < b.length
    · simp only [h1, if_true]
      by_cases h2 : (-1 : Int) > (a.length : Int) - b.length
      · simp [h2]
      · have : (a.length : Int) - b.length = -1 := by omega
        simp [this]
    · simp only [h1, if_false]
      have h2 : ¬ (-1 : Int) > (a.length : Int) - b.length := by omega
      simp only [h2, if_false]
      by_cases h3 : (1 : Int) < (a.length : Int) - b.length
      · simp [h3]
      · have : (a.length : Int) - b.length = 1 := by omega
        simp [this]
  · rw [if_pos (by omega)]; simp_all
  · rw [if_pos (by omega)]; simp_all
  · rw [if_pos (by omega)]; simp_all
theorem tensSplit_ret {T : Tab} (h : Fn T F.tens_split tens_split.fn) (a : Str) (ha : 0 < a.length) (hl : a.length ≤ 1073741824) : Ret T F.tens_split [.val (.str a)] (two (.bool (minus a)) (.str (if minus a then a.drop 1 else a))) := by
  have ed : List.drop (Int.toNat 1) (List.take a.length a) = a.drop 1 := by rw [List.take_length]; rfl
  by_cases hm : ((bAt a 0).toNat : Int) = 45
  · have hm' : ((bAt a (Int.toNat 0)).toNat : Int) = 45 := hm
    have hmm : minus a = true := by simp [minus, hm]
    rw [hmm]
    refine Ret.mk h rfl ?_
    repeat' (first
      | refine WO.cons ?_ | refine WB.cons ?_ | refine WP.one ?_
      | (apply W1.add64; exact rfl; exact rfl; exact rfl; omega; omega) | (apply W1.sub64; exact rfl; exact rfl; exact rfl; omega; omega)
      | (apply W1.iadr; exact rfl; exact rfl; exact rfl; omega; first | exact V.get_row (by assumption) | exact get_srow (by assumption) | exact get_ty (by assumption) | exact get_ar (by assumption) | exact get_ob (by assumption) | exact get_sprow (by assumption) | exact get_brow (by assumption) | assumption)
      | (apply W1.idxS; exact rfl; exact rfl; exact rfl; omega; omega) | (apply W1.slcS; exact rfl; exact rfl; exact rfl; exact rfl; omega)
      | (apply W1.pickT; exact rfl; exact rfl; exact (by first | with_reducible rfl | assumption | (simp only [Bool.not_eq_true', Bool.not_eq_false', decide_eq_true_eq, decide_eq_false_iff_not, bne_iff_ne, beq_iff_eq, bne_eq_false_iff_eq, beq_eq_false_iff_ne, ne_eq]; first | omega | assumption | decide)); exact rfl) | (apply W1.pickF; exact rfl; exact rfl; exact (by first | with_reducible rfl | assumption | (simp only [Bool.not_eq_true', Bool.not_eq_false', decide_eq_true_eq, decide_eq_false_iff_not, bne_iff_ne, beq_iff_eq, bne_eq_false_iff_eq, beq_eq_false_iff_ne, ne_eq]; first | omega | assumption | decide)); exact rfl)
      | (apply W1.op; exact rfl; exact rfl; exact rfl) | (apply W1.no; exact rfl)
      | (refine W1.knowT (by exact rfl) (by first | with_reducible rfl | assumption | (simp only [Bool.not_eq_true', Bool.not_eq_false', decide_eq_true_eq, decide_eq_false_iff_not, bne_iff_ne, beq_iff_eq, bne_eq_false_iff_eq, beq_eq_false_iff_ne, ne_eq]; first | omega | assumption | decide)) ?_) | (refine W1.knowTn (by exact rfl) (by first | with_reducible rfl | assumption | (simp only [Bool.not_eq_true', Bool.not_eq_false', decide_eq_true_eq, decide_eq_false_iff_not, bne_iff_ne, beq_iff_eq, bne_eq_false_iff_eq, beq_eq_false_iff_ne, ne_eq]; first | omega | assumption | decide)) ?_) | (refine W1.knowF (by exact rfl) (by first | with_reducible rfl | assumption | (simp only [Bool.not_eq_true', Bool.not_eq_false', decide_eq_true_eq, decide_eq_false_iff_not, bne_iff_ne, beq_iff_eq, bne_eq_false_iff_eq, beq_eq_false_iff_ne, ne_eq]; first | omega | assumption | decide)) ?_) | (refine W1.knowFn (by exact rfl) (by first | with_reducible rfl | assumption | (simp only [Bool.not_eq_true', Bool.not_eq_false', decide_eq_true_eq, decide_eq_false_iff_not, bne_iff_ne, beq_iff_eq, bne_eq_false_iff_eq, beq_eq_false_iff_ne, ne_eq]; first | omega | assumption | decide)) ?_)
      | (refine W1.bothT (by exact rfl) (fun hc => ?_) (fun hc => ?_) <;> first | (cases hc; done) | ((try simp only [hc]); (try simp only [decide_eq_true_eq, decide_eq_false_iff_not, Int.not_le, Int.not_lt, bne_iff_ne, beq_iff_eq, bne_eq_false_iff_eq, beq_eq_false_iff_ne, ne_eq] at hc))) | (refine W1.bothF (by exact rfl) (fun hc => ?_) (fun hc => ?_) <;> first | (cases hc; done) | ((try simp only [hc]); (try simp only [decide_eq_true_eq, decide_eq_false_iff_not, Int.not_le, Int.not_lt, bne_iff_ne, beq_iff_eq, bne_eq_false_iff_eq, beq_eq_false_iff_ne, ne_eq] at hc)))
      | (apply WQ.go; exact rfl; exact rfl) | (apply WQ.no; exact rfl)
      | (refine WQ.knowT (by exact rfl) (by first | with_reducible rfl | assumption | (simp only [Bool.not_eq_true', Bool.not_eq_false', decide_eq_true_eq, decide_eq_false_iff_not, bne_iff_ne, beq_iff_eq, bne_eq_false_iff_eq, beq_eq_false_iff_ne, ne_eq]; first | omega | assumption | decide)) ?_) | (refine WQ.knowTn (by exact rfl) (by first | with_reducible rfl | assumption | (simp only [Bool.not_eq_true', Bool.not_eq_false', decide_eq_true_eq, decide_eq_false_iff_not, bne_iff_ne, beq_iff_eq, bne_eq_false_iff_eq, beq_eq_false_iff_ne, ne_eq]; first | omega | assumption | decide)) ?_) | (refine WQ.knowF (by exact rfl) (by first | with_reducible rfl | assumption | (simp only [Bool.not_eq_true', Bool.not_eq_false', decide_eq_true_eq, decide_eq_false_iff_not, bne_iff_ne, beq_iff_eq, bne_eq_false_iff_eq, beq_eq_false_iff_ne, ne_eq]; first | omega | assumption | decide)) ?_) | (refine WQ.knowFn (by exact rfl) (by first | with_reducible rfl | assumption | (simp only [Bool.not_eq_true', Bool.not_eq_false', decide_eq_true_eq, decide_eq_false_iff_not, bne_iff_ne, beq_iff_eq, bne_eq_false_iff_eq, beq_eq_false_iff_ne, ne_eq]; first | omega | assumption | decide)) ?_)
      | (refine WQ.bothT (by exact rfl) (fun hc => ?_) (fun hc => ?_) <;> first | (cases hc; done) | ((try simp only [hc]); (try simp only [decide_eq_true_eq, decide_eq_false_iff_not, Int.not_le, Int.not_lt, bne_iff_ne, beq_iff_eq, bne_eq_false_iff_eq, beq_eq_false_iff_ne, ne_eq] at hc))) | (refine WQ.bothF (by exact rfl) (fun hc => ?_) (fun hc => ?_) <;> first | (cases hc; done) | ((try simp only [hc]); (try simp only [decide_eq_true_eq, decide_eq_false_iff_not, Int.not_le, Int.not_lt, bne_iff_ne, beq_iff_eq, bne_eq_false_iff_eq, beq_eq_false_iff_ne, ne_eq] at hc)))
      | refine WO.nil ?_ | refine WB.nil ?_ | refine WP.bag rfl ?_ | refine WP.nil ?_ | refine W.seq ?_ | refine W.reg ?_ | refine W.dreg ?_ | refine W.block ?_
      | (refine W.condT (by exact rfl) (by first | with_reducible rfl | assumption | (simp only [Bool.not_eq_true', Bool.not_eq_false', decide_eq_true_eq, decide_eq_false_iff_not, bne_iff_ne, beq_iff_eq, bne_eq_false_iff_eq, beq_eq_false_iff_ne, ne_eq]; first | omega | assumption | decide)) ?_) | (refine W.condF (by exact rfl) (by first | with_reducible rfl | assumption | (simp only [Bool.not_eq_true', Bool.not_eq_false', decide_eq_true_eq, decide_eq_false_iff_not, bne_iff_ne, beq_iff_eq, bne_eq_false_iff_eq, beq_eq_false_iff_ne, ne_eq]; first | omega | assumption | decide)) ?_)
      | (refine W.cond (by exact rfl) (fun hc => ?_) (fun hc => ?_) <;> first | (cases hc; done) | ((try simp only [hc]); (try simp only [decide_eq_true_eq, decide_eq_false_iff_not, Int.not_le, Int.not_lt, bne_iff_ne, beq_iff_eq, bne_eq_false_iff_eq, beq_eq_false_iff_ne, ne_eq] at hc)))
      | refine W.ret ?_ | refine W.skip ?_ | refine W.exit ?_
      | (simp only [srow_len, List.length_map, Qit, Int.toNat_natCast, entry, Opd.eat, cellsOf, getE_upd, getB_upd, TV.ofCells, allAv, Qseq, Qblk, keep_eq, List.map_cons, List.map_nil, putD, put_env, put_box, lstE_cons, lstE_nil, lstB_cons, lstB_nil, Nat.reduceEqDiff, ↓reduceIte, kept_av, kept_own, kept_und, kept_skp, kept_tup, kept_plcB, kept_plcS, kept_aliN, kept_aliB, kept_aliS, List.contains_cons, List.contains_nil, beq_self_eq_true, Nat.reduceBEq, Bool.or_false, Bool.false_or, Bool.or_true, Bool.true_or]))
    refine Qend.two rfl rfl rfl ?_
    rw [ed]
  · have hm' : ¬ ((bAt a (Int.toNat 0)).toNat : Int) = 45 := hm
    have hmm : minus a = false := by simp [minus, hm]
    rw [hmm]
    refine Ret.mk h rfl ?_
    repeat' (first
      | refine WO.cons ?_ | refine WB.cons ?_ | refine WP.one ?_
      | (apply W1.add64; exact rfl; exact rfl; exact rfl; omega; omega) | (apply W1.sub64; exact rfl; exact rfl; exact rfl; omega; omega)
      | (apply W1.iadr; exact rfl; exact rfl; exact rfl; omega; first | exact V.get_row (by assumption) | exact get_srow (by assumption) | exact get_ty (by assumption) | exact get_ar (by assumption) | exact get_ob (by assumption) | exact get_sprow (by assumption) | exact get_brow (by assumption) | assumption)
      | (apply W1.idxS; exact rfl; exact rfl; exact rfl; omega; omega) | (apply W1.slcS; exact rfl; exact rfl; exact rfl; exact rfl; omega)
      | (apply W1.pickT; exact rfl; exact rfl; exact (by first | with_reducible rfl | assumption | (simp only [Bool.not_eq_true', Bool.not_eq_false', decide_eq_true_eq, decide_eq_false_iff_not, bne_iff_ne, beq_iff_eq, bne_eq_false_iff_eq, beq_eq_false_iff_ne, ne_eq]; first | omega | assumption | decide)); exact rfl) | (apply W1.pickF; exact rfl; exact rfl; exact (by first | with_reducible rfl | assumption | (simp only [Bool.not_eq_true', Bool.not_eq_false', decide_eq_true_eq, decide_eq_false_iff_not, bne_iff_ne, beq_iff_eq, bne_eq_false_iff_eq, beq_eq_false_iff_ne, ne_eq]; first | omega | assumption | decide)); exact rfl)
      | (apply W1.op; exact rfl; exact rfl; exact rfl) | (apply W1.no; exact rfl)
      | (refine W1.knowT (by exact rfl) (by first | with_reducible rfl | assumption | (simp only [Bool.not_eq_true', Bool.not_eq_false', decide_eq_true_eq, decide_eq_false_iff_not, bne_iff_ne, beq_iff_eq, bne_eq_false_iff_eq, beq_eq_false_iff_ne, ne_eq]; first | omega | assumption | decide)) ?_) | (refine W1.knowTn (by exact rfl) (by first | with_reducible rfl | assumption | (simp only [Bool.not_eq_true', Bool.not_eq_false', decide_eq_true_eq, decide_eq_false_iff_not, bne_iff_ne, beq_iff_eq, bne_eq_false_iff_eq, beq_eq_false_iff_ne, ne_eq]; first | omega | assumption | decide)) ?_) | (refine W1.knowF (by exact rfl) (by first | with_reducible rfl | assumption | (simp only [Bool.not_eq_true', Bool.not_eq_false', decide_eq_true_eq, decide_eq_false_iff_not, bne_iff_ne, beq_iff_eq, bne_eq_false_iff_eq, beq_eq_false_iff_ne, ne_eq]; first | omega | assumption | decide)) ?_) | (refine W1.knowFn (by exact rfl) (by first | with_reducible rfl | assumption | (simp only [Bool.not_eq_true', Bool.not_eq_false', decide_eq_true_eq, decide_eq_false_iff_not, bne_iff_ne, beq_iff_eq, bne_eq_false_iff_eq, beq_eq_false_iff_ne, ne_eq]; first | omega | assumption | decide)) ?_)
      | (refine W1.bothT (by exact rfl) (fun hc => ?_) (fun hc => ?_) <;> first | (cases hc; done) | ((try simp only [hc]); (try simp only [decide_eq_true_eq, decide_eq_false_iff_not, Int.not_le, Int.not_lt, bne_iff_ne, beq_iff_eq, bne_eq_false_iff_eq, beq_eq_false_iff_ne, ne_eq] at hc))) | (refine W1.bothF (by exact rfl) (fun hc => ?_) (fun hc => ?_) <;> first | (cases hc; done) | ((try simp only [hc]); (try simp only [decide_eq_true_eq, decide_eq_false_iff_not, Int.not_le, Int.not_lt, bne_iff_ne, beq_iff_eq, bne_eq_false_iff_eq, beq_eq_false_iff_ne, ne_eq] at hc)))
      | (apply WQ.go; exact rfl; exact rfl) | (apply WQ.no; exact rfl)
      | (refine WQ.knowT (by exact rfl) (by first | with_reducible rfl | assumption | (simp only [Bool.not_eq_true', Bool.not_eq_false', decide_eq_true_eq, decide_eq_false_iff_not, bne_iff_ne, beq_iff_eq, bne_eq_false_iff_eq, beq_eq_false_iff_ne, ne_eq]; first | omega | assumption | decide)) ?_) | (refine WQ.knowTn (by exact rfl) (by first | with_reducible rfl | assumption | (simp only [Bool.not_eq_true', Bool.not_eq_false', decide_eq_true_eq, decide_eq_false_iff_not, bne_iff_ne, beq_iff_eq, bne_eq_false_iff_eq, beq_eq_false_iff_ne, ne_eq]; first | omega | assumption | decide)) ?_) | (refine WQ.knowF (by exact rfl) (by first | with_reducible rfl | assumption | (simp only [Bool.not_eq_true', Bool.not_eq_false', decide_eq_true_eq, decide_eq_false_iff_not, bne_iff_ne, beq_iff_eq, bne_eq_false_iff_eq, beq_eq_false_iff_ne, ne_eq]; first | omega | assumption | decide)) ?_) | (refine WQ.knowFn (by exact rfl) (by first | with_reducible rfl | assumption | (simp only [Bool.not_eq_true', Bool.not_eq_false', decide_eq_true_eq, decide_eq_false_iff_not, bne_iff_ne, beq_iff_eq, bne_eq_false_iff_eq, beq_eq_false_iff_ne, ne_eq]; first | omega | assumption | decide)) ?_)
      | (refine WQ.bothT (by exact rfl) (fun hc => ?_) (fun hc => ?_) <;> first | (cases hc; done) | ((try simp only [hc]); (try simp only [decide_eq_true_eq, decide_eq_false_iff_not, Int.not_le, Int.not_lt, bne_iff_ne, beq_iff_eq, bne_eq_false_iff_eq, beq_eq_false_iff_ne, ne_eq] at hc))) | (refine WQ.bothF (by exact rfl) (fun hc => ?_) (fun hc => ?_) <;> first | (cases hc; done) | ((try simp only [hc]); (try simp only [decide_eq_true_eq, decide_eq_false_iff_not, Int.not_le, Int.not_lt, bne_iff_ne, beq_iff_eq, bne_eq_false_iff_eq, beq_eq_false_iff_ne, ne_eq] at hc)))
      | refine WO.nil ?_ | refine WB.nil ?_ | refine WP.bag rfl ?_ | refine WP.nil ?_ | refine W.seq ?_ | refine W.reg ?_ | refine W.dreg ?_ | refine W.block ?_
      | (refine W.condT (by exact rfl) (by first | with_reducible rfl | assumption | (simp only [Bool.not_eq_true', Bool.not_eq_false', decide_eq_true_eq, decide_eq_false_iff_not, bne_iff_ne, beq_iff_eq, bne_eq_false_iff_eq, beq_eq_false_iff_ne, ne_eq]; first | omega | assumption | decide)) ?_) | (refine W.condF (by exact rfl) (by first | with_reducible rfl | assumption | (simp only [Bool.not_eq_true', Bool.not_eq_false', decide_eq_true_eq, decide_eq_false_iff_not, bne_iff_ne, beq_iff_eq, bne_eq_false_iff_eq, beq_eq_false_iff_ne, ne_eq]; first | omega | assumption | decide)) ?_)
      | (refine W.cond (by exact rfl) (fun hc => ?_) (fun hc => ?_) <;> first | (cases hc; done) | ((try simp only [hc]); (try simp only [decide_eq_true_eq, decide_eq_false_iff_not, Int.not_le, Int.not_lt, bne_iff_ne, beq_iff_eq, bne_eq_false_iff_eq, beq_eq_false_iff_ne, ne_eq] at hc)))
      | refine W.ret ?_ | refine W.skip ?_ | refine W.exit ?_
      | (simp only [srow_len, List.length_map, Qit, Int.toNat_natCast, entry, Opd.eat, cellsOf, getE_upd, getB_upd, TV.ofCells, allAv, Qseq, Qblk, keep_eq, List.map_cons, List.map_nil, putD, put_env, put_box, lstE_cons, lstE_nil, lstB_cons, lstB_nil, Nat.reduceEqDiff, ↓reduceIte, kept_av, kept_own, kept_und, kept_skp, kept_tup, kept_plcB, kept_plcS, kept_aliN, kept_aliB, kept_aliS, List.contains_cons, List.contains_nil, beq_self_eq_true, Nat.reduceBEq, Bool.or_false, Bool.false_or, Bool.or_true, Bool.true_or]))
    exact Qend.two rfl rfl rfl rfl
theorem tensCmp_ret {T : Tab} (h : Fn T F.tens_Cmp tens_Cmp.fn) (h1 : Fn T F.tens_size tens_size.fn) (h2 : Fn T F.tens_split tens_split.fn) (h3 : Fn T F.tens_Formed tens_Formed.fn) (a b : Str) (ha : number a = true) (hb : number b = true) (hl : a.length ≤ 1073741824) (hl' : b.length ≤ 1073741824) :
    Ret T F.tens_Cmp [.val (.str a), .val (.str b)] (two (.int .i64 (zcmp a b)) (.int .i64 0)) := by
  have f1 := tensFormed_ret h3 a hl
  have f2 := tensFormed_ret h3 b hl'
  rw [ha] at f1
  rw [hb] at f2
  have s1 := tensSplit_ret h2 a (number_len ha) hl
  have s2 := tensSplit_ret h2 b (number_len hb) hl'
  have z1 := tensSize_ret h1 a b hl hl'
  have z2 := tensSize_ret h1 (b.drop 1) (a.drop 1) (by simp; omega) (by simp; omega)
  refine Ret.mk h rfl ?_
  cases ma : minus a <;> cases mb : minus b <;> simp only [ma, mb, Bool.false_eq_true, if_false, if_true] at s1 s2
  repeat' (first
    | refine WO.cons ?_ | refine WB.cons ?_ | refine WP.one ?_
    | (first | (apply WQ.call (g := F.tens_Formed) (hm := h3.modes); exact rfl; exact rfl; exact rfl; exact rfl) | (apply W1.callV (g := F.tens_Formed) (hm := h3.modes); exact rfl; exact rfl; exact rfl; exact rfl; exact rfl; exact (f1); exact rfl))
    | (first | (apply WQ.call (g := F.tens_Formed) (hm := h3.modes); exact rfl; exact rfl; exact rfl; exact rfl) | (apply W1.callV (g := F.tens_Formed) (hm := h3.modes); exact rfl; exact rfl; exact rfl; exact rfl; exact rfl; exact (f2); exact rfl))
    | (first | (apply WQ.call (g := F.tens_split) (hm := h2.modes); exact rfl; exact rfl; exact rfl; exact rfl) | (apply W1.callV (g := F.tens_split) (hm := h2.modes); exact rfl; exact rfl; exact rfl; exact rfl; exact rfl; exact (s1); exact rfl))
    | (first | (apply WQ.call (g := F.tens_split) (hm := h2.modes); exact rfl; exact rfl; exact rfl; exact rfl) | (apply W1.callV (g := F.tens_split) (hm := h2.modes); exact rfl; exact rfl; exact rfl; exact rfl; exact rfl; exact (s2); exact rfl))
    | (first | (apply WQ.call (g := F.tens_size) (hm := h1.modes); exact rfl; exact rfl; exact rfl; exact rfl) | (apply W1.callV (g := F.tens_size) (hm := h1.modes); exact rfl; exact rfl; exact rfl; exact rfl; exact rfl; exact (z1); exact rfl))
    | (first | (apply WQ.call (g := F.tens_size) (hm := h1.modes); exact rfl; exact rfl; exact rfl; exact rfl) | (apply W1.callV (g := F.tens_size) (hm := h1.modes); exact rfl; exact rfl; exact rfl; exact rfl; exact rfl; exact (z2); exact rfl))
    | (apply W1.add64; exact rfl; exact rfl; exact rfl; omega; omega) | (apply W1.sub64; exact rfl; exact rfl; exact rfl; omega; omega)
    | (apply W1.iadr; exact rfl; exact rfl; exact rfl; omega; first | exact V.get_row (by assumption) | exact get_srow (by assumption) | exact get_ty (by assumption) | exact get_ar (by assumption) | exact get_ob (by assumption) | exact get_sprow (by assumption) | exact get_brow (by assumption) | assumption)
    | (apply W1.idxS; exact rfl; exact rfl; exact rfl; omega; omega) | (apply W1.slcS; exact rfl; exact rfl; exact rfl; exact rfl; omega)
    | (apply W1.pickT; exact rfl; exact rfl; exact (by first | with_reducible rfl | assumption | (simp only [Bool.not_eq_true', Bool.not_eq_false', decide_eq_true_eq, decide_eq_false_iff_not, bne_iff_ne, beq_iff_eq, bne_eq_false_iff_eq, beq_eq_false_iff_ne, ne_eq]; first | omega | assumption | decide)); exact rfl) | (apply W1.pickF; exact rfl; exact rfl; exact (by first | with_reducible rfl | assumption | (simp only [Bool.not_eq_true', Bool.not_eq_false', decide_eq_true_eq, decide_eq_false_iff_not, bne_iff_ne, beq_iff_eq, bne_eq_false_iff_eq, beq_eq_false_iff_ne, ne_eq]; first | omega | assumption | decide)); exact rfl)
    | (apply W1.op; exact rfl; exact rfl; exact rfl) | (apply W1.no; exact rfl)
    | (refine W1.knowT (by exact rfl) (by first | with_reducible rfl | assumption | (simp only [Bool.not_eq_true', Bool.not_eq_false', decide_eq_true_eq, decide_eq_false_iff_not, bne_iff_ne, beq_iff_eq, bne_eq_false_iff_eq, beq_eq_false_iff_ne, ne_eq]; first | omega | assumption | decide)) ?_) | (refine W1.knowTn (by exact rfl) (by first | with_reducible rfl | assumption | (simp only [Bool.not_eq_true', Bool.not_eq_false', decide_eq_true_eq, decide_eq_false_iff_not, bne_iff_ne, beq_iff_eq, bne_eq_false_iff_eq, beq_eq_false_iff_ne, ne_eq]; first | omega | assumption | decide)) ?_) | (refine W1.knowF (by exact rfl) (by first | with_reducible rfl | assumption | (simp only [Bool.not_eq_true', Bool.not_eq_false', decide_eq_true_eq, decide_eq_false_iff_not, bne_iff_ne, beq_iff_eq, bne_eq_false_iff_eq, beq_eq_false_iff_ne, ne_eq]; first | omega | assumption | decide)) ?_) | (refine W1.knowFn (by exact rfl) (by first | with_reducible rfl | assumption | (simp only [Bool.not_eq_true', Bool.not_eq_false', decide_eq_true_eq, decide_eq_false_iff_not, bne_iff_ne, beq_iff_eq, bne_eq_false_iff_eq, beq_eq_false_iff_ne, ne_eq]; first | omega | assumption | decide)) ?_)
    | (refine W1.bothT (by exact rfl) (fun hc => ?_) (fun hc => ?_) <;> first | (cases hc; done) | ((try simp only [hc]); (try simp only [decide_eq_true_eq, decide_eq_false_iff_not, Int.not_le, Int.not_lt, bne_iff_ne, beq_iff_eq, bne_eq_false_iff_eq, beq_eq_false_iff_ne, ne_eq] at hc))) | (refine W1.bothF (by exact rfl) (fun hc => ?_) (fun hc => ?_) <;> first | (cases hc; done) | ((try simp only [hc]); (try simp only [decide_eq_true_eq, decide_eq_false_iff_not, Int.not_le, Int.not_lt, bne_iff_ne, beq_iff_eq, bne_eq_false_iff_eq, beq_eq_false_iff_ne, ne_eq] at hc)))
    | (apply WQ.go; exact rfl; exact rfl) | (apply WQ.no; exact rfl)
    | (refine WQ.knowT (by exact rfl) (by first | with_reducible rfl | assumption | (simp only [Bool.not_eq_true', Bool.not_eq_false', decide_eq_true_eq, decide_eq_false_iff_not, bne_iff_ne, beq_iff_eq, bne_eq_false_iff_eq, beq_eq_false_iff_ne, ne_eq]; first | omega | assumption | decide)) ?_) | (refine WQ.knowTn (by exact rfl) (by first | with_reducible rfl | assumption | (simp only [Bool.not_eq_true', Bool.not_eq_false', decide_eq_true_eq, decide_eq_false_iff_not, bne_iff_ne, beq_iff_eq, bne_eq_false_iff_eq, beq_eq_false_iff_ne, ne_eq]; first | omega | assumption | decide)) ?_) | (refine WQ.knowF (by exact rfl) (by first | with_reducible rfl | assumption | (simp only [Bool.not_eq_true', Bool.not_eq_false', decide_eq_true_eq, decide_eq_false_iff_not, bne_iff_ne, beq_iff_eq, bne_eq_false_iff_eq, beq_eq_false_iff_ne, ne_eq]; first | omega | assumption | decide)) ?_) | (refine WQ.knowFn (by exact rfl) (by first | with_reducible rfl | assumption | (simp only [Bool.not_eq_true', Bool.not_eq_false', decide_eq_true_eq, decide_eq_false_iff_not, bne_iff_ne, beq_iff_eq, bne_eq_false_iff_eq, beq_eq_false_iff_ne, ne_eq]; first | omega | assumption | decide)) ?_)
    | (refine WQ.bothT (by exact rfl) (fun hc => ?_) (fun hc => ?_) <;> first | (cases hc; done) | ((try simp only [hc]); (try simp only [decide_eq_true_eq, decide_eq_false_iff_not, Int.not_le, Int.not_lt, bne_iff_ne, beq_iff_eq, bne_eq_false_iff_eq, beq_eq_false_iff_ne, ne_eq] at hc))) | (refine WQ.bothF (by exact rfl) (fun hc => ?_) (fun hc => ?_) <;> first | (cases hc; done) | ((try simp only [hc]); (try simp only [decide_eq_true_eq, decide_eq_false_iff_not, Int.not_le, Int.not_lt, bne_iff_ne, beq_iff_eq, bne_eq_false_iff_eq, beq_eq_false_iff_ne, ne_eq] at hc)))
    | refine WO.nil ?_ | refine WB.nil ?_ | refine WP.bag rfl ?_ | refine WP.nil ?_ | refine W.seq ?_ | refine W.reg ?_ | refine W.dreg ?_ | refine W.block ?_
    | (refine W.condT (by exact rfl) (by first | with_reducible rfl | assumption | (simp only [Bool.not_eq_true', Bool.not_eq_false', decide_eq_true_eq, decide_eq_false_iff_not, bne_iff_ne, beq_iff_eq, bne_eq_false_iff_eq, beq_eq_false_iff_ne, ne_eq]; first | omega | assumption | decide)) ?_) | (refine W.condF (by exact rfl) (by first | with_reducible rfl | assumption | (simp only [Bool.not_eq_true', Bool.not_eq_false', decide_eq_true_eq, decide_eq_false_iff_not, bne_iff_ne, beq_iff_eq, bne_eq_false_iff_eq, beq_eq_false_iff_ne, ne_eq]; first | omega | assumption | decide)) ?_)
    | (refine W.cond (by exact rfl) (fun hc => ?_) (fun hc => ?_) <;> first | (cases hc; done) | ((try simp only [hc]); (try simp only [decide_eq_true_eq, decide_eq_false_iff_not, Int.not_le, Int.not_lt, bne_iff_ne, beq_iff_eq, bne_eq_false_iff_eq, beq_eq_false_iff_ne, ne_eq] at hc)))
    | refine W.ret ?_ | refine W.skip ?_ | refine W.exit ?_
    | (simp only [srow_len, List.length_map, Qit, Int.toNat_natCast, entry, Opd.eat, cellsOf, getE_upd, getB_upd, TV.ofCells, allAv, Qseq, Qblk, keep_eq, List.map_cons, List.map_nil, putD, put_env, put_box, lstE_cons, lstE_nil, lstB_cons, lstB_nil, Nat.reduceEqDiff, ↓reduceIte, kept_av, kept_own, kept_und, kept_skp, kept_tup, kept_plcB, kept_plcS, kept_aliN, kept_aliB, kept_aliS, List.contains_cons, List.contains_nil, beq_self_eq_true, Nat.reduceBEq, Bool.or_false, Bool.false_or, Bool.or_true, Bool.true_or]))
  all_goals refine Qend.two rfl rfl ?_ rfl
  all_goals first | (simp [zcmp, ma, mb]; done) | (simp [zcmp, ma, mb]; rfl)
end Hm
