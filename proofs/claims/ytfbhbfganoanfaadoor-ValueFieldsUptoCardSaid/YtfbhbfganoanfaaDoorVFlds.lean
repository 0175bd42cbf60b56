/- What the law answers on the abstract machine. Conditions: see each theorem. -/
import Derived.Test.YtfbhbfganoanfaaDoorVFlds4
import Derived.Test.YtfbhbfganoanfaaDoorVFlds3
set_option linter.unusedVariables false
set_option linter.unusedSimpArgs false
/- The law of fields: nothing asked. Conditions: see each theorem. NORMX -/
namespace Hm
open Go (IntKind)
set_option maxHeartbeats 40000000
set_option maxRecDepth 4000
theorem vFields_c {T : Tab} (h : Fn T F.hallmarklaw03_ValueFields hallmarklaw03_ValueFields.fn) (hl : Fn T F.hallmarklaw03_lives hallmarklaw03_lives.fn) (rl : Ret T F.hallmarklaw03_lives [] (one (.bool true))) (o : ObFns T) (f : GwFns T) (hv : ValidOk T)
    (h1 : Fn T F.hallmarkref03_Like hallmarkref03_Like.fn)
    (a8 : Fn T F.hallmarkref03_Formed hallmarkref03_Formed.fn) (a9 : Fn T F.hallmarkref03_All hallmarkref03_All.fn) (b1 : Fn T F.hallmarkref03_Rise hallmarkref03_Rise.fn) (b2 : Fn T F.hallmarkref03_UTF hallmarkref03_UTF.fn) (b3 : Fn T F.hallmarkref03_width hallmarkref03_width.fn)
    (b4 : Fn T F.hallmarkref03_trail hallmarkref03_trail.fn) (b5 : Fn T F.hallmarkref03_Number hallmarkref03_Number.fn) (b6 : Fn T F.hallmarklaw03_small hallmarklaw03_small.fn) (b7 : Fn T F.hallmarkref03_Parts hallmarkref03_Parts.fn)
    (v x : V) (k n : Str) (hs : v.bk + x.bk + k.length + n.length ≤ 1048576) (hf : ¬ ((formed v = true ∧ v.kind = 6) ∧ formed x = true ∧ utf k = true)) : Ret T F.hallmarklaw03_ValueFields [.val (.agg (v.row ++ (x.row ++ [.str k, .str n])))] (one (.bool true)) := by
  obtain ⟨sa, -, r1⟩ := small03_ret b6 b7 v (by omega)
  obtain ⟨sb, -, r2⟩ := small03_ret b6 b7 x (by omega)
  have r4 := refFormed_ret a8 a9 b5 b1 b2 b3 b4 v (by omega)
  have r5 := refFormed_ret a8 a9 b5 b1 b2 b3 b4 x (by omega)
  have r6 := refUTF_ret b2 b3 b4 k (by omega)
  refine Ret.mk h rfl ?_
  have hf' : formed v = false ∨ v.kind ≠ 6 ∨ formed x = false ∨ utf k = false := by
    by_cases h4 : v.kind = 6
    · cases h1 : formed v <;> cases h2 : formed x <;> cases h3 : utf k <;> simp_all
    · exact .inr (.inl h4)
  generalize formed v = fa at *
  generalize formed x = fb at *
  generalize utf k = fc at *
  rw [V.row_eq v, V.row_eq x]
  simp only [V.av_eq] at *
  repeat' (first | refine WO.cons ?_ | refine WB.cons ?_ | refine WP.one ?_ | ((apply W1.callV (dst := some 20) (hm := hl.modes); (iterate 5 exact rfl); exact rl; exact rfl)) | ((apply W1.callV (dst := some 31) (hm := b6.modes); (iterate 5 exact rfl); exact r1; exact rfl)) | ((apply W1.callV (dst := some 35) (hm := b6.modes); (iterate 5 exact rfl); exact r2; exact rfl)) | ((apply W1.callV (dst := some 40) (hm := a8.modes); (iterate 5 exact rfl); exact r4; exact rfl)) | ((apply W1.callV (dst := some 50) (hm := a8.modes); (iterate 5 exact rfl); exact r5; exact rfl)) | ((apply W1.callV (dst := some 55) (hm := b2.modes); (iterate 5 exact rfl); exact r6; exact rfl)) | ((first | apply W1.add64 | apply W1.sub64); (iterate 3 exact rfl); omega; omega) | (apply W1.iadr; (iterate 3 exact rfl); omega; first | assumption | ((first | apply V.get_row | apply get_srow | apply get_ty | apply get_ar | apply get_ob | apply get_sprow | apply get_brow); assumption)) | (apply W1.idxS; (iterate 3 exact rfl); omega; omega) | (apply W1.slcS; (iterate 4 exact rfl); omega) | (apply W1.pickT; exact rfl; exact rfl; (first | with_reducible rfl | assumption | (simp only [bn]; first | omega | assumption | decide)); exact rfl) | (apply W1.pickF; exact rfl; exact rfl; (first | with_reducible rfl | assumption | (simp only [bn]; first | omega | assumption | decide)); exact rfl) | (apply W1.op; (iterate 3 exact rfl)) | (apply W1.no; exact rfl) | ((first | apply W1.knowT | apply W1.knowFn | apply WQ.knowT | apply WQ.knowFn | apply W.condT); exact rfl; (first | with_reducible rfl | assumption | (simp only [bn]; first | omega | assumption | decide))) | ((first | apply W1.knowTn | apply W1.knowF | apply WQ.knowTn | apply WQ.knowF | apply W.condF); exact rfl; (first | with_reducible rfl | assumption | (simp only [bn]; first | omega | assumption | decide))) | (apply WQ.go; exact rfl; exact rfl) | (apply WQ.no; exact rfl) | ((first | apply W1.bothT | apply W1.bothF | apply WQ.bothT | apply WQ.bothF | apply W.cond); exact rfl; all_goals intro hc; all_goals first | (cases hc; done) | ((try simp only [hc]); (try simp only [bm] at hc))) | refine WO.nil ?_ | refine WB.nil ?_ | refine WP.bag rfl ?_ | refine WP.nil ?_ | refine W.seq ?_ | refine W.reg ?_ | refine W.dreg ?_ | refine W.block ?_ | refine W.ret ?_ | refine W.skip ?_ | refine W.exit ?_ | (simp only [srow_len, List.length_map, Qit, Int.toNat_natCast, entry, Opd.eat, cellsOf, TV.ofCells, allAv, Qseq, Qblk, List.map_cons, List.map_nil, putD, kp, Nat.reduceEqDiff, ↓reduceIte, beq_self_eq_true, Nat.reduceBEq, kq, List.drop_zero, List.drop_succ_cons, List.take_succ_cons, List.take_zero, List.cons_append, List.nil_append, Nat.zero_add, resTV, tvOf, List.length_cons, List.length_nil, Nat.reduceAdd]))
  all_goals clear r1 r2 r4 r5 r6 rl
  all_goals first | refine Qend.boo rfl rfl ?_ | skip
  all_goals first | rfl | (simp_all; done) | (exfalso; simp_all; done) | trace_state
end Hm

/- The law of fields. Conditions: see each theorem. -/
namespace Hm
open Go (IntKind)
theorem ValueFields_ret {T : Tab} (h : Fn T F.hallmarklaw03_ValueFields hallmarklaw03_ValueFields.fn) (hl : Fn T F.hallmarklaw03_lives hallmarklaw03_lives.fn) (rl : Ret T F.hallmarklaw03_lives [] (one (.bool true))) (o : ObFns T) (f : GwFns T) (hv : ValidOk T)
    (h1 : Fn T F.hallmarkref03_Like hallmarkref03_Like.fn)
    (a8 : Fn T F.hallmarkref03_Formed hallmarkref03_Formed.fn) (a9 : Fn T F.hallmarkref03_All hallmarkref03_All.fn) (b1 : Fn T F.hallmarkref03_Rise hallmarkref03_Rise.fn) (b2 : Fn T F.hallmarkref03_UTF hallmarkref03_UTF.fn) (b3 : Fn T F.hallmarkref03_width hallmarkref03_width.fn)
    (b4 : Fn T F.hallmarkref03_trail hallmarkref03_trail.fn) (b5 : Fn T F.hallmarkref03_Number hallmarkref03_Number.fn) (b6 : Fn T F.hallmarklaw03_small hallmarklaw03_small.fn) (b7 : Fn T F.hallmarkref03_Parts hallmarkref03_Parts.fn)
    (v x : V) (k n : Str) (hs : v.bk + x.bk + k.length + n.length ≤ 1048576) : Ret T F.hallmarklaw03_ValueFields [.val (.agg (v.row ++ (x.row ++ [.str k, .str n])))] (one (.bool true)) := by
  by_cases hf : (formed v = true ∧ v.kind = 6) ∧ formed x = true ∧ utf k = true
  · by_cases hnk : n = k
    · exact vFields_a h hl rl o f hv h1 a8 a9 b1 b2 b3 b4 b5 b6 b7 v x k n hs hf hnk
    · exact vFields_b h hl rl o f hv h1 a8 a9 b1 b2 b3 b4 b5 b6 b7 v x k n hs hf hnk
  · exact vFields_c h hl rl o f hv h1 a8 a9 b1 b2 b3 b4 b5 b6 b7 v x k n hs hf
end Hm
