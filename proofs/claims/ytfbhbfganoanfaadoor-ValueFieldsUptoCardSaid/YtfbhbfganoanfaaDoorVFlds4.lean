/- What the law answers on the abstract machine. Conditions: see each theorem. -/
import Derived.Test.YtfbhbfganoanfaaDoorVFlds2
set_option linter.unusedVariables false
set_option linter.unusedSimpArgs false
/- The law of fields: another key. Conditions: see each theorem. NORMX -/
namespace Hm
open Go (IntKind)
set_option maxHeartbeats 40000000
set_option maxRecDepth 4000
theorem vFields_b {T : Tab} (h : Fn T F.hallmarklaw03_ValueFields hallmarklaw03_ValueFields.fn) (hl : Fn T F.hallmarklaw03_lives hallmarklaw03_lives.fn) (rl : Ret T F.hallmarklaw03_lives [] (one (.bool true))) (o : ObFns T) (f : GwFns T) (hv : ValidOk T)
    (h1 : Fn T F.hallmarkref03_Like hallmarkref03_Like.fn)
    (a8 : Fn T F.hallmarkref03_Formed hallmarkref03_Formed.fn) (a9 : Fn T F.hallmarkref03_All hallmarkref03_All.fn) (b1 : Fn T F.hallmarkref03_Rise hallmarkref03_Rise.fn) (b2 : Fn T F.hallmarkref03_UTF hallmarkref03_UTF.fn) (b3 : Fn T F.hallmarkref03_width hallmarkref03_width.fn)
    (b4 : Fn T F.hallmarkref03_trail hallmarkref03_trail.fn) (b5 : Fn T F.hallmarkref03_Number hallmarkref03_Number.fn) (b6 : Fn T F.hallmarklaw03_small hallmarklaw03_small.fn) (b7 : Fn T F.hallmarkref03_Parts hallmarkref03_Parts.fn)
    (v x : V) (k n : Str) (hs : v.bk + x.bk + k.length + n.length ≤ 1048576) (hf : (formed v = true ∧ v.kind = 6) ∧ formed x = true ∧ utf k = true) (hnk : ¬ n = k) : Ret T F.hallmarklaw03_ValueFields [.val (.agg (v.row ++ (x.row ++ [.str k, .str n])))] (one (.bool true)) := by
  obtain ⟨sa, -, r1⟩ := small03_ret b6 b7 v (by omega)
  obtain ⟨sb, -, r2⟩ := small03_ret b6 b7 x (by omega)
  have r4 := refFormed_ret a8 a9 b5 b1 b2 b3 b4 v (by omega)
  have r5 := refFormed_ret a8 a9 b5 b1 b2 b3 b4 x (by omega)
  have r6 := refUTF_ret b2 b3 b4 k (by omega)
  refine Ret.mk h rfl ?_
  obtain ⟨⟨fa, ka⟩, fx, fk⟩ := hf
  rw [fa] at r4
  rw [fx] at r5
  rw [fk] at r6
  obtain ⟨m, rfl, u1, u2, u3⟩ := obj_of fa ka
  have om : Obj m := ⟨u1, u2, u3⟩
  rw [objF_bk] at hs
  have s1 := sz_ins k x m
  have s2 := szF_sub (sub_del k m)
  have oi := om.ins fk fx
  obtain ⟨C1, c1, q1⟩ := valueWith_ret f o hv om k fk x fx (by omega)
  obtain ⟨C2, c2, q2⟩ := valueGet_ret f o.tw (objF (insA m k x)) (by rw [objF_bk]; omega) k
  rw [getV_obj, look_ins, if_pos rfl] at c2 q2
  have q3 := refFormed_ret a8 a9 b5 b1 b2 b3 b4 (objF (insA m k x)) (by rw [objF_bk]; omega)
  rw [oi.formed] at q3
  obtain ⟨C4, c4, q4⟩ := valueGet_ret f o.tw (objF m) (by rw [objF_bk]; omega) n
  obtain ⟨C5, c5, q5⟩ := valueGet_ret f o.tw (objF (insA m k x)) (by rw [objF_bk]; omega) n
  rw [getV_obj] at c4 q4 c5 q5
  rw [look_ins] at c5 q5
  obtain ⟨C6, c6, q6⟩ := valueWithout_ret f o hv oi k (by omega)
  obtain ⟨C7, c7, q7⟩ := valueWithout_ret f o hv om k (by omega)
  rw [del_ins u1] at c6
  obtain ⟨C8, c8, q8⟩ := valueGet_ret f o.tw (objF (delA m k)) (by rw [objF_bk]; omega) k
  rw [getV_obj, look_del k k u1, if_pos rfl] at c8 q8
  have lb := look_bk m n
  have p1 := like_same' h1 x (by omega)
  have p2 := like_same' h1 ((lookF m n).getD zeroV) (by omega)
  have p3 := like_same' h1 (objF (delA m k)) (by rw [objF_bk]; omega)
  rw [objF_row] at c1 c6 c7
  simp only [Option.getD_some, Option.isSome_some, Option.getD_none, Option.isSome_none] at c2 q2 c8 q8
  simp only [objF_av] at *
  rw [objF_row]
  rw [zeroV_row] at c8
  clear s1 s2 oi lb fx fk fa ka u1 u2 u3 om
  generalize insA m k x = M1 at *
  generalize delA m k = M2 at *
  rw [if_neg hnk] at c5 q5
  generalize (lookF m n).isSome = t at *
  generalize (lookF m n).getD zeroV = X at *
  rw [V.row_eq] at c2 c4 c5
  simp only [V.av_eq] at *
  rw [V.row_eq]
  repeat' (first | refine WO.cons ?_ | refine WB.cons ?_ | refine WP.one ?_ | ((apply W1.callV (dst := some 20) (hm := hl.modes); (iterate 5 exact rfl); exact rl; exact rfl)) | ((apply W1.callV (dst := some 31) (hm := b6.modes); (iterate 5 exact rfl); exact r1; exact rfl)) | ((apply W1.callV (dst := some 35) (hm := b6.modes); (iterate 5 exact rfl); exact r2; exact rfl)) | ((apply W1.callV (dst := some 40) (hm := a8.modes); (iterate 5 exact rfl); exact r4; exact rfl)) | ((apply W1.callV (dst := some 50) (hm := a8.modes); (iterate 5 exact rfl); exact r5; exact rfl)) | ((apply W1.callV (dst := some 55) (hm := b2.modes); (iterate 5 exact rfl); exact r6; exact rfl)) | ((apply W1.callD2 (dst := some 62) (hm := f.a2.modes) c1; (iterate 5 exact rfl); exact q1; exact rfl)) | ((apply W1.callD2 (dst := some 68) (hm := f.a1.modes) c2; (iterate 5 exact rfl); exact q2; exact rfl)) | ((apply W1.callV (dst := some 80) (hm := h1.modes); (iterate 5 exact rfl); exact p1; exact rfl)) | ((apply W1.callV (dst := some 85) (hm := a8.modes); (iterate 5 exact rfl); exact q3; exact rfl)) | ((apply W1.callD2 (dst := some 91) (hm := f.a1.modes) c4; (iterate 5 exact rfl); exact q4; exact rfl)) | ((apply W1.callD2 (dst := some 97) (hm := f.a1.modes) c5; (iterate 5 exact rfl); exact q5; exact rfl)) | ((apply W1.callV (dst := some 110) (hm := h1.modes); (iterate 5 exact rfl); exact p2; exact rfl)) | ((apply W1.callD2 (dst := some 117) (hm := f.a3.modes) c6; (iterate 5 exact rfl); exact q6; exact rfl)) | ((apply W1.callD2 (dst := some 123) (hm := f.a3.modes) c7; (iterate 5 exact rfl); exact q7; exact rfl)) | ((apply W1.callD2 (dst := some 129) (hm := f.a1.modes) c8; (iterate 5 exact rfl); exact q8; exact rfl)) | ((apply W1.callV (dst := some 145) (hm := h1.modes); (iterate 5 exact rfl); exact p3; exact rfl)) | ((first | apply W1.add64 | apply W1.sub64); (iterate 3 exact rfl); omega; omega) | (apply W1.iadr; (iterate 3 exact rfl); omega; first | assumption | ((first | apply V.get_row | apply get_srow | apply get_ty | apply get_ar | apply get_ob | apply get_sprow | apply get_brow); assumption)) | (apply W1.idxS; (iterate 3 exact rfl); omega; omega) | (apply W1.slcS; (iterate 4 exact rfl); omega) | (apply W1.pickT; exact rfl; exact rfl; (first | with_reducible rfl | assumption | (simp only [bn]; first | omega | assumption | decide)); exact rfl) | (apply W1.pickF; exact rfl; exact rfl; (first | with_reducible rfl | assumption | (simp only [bn]; first | omega | assumption | decide)); exact rfl) | (apply W1.op; (iterate 3 exact rfl)) | (apply W1.no; exact rfl) | ((first | apply W1.knowT | apply W1.knowFn | apply WQ.knowT | apply WQ.knowFn | apply W.condT); exact rfl; (first | with_reducible rfl | assumption | (simp only [bn]; first | omega | assumption | decide))) | ((first | apply W1.knowTn | apply W1.knowF | apply WQ.knowTn | apply WQ.knowF | apply W.condF); exact rfl; (first | with_reducible rfl | assumption | (simp only [bn]; first | omega | assumption | decide))) | (apply WQ.go; exact rfl; exact rfl) | (apply WQ.no; exact rfl) | ((first | apply W1.bothT | apply W1.bothF | apply WQ.bothT | apply WQ.bothF | apply W.cond); exact rfl; all_goals intro hc; all_goals first | (cases hc; done) | ((try simp only [hc]); (try simp only [bm] at hc))) | refine WO.nil ?_ | refine WB.nil ?_ | refine WP.bag rfl ?_ | refine WP.nil ?_ | refine W.seq ?_ | refine W.reg ?_ | refine W.dreg ?_ | refine W.block ?_ | refine W.ret ?_ | refine W.skip ?_ | refine W.exit ?_ | (simp only [srow_len, List.length_map, Qit, Int.toNat_natCast, entry, Opd.eat, cellsOf, TV.ofCells, allAv, Qseq, Qblk, List.map_cons, List.map_nil, putD, kp, Nat.reduceEqDiff, ↓reduceIte, beq_self_eq_true, Nat.reduceBEq, kq, List.drop_zero, List.drop_succ_cons, List.take_succ_cons, List.take_zero, List.cons_append, List.nil_append, Nat.zero_add, resTV, tvOf, List.length_cons, List.length_nil, Nat.reduceAdd]))
  all_goals first | refine Qend.boo rfl rfl ?_ | skip
  all_goals first | rfl | (simp_all; done) | (exfalso; simp_all; done) | trace_state
end Hm
