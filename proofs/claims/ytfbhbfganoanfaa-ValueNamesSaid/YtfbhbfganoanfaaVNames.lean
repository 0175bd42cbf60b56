/- What the law answers on the abstract machine. Conditions: see each theorem. -/
import Derived.Test.YtfbhbfganoanfaaPNames
set_option linter.unusedVariables false
set_option linter.unusedSimpArgs false
/- Names of kinds, and which values count as true. Conditions: none. -/
namespace Hm
open Go (IntKind)
def nameOf (k : Int) : List UInt8 :=
  if k = 0 then [110, 117, 108, 108] else if k = 1 ∨ k = 2 then [98, 111, 111, 108, 101, 97, 110] else if k = 3 then [110, 117, 109, 98, 101, 114] else if k = 4 then [115, 116, 114, 105, 110, 103]
  else if k = 5 then [97, 114, 114, 97, 121] else if k = 6 then [111, 98, 106, 101, 99, 116] else []
set_option maxHeartbeats 2000000
theorem value_Name_ret {T : Tab} (h : Fn T F.value_Name value_Name.fn) (k : Int) : Ret T F.value_Name [.val (.int .i64 k)] ⟨[([.av (.str (nameOf k))], false)], []⟩ := by
  refine Ret.mk h rfl ?_
  repeat' (first
    | refine WO.cons ?_ | refine WB.cons ?_ | refine WP.one ?_
    | (refine W1.go rfl (WS.op rfl (by exact rfl) ?_)) | (refine W1.no rfl ?_)
    | (refine W1.bothT (by exact rfl) (fun hc => ?_) (fun hc => ?_) <;> first | (cases hc; done) | (try simp only [hc])) | (refine W1.bothF (by exact rfl) (fun hc => ?_) (fun hc => ?_) <;> first | (cases hc; done) | (try simp only [hc]))
    | (refine WQ.go rfl rfl ?_) | (refine WQ.no rfl ?_) | (refine WQ.bothT (by exact rfl) (fun hc => ?_) (fun hc => ?_) <;> first | (cases hc; done) | (try simp only [hc])) | (refine WQ.bothF (by exact rfl) (fun hc => ?_) (fun hc => ?_) <;> first | (cases hc; done) | (try simp only [hc]))
    | refine WO.nil ?_ | refine WB.nil ?_ | refine WP.bag rfl ?_ | refine WP.nil ?_ | refine W.seq ?_ | refine W.reg ?_ | refine W.dreg ?_ | refine W.block ?_
    | (refine W.cond (by exact rfl) (fun hc => ?_) (fun hc => ?_) <;> first | (cases hc; done) | (try simp only [hc]))
    | refine W.ret ?_ | refine W.skip ?_ | refine W.exit ?_
    | (simp only [entry, Opd.eat, cellsOf, getE_upd, getB_upd, TV.ofCells, allAv, Qseq, Qblk, keep_eq, List.map_cons, List.map_nil, putD, put_env, put_box, lstE_cons, lstE_nil, lstB_cons, lstB_nil, Nat.reduceEqDiff, ↓reduceIte, kept_av, kept_own, kept_und, kept_skp, kept_tup, kept_plcB, kept_plcS, kept_aliN, kept_aliB, kept_aliS, List.contains_cons, List.contains_nil, beq_self_eq_true, Nat.reduceBEq, Bool.or_false, Bool.false_or, Bool.or_true, Bool.true_or]))
  all_goals (refine ⟨.inr rfl, ?_, rfl⟩; simp_all [value_Name.fn, results, lstE_cons, cellsOf, AV.isAgg, nameOf])
theorem refName_ret {T : Tab} (h : Fn T F.hallmarkref03_Name hallmarkref03_Name.fn) (k : Int) : Ret T F.hallmarkref03_Name [.val (.int .i64 k)] ⟨[([.av (.str (nameOf k))], false)], []⟩ := by
  refine Ret.mk h rfl ?_
  repeat' (first
    | refine WO.cons ?_ | refine WB.cons ?_ | refine WP.one ?_
    | (refine W1.go rfl (WS.op rfl (by exact rfl) ?_)) | (refine W1.no rfl ?_)
    | (refine W1.bothT (by exact rfl) (fun hc => ?_) (fun hc => ?_) <;> first | (cases hc; done) | (try simp only [hc])) | (refine W1.bothF (by exact rfl) (fun hc => ?_) (fun hc => ?_) <;> first | (cases hc; done) | (try simp only [hc]))
    | (refine WQ.go rfl rfl ?_) | (refine WQ.no rfl ?_) | (refine WQ.bothT (by exact rfl) (fun hc => ?_) (fun hc => ?_) <;> first | (cases hc; done) | (try simp only [hc])) | (refine WQ.bothF (by exact rfl) (fun hc => ?_) (fun hc => ?_) <;> first | (cases hc; done) | (try simp only [hc]))
    | refine WO.nil ?_ | refine WB.nil ?_ | refine WP.bag rfl ?_ | refine WP.nil ?_ | refine W.seq ?_ | refine W.reg ?_ | refine W.dreg ?_ | refine W.block ?_
    | (refine W.cond (by exact rfl) (fun hc => ?_) (fun hc => ?_) <;> first | (cases hc; done) | (try simp only [hc]))
    | refine W.ret ?_ | refine W.skip ?_ | refine W.exit ?_
    | (simp only [entry, Opd.eat, cellsOf, getE_upd, getB_upd, TV.ofCells, allAv, Qseq, Qblk, keep_eq, List.map_cons, List.map_nil, putD, put_env, put_box, lstE_cons, lstE_nil, lstB_cons, lstB_nil, Nat.reduceEqDiff, ↓reduceIte, kept_av, kept_own, kept_und, kept_skp, kept_tup, kept_plcB, kept_plcS, kept_aliN, kept_aliB, kept_aliS, List.contains_cons, List.contains_nil, beq_self_eq_true, Nat.reduceBEq, Bool.or_false, Bool.false_or, Bool.or_true, Bool.true_or]))
  all_goals (refine ⟨.inr rfl, ?_, rfl⟩; simp_all [hallmarkref03_Name.fn, results, lstE_cons, cellsOf, AV.isAgg, nameOf])
theorem value_True_ret {T : Tab} (h : Fn T F.value_True value_True.fn) (k : Int) (n t : List UInt8) (it ks : List (List AV)) : Ret T F.value_True [.val (.agg [.int .i64 k, .str n, .str t, .lst 5 it, .lst 1 ks])] ⟨[([.av (.bool (k != 0 && k != 1))], false)], []⟩ := by
  refine Ret.mk h rfl ?_
  repeat' (first
    | refine WO.cons ?_ | refine WB.cons ?_ | refine WP.one ?_
    | (refine W1.go rfl (WS.op rfl (by exact rfl) ?_)) | (refine W1.no rfl ?_)
    | (refine W1.bothT (by exact rfl) (fun hc => ?_) (fun hc => ?_) <;> first | (cases hc; done) | (try simp only [hc])) | (refine W1.bothF (by exact rfl) (fun hc => ?_) (fun hc => ?_) <;> first | (cases hc; done) | (try simp only [hc]))
    | (refine WQ.go rfl rfl ?_) | (refine WQ.no rfl ?_) | (refine WQ.bothT (by exact rfl) (fun hc => ?_) (fun hc => ?_) <;> first | (cases hc; done) | (try simp only [hc])) | (refine WQ.bothF (by exact rfl) (fun hc => ?_) (fun hc => ?_) <;> first | (cases hc; done) | (try simp only [hc]))
    | refine WO.nil ?_ | refine WB.nil ?_ | refine WP.bag rfl ?_ | refine WP.nil ?_ | refine W.seq ?_ | refine W.reg ?_ | refine W.dreg ?_ | refine W.block ?_
    | (refine W.cond (by exact rfl) (fun hc => ?_) (fun hc => ?_) <;> first | (cases hc; done) | (try simp only [hc]))
    | refine W.ret ?_ | refine W.skip ?_ | refine W.exit ?_
    | (simp only [entry, Opd.eat, cellsOf, getE_upd, getB_upd, TV.ofCells, allAv, Qseq, Qblk, keep_eq, List.map_cons, List.map_nil, putD, put_env, put_box, lstE_cons, lstE_nil, lstB_cons, lstB_nil, Nat.reduceEqDiff, ↓reduceIte, kept_av, kept_own, kept_und, kept_skp, kept_tup, kept_plcB, kept_plcS, kept_aliN, kept_aliB, kept_aliS, List.contains_cons, List.contains_nil, beq_self_eq_true, Nat.reduceBEq, Bool.or_false, Bool.false_or, Bool.or_true, Bool.true_or]))
  all_goals exact ⟨.inr rfl, rfl, rfl⟩
theorem ValueNames_ret {T : Tab} (h : Fn T F.hallmarklaw03_ValueNames hallmarklaw03_ValueNames.fn) (h1 : Fn T F.value_Name value_Name.fn) (h2 : Fn T F.hallmarkref03_Name hallmarkref03_Name.fn) (h3 : Fn T F.value_True value_True.fn)
    (kind k : Int) (n t : List UInt8) (it ks : List (List AV)) :
    Ret T F.hallmarklaw03_ValueNames [.val (.int .i64 kind), .val (.agg [.int .i64 k, .str n, .str t, .lst 5 it, .lst 1 ks])] ⟨[([.av (.bool true)], false)], []⟩ := by
  refine Ret.mk h rfl ?_
  repeat' (first
    | refine WO.cons ?_ | refine WB.cons ?_ | refine WP.one ?_
    | (first | (refine WQ.call (g := F.value_Name) rfl rfl h1.modes rfl rfl ?_) | (refine W1.go rfl (WS.callV (g := F.value_Name) rfl h1.modes rfl rfl rfl (value_Name_ret h1 _) rfl ?_)))
    | (first | (refine WQ.call (g := F.hallmarkref03_Name) rfl rfl h2.modes rfl rfl ?_) | (refine W1.go rfl (WS.callV (g := F.hallmarkref03_Name) rfl h2.modes rfl rfl rfl (refName_ret h2 _) rfl ?_)))
    | (first | (refine WQ.call (g := F.value_True) rfl rfl h3.modes rfl rfl ?_) | (refine W1.go rfl (WS.callV (g := F.value_True) rfl h3.modes rfl rfl rfl (value_True_ret h3 _ _ _ _ _) rfl ?_)))
    | (refine W1.go rfl (WS.op rfl (by exact rfl) ?_)) | (refine W1.no rfl ?_)
    | (refine W1.bothT (by exact rfl) (fun hc => ?_) (fun hc => ?_) <;> first | (cases hc; done) | (try simp only [hc])) | (refine W1.bothF (by exact rfl) (fun hc => ?_) (fun hc => ?_) <;> first | (cases hc; done) | (try simp only [hc]))
    | (refine WQ.go rfl rfl ?_) | (refine WQ.no rfl ?_) | (refine WQ.bothT (by exact rfl) (fun hc => ?_) (fun hc => ?_) <;> first | (cases hc; done) | (try simp only [hc])) | (refine WQ.bothF (by exact rfl) (fun hc => ?_) (fun hc => ?_) <;> first | (cases hc; done) | (try simp only [hc]))
    | refine WO.nil ?_ | refine WB.nil ?_ | refine WP.bag rfl ?_ | refine WP.nil ?_ | refine W.seq ?_ | refine W.reg ?_ | refine W.dreg ?_ | refine W.block ?_
    | (refine W.cond (by exact rfl) (fun hc => ?_) (fun hc => ?_) <;> first | (cases hc; done) | (try simp only [hc]))
    | refine W.ret ?_ | refine W.skip ?_ | refine W.exit ?_
    | (simp only [entry, Opd.eat, cellsOf, getE_upd, getB_upd, TV.ofCells, allAv, Qseq, Qblk, keep_eq, List.map_cons, List.map_nil, putD, put_env, put_box, lstE_cons, lstE_nil, lstB_cons, lstB_nil, Nat.reduceEqDiff, ↓reduceIte, kept_av, kept_own, kept_und, kept_skp, kept_tup, kept_plcB, kept_plcS, kept_aliN, kept_aliB, kept_aliS, List.contains_cons, List.contains_nil, beq_self_eq_true, Nat.reduceBEq, Bool.or_false, Bool.false_or, Bool.or_true, Bool.true_or]))
  all_goals (refine ⟨.inr rfl, ?_, rfl⟩; show some [([Cell.av (.bool _)], false)] = _; simp_all [nameOf])
end Hm
