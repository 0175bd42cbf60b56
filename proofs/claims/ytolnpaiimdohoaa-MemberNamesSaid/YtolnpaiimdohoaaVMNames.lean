/- What the law answers on the abstract machine. Conditions: see each theorem. -/
import Derived.Test.YtolnpaiimdohoaaPMNames
set_option linter.unusedVariables false
set_option linter.unusedSimpArgs false
/- The law of the names of members. Conditions: none. -/
namespace Hm
open Go (IntKind)
set_option maxHeartbeats 2000000
theorem MemberNames_ret {T : Tab} (h : Fn T F.hallmarklaw10_MemberNames hallmarklaw10_MemberNames.fn) : Ret T F.hallmarklaw10_MemberNames [] ⟨[([.av (.bool true)], false)], []⟩ := by
  refine Ret.mk h rfl ?_
  repeat' (first
    | refine WO.cons ?_ | refine WB.cons ?_ | refine WP.one ?_
    | (refine W1.go rfl (WS.op rfl (by exact rfl) ?_)) | (refine W1.no rfl ?_)
    | (refine W1.bothT (by exact rfl) (fun hc => ?_) (fun hc => ?_) <;> first | (cases hc; done) | (try simp only [hc])) | (refine W1.bothF (by exact rfl) (fun hc => ?_) (fun hc => ?_) <;> first | (cases hc; done) | (try simp only [hc]))
    | (refine WQ.go rfl rfl ?_) | (refine WQ.no rfl ?_) | (refine WQ.bothT (by exact rfl) (fun hc => ?_) (fun hc => ?_) <;> first | (cases hc; done) | (try simp only [hc])) | (refine WQ.bothF (by exact rfl) (fun hc => ?_) (fun hc => ?_) <;> first | (cases hc; done) | (try simp only [hc]))
    | refine WO.nil ?_ | refine WB.nil ?_ | refine WP.bag rfl ?_ | refine WP.nil ?_ | refine W.seq ?_ | refine W.reg ?_ | refine W.dreg ?_ | refine W.block ?_
    | (refine W.cond (by exact rfl) (fun hc => ?_) (fun hc => ?_) <;> first | (cases hc; done) | (try simp only [hc]))
    | refine W.ret ?_ | refine W.skip ?_ | refine W.exit ?_
    | (simp only [entry, Opd.eat, cellsOf, getE_upd, getB_upd, TV.ofCells, allAv, Qseq, Qblk, keep_eq, List.map_cons, List.map_nil, putD, put_env, put_box, lstE_cons, lstE_nil, lstB_cons, lstB_nil, Nat.reduceEqDiff, ↓reduceIte, kept_av, kept_own, kept_und, kept_skp, kept_tup, kept_plcB, kept_plcS, kept_aliN, kept_aliB, kept_aliS, List.contains_cons, List.contains_nil, beq_self_eq_true, Nat.reduceBEq, Bool.or_false, Bool.false_or, Bool.or_true, Bool.true_or]))
  all_goals exact ⟨.inr rfl, rfl, rfl⟩
end Hm
