/- What the law answers on the abstract machine. Conditions: see each theorem. -/
import Derived.Test.YtaemcgnkpfbenaaGreatDoorPAlts
import Derived.Test.YtaemcgnkpfbenaaGreatDoorVPrtsM
set_option linter.unusedVariables false
set_option linter.unusedSimpArgs false
/- Of several alternatives one is enough: the law. NORMX NORMY NORMC Conditions: see each theorem. -/
namespace Hm
open Go (IntKind)
set_option maxHeartbeats 40000000
set_option maxRecDepth 4000
section
variable {T : Tab}
theorem W1.slc1 {st : St} {K : St → Prop} {dst : Option Nat} {g : Option (Nat × Bool)} {k i : Nat} {n : Int} {x lo hi : Opd} {r : List AV} {rows : List (List AV)} (hg : wanted st g = some true) (hx : st.opd x = .av (.lst k rows)) (hl : st.opd lo = .av (.int .i64 (i : Int))) (hh : st.opd hi = .av (.int .i64 n)) (hn : n = (i : Int) + 1) (hr : rows[i]? = some r)
    (hk : K (putD dst (.av (.lst k [r])) st)) : W1 T ⟨dst, .slc false k x (some lo) (some hi), g⟩ st K := by
  subst hn
  have hlt := (List.getElem?_eq_some_iff.1 hr).1
  refine W1.go hg (WS.op (v := .av (.lst k [r])) (st' := st) rfl ?_ hk)
  have e : (TV.av (.lst k rows)).rd = some (.lst k rows) := rfl
  have b1 : st.bnd 0 (some lo) = some i := by simp only [St.bnd, hl, idx]; rw [if_pos (by omega)]; simp
  have b2 : st.bnd rows.length (some hi) = some (i + 1) := by simp only [St.bnd, hh, idx]; rw [if_pos (by omega)]; congr 1
  have e2 : (rows.take (i + 1)).drop i = [r] := by
    rw [List.take_add_one, hr, List.drop_append, List.drop_eq_nil_of_le (by rw [List.length_take]; omega), List.length_take, Nat.min_eq_left (by omega), Nat.sub_self]; rfl
  simp only [stepOp, hx, e, b1, b2]
  rw [if_pos ⟨trivial, by omega, hlt⟩, e2]
theorem MemberAlternatives_ret (h : Fn T F.hallmarklaw10_MemberAlternatives hallmarklaw10_MemberAlternatives.fn) (hk : Fn T F.hallmarklaw10_MemberKnown hallmarklaw10_MemberKnown.fn) (rk : Ret T F.hallmarklaw10_MemberKnown [] (one (.bool true))) (f : MiFns T) (g : RsFns T)
    (v : V) (l : List Ob) (hb : v.bk + obBks l ≤ 1073700000) : Ret T F.hallmarklaw10_MemberAlternatives [.val v.av, .val (.lst 12 (l.map Ob.row))] (one (.bool true)) := by
  have hbl := len_obBks l
  have e5 : (l.map Ob.row).length = l.length := List.length_map ..
  have hob := objsT_bk l
  have r1 := rsV_ret g v (by omega)
  have r2 := rsT_ret g (objsT l) (by omega)
  rw [Ty.av_eq, objsT] at r2
  simp only [Ty.all, Ty.nul, Ty.fls, Ty.tru, Ty.nums, Ty.anyText, Ty.texts, Ty.arrays, Ty.objects, List.map_nil, sprow, srow] at r2
  refine Ret.mk h rfl ?_
  cases hA : formed v
  · rw [hA] at r1
    rw [V.av_eq] at r1 ⊢
    repeat' (first | refine zA ?_ | refine WQ.cl hk.modes ?_ | refine W1.cl hk.modes (rk) ?_ | refine WQ.cl g.p1.modes ?_ | refine W1.cl g.p1.modes (r1) ?_ | refine WQ.cl g.q1.modes ?_ | refine W1.cl g.q1.modes (r2) ?_ | refine zB ?_ | (refine zC ?_ ?_ <;> intro hc; all_goals first | (cases hc; done) | ((try simp only [hc]); (try simp only [bm] at hc))) | refine zE ?_ | refine zNZ ?_ | fail)
    all_goals first | exact Qend.boo rfl rfl rfl | (exfalso; simp_all; done) | trace_state
  rw [hA] at r1
  cases hT : tformed (objsT l)
  · rw [objsT] at hT
    rw [hT] at r2
    rw [V.av_eq] at r1 ⊢
    repeat' (first | refine zA ?_ | refine WQ.cl hk.modes ?_ | refine W1.cl hk.modes (rk) ?_ | refine WQ.cl g.p1.modes ?_ | refine W1.cl g.p1.modes (r1) ?_ | refine WQ.cl g.q1.modes ?_ | refine W1.cl g.q1.modes (r2) ?_ | refine zB ?_ | (refine zC ?_ ?_ <;> intro hc; all_goals first | (cases hc; done) | ((try simp only [hc]); (try simp only [bm] at hc))) | refine zE ?_ | refine zNZ ?_ | fail)
    all_goals first | exact Qend.boo rfl rfl rfl | (exfalso; simp_all; done) | trace_state
  have hT1 := objsT_one hT
  have r3 := memIn_ret f v (objsT l) (by omega) (by omega) hA hT
  rw [objsT_in] at r3
  rw [Ty.av_eq, objsT] at r3
  simp only [Ty.all, Ty.nul, Ty.fls, Ty.tru, Ty.nums, Ty.anyText, Ty.texts, Ty.arrays, Ty.objects, List.map_nil, sprow, srow] at r3
  rw [objsT] at hT
  rw [hT] at r2
  rw [V.av_eq] at r1 r3 ⊢
  repeat' (first | refine zA ?_ | refine WQ.cl hk.modes ?_ | refine W1.cl hk.modes (rk) ?_ | refine WQ.cl g.p1.modes ?_ | refine W1.cl g.p1.modes (r1) ?_ | refine WQ.cl g.q1.modes ?_ | refine W1.cl g.q1.modes (r2) ?_ | refine zB ?_ | (refine zC ?_ ?_ <;> intro hc; all_goals first | (cases hc; done) | ((try simp only [hc]); (try simp only [bm] at hc))) | refine zE ?_ | refine zNZ ?_ | fail)
  all_goals first | exact Qend.boo rfl rfl rfl | (exfalso; simp_all; done) | skip
  all_goals clear r1 r2 rk
  all_goals refine W.listP l (fun i (b : Bool) s => (s.put 6 (.av (.bool b))).put 7 (.av (.int .i64 (i : Int)))) (fun i b => b = ((l.take i).any fun o => inT v (objT o))) false (by simp) rfl ?_ ?_
  all_goals first
    | (intro i x b hx hi hp
       have hxm := List.mem_of_getElem? hx
       have hxb := objT_bk x
       have hxl := obBk_mem hxm
       have r := memIn_ret f v (objT x) (by omega) (by omega) hA (hT1 x hxm)
       rw [V.av_eq, Ty.av_eq, objT] at r
       simp only [Ty.all, Ty.nul, Ty.fls, Ty.tru, Ty.nums, Ty.anyText, Ty.texts, Ty.arrays, Ty.objects, List.map_nil, List.map_cons, sprow, srow] at r
       have hq : ((l.take (i + 1)).any fun o => inT v (objT o)) = (b || inT v (objT x)) := by rw [any_take_succ hx, ← hp]
       rw [objT] at hq
       have hr : (l.map Ob.row)[i]? = some x.row := by simp [hx]
       generalize inT v (.mk false false false false [] false [] [] [x]) = c at *
       cases b <;> cases c
       all_goals skip
       repeat' (first | refine zA ?_ | refine WQ.cl f.a1.modes ?_ | refine W1.cl f.a1.modes (r) ?_ | (refine WQ.cl f.a1.modes ?_) | ((apply W1.slc1; exact rfl; exact rfl; exact rfl; exact rfl; omega; exact hr)) | refine zB ?_ | (refine zC ?_ ?_ <;> intro hc; all_goals first | (cases hc; done) | ((try simp only [hc]); (try simp only [bm] at hc))) | refine zE ?_ | refine zNZ ?_ | fail)
       all_goals exact ⟨_, hq.symm, rfl⟩)
    | (intro b hp
       rw [List.take_length] at hp
       rw [← hp] at r3
       repeat' (first | refine zA ?_ | refine WQ.cl f.a1.modes ?_ | refine W1.cl f.a1.modes (r3) ?_ | refine zB ?_ | (refine zC ?_ ?_ <;> intro hc; all_goals first | (cases hc; done) | ((try simp only [hc]); (try simp only [bm] at hc))) | refine zE ?_ | refine zNZ ?_ | fail)
       all_goals first | (refine Qend.boo rfl rfl ?_; simp; done) | trace_state)
    | trace_state
end
end Hm
