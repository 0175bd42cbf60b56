/- What the law answers on the abstract machine. Conditions: see each theorem. -/
import Derived.Test.YtaemcgnkpfbenaaGreatDoorVAgr4
set_option linter.unusedVariables false
set_option linter.unusedSimpArgs false
/- Why and In agree, and the way leads somewhere: the law. NORMX NORMY NORMC Conditions: see each theorem. -/
namespace Hm
open Go (IntKind)
set_option maxHeartbeats 40000000
set_option maxRecDepth 4000
section
variable {T : Tab}
theorem mFit_ret (h1 : Fn T F.hk_Fit hk_Fit.fn) (h2 : Fn T F.hk_PartsOf hk_PartsOf.fn) (v : V) (hb : v.bk ≤ 1073741824) : ∃ b : Bool,Ret T F.hk_Fit [.val (.lst 5 [v.row])] (one (.bool b)) := by
  obtain ⟨n,hn,hret⟩ := partsOf_ret h2 v hb 20000 (by omega) (by omega)
  refine ⟨decide (n ≤ 20000),?_⟩
  have hg : ([v.row] : List (List AV))[0]? = some v.row := rfl
  refine Ret.mk h1 rfl ?_
  rw [V.av_eq] at hret
  rw [V.row_eq]
  repeat' (first | refine zA ?_ | ((with_reducible refine W.loop ?_)) | refine WQ.cl h2.modes ?_ | refine W1.cl h2.modes (hret) ?_ | ((apply W1.iadr; (iterate 3 exact rfl); omega; exact rfl)) | refine zB ?_ | (refine zC ?_ ?_ <;> intro hc; all_goals first | (cases hc; done) | ((try simp only [hc]); (try simp only [bm] at hc))) | refine zE ?_ | refine zNZ ?_ | fail)
  all_goals first | (refine Qend.boo rfl rfl ?_; simp; omega) | (exfalso; omega) | (exfalso; simp_all; done) | trace_state
theorem mHas_ret (h : Fn T F.h09_Has h09_Has.fn) (l : List Str) (hl : l.length ≤ 1073741824) (k : Str) : Ret T F.h09_Has [.val (.lst 1 (srow l)),.val (.str k)] (one (.bool (l.contains k))) := by
  have e1 := srow_len l
  refine Ret.mk h rfl ?_
  repeat' (first | refine zA ?_ | refine zB ?_ | (refine zC ?_ ?_ <;> intro hc; all_goals first | (cases hc; done) | ((try simp only [hc]); (try simp only [bm] at hc))) | refine zE ?_ | refine zNZ ?_ | fail)
  refine W.listP l (fun i (_ : Unit) s => s.put 5 (.av (.int .i64 (i : Int)))) (fun i _ => ∀ j,j < i → l[j]? ≠ some k) () (by intro j hj; omega) rfl ?_ ?_
  · intro i x u hx hi hp
    repeat' (first | refine zA ?_ | refine zB ?_ | (refine zC ?_ ?_ <;> intro hc; all_goals first | (cases hc; done) | ((try simp only [hc]); (try simp only [bm] at hc))) | refine zE ?_ | refine zNZ ?_ | fail)
    · refine Qend.boo rfl rfl ?_
      subst hc
      exact (List.contains_iff_mem.2 (List.mem_of_getElem? hx)).symm
    · refine ⟨(),fun j hj => ?_,rfl⟩
      by_cases e : j = i
      · subst e; rw [hx]; simpa using hc
      · exact hp j (by omega)
  · intro u hp
    repeat' (first | refine zA ?_ | refine zB ?_ | (refine zC ?_ ?_ <;> intro hc; all_goals first | (cases hc; done) | ((try simp only [hc]); (try simp only [bm] at hc))) | refine zE ?_ | refine zNZ ?_ | fail)
    refine Qend.boo rfl rfl ?_
    cases hcn : l.contains k
    · rfl
    · exfalso
      obtain ⟨j,hj⟩ := List.mem_iff_getElem?.1 (List.contains_iff_mem.1 hcn)
      exact hp j (List.getElem?_eq_some_iff.1 hj).1 hj
/-- A call of three results, of which the first, a list, is sealed. -/
theorem W1.callW3 {st st' : St} {K : St → Prop} {dst : Option Nat} {gd : Option (Nat × Bool)} {f : Opd} {xs : List Opd} {g k : Nat} {first cs : List AV} {t0 t : Bool} {ms : List PMode} {l : List Arg} {ks : List Nat} {rows : List (List Cell)} {rs : List (List AV)} {a b : AV} (hC : sealRows rows = rs)
    (hg : wanted st gd = some true) (hf : (st.opd f).fn = some (g,first,cs,t0)) (hm : T.modes g = ms) (ha : args st (ms.drop first.length) xs = some (l,t,ks,st')) (hio : hasIo l = false) (hmv : hasMv l = false)
    (hr : Ret T g (first.map .val ++ l ++ cs.map .val) ⟨[([.own k rows],false),([.av a],false),([.av b],false)],[]⟩) (ht : (t0 || t) = false) (hk : K (putD dst (.tup [some ([.av (.lst k rs)],false),some ([.av a],false),some ([.av b],false)]) st')) : W1 T ⟨dst,.call .deep f xs,gd⟩ st K := by
  refine W1.callV hg hf hm ha hio hmv hr (by rw [ht]; rfl) ?_
  show K (putD dst (.tup [some ([.av (.lst k (sealRows rows))],false),some ([.av a],false),some ([.av b],false)]) st')
  rw [hC]; exact hk
theorem wayP_len : ∀ m : Miss,(wayP m).length ≤ List.length m
  | [] => Nat.le_refl _
  | (r,s) :: m => by
    rw [wayP]
    have := wayP_len m
    split
    · split <;> simp
    · simp only [List.length_cons]; omega
/-- Where a step leads, as the reference takes it. -/
theorem ag_step (f : R8Fns T) {x k x' : V} (h : stepK x k x') (hf : formed x = true) (hb : x.bk ≤ 1073741824) :
    Ret T F.h08_Step [.val x.av,.val k.av] ⟨[(x'.row.map .av,true),([.av (.bool true)],false)],[]⟩ ∧ formed x' = true ∧ x'.bk ≤ 1073741824 := by
  have hfi := formed_inv hf
  have hbk := V.bk_eq x
  have hl := V.len_bks x.items
  rcases h with ⟨hk,i,s,rfl,h1,h2⟩ | ⟨hk,i,rfl,h2⟩
  · have hm := List.mem_of_getElem? h2
    have hr := hfi.2.2.2.2.2.2.2.1 hk
    have hp := asc_of_rise hr.2
    refine ⟨step_obj f x x' hk s (rise_utf hr.2 s (List.mem_of_getElem? h1)) i h1 (fun j hj hjs => ?_) h2 hb,hfi.2.2.2.2.2.2.2.2 _ hm,by have := V.bk_item hm; omega⟩
    obtain ⟨hj1,e1⟩ := List.getElem?_eq_some_iff.1 hjs
    obtain ⟨hi1,e2⟩ := List.getElem?_eq_some_iff.1 h1
    have := List.pairwise_iff_getElem.1 hp j i hj1 hi1 hj
    rw [e1,e2,bLess_irrefl] at this
    cases this
  · have hm := List.mem_of_getElem? h2
    exact ⟨step_arr f x x' hk i (by omega) h2,hfi.2.2.2.2.2.2.2.2 _ hm,by have := V.bk_item hm; omega⟩
/-- What the law reaches besides. -/
structure AgFns (T : Tab) : Prop where
  m : MiFns T
  g : RsFns T
  r8 : R8Fns T
  hw : Fn T F.member_Why member_Why.fn
  ha : T.ask F.errors_As 1 0 = true
  s1 : Fn T F.hk_Fit hk_Fit.fn
  s2 : Fn T F.hk_PartsOf hk_PartsOf.fn
  s3 : Fn T F.h09_Has h09_Has.fn
theorem MemberAgrees_ret (h : Fn T F.l10_MemberAgrees l10_MemberAgrees.fn) (hk : Fn T F.l10_MemberKnown l10_MemberKnown.fn) (rk : Ret T F.l10_MemberKnown [] (one (.bool true))) (f : AgFns T)
    (v : V) (t : Ty) (hb : v.bk + t.bk ≤ 1073700000) : Ret T F.l10_MemberAgrees [.val v.av,.val t.av] (one (.bool true)) := by
  have r1 := rsV_ret f.g v (by omega)
  have r2 := rsT_ret f.g t (by omega)
  obtain ⟨fb,r3⟩ := mFit_ret f.s1 f.s2 v (by omega)
  have hrow := V.row_eq v
  rw [hrow] at r3
  by_cases hgo : formed v = true ∧ tformed t = true ∧ fb = true
  rotate_left
  · generalize formed v = b1 at *
    generalize tformed t = b2 at *
    refine Ret.mk h rfl ?_
    rw [V.av_eq,Ty.av_eq] at *
    cases b1 <;> cases b2 <;> cases fb
    all_goals first | (exfalso; exact hgo ⟨rfl,rfl,rfl⟩) | skip
    all_goals skip
    repeat' (first | refine zA ?_ | refine WQ.cl hk.modes ?_ | refine W1.cl hk.modes (rk) ?_ | refine WQ.cl f.g.p1.modes ?_ | refine W1.cl f.g.p1.modes (r1) ?_ | refine WQ.cl f.g.q1.modes ?_ | refine W1.cl f.g.q1.modes (r2) ?_ | refine WQ.cl f.s1.modes ?_ | refine W1.cl f.s1.modes (r3) ?_ | (refine W1.bL ?_) | refine zB ?_ | (refine zC ?_ ?_ <;> intro hc; all_goals first | (cases hc; done) | ((try simp only [hc]); (try simp only [bm] at hc))) | refine zE ?_ | refine zNZ ?_ | fail)
    all_goals first | exact Qend.boo rfl rfl rfl | trace_state
  obtain ⟨hv,ht,rfl⟩ := hgo
  rw [hv] at r1
  rw [ht] at r2
  have r4 := memIn_ret f.m v t (by omega) (by omega) hv ht
  have r5 := why_ret f.hw f.m f.ha v t (by omega) (by omega) hv ht
  have hway := lookM_way v hv t ht
  have hlen := lookM_len v t
  rw [← lookM_nil v hv t ht] at r4
  refine Ret.mk h rfl ?_
  cases hM : lookM v t with
  | nil =>
    rw [hM] at r4 r5
    rw [V.av_eq,Ty.av_eq] at *
    have ew : wayP [] = [] := rfl
    have ee : endR 0 [] = 0 := rfl
    rw [ew,ee] at r5
    repeat' (first | refine zA ?_ | refine WQ.cl hk.modes ?_ | refine W1.cl hk.modes (rk) ?_ | refine WQ.cl f.g.p1.modes ?_ | refine W1.cl f.g.p1.modes (r1) ?_ | refine WQ.cl f.g.q1.modes ?_ | refine W1.cl f.g.q1.modes (r2) ?_ | refine WQ.cl f.s1.modes ?_ | refine W1.cl f.s1.modes (r3) ?_ | (refine W1.bL ?_) | refine WQ.cl f.m.a1.modes ?_ | refine W1.cl f.m.a1.modes (r4) ?_ | ((apply W1.callW3 (hm := f.hw.modes) (seal_crow _); (iterate 5 exact rfl); exact r5; exact rfl)) | refine zB ?_ | (refine zC ?_ ?_ <;> intro hc; all_goals first | (cases hc; done) | ((try simp only [hc]); (try simp only [bm] at hc))) | refine zE ?_ | refine zNZ ?_ | fail)
    all_goals first | exact Qend.boo rfl rfl rfl | trace_state
  | cons pp m =>
    obtain ⟨p,y,hgoes,hcase,hr1,hr7⟩ := hway (by rw [hM]; simp)
    have e4 : (lookM v t).isEmpty = false := by rw [hM]; rfl
    rw [e4] at r4
    have hwl : (wayP (lookM v t)).length ≤ 1073741824 := by have := wayP_len (lookM v t); omega
    clear hway hlen hM e4
    generalize endR 0 (lookM v t) = r at *
    generalize wayP (lookM v t) = w at *
    have e5 : (w.map V.row).length = w.length := List.length_map ..
    rw [V.av_eq,Ty.av_eq] at *
    rcases hcase with ⟨rfl,s,rfl,hy1,hy2,hy3⟩ | ⟨hr6,hwp⟩
    · have e6 : (p ++ [txtV s]).length = p.length + 1 := by simp
      repeat' (first | refine zA ?_ | refine WQ.cl hk.modes ?_ | refine W1.cl hk.modes (rk) ?_ | refine WQ.cl f.g.p1.modes ?_ | refine W1.cl f.g.p1.modes (r1) ?_ | refine WQ.cl f.g.q1.modes ?_ | refine W1.cl f.g.q1.modes (r2) ?_ | refine WQ.cl f.s1.modes ?_ | refine W1.cl f.s1.modes (r3) ?_ | (refine W1.bL ?_) | refine WQ.cl f.m.a1.modes ?_ | refine W1.cl f.m.a1.modes (r4) ?_ | ((apply W1.callW3 (hm := f.hw.modes) (seal_crow _); (iterate 5 exact rfl); exact r5; exact rfl)) | refine zB ?_ | (refine zC ?_ ?_ <;> intro hc; all_goals first | (cases hc; done) | ((try simp only [hc]); (try simp only [bm] at hc))) | refine zE ?_ | refine zNZ ?_ | fail)
      all_goals first | (exfalso; omega) | (exfalso; have hz : (r == 0) = false := (by rw [beq_eq_false_iff_ne]; omega); simp [hz] at hc; done) | skip
      all_goals clear r1 r2 r3 r4 r5 rk
      have en : (((p ++ [txtV s]).length : Nat) : Int) - 1 = (p.length : Int) := by omega
      rw [en]
      refine W.list p (fun i (x : V) => ⟨lstE [(7,.av (.lst 5 ((p ++ [txtV s]).map V.row))),(8,.av (.int .i64 6)),(10,.av (.int .i64 (p.length : Int))),(11,.plc ⟨.box 11,[],0⟩),(12,.av (.int .i64 (i : Int)))],
          lstB [(7,none),(8,none),(10,none),(11,some [.av (.int .i64 x.kind),.av (.str x.num),.av (.str x.text),.av (.lst 5 (x.items.map V.row)),.av (.lst 1 (srow x.keys))]),(12,none)]⟩)
        (fun i x => goes x (p.drop i) y ∧ formed x = true ∧ x.bk ≤ 1073741824) v rfl ⟨hgoes,hv,by omega⟩ ?_ ?_
      · rintro i k x hi1 hi ⟨q1,q2,q3⟩
        have hd : p.drop i = k :: p.drop (i + 1) := by
          rw [List.drop_eq_getElem_cons hi]
          rw [List.getElem?_eq_getElem hi,Option.some.injEq] at hi1
          rw [hi1]
        rw [hd] at q1
        obtain ⟨x',s1,s2⟩ := q1
        obtain ⟨r6,s3,s4⟩ := ag_step f.r8 s1 q2 q3
        have hgr : ((p ++ [txtV s]).map V.row)[i]? = some k.row := by rw [List.map_append,List.getElem?_append_left (by rw [List.length_map]; exact hi),List.getElem?_map,hi1]; rfl
        rw [V.row_eq] at hgr
        have hC : sealRow (x'.row.map .av) = x'.row := sealRow_avp _
        rw [V.row_eq x'] at r6 hC
        rw [V.av_eq,V.av_eq] at r6
        clear s1 hd
        repeat' (first | refine zA ?_ | ((apply W1.iadr; (iterate 3 exact rfl); omega; exact hgr)) | (refine W1.cd2 f.r8.a6.modes hC r6 ?_) | (refine WQ.cl f.r8.a6.modes ?_) | refine zB ?_ | (refine zC ?_ ?_ <;> intro hc; all_goals first | (cases hc; done) | ((try simp only [hc]); (try simp only [bm] at hc))) | refine zE ?_ | refine zNZ ?_ | fail)
        all_goals first | exact ⟨x',⟨s2,s3,s4⟩,rfl⟩ | trace_state
      · rintro x ⟨q1,q2,q3⟩
        rw [List.drop_length] at q1
        obtain rfl : x = y := q1
        have hgr : ((p ++ [txtV s]).map V.row)[((p.length : Int)).toNat]? = some (txtV s).row := by simp
        rw [V.row_eq] at hgr
        have rh := mHas_ret f.s3 x.keys (by have := V.bk_eq x; have := len_sbk x.keys; omega) s
        have hcn : x.keys.contains s = false := by
          cases hq : x.keys.contains s
          · rfl
          · exact absurd (List.contains_iff_mem.1 hq) hy2
        rw [hcn] at rh
        rw [hy1]
        repeat' (first | refine zA ?_ | ((apply W1.iadr; (iterate 3 exact rfl); omega; exact hgr)) | refine WQ.cl f.s3.modes ?_ | refine W1.cl f.s3.modes (rh) ?_ | (refine WQ.cl f.s3.modes ?_) | refine zB ?_ | (refine zC ?_ ?_ <;> intro hc; all_goals first | (cases hc; done) | ((try simp only [hc]); (try simp only [bm] at hc))) | refine zE ?_ | refine zNZ ?_ | fail)
        all_goals first | exact Qend.boo rfl rfl rfl | trace_state
    · have hwp := hwp.symm
      subst hwp
      repeat' (first | refine zA ?_ | refine WQ.cl hk.modes ?_ | refine W1.cl hk.modes (rk) ?_ | refine WQ.cl f.g.p1.modes ?_ | refine W1.cl f.g.p1.modes (r1) ?_ | refine WQ.cl f.g.q1.modes ?_ | refine W1.cl f.g.q1.modes (r2) ?_ | refine WQ.cl f.s1.modes ?_ | refine W1.cl f.s1.modes (r3) ?_ | (refine W1.bL ?_) | refine WQ.cl f.m.a1.modes ?_ | refine W1.cl f.m.a1.modes (r4) ?_ | ((apply W1.callW3 (hm := f.hw.modes) (seal_crow _); (iterate 5 exact rfl); exact r5; exact rfl)) | refine zB ?_ | (refine zC ?_ ?_ <;> intro hc; all_goals first | (cases hc; done) | ((try simp only [hc]); (try simp only [bm] at hc))) | refine zE ?_ | refine zNZ ?_ | fail)
      all_goals first | (exfalso; omega) | (exfalso; have hz : (r == 0) = false := (by rw [beq_eq_false_iff_ne]; omega); simp [hz] at hc; done) | skip
      all_goals clear r1 r2 r3 r4 r5 rk
      have en : ((p.length : Nat) : Int) = (p.length : Int) := by rfl
      rw [en]
      refine W.list p (fun i (x : V) => ⟨lstE [(7,.av (.lst 5 (p.map V.row))),(8,.av (.int .i64 r)),(10,.av (.int .i64 (p.length : Int))),(11,.plc ⟨.box 11,[],0⟩),(12,.av (.int .i64 (i : Int)))],
          lstB [(7,none),(8,none),(10,none),(11,some [.av (.int .i64 x.kind),.av (.str x.num),.av (.str x.text),.av (.lst 5 (x.items.map V.row)),.av (.lst 1 (srow x.keys))]),(12,none)]⟩)
        (fun i x => goes x (p.drop i) y ∧ formed x = true ∧ x.bk ≤ 1073741824) v rfl ⟨hgoes,hv,by omega⟩ ?_ ?_
      · rintro i k x hi1 hi ⟨q1,q2,q3⟩
        have hd : p.drop i = k :: p.drop (i + 1) := by
          rw [List.drop_eq_getElem_cons hi]
          rw [List.getElem?_eq_getElem hi,Option.some.injEq] at hi1
          rw [hi1]
        rw [hd] at q1
        obtain ⟨x',s1,s2⟩ := q1
        obtain ⟨r6,s3,s4⟩ := ag_step f.r8 s1 q2 q3
        have hgr : (p.map V.row)[i]? = some k.row := by rw [List.getElem?_map,hi1]; rfl
        rw [V.row_eq] at hgr
        have hC : sealRow (x'.row.map .av) = x'.row := sealRow_avp _
        rw [V.row_eq x'] at r6 hC
        rw [V.av_eq,V.av_eq] at r6
        clear s1 hd
        repeat' (first | refine zA ?_ | ((apply W1.iadr; (iterate 3 exact rfl); omega; exact hgr)) | (refine W1.cd2 f.r8.a6.modes hC r6 ?_) | (refine WQ.cl f.r8.a6.modes ?_) | refine zB ?_ | (refine zC ?_ ?_ <;> intro hc; all_goals first | (cases hc; done) | ((try simp only [hc]); (try simp only [bm] at hc))) | refine zE ?_ | refine zNZ ?_ | fail)
        all_goals first | exact ⟨x',⟨s2,s3,s4⟩,rfl⟩ | trace_state
      · rintro x ⟨q1,q2,q3⟩
        rw [List.drop_length] at q1
        obtain rfl : x = y := q1
        repeat' (first | refine zA ?_ | refine zB ?_ | (refine zC ?_ ?_ <;> intro hc; all_goals first | (cases hc; done) | ((try simp only [hc]); (try simp only [bm] at hc))) | refine zE ?_ | refine zNZ ?_ | fail)
        all_goals first | exact Qend.boo rfl rfl rfl | (exfalso; omega) | trace_state
end
end Hm
