/- What the law answers on the abstract machine. Conditions: see each theorem. -/
import Derived.Test.YtkjppfdcnfiaeaaDoorVOnlyT2
set_option linter.unusedVariables false
set_option linter.unusedSimpArgs false
/- Which texts the program says are UTF-8. Conditions: see each theorem. -/
namespace Hm
open Go (IntKind)
set_option maxHeartbeats 4000000
set_option maxRecDepth 4000
theorem validOk {T : Tab} (hu : Fn T F.utf_Valid utf_Valid.fn) (h : Fn T F.unicode_utf8_ValidString unicode_utf8_ValidString.fn) (hw : Fn T F.unicode_utf8_word_string unicode_utf8_word_string.fn) : ValidOk T := by
  intro s hb
  have r := validString_ret h hw s hb
  refine Ret.mk hu rfl ?_
  repeat' (first | refine zA ?_ | refine WQ.cl h.modes ?_ | refine W1.cl h.modes (r) ?_ | refine zB ?_ | (refine zC ?_ ?_ <;> intro hc; all_goals first | (cases hc; done) | ((try simp only [hc]); (try simp only [bm] at hc))) | refine zE ?_ | refine zN ?_ | fail)
  exact Qend.boo rfl rfl rfl
end Hm

/- Which values the program says are well shaped, and the law. Conditions: see each theorem. -/
namespace Hm
open Go (IntKind)
set_option maxHeartbeats 4000000
set_option maxRecDepth 4000
structure VfFns (T : Tab) : Prop where
  a1 : Fn T F.value_Formed value_Formed.fn
  a2 : Fn T F.value_allFormed value_allFormed.fn
  a3 : Fn T F.value_allFormed_S1 value_allFormed_S1.fn
  a4 : Fn T F.value_empty value_empty.fn
  a5 : Fn T F.value_rise value_rise.fn
  a6 : Fn T F.utf_Valid utf_Valid.fn
  a7 : Fn T F.tens_Formed tens_Formed.fn
  a8 : Fn T F.slices_ContainsFunc_LValue_Value slices_ContainsFunc_LValue_Value.fn
  a9 : Fn T F.slices_IndexFunc_LValue_Value slices_IndexFunc_LValue_Value.fn
section
variable {T : Tab}
theorem indexFuncV_ret (h : Fn T F.slices_IndexFunc_LValue_Value slices_IndexFunc_LValue_Value.fn) {p : V → Bool} {g : Nat} (hg : T.modes g = [.val]) (l : List V) (hl : l.length ≤ 1073741824)
    (ih : ∀ x ∈ l, Ret T g [.val x.av] (one (.bool (p x)))) : ∃ n : Int, (0 ≤ n ↔ l.any p = true) ∧ Ret T F.slices_IndexFunc_LValue_Value [.val (.lst 5 (l.map V.row)), .val (.clo g [] [])] (one (.int .i64 n)) := by
  have e1 : (l.map V.row).length = l.length := List.length_map ..
  refine Ret.ex1 (g := fun n => AV.int .i64 n) (R := fun n => (0 ≤ n ↔ l.any p = true)) h rfl ?_
  repeat' (first | refine zA ?_ | refine zB ?_ | (refine zC ?_ ?_ <;> intro hc; all_goals first | (cases hc; done) | ((try simp only [hc]); (try simp only [bm] at hc))) | refine zE ?_ | refine zN ?_ | fail)
  refine W.listP l (fun i (_ : Unit) s => s.put 8 (.av (.int .i64 (i : Int)))) (fun i _ => (l.take i).any p = false) () (by simp) rfl ?_ ?_
  · intro i x u hx hi hp
    have r := ih x (List.mem_of_getElem? hx)
    rw [V.av_eq] at r
    repeat' (first | refine zA ?_ | refine WQ.cl hg ?_ | refine W1.cl hg (r) ?_ | refine zB ?_ | (refine zC ?_ ?_ <;> intro hc; all_goals first | (cases hc; done) | ((try simp only [hc]); (try simp only [bm] at hc))) | refine zE ?_ | refine zN ?_ | fail)
    all_goals clear r
    · refine ⟨_, ?_, Qend.num rfl rfl rfl⟩
      have : l.any p = true := List.any_eq_true.2 ⟨x, List.mem_of_getElem? hx, by assumption⟩
      simp [this]
    · refine ⟨(), ?_, rfl⟩
      rw [List.take_add_one, hx, List.any_append, hp]; simp_all
  · intro u hp
    rw [List.take_length] at hp
    repeat' (first | refine zA ?_ | refine zB ?_ | (refine zC ?_ ?_ <;> intro hc; all_goals first | (cases hc; done) | ((try simp only [hc]); (try simp only [bm] at hc))) | refine zE ?_ | refine zN ?_ | fail)
    refine ⟨_, ?_, Qend.num rfl rfl rfl⟩
    rw [hp]; simp
theorem containsFuncV_ret (h : Fn T F.slices_ContainsFunc_LValue_Value slices_ContainsFunc_LValue_Value.fn) (hi : Fn T F.slices_IndexFunc_LValue_Value slices_IndexFunc_LValue_Value.fn) {p : V → Bool} {g : Nat} (hg : T.modes g = [.val]) (l : List V) (hl : l.length ≤ 1073741824)
    (ih : ∀ x ∈ l, Ret T g [.val x.av] (one (.bool (p x)))) : Ret T F.slices_ContainsFunc_LValue_Value [.val (.lst 5 (l.map V.row)), .val (.clo g [] [])] (one (.bool (l.any p))) := by
  obtain ⟨n, hn, r⟩ := indexFuncV_ret hi hg l hl ih
  refine Ret.mk h rfl ?_
  repeat' (first | refine zA ?_ | refine WQ.cl hi.modes ?_ | refine W1.cl hi.modes (r) ?_ | refine zB ?_ | (refine zC ?_ ?_ <;> intro hc; all_goals first | (cases hc; done) | ((try simp only [hc]); (try simp only [bm] at hc))) | refine zE ?_ | refine zN ?_ | fail)
  refine Qend.boo rfl rfl ?_
  rw [Bool.eq_iff_iff, ← hn]; simp
theorem vrise_ret (h : Fn T F.value_rise value_rise.fn) (hu : Fn T F.utf_Valid utf_Valid.fn) (hv : ValidOk T) (l : List Str) (hb : sbk l ≤ 1073741824) : Ret T F.value_rise [.val (.lst 1 (srow l))] (one (.bool (rise l))) := by
  refine Ret.mk h rfl ?_
  have hl := len_sbk l
  have e1 := srow_len l
  repeat' (first | refine zA ?_ | refine zB ?_ | (refine zC ?_ ?_ <;> intro hc; all_goals first | (cases hc; done) | ((try simp only [hc]); (try simp only [bm] at hc))) | refine zE ?_ | refine zN ?_ | fail)
  refine W.listP l (fun i (_ : Unit) s => s.put 7 (.av (.int .i64 (i : Int)))) (fun i _ => ∀ j < i, riseAt l j = true) () (by simp) rfl ?_ ?_
  · intro i x u hx hi hp
    have hsx := sbk_mem (List.mem_of_getElem? hx)
    have hret := hv x (by omega)
    have hgx : l.getD i [] = x := by simp [List.getD, hx]
    by_cases h0 : i = 0
    · subst h0
      repeat' (first | refine zA ?_ | refine WQ.cl hu.modes ?_ | refine W1.cl hu.modes (hret) ?_ | refine zB ?_ | (refine zC ?_ ?_ <;> intro hc; all_goals first | (cases hc; done) | ((try simp only [hc]); (try simp only [bm] at hc))) | refine zE ?_ | refine zN ?_ | fail)
      all_goals clear hret hv
      all_goals first
        | (refine Qend.boo rfl rfl ?_; rw [rise_false hi (by simp_all [riseAt])]; done)
        | (refine ⟨(), fun j hj => ?_, rfl⟩; obtain rfl : j = 0 := by omega
           simp_all [riseAt]; done)
        | (exfalso; omega)
    · obtain ⟨y, hy⟩ : ∃ y, l[i - 1]? = some y := ⟨l[i - 1]'(by omega), List.getElem?_eq_getElem (by omega)⟩
      have hgy : l.getD (i - 1) [] = y := by simp [List.getD, hy]
      have hry : (srow l)[((i : Int) - 1).toNat]? = some [.str y] := by
        have : ((i : Int) - 1).toNat = i - 1 := by omega
        rw [this]; exact get_srow hy
      repeat' (first | refine zA ?_ | refine WQ.cl hu.modes ?_ | refine W1.cl hu.modes (hret) ?_ | refine zB ?_ | (refine zC ?_ ?_ <;> intro hc; all_goals first | (cases hc; done) | ((try simp only [hc]); (try simp only [bm] at hc))) | refine zE ?_ | refine zN ?_ | fail)
      all_goals clear hret hv
      all_goals first
        | (refine Qend.boo rfl rfl ?_; rw [rise_false hi (by simp_all [riseAt])]; done)
        | (refine ⟨(), fun j hj => ?_, rfl⟩
           by_cases hji : j < i
           · exact hp j hji
           · obtain rfl : j = i := by omega
             simp_all [riseAt])
        | (exfalso; omega)
  · intro u hp
    repeat' (first | refine zA ?_ | refine zB ?_ | (refine zC ?_ ?_ <;> intro hc; all_goals first | (cases hc; done) | ((try simp only [hc]); (try simp only [bm] at hc))) | refine zE ?_ | refine zN ?_ | fail)
    refine Qend.boo rfl rfl ?_
    rw [rise_true hp]
theorem vempty_ret (h : Fn T F.value_empty value_empty.fn) (v : V) (a b c d : Bool) : Ret T F.value_empty [.val v.av, .val (.bool a), .val (.bool b), .val (.bool c), .val (.bool d)]
    (one (.bool ((a || v.num == []) && (b || v.text == []) && (c || decide (v.items.length = 0)) && (d || decide (v.keys.length = 0))))) := by
  have e1 := srow_len v.keys
  have e2 : (v.items.map V.row).length = v.items.length := List.length_map ..
  have z : ∀ n : Nat, ((n : Int) == 0) = decide (n = 0) := fun n => by rw [Bool.eq_iff_iff]; simp
  refine Ret.mk h rfl ?_
  rw [V.av_eq]
  repeat' (first | refine zA ?_ | refine zB ?_ | (refine zC ?_ ?_ <;> intro hc; all_goals first | (cases hc; done) | ((try simp only [hc]); (try simp only [bm] at hc))) | refine zE ?_ | refine zN ?_ | fail)
  all_goals refine Qend.boo rfl rfl ?_
  all_goals clear h
  all_goals first | (simp_all; done) | (rw [Bool.eq_iff_iff]; simp_all; done) | (simp_all [z]; done) | (rw [Bool.eq_iff_iff]; simp_all [z]; done)
theorem vformed_eq (k : Int) (n t : Str) (is : List V) (ks : List Str) : formed (.mk k n t is ks) = (decide (0 ≤ k) && decide (k ≤ 6) && (if k = 3 then number n else decide (n = [])) && (if k = 4 then utf t else decide (t = [])) && (decide (5 ≤ k) || decide (is.length = 0)) && (decide (6 ≤ k) || decide (ks.length = 0)) &&
    (decide (k ≠ 6) || (decide (is.length = ks.length) && rise ks)) && is.all formed) := by
  have q : ∀ a b : Nat, (a == b) = decide (b = a) := fun a b => by rw [Bool.eq_iff_iff, beq_iff_eq, decide_eq_true_eq]; exact eq_comm
  simp only [formed, formedAll_eq]
  rw [Bool.eq_iff_iff]
  simp only [Bool.and_eq_true, Bool.or_eq_true, Bool.not_eq_true', Bool.or_eq_false_iff, Bool.and_eq_false_iff, decide_eq_true_eq, decide_eq_false_iff_not, q]
  grind
theorem valueFormed_ret (f : VfFns T) (hv : ValidOk T) : ∀ (v : V), v.bk ≤ 1073741824 → Ret T F.value_Formed [.val v.av] (one (.bool (formed v))) := by
  intro v
  induction v using V.ind with
  | h v ih =>
  intro hb
  have hbk := V.bk_eq v
  have hk := len_sbk v.keys
  have hl := V.len_bks v.items
  have e1 := srow_len v.keys
  have e2 : (v.items.map V.row).length = v.items.length := List.length_map ..
  have z : ∀ n : Nat, ((n : Int) == 0) = decide (n = 0) := fun n => by rw [Bool.eq_iff_iff]; simp
  have r1 := tensFormed_ret f.a7 v.num (by omega)
  have r2 := hv v.text (by omega)
  have r3 := vrise_ret f.a5 f.a6 hv v.keys (by omega)
  have r0 := vempty_ret f.a4 v
  have rc : ∀ x ∈ v.items, Ret T F.value_allFormed_S1 [.val x.av] (one (.bool (!formed x))) := fun x hx => by
    have r := ih x hx (by have := V.bk_item hx; omega)
    refine Ret.mk f.a3 rfl ?_
    rw [V.av_eq] at *
    repeat' (first | refine zA ?_ | refine WQ.cl f.a1.modes ?_ | refine W1.cl f.a1.modes (r) ?_ | refine zB ?_ | (refine zC ?_ ?_ <;> intro hc; all_goals first | (cases hc; done) | ((try simp only [hc]); (try simp only [bm] at hc))) | refine zE ?_ | refine zN ?_ | fail)
    exact Qend.boo rfl rfl rfl
  have r5 := containsFuncV_ret f.a8 f.a9 (p := fun x => !formed x) f.a3.modes v.items (by omega) rc
  have r4 : Ret T F.value_allFormed [.val (.lst 5 (v.items.map V.row))] (one (.bool (v.items.all formed))) := by
    refine Ret.mk f.a2 rfl ?_
    repeat' (first | refine zA ?_ | refine WQ.cl f.a8.modes ?_ | refine W1.cl f.a8.modes (r5) ?_ | refine zB ?_ | (refine zC ?_ ?_ <;> intro hc; all_goals first | (cases hc; done) | ((try simp only [hc]); (try simp only [bm] at hc))) | refine zE ?_ | refine zN ?_ | fail)
    refine Qend.boo rfl rfl ?_
    rw [List.all_eq_not_any_not]
  clear r5 rc ih hv
  refine Ret.mk f.a1 rfl ?_
  obtain ⟨k, n, t, is, ks⟩ := v
  rw [vformed_eq]
  rw [V.av_eq] at *
  simp only [V.kind, V.num, V.text, V.items, V.keys] at *
  repeat' (first | refine zA ?_ | refine WQ.cl f.a4.modes ?_ | refine W1.cl f.a4.modes (r0 _ _ _ _) ?_ | refine WQ.cl f.a7.modes ?_ | refine W1.cl f.a7.modes (r1) ?_ | refine WQ.cl f.a6.modes ?_ | refine W1.cl f.a6.modes (r2) ?_ | refine WQ.cl f.a5.modes ?_ | refine W1.cl f.a5.modes (r3) ?_ | refine WQ.cl f.a2.modes ?_ | refine W1.cl f.a2.modes (r4) ?_ | refine zB ?_ | (refine zC ?_ ?_ <;> intro hc; all_goals first | (cases hc; done) | ((try simp only [hc]); (try simp only [bm] at hc))) | refine zE ?_ | refine zN ?_ | fail)
  all_goals refine Qend.boo rfl rfl ?_
  all_goals clear r0 r1 r2 r3 r4 hb hbk hk hl e1 e2
  all_goals (try simp only [List.length_map, srow_len, Int.natCast_inj] at *)
  all_goals first
    | (simp_all; done)
    | (simp_all; omega)
    | (rw [Bool.eq_iff_iff]; simp_all; done)
    | (rw [Bool.eq_iff_iff]; simp_all; omega)
    | trace_state
end
end Hm

/- The law of the near type of any value. Conditions: see each theorem. NORMX NORMY -/
namespace Hm
open Go (IntKind)
set_option maxHeartbeats 40000000
set_option maxRecDepth 4000
noncomputable def ofT (v : V) : Ty := if formed v then nearT v 8 else neverT
def ofE (v : V) : Int := if formed v then 0 else 1
section
variable {T : Tab}
theorem ex2 {f : Nat} {fn : AFun} {as : List Arg} {row : List AV} {e : Int} (h : Fn T f fn) (hfit : fits fn.params as = true) (hw : W T fn.body ⟨lstE (entry 0 as).1, lstB (entry 0 as).2⟩ (fun x st => ∃ C, sealRow C = row ∧ Qend fn as ⟨[(C, true), ([.av (.int .i64 e)], false)], []⟩ x st)) : ∃ C, sealRow C = row ∧ Ret T f as ⟨[(C, true), ([.av (.int .i64 e)], false)], []⟩ := by
  have main : ∃ r : CR, (∃ C, sealRow C = row ∧ r = ⟨[(C, true), ([.av (.int .i64 e)], false)], []⟩) ∧ Ret T f as r := by
    refine Ret.ex h hfit (hw.mono fun e st hq => ?_)
    obtain ⟨C, hC, hq⟩ := hq
    exact ⟨_, ⟨C, hC, rfl⟩, hq⟩
  obtain ⟨r, ⟨C, hC, rfl⟩, hr⟩ := main
  exact ⟨C, hC, hr⟩
theorem shapeOf_ret (h : Fn T F.shape_Of shape_Of.fn) (f : NrFns T) (c : TcFns T) (q : VfFns T) (hv : ValidOk T) (v : V) (hb : v.bk ≤ 10000000) :
    ∃ C, sealRow C = (ofT v).row ∧ Ret T F.shape_Of [.val v.av] ⟨[(C, true), ([.av (.int .i64 (ofE v))], false)], []⟩ := by
  have r1 := valueFormed_ret q hv v (by omega)
  refine ex2 h rfl ?_
  unfold ofT ofE
  cases hf : formed v
  · rw [hf] at r1
    rw [V.av_eq] at *
    repeat' (first | refine zA ?_ | (refine W1.bC ?_) | refine WQ.cl q.a1.modes ?_ | refine W1.cl q.a1.modes (r1) ?_ | refine zB ?_ | (refine zC ?_ ?_ <;> intro hc; all_goals first | (cases hc; done) | ((try simp only [hc]); (try simp only [bm] at hc))) | refine zE ?_ | refine zNV ?_ | fail)
    all_goals first | exact ⟨_, rfl, .inr rfl, rfl, rfl⟩ | (exfalso; simp_all; done)
  · rw [hf] at r1
    obtain ⟨C, hC, r2⟩ := near_ret f c v hb hf 8 (by omega)
    rw [if_pos rfl, if_pos rfl]
    rw [Ty.row_eq] at *
    generalize nearT v 8 = w at *
    rw [V.av_eq] at *
    repeat' (first | refine zA ?_ | (refine W1.cd1 f.a1.modes hC r2 ?_) | refine WQ.cl q.a1.modes ?_ | refine W1.cl q.a1.modes (r1) ?_ | refine zB ?_ | (refine zC ?_ ?_ <;> intro hc; all_goals first | (cases hc; done) | ((try simp only [hc]); (try simp only [bm] at hc))) | refine zE ?_ | refine zNV ?_ | fail)
    all_goals first | exact ⟨_, rfl, .inr rfl, rfl, rfl⟩ | (exfalso; simp_all; done)
end
end Hm

/- The law that of the near type of a plain value no other value is. Conditions: see each theorem. NORMX NORMY -/
namespace Hm
open Go (IntKind)
set_option maxHeartbeats 40000000
set_option maxRecDepth 4000
theorem ShapeOnly_ret {T : Tab} (h : Fn T F.hallmarklaw09_ShapeOnly hallmarklaw09_ShapeOnly.fn) (hl : Fn T F.hallmarklaw09_lives hallmarklaw09_lives.fn) (rl : Ret T F.hallmarklaw09_lives [] (one (.bool true)))
    (s1 : Fn T F.hallmarklaw09_small hallmarklaw09_small.fn) (s2 : Fn T F.hallmarkkit_Fit hallmarkkit_Fit.fn) (s3 : Fn T F.hallmarkkit_PartsOf hallmarkkit_PartsOf.fn)
    (o1 : Fn T F.shape_Of shape_Of.fn) (f : NrFns T) (c : TcFns T) (q : VfFns T) (hv : ValidOk T) (g : IgFns T)
    (p8 : Fn T F.hallmarkref03_Formed hallmarkref03_Formed.fn) (p9 : Fn T F.hallmarkref03_All hallmarkref03_All.fn)
    (a5 : Fn T F.hallmarkref03_Rise hallmarkref03_Rise.fn) (a6 : Fn T F.hallmarkref03_UTF hallmarkref03_UTF.fn) (a7 : Fn T F.hallmarkref03_width hallmarkref03_width.fn)
    (a8 : Fn T F.hallmarkref03_trail hallmarkref03_trail.fn) (b5 : Fn T F.hallmarkref03_Number hallmarkref03_Number.fn) (t1 : Fn T F.hallmarkref03_Depth hallmarkref03_Depth.fn) (t2 : Fn T F.hallmarklaw09_plain hallmarklaw09_plain.fn) (t3 : Fn T F.hallmarkref03_Like hallmarkref03_Like.fn)
    (v w : V) (hb : v.bk ≤ 10000000) (hb' : w.bk ≤ 10000000) :
    Ret T F.hallmarklaw09_ShapeOnly [.val v.av, .val w.av] (one (.bool true)) := by
  obtain ⟨sv, -, r1⟩ := small09_ret s1 s2 s3 v (by omega)
  obtain ⟨sw, -, r1'⟩ := small09_ret s1 s2 s3 w (by omega)
  have r2 := refFormed_ret p8 p9 b5 a5 a6 a7 a8 v (by omega)
  have r2' := refFormed_ret p8 p9 b5 a5 a6 a7 a8 w (by omega)
  have r3 := depth9_ret t1 v (by omega)
  have r4 := plain_ret t2 t3 v (by omega)
  have r5 := likeE_ret t3 v (by omega) w (by omega)
  obtain ⟨C1, c1, r6⟩ := shapeOf_ret o1 f c q hv v hb
  rw [Ty.row_eq] at c1
  refine Ret.mk h rfl ?_
  by_cases hgood : formed v = true ∧ formed w = true ∧ dq v ≤ 8 ∧ plainV v = true
  · obtain ⟨g1, g2, g3, g4⟩ := hgood
    have e0 : ofE v = 0 := by unfold ofE; rw [g1]; rfl
    have e1 : ofT v = nearT v 8 := by unfold ofT; rw [g1]; rfl
    have e2 : tformed (ofT v) = true := by rw [e1]; exact near_formed v g1 8
    have wb : (ofT v).bk ≤ 200000000 := by rw [e1]; have := near_bk v g1 8; omega
    have r7 := in_ret g v (by omega) g1 (ofT v) (by omega) e2
    have r8 := in_ret g w (by omega) g2 (ofT v) (by omega) e2
    rw [InR] at r7 r8
    have e4 : inT v (ofT v) = true := by rw [e1]; exact near_in v g1 8
    have e5 : inT w (ofT v) = true → sameV v w = true := fun hi => by
      rw [e1] at hi
      rw [near_only v g1 g4 8 g3 w g2 hi]; exact sameV_self w
    rw [e0] at r6
    rw [e4] at r7
    rw [g1] at r2
    rw [g2] at r2'
    rw [g4] at r4
    clear e1 e2 e4
    generalize inT w (ofT v) = c1' at *
    generalize sameV v w = c2' at *
    generalize ofT v = u at *
    generalize dq v = dv at *
    rw [V.av_eq, V.av_eq] at *
    rw [Ty.av_eq] at *
    cases c1'
    · skip
      repeat' (first | refine zA ?_ | refine WQ.cl hl.modes ?_ | refine W1.cl hl.modes (rl) ?_ | refine WQ.cl s1.modes ?_ | refine W1.cl s1.modes (r1) ?_ | refine WQ.cl s1.modes ?_ | refine W1.cl s1.modes (r1') ?_ | refine WQ.cl p8.modes ?_ | refine W1.cl p8.modes (r2) ?_ | refine WQ.cl p8.modes ?_ | refine W1.cl p8.modes (r2') ?_ | refine WQ.cl t1.modes ?_ | refine W1.cl t1.modes (r3) ?_ | refine WQ.cl t2.modes ?_ | refine W1.cl t2.modes (r4) ?_ | (refine W1.cd2 o1.modes c1 r6 ?_) | refine WQ.cl g.a1.modes ?_ | refine W1.cl g.a1.modes (r7) ?_ | refine WQ.cl g.a1.modes ?_ | refine W1.cl g.a1.modes (r8) ?_ | refine zB ?_ | (refine zC ?_ ?_ <;> intro hc; all_goals first | (cases hc; done) | ((try simp only [hc]); (try simp only [bm] at hc))) | refine zE ?_ | refine zNV ?_ | fail)
      all_goals clear r1 r1' r2 r2' r3 r4 r5 r6 r7 r8 rl
      all_goals first | refine Qend.boo rfl rfl ?_ | skip
      all_goals first | rfl | (simp_all; done) | (exfalso; omega) | (exfalso; simp_all; done) | trace_state
    · obtain rfl := e5 rfl
      repeat' (first | refine zA ?_ | refine WQ.cl hl.modes ?_ | refine W1.cl hl.modes (rl) ?_ | refine WQ.cl s1.modes ?_ | refine W1.cl s1.modes (r1) ?_ | refine WQ.cl s1.modes ?_ | refine W1.cl s1.modes (r1') ?_ | refine WQ.cl p8.modes ?_ | refine W1.cl p8.modes (r2) ?_ | refine WQ.cl p8.modes ?_ | refine W1.cl p8.modes (r2') ?_ | refine WQ.cl t1.modes ?_ | refine W1.cl t1.modes (r3) ?_ | refine WQ.cl t2.modes ?_ | refine W1.cl t2.modes (r4) ?_ | (refine W1.cd2 o1.modes c1 r6 ?_) | refine WQ.cl g.a1.modes ?_ | refine W1.cl g.a1.modes (r7) ?_ | refine WQ.cl g.a1.modes ?_ | refine W1.cl g.a1.modes (r8) ?_ | refine WQ.cl t3.modes ?_ | refine W1.cl t3.modes (r5) ?_ | refine zB ?_ | (refine zC ?_ ?_ <;> intro hc; all_goals first | (cases hc; done) | ((try simp only [hc]); (try simp only [bm] at hc))) | refine zE ?_ | refine zNV ?_ | fail)
      all_goals clear r1 r1' r2 r2' r3 r4 r5 r6 r7 r8 rl
      all_goals first | refine Qend.boo rfl rfl ?_ | skip
      all_goals first | rfl | (simp_all; done) | (exfalso; omega) | (exfalso; simp_all; done) | trace_state
  · have hbad : formed v = true → formed w = true → dq v ≤ 8 → plainV v = false := fun x1 x2 x3 => by
      cases hp : plainV v
      · rfl
      · exact absurd ⟨x1, x2, x3, hp⟩ hgood
    clear r5 r6 c1 hgood
    generalize formed v = fv at *
    generalize formed w = fw at *
    generalize plainV v = pv at *
    generalize dq v = dv at *
    rw [V.av_eq, V.av_eq] at *
    repeat' (first | refine zA ?_ | refine WQ.cl hl.modes ?_ | refine W1.cl hl.modes (rl) ?_ | refine WQ.cl s1.modes ?_ | refine W1.cl s1.modes (r1) ?_ | refine WQ.cl s1.modes ?_ | refine W1.cl s1.modes (r1') ?_ | refine WQ.cl p8.modes ?_ | refine W1.cl p8.modes (r2) ?_ | refine WQ.cl p8.modes ?_ | refine W1.cl p8.modes (r2') ?_ | refine WQ.cl t1.modes ?_ | refine W1.cl t1.modes (r3) ?_ | refine WQ.cl t2.modes ?_ | refine W1.cl t2.modes (r4) ?_ | refine zB ?_ | (refine zC ?_ ?_ <;> intro hc; all_goals first | (cases hc; done) | ((try simp only [hc]); (try simp only [bm] at hc))) | refine zE ?_ | refine zNV ?_ | fail)
    all_goals clear r1 r1' r2 r2' r3 r4 rl
    all_goals first | refine Qend.boo rfl rfl ?_ | skip
    all_goals first | rfl | (simp_all; done) | (exfalso; simp_all; done) | (exfalso; have := hbad (by simp_all) (by simp_all) (by omega); simp_all; done) | trace_state
end Hm
