/- What the law answers on the abstract machine. Conditions: see each theorem. -/
import Derived.Test.YtaemcgnkpfbenaaGreatDoorVAgr2
set_option linter.unusedVariables false
set_option linter.unusedSimpArgs false
/- Which values the program says are well shaped, and the law. Conditions: see each theorem. -/
namespace Hm
open Go (IntKind)
set_option maxHeartbeats 4000000
set_option maxRecDepth 4000
structure VfFns (T : Tab) : Prop where
  a1 : Fn T F.value_Formed value_Formed.fn
  a2 : Fn T F.value_allFormed value_allFormed.fn
  a3 : Fn T F.value_allFormed_S1 value_allFormed_S1.fn
  a4 : Fn T F.value_empty value_empty.fn
  a5 : Fn T F.value_rise value_rise.fn
  a6 : Fn T F.utf_Valid utf_Valid.fn
  a7 : Fn T F.tens_Formed tens_Formed.fn
  a8 : Fn T F.slices_ContainsFunc_LV slices_ContainsFunc_LV.fn
  a9 : Fn T F.slices_IndexFunc_LV slices_IndexFunc_LV.fn
section
variable {T : Tab}
theorem indexFuncV_ret (h : Fn T F.slices_IndexFunc_LV slices_IndexFunc_LV.fn) {p : V → Bool} {g : Nat} (hg : T.modes g = [.val]) (l : List V) (hl : l.length ≤ 1073741824)
    (ih : ∀ x ∈ l,Ret T g [.val x.av] (one (.bool (p x)))) : ∃ n : Int,(0 ≤ n ↔ l.any p = true) ∧ Ret T F.slices_IndexFunc_LV [.val (.lst 5 (l.map V.row)),.val (.clo g [] [])] (one (.int .i64 n)) := by
  have e1 : (l.map V.row).length = l.length := List.length_map ..
  refine Ret.ex1 (g := fun n => AV.int .i64 n) (R := fun n => (0 ≤ n ↔ l.any p = true)) h rfl ?_
  repeat' (first | refine zA ?_ | refine zB ?_ | (refine zC ?_ ?_ <;> intro hc; all_goals first | (cases hc; done) | ((try simp only [hc]); (try simp only [bm] at hc))) | refine zE ?_ | refine zN ?_ | fail)
  refine W.listP l (fun i (_ : Unit) s => s.put 8 (.av (.int .i64 (i : Int)))) (fun i _ => (l.take i).any p = false) () (by simp) rfl ?_ ?_
  · intro i x u hx hi hp
    have r := ih x (List.mem_of_getElem? hx)
    rw [V.av_eq] at r
    repeat' (first | refine zA ?_ | refine WQ.cl hg ?_ | refine W1.cl hg (r) ?_ | refine zB ?_ | (refine zC ?_ ?_ <;> intro hc; all_goals first | (cases hc; done) | ((try simp only [hc]); (try simp only [bm] at hc))) | refine zE ?_ | refine zN ?_ | fail)
    all_goals clear r
    · refine ⟨_,?_,Qend.num rfl rfl rfl⟩
      have : l.any p = true := List.any_eq_true.2 ⟨x,List.mem_of_getElem? hx,by assumption⟩
      simp [this]
    · refine ⟨(),?_,rfl⟩
      rw [List.take_add_one,hx,List.any_append,hp]; simp_all
  · intro u hp
    rw [List.take_length] at hp
    repeat' (first | refine zA ?_ | refine zB ?_ | (refine zC ?_ ?_ <;> intro hc; all_goals first | (cases hc; done) | ((try simp only [hc]); (try simp only [bm] at hc))) | refine zE ?_ | refine zN ?_ | fail)
    refine ⟨_,?_,Qend.num rfl rfl rfl⟩
    rw [hp]; simp
theorem containsFuncV_ret (h : Fn T F.slices_ContainsFunc_LV slices_ContainsFunc_LV.fn) (hi : Fn T F.slices_IndexFunc_LV slices_IndexFunc_LV.fn) {p : V → Bool} {g : Nat} (hg : T.modes g = [.val]) (l : List V) (hl : l.length ≤ 1073741824)
    (ih : ∀ x ∈ l,Ret T g [.val x.av] (one (.bool (p x)))) : Ret T F.slices_ContainsFunc_LV [.val (.lst 5 (l.map V.row)),.val (.clo g [] [])] (one (.bool (l.any p))) := by
  obtain ⟨n,hn,r⟩ := indexFuncV_ret hi hg l hl ih
  refine Ret.mk h rfl ?_
  repeat' (first | refine zA ?_ | refine WQ.cl hi.modes ?_ | refine W1.cl hi.modes (r) ?_ | refine zB ?_ | (refine zC ?_ ?_ <;> intro hc; all_goals first | (cases hc; done) | ((try simp only [hc]); (try simp only [bm] at hc))) | refine zE ?_ | refine zN ?_ | fail)
  refine Qend.boo rfl rfl ?_
  rw [Bool.eq_iff_iff,← hn]; simp
theorem vrise_ret (h : Fn T F.value_rise value_rise.fn) (hu : Fn T F.utf_Valid utf_Valid.fn) (hv : ValidOk T) (l : List Str) (hb : sbk l ≤ 1073741824) : Ret T F.value_rise [.val (.lst 1 (srow l))] (one (.bool (rise l))) := by
  refine Ret.mk h rfl ?_
  have hl := len_sbk l
  have e1 := srow_len l
  repeat' (first | refine zA ?_ | refine zB ?_ | (refine zC ?_ ?_ <;> intro hc; all_goals first | (cases hc; done) | ((try simp only [hc]); (try simp only [bm] at hc))) | refine zE ?_ | refine zN ?_ | fail)
  refine W.listP l (fun i (_ : Unit) s => s.put 7 (.av (.int .i64 (i : Int)))) (fun i _ => ∀ j < i,riseAt l j = true) () (by simp) rfl ?_ ?_
  · intro i x u hx hi hp
    have hsx := sbk_mem (List.mem_of_getElem? hx)
    have hret := hv x (by omega)
    have hgx : l.getD i [] = x := by simp [List.getD,hx]
    by_cases h0 : i = 0
    · subst h0
      repeat' (first | refine zA ?_ | refine WQ.cl hu.modes ?_ | refine W1.cl hu.modes (hret) ?_ | refine zB ?_ | (refine zC ?_ ?_ <;> intro hc; all_goals first | (cases hc; done) | ((try simp only [hc]); (try simp only [bm] at hc))) | refine zE ?_ | refine zN ?_ | fail)
      all_goals clear hret hv
      all_goals first
        | (refine Qend.boo rfl rfl ?_; rw [rise_false hi (by simp_all [riseAt])]; done)
        | (refine ⟨(),fun j hj => ?_,rfl⟩; obtain rfl : j = 0 := by omega
           simp_all [riseAt]; done)
        | (exfalso; omega)
    · obtain ⟨y,hy⟩ : ∃ y,l[i - 1]? = some y := ⟨l[i - 1]'(by omega),List.getElem?_eq_getElem (by omega)⟩
      have hgy : l.getD (i - 1) [] = y := by simp [List.getD,hy]
      have hry : (srow l)[((i : Int) - 1).toNat]? = some [.str y] := by
        have : ((i : Int) - 1).toNat = i - 1 := by omega
        rw [this]; exact get_srow hy
      repeat' (first | refine zA ?_ | refine WQ.cl hu.modes ?_ | refine W1.cl hu.modes (hret) ?_ | refine zB ?_ | (refine zC ?_ ?_ <;> intro hc; all_goals first | (cases hc; done) | ((try simp only [hc]); (try simp only [bm] at hc))) | refine zE ?_ | refine zN ?_ | fail)
      all_goals clear hret hv
      all_goals first
        | (refine Qend.boo rfl rfl ?_; rw [rise_false hi (by simp_all [riseAt])]; done)
        | (refine ⟨(),fun j hj => ?_,rfl⟩
           by_cases hji : j < i
           · exact hp j hji
           · obtain rfl : j = i := by omega
             simp_all [riseAt])
        | (exfalso; omega)
  · intro u hp
    repeat' (first | refine zA ?_ | refine zB ?_ | (refine zC ?_ ?_ <;> intro hc; all_goals first | (cases hc; done) | ((try simp only [hc]); (try simp only [bm] at hc))) | refine zE ?_ | refine zN ?_ | fail)
    refine Qend.boo rfl rfl ?_
    rw [rise_true hp]
theorem vempty_ret (h : Fn T F.value_empty value_empty.fn) (v : V) (a b c d : Bool) : Ret T F.value_empty [.val v.av,.val (.bool a),.val (.bool b),.val (.bool c),.val (.bool d)]
    (one (.bool ((a || v.num == []) && (b || v.text == []) && (c || decide (v.items.length = 0)) && (d || decide (v.keys.length = 0))))) := by
  have e1 := srow_len v.keys
  have e2 : (v.items.map V.row).length = v.items.length := List.length_map ..
  have z : ∀ n : Nat,((n : Int) == 0) = decide (n = 0) := fun n => by rw [Bool.eq_iff_iff]; simp
  refine Ret.mk h rfl ?_
  rw [V.av_eq]
  repeat' (first | refine zA ?_ | refine zB ?_ | (refine zC ?_ ?_ <;> intro hc; all_goals first | (cases hc; done) | ((try simp only [hc]); (try simp only [bm] at hc))) | refine zE ?_ | refine zN ?_ | fail)
  all_goals refine Qend.boo rfl rfl ?_
  all_goals clear h
  all_goals first | (simp_all; done) | (rw [Bool.eq_iff_iff]; simp_all; done) | (simp_all [z]; done) | (rw [Bool.eq_iff_iff]; simp_all [z]; done)
theorem vformed_eq (k : Int) (n t : Str) (is : List V) (ks : List Str) : formed (.mk k n t is ks) = (decide (0 ≤ k) && decide (k ≤ 6) && (if k = 3 then number n else decide (n = [])) && (if k = 4 then utf t else decide (t = [])) && (decide (5 ≤ k) || decide (is.length = 0)) && (decide (6 ≤ k) || decide (ks.length = 0)) &&
    (decide (k ≠ 6) || (decide (is.length = ks.length) && rise ks)) && is.all formed) := by
  have q : ∀ a b : Nat,(a == b) = decide (b = a) := fun a b => by rw [Bool.eq_iff_iff,beq_iff_eq,decide_eq_true_eq]; exact eq_comm
  simp only [formed,formedAll_eq]
  rw [Bool.eq_iff_iff]
  simp only [Bool.and_eq_true,Bool.or_eq_true,Bool.not_eq_true',Bool.or_eq_false_iff,Bool.and_eq_false_iff,decide_eq_true_eq,decide_eq_false_iff_not,q]
  grind
theorem valueFormed_ret (f : VfFns T) (hv : ValidOk T) : ∀ (v : V),v.bk ≤ 1073741824 → Ret T F.value_Formed [.val v.av] (one (.bool (formed v))) := by
  intro v
  induction v using V.ind with
  | h v ih =>
  intro hb
  have hbk := V.bk_eq v
  have hk := len_sbk v.keys
  have hl := V.len_bks v.items
  have e1 := srow_len v.keys
  have e2 : (v.items.map V.row).length = v.items.length := List.length_map ..
  have z : ∀ n : Nat,((n : Int) == 0) = decide (n = 0) := fun n => by rw [Bool.eq_iff_iff]; simp
  have r1 := tensFormed_ret f.a7 v.num (by omega)
  have r2 := hv v.text (by omega)
  have r3 := vrise_ret f.a5 f.a6 hv v.keys (by omega)
  have r0 := vempty_ret f.a4 v
  have rc : ∀ x ∈ v.items,Ret T F.value_allFormed_S1 [.val x.av] (one (.bool (!formed x))) := fun x hx => by
    have r := ih x hx (by have := V.bk_item hx; omega)
    refine Ret.mk f.a3 rfl ?_
    rw [V.av_eq] at *
    repeat' (first | refine zA ?_ | refine WQ.cl f.a1.modes ?_ | refine W1.cl f.a1.modes (r) ?_ | refine zB ?_ | (refine zC ?_ ?_ <;> intro hc; all_goals first | (cases hc; done) | ((try simp only [hc]); (try simp only [bm] at hc))) | refine zE ?_ | refine zN ?_ | fail)
    exact Qend.boo rfl rfl rfl
  have r5 := containsFuncV_ret f.a8 f.a9 (p := fun x => !formed x) f.a3.modes v.items (by omega) rc
  have r4 : Ret T F.value_allFormed [.val (.lst 5 (v.items.map V.row))] (one (.bool (v.items.all formed))) := by
    refine Ret.mk f.a2 rfl ?_
    repeat' (first | refine zA ?_ | refine WQ.cl f.a8.modes ?_ | refine W1.cl f.a8.modes (r5) ?_ | refine zB ?_ | (refine zC ?_ ?_ <;> intro hc; all_goals first | (cases hc; done) | ((try simp only [hc]); (try simp only [bm] at hc))) | refine zE ?_ | refine zN ?_ | fail)
    refine Qend.boo rfl rfl ?_
    rw [List.all_eq_not_any_not]
  clear r5 rc ih hv
  refine Ret.mk f.a1 rfl ?_
  obtain ⟨k,n,t,is,ks⟩ := v
  rw [vformed_eq]
  rw [V.av_eq] at *
  simp only [V.kind,V.num,V.text,V.items,V.keys] at *
  repeat' (first | refine zA ?_ | refine WQ.cl f.a4.modes ?_ | refine W1.cl f.a4.modes (r0 _ _ _ _) ?_ | refine WQ.cl f.a7.modes ?_ | refine W1.cl f.a7.modes (r1) ?_ | refine WQ.cl f.a6.modes ?_ | refine W1.cl f.a6.modes (r2) ?_ | refine WQ.cl f.a5.modes ?_ | refine W1.cl f.a5.modes (r3) ?_ | refine WQ.cl f.a2.modes ?_ | refine W1.cl f.a2.modes (r4) ?_ | refine zB ?_ | (refine zC ?_ ?_ <;> intro hc; all_goals first | (cases hc; done) | ((try simp only [hc]); (try simp only [bm] at hc))) | refine zE ?_ | refine zN ?_ | fail)
  all_goals refine Qend.boo rfl rfl ?_
  all_goals clear r0 r1 r2 r3 r4 hb hbk hk hl e1 e2
  all_goals (try simp only [List.length_map,srow_len,Int.natCast_inj] at *)
  all_goals first
    | (simp_all; done)
    | (simp_all; omega)
    | (rw [Bool.eq_iff_iff]; simp_all; done)
    | (rw [Bool.eq_iff_iff]; simp_all; omega)
    | trace_state
end
end Hm

/- Well shaped types, as the program has them: words, texts. Conditions: see each theorem. -/
namespace Hm
open Go (IntKind)
set_option maxHeartbeats 4000000
set_option maxRecDepth 4000
section
variable {T : Tab}
theorem sbare_ret (h : Fn T F.shape_piece_bare shape_piece_bare.fn) (t : Ty) : Ret T F.shape_piece_bare [.val t.av] (one (.bool (bare t))) := by
  have z : ∀ n : Nat,((n : Int) == 0) = decide (n = 0) := fun n => by rw [Bool.eq_iff_iff]; simp
  have e1 := srow_len t.texts
  have e2 := sprow_len t.nums
  have s1 : srow t.texts = [] ↔ t.texts = [] := by rw [← List.length_eq_zero_iff,← List.length_eq_zero_iff,e1]
  have s2 : sprow t.nums = [] ↔ t.nums = [] := by rw [← List.length_eq_zero_iff,← List.length_eq_zero_iff,e2]
  refine Ret.mk h rfl ?_
  rw [Ty.av_eq]
  repeat' (first | refine zA ?_ | refine zB ?_ | (refine zC ?_ ?_ <;> intro hc; all_goals first | (cases hc; done) | ((try simp only [hc]); (try simp only [bm] at hc))) | refine zE ?_ | refine zNT ?_ | fail)
  all_goals refine Qend.boo rfl rfl ?_
  all_goals simp only [bare]
  all_goals clear h e1 e2
  all_goals first | (simp_all; done) | (rw [Bool.eq_iff_iff]; simp_all; done) | (simp_all [z]; done)
theorem snever_ret (h : Fn T F.shape_never shape_never.fn) (h1 : Fn T F.shape_piece_bare shape_piece_bare.fn) (t : Ty) : Ret T F.shape_never [.val t.av] (one (.bool (never t))) := by
  have r := sbare_ret h1 t
  refine Ret.mk h rfl ?_
  rw [Ty.av_eq] at *
  repeat' (first | refine zA ?_ | refine WQ.cl h1.modes ?_ | refine W1.cl h1.modes (r) ?_ | refine zB ?_ | (refine zC ?_ ?_ <;> intro hc; all_goals first | (cases hc; done) | ((try simp only [hc]); (try simp only [bm] at hc))) | refine zE ?_ | refine zNT ?_ | fail)
  all_goals refine Qend.boo rfl rfl ?_
  all_goals simp only [never]
  all_goals clear r
  all_goals first | (simp_all; done) | (rw [Bool.eq_iff_iff]; simp_all; done)
theorem severy_ret (h : Fn T F.shape_piece_every shape_piece_every.fn) (h1 : Fn T F.shape_piece_bare shape_piece_bare.fn) (t : Ty) : Ret T F.shape_piece_every [.val t.av] (one (.bool (!t.all || bare t))) := by
  have r := sbare_ret h1 t
  refine Ret.mk h rfl ?_
  rw [Ty.av_eq] at *
  repeat' (first | refine zA ?_ | refine WQ.cl h1.modes ?_ | refine W1.cl h1.modes (r) ?_ | refine zB ?_ | (refine zC ?_ ?_ <;> intro hc; all_goals first | (cases hc; done) | ((try simp only [hc]); (try simp only [bm] at hc))) | refine zE ?_ | refine zNT ?_ | fail)
  all_goals refine Qend.boo rfl rfl ?_
  all_goals clear r
  all_goals first | (simp_all; done) | (rw [Bool.eq_iff_iff]; simp_all; done)
theorem srise_ret (h : Fn T F.shape_rise shape_rise.fn) (hu : Fn T F.utf_Valid utf_Valid.fn) (hv : ValidOk T) (l : List Str) (hb : sbk l ≤ 1073741824) : Ret T F.shape_rise [.val (.lst 1 (srow l))] (one (.bool (rise l))) := by
  refine Ret.mk h rfl ?_
  have hl := len_sbk l
  have e1 := srow_len l
  repeat' (first | refine zA ?_ | refine zB ?_ | (refine zC ?_ ?_ <;> intro hc; all_goals first | (cases hc; done) | ((try simp only [hc]); (try simp only [bm] at hc))) | refine zE ?_ | refine zNT ?_ | fail)
  refine W.listP l (fun i (_ : Unit) s => s.put 7 (.av (.int .i64 (i : Int)))) (fun i _ => ∀ j < i,riseAt l j = true) () (by simp) rfl ?_ ?_
  · intro i x u hx hi hp
    have hsx := sbk_mem (List.mem_of_getElem? hx)
    have hret := hv x (by omega)
    have hgx : l.getD i [] = x := by simp [List.getD,hx]
    by_cases h0 : i = 0
    · subst h0
      repeat' (first | refine zA ?_ | refine WQ.cl hu.modes ?_ | refine W1.cl hu.modes (hret) ?_ | refine zB ?_ | (refine zC ?_ ?_ <;> intro hc; all_goals first | (cases hc; done) | ((try simp only [hc]); (try simp only [bm] at hc))) | refine zE ?_ | refine zNT ?_ | fail)
      all_goals clear hret hv
      all_goals first
        | (refine Qend.boo rfl rfl ?_; rw [rise_false hi (by simp_all [riseAt])]; done)
        | (refine ⟨(),fun j hj => ?_,rfl⟩; obtain rfl : j = 0 := by omega
           simp_all [riseAt]; done)
        | (exfalso; omega)
    · obtain ⟨y,hy⟩ : ∃ y,l[i - 1]? = some y := ⟨l[i - 1]'(by omega),List.getElem?_eq_getElem (by omega)⟩
      have hgy : l.getD (i - 1) [] = y := by simp [List.getD,hy]
      have hry : (srow l)[((i : Int) - 1).toNat]? = some [.str y] := by
        have : ((i : Int) - 1).toNat = i - 1 := by omega
        rw [this]; exact get_srow hy
      repeat' (first | refine zA ?_ | refine WQ.cl hu.modes ?_ | refine W1.cl hu.modes (hret) ?_ | refine zB ?_ | (refine zC ?_ ?_ <;> intro hc; all_goals first | (cases hc; done) | ((try simp only [hc]); (try simp only [bm] at hc))) | refine zE ?_ | refine zNT ?_ | fail)
      all_goals clear hret hv
      all_goals first
        | (refine Qend.boo rfl rfl ?_; rw [rise_false hi (by simp_all [riseAt])]; done)
        | (refine ⟨(),fun j hj => ?_,rfl⟩
           by_cases hji : j < i
           · exact hp j hji
           · obtain rfl : j = i := by omega
             simp_all [riseAt])
        | (exfalso; omega)
  · intro u hp
    repeat' (first | refine zA ?_ | refine zB ?_ | (refine zC ?_ ?_ <;> intro hc; all_goals first | (cases hc; done) | ((try simp only [hc]); (try simp only [bm] at hc))) | refine zE ?_ | refine zNT ?_ | fail)
    refine Qend.boo rfl rfl ?_
    rw [rise_true hp]
theorem stexts_ret (h : Fn T F.shape_piece_texts shape_piece_texts.fn) (h1 : Fn T F.shape_rise shape_rise.fn) (hu : Fn T F.utf_Valid utf_Valid.fn) (hv : ValidOk T) (t : Ty) (hb : t.bk ≤ 1073741824) :
    Ret T F.shape_piece_texts [.val t.av] (one (.bool (rise t.texts && (!t.anyText || decide (t.texts.length = 0))))) := by
  have hk := Ty.bk_eq t
  have r := srise_ret h1 hu hv t.texts (by omega)
  refine Ret.mk h rfl ?_
  rw [Ty.av_eq]
  repeat' (first | refine zA ?_ | refine WQ.cl h1.modes ?_ | refine W1.cl h1.modes (r) ?_ | refine zB ?_ | (refine zC ?_ ?_ <;> intro hc; all_goals first | (cases hc; done) | ((try simp only [hc]); (try simp only [bm] at hc))) | refine zE ?_ | refine zNT ?_ | fail)
  all_goals refine Qend.boo rfl rfl ?_
  all_goals clear r hv
  all_goals first | (simp_all; done) | (rw [Bool.eq_iff_iff]; simp_all; done) | (simp_all; omega) | (rw [Bool.eq_iff_iff]; simp_all; omega)
end
end Hm

/- Well shaped types, as the program has them: rows and objects. Conditions: see each theorem. -/
namespace Hm
open Go (IntKind)
set_option maxHeartbeats 4000000
set_option maxRecDepth 4000
def FormedS (T : Tab) (v : Ty) : Prop := Ret T F.shape_Formed [.val v.av] (one (.bool (tformed v)))
theorem sarrays_of {T : Tab} (h : Fn T F.shape_piece_arrays shape_piece_arrays.fn) (hf : Fn T F.shape_Formed shape_Formed.fn) (h1 : Fn T F.shape_never shape_never.fn) (h2 : Fn T F.shape_piece_bare shape_piece_bare.fn)
    (t : Ty) (hb : t.bk ≤ 1073741824) (ih : ∀ x ∈ t.arrays,FormedS T x.item) : Ret T F.shape_piece_arrays [.val t.av] (one (.bool (decide (t.arrays.length ≤ 1) && t.arrays.all arOk))) := by
  refine Ret.mk h rfl ?_
  have hbk := Ty.bk_eq t
  have hl := len_arBks t.arrays
  have e1 : (t.arrays.map Ar.row).length = t.arrays.length := List.length_map ..
  have z : ∀ n : Int,(n == 0) = decide (n = 0) := fun n => by rw [Bool.eq_iff_iff]; simp
  rw [Ty.av_eq]
  repeat' (first | refine zA ?_ | refine zB ?_ | (refine zC ?_ ?_ <;> intro hc; all_goals first | (cases hc; done) | ((try simp only [hc]); (try simp only [bm] at hc))) | refine zE ?_ | refine zNT ?_ | fail)
  refine W.listP t.arrays (fun i (_ : Unit) s => s.put 8 (.av (.int .i64 (i : Int)))) (fun i _ => (t.arrays.take i).all arOk = true) () (by simp) rfl ?_ ?_
  · intro i x u hx hi hp
    have r1 := ih x (List.mem_of_getElem? hx)
    have r2 := snever_ret h1 h2 x.item
    rw [FormedS,Ty.av_eq] at r1
    rw [Ty.av_eq] at r2
    repeat' (first | refine zA ?_ | refine WQ.cl hf.modes ?_ | refine W1.cl hf.modes (r1) ?_ | refine WQ.cl h1.modes ?_ | refine W1.cl h1.modes (r2) ?_ | refine zB ?_ | (refine zC ?_ ?_ <;> intro hc; all_goals first | (cases hc; done) | ((try simp only [hc]); (try simp only [bm] at hc))) | refine zE ?_ | refine zNT ?_ | fail)
    all_goals clear r1 r2 ih
    all_goals first
      | (exfalso; simp_all; done)
      | (refine ⟨(),?_,rfl⟩; rw [all_take_succ hx,hp,arOk_eq]; simp_all; done)
      | (refine ⟨(),?_,rfl⟩; rw [all_take_succ hx,hp,arOk_eq]; simp_all; omega)
      | (refine Qend.boo rfl rfl ?_; rw [all_false hx (by rw [arOk_eq]; simp_all; done),Bool.and_false]; done)
      | (refine Qend.boo rfl rfl ?_; rw [all_false hx (by rw [arOk_eq]; simp_all; omega),Bool.and_false]; done)
      | skip
  · intro u hp
    rw [List.take_length] at hp
    repeat' (first | refine zA ?_ | refine zB ?_ | (refine zC ?_ ?_ <;> intro hc; all_goals first | (cases hc; done) | ((try simp only [hc]); (try simp only [bm] at hc))) | refine zE ?_ | refine zNT ?_ | fail)
    all_goals refine Qend.boo rfl rfl ?_
    all_goals rw [hp,Bool.and_true]
    all_goals first | (rw [Bool.eq_iff_iff]; simp; done) | (rw [Bool.eq_iff_iff]; simp; omega) | (simp_all; omega) | skip
end Hm

/- Well shaped types, as the program has them: objects. Conditions: see each theorem. -/
namespace Hm
open Go (IntKind)
set_option maxHeartbeats 4000000
set_option maxRecDepth 4000
theorem obOk_false {o : Ob} (hn : ¬ (o.names.length = o.fields.length ∧ o.names.length = o.must.length ∧ rise o.names = true ∧ tformed o.rest = true)) : obOk o = false := by
  rw [obOk_eq,Bool.eq_false_iff]
  intro hc
  simp only [Bool.and_eq_true,decide_eq_true_eq] at hc
  exact hn ⟨hc.1.1.1.1,hc.1.1.1.2,hc.1.1.2,hc.1.2⟩
theorem sobjects_of {T : Tab} (h : Fn T F.shape_piece_objects shape_piece_objects.fn) (hf : Fn T F.shape_Formed shape_Formed.fn) (h1 : Fn T F.shape_never shape_never.fn) (h2 : Fn T F.shape_piece_bare shape_piece_bare.fn)
    (h3 : Fn T F.shape_rise shape_rise.fn) (hu : Fn T F.utf_Valid utf_Valid.fn) (hv : ValidOk T)
    (t : Ty) (hb : t.bk ≤ 1073741824) (ih : ∀ x ∈ t.objects,FormedS T x.rest ∧ ∀ y ∈ x.fields,FormedS T y) : Ret T F.shape_piece_objects [.val t.av] (one (.bool (t.objects.all obOk))) := by
  refine Ret.mk h rfl ?_
  have hbk := Ty.bk_eq t
  have hl := len_obBks t.objects
  have e1 : (t.objects.map Ob.row).length = t.objects.length := List.length_map ..
  rw [Ty.av_eq]
  repeat' (first | refine zA ?_ | refine zB ?_ | (refine zC ?_ ?_ <;> intro hc; all_goals first | (cases hc; done) | ((try simp only [hc]); (try simp only [bm] at hc))) | refine zE ?_ | refine zN ?_ | fail)
  refine W.listP t.objects (fun i (_ : Unit) s => s.put 10 (.av (.int .i64 (i : Int)))) (fun i _ => (t.objects.take i).all obOk = true) () (by simp) rfl ?_ ?_
  · intro i o u hx hi hp
    have hbo := obBk_mem (List.mem_of_getElem? hx)
    have hbko := Ob.bk_eq o
    have l1 := len_sbk o.names
    have l2 := len_tyBks o.fields
    have e2 := srow_len o.names
    have e3 := brow_len o.must
    have e4 : (o.fields.map Ty.row).length = o.fields.length := List.length_map ..
    have r0 := srise_ret h3 hu hv o.names (by omega)
    obtain ⟨r1,ihf⟩ := ih o (List.mem_of_getElem? hx)
    rw [FormedS,Ty.av_eq] at r1
    by_cases hn : o.names.length = o.fields.length ∧ o.names.length = o.must.length ∧ rise o.names = true ∧ tformed o.rest = true
    · obtain ⟨n1,n2,n3,n4⟩ := hn
      have hoe' : obOk o = fieldsOk o.fields o.must := by rw [obOk_eq]; simp [← n1,← n2,n3,n4]
      repeat' (first | refine zA ?_ | refine WQ.cl h3.modes ?_ | refine W1.cl h3.modes (r0) ?_ | refine WQ.cl hf.modes ?_ | refine W1.cl hf.modes (r1) ?_ | refine zB ?_ | (refine zC ?_ ?_ <;> intro hc; all_goals first | (cases hc; done) | ((try simp only [hc]); (try simp only [bm] at hc))) | refine zE ?_ | refine zN ?_ | fail)
      all_goals first | (exfalso; clear r0 r1; simp_all; done) | (exfalso; omega) | skip
      refine W.listP o.fields (fun i (_ : Unit) s => s.put 45 (.av (.int .i64 (i : Int)))) (fun i _ => fieldsOk (o.fields.take i) o.must = true) () (by simp [fieldsOk]) rfl ?_ ?_
      · intro j x u hxj hj hpj
        obtain ⟨b,hbm⟩ : ∃ b,o.must[j]? = some b := ⟨o.must[j]'(by omega),List.getElem?_eq_getElem (by omega)⟩
        have r2 := ihf x (List.mem_of_getElem? hxj)
        have r3 := snever_ret h1 h2 x
        rw [FormedS,Ty.av_eq] at r2
        rw [Ty.av_eq] at r3
        repeat' (first | refine zA ?_ | refine WQ.cl hf.modes ?_ | refine W1.cl hf.modes (r2) ?_ | refine WQ.cl h1.modes ?_ | refine W1.cl h1.modes (r3) ?_ | refine zB ?_ | (refine zC ?_ ?_ <;> intro hc; all_goals first | (cases hc; done) | ((try simp only [hc]); (try simp only [bm] at hc))) | refine zE ?_ | refine zN ?_ | fail)
        all_goals clear r0 r1 r2 r3 ih ihf
        all_goals first
          | (refine Qend.boo rfl rfl ?_; rw [all_false hx (by rw [hoe',fieldsOk_false hxj hbm (by simp_all)])]; done)
          | (refine ⟨(),?_,rfl⟩; rw [fieldsOk_take_succ hxj hbm,hpj]; simp_all; done)
          | (exfalso; simp_all; done)
          | skip
      · intro u hpj
        rw [List.take_length] at hpj
        repeat' (first | refine zA ?_ | refine zB ?_ | (refine zC ?_ ?_ <;> intro hc; all_goals first | (cases hc; done) | ((try simp only [hc]); (try simp only [bm] at hc))) | refine zE ?_ | refine zN ?_ | fail)
        all_goals refine ⟨(),?_,rfl⟩
        all_goals rw [all_take_succ hx,hp,hoe',hpj]; rfl
    · have hoe' := obOk_false hn
      by_cases n1 : o.names.length = o.fields.length
      · by_cases n2 : o.names.length = o.must.length
        · by_cases n3 : rise o.names = true
          · have n4 : tformed o.rest = false := by
              rw [Bool.eq_false_iff]; exact fun hc => hn ⟨n1,n2,n3,hc⟩
            repeat' (first | refine zA ?_ | refine WQ.cl h3.modes ?_ | refine W1.cl h3.modes (r0) ?_ | refine WQ.cl hf.modes ?_ | refine W1.cl hf.modes (r1) ?_ | refine zB ?_ | (refine zC ?_ ?_ <;> intro hc; all_goals first | (cases hc; done) | ((try simp only [hc]); (try simp only [bm] at hc))) | refine zE ?_ | refine zN ?_ | fail)
            all_goals clear r0 r1
            all_goals first | (refine Qend.boo rfl rfl ?_; rw [all_false hx hoe']; done) | (exfalso; omega) | (exfalso; simp_all; done) | skip
          · rw [Bool.not_eq_true] at n3
            repeat' (first | refine zA ?_ | refine WQ.cl h3.modes ?_ | refine W1.cl h3.modes (r0) ?_ | refine WQ.cl hf.modes ?_ | refine W1.cl hf.modes (r1) ?_ | refine zB ?_ | (refine zC ?_ ?_ <;> intro hc; all_goals first | (cases hc; done) | ((try simp only [hc]); (try simp only [bm] at hc))) | refine zE ?_ | refine zN ?_ | fail)
            all_goals clear r0 r1
            all_goals first | (refine Qend.boo rfl rfl ?_; rw [all_false hx hoe']; done) | (exfalso; omega) | (exfalso; simp_all; done) | skip
        · skip
          repeat' (first | refine zA ?_ | refine WQ.cl h3.modes ?_ | refine W1.cl h3.modes (r0) ?_ | refine WQ.cl hf.modes ?_ | refine W1.cl hf.modes (r1) ?_ | refine zB ?_ | (refine zC ?_ ?_ <;> intro hc; all_goals first | (cases hc; done) | ((try simp only [hc]); (try simp only [bm] at hc))) | refine zE ?_ | refine zN ?_ | fail)
          all_goals clear r0 r1
          all_goals first | (refine Qend.boo rfl rfl ?_; rw [all_false hx hoe']; done) | (exfalso; omega) | (exfalso; simp_all; done) | skip
      · skip
        repeat' (first | refine zA ?_ | refine WQ.cl h3.modes ?_ | refine W1.cl h3.modes (r0) ?_ | refine WQ.cl hf.modes ?_ | refine W1.cl hf.modes (r1) ?_ | refine zB ?_ | (refine zC ?_ ?_ <;> intro hc; all_goals first | (cases hc; done) | ((try simp only [hc]); (try simp only [bm] at hc))) | refine zE ?_ | refine zN ?_ | fail)
        all_goals clear r0 r1
        all_goals first | (refine Qend.boo rfl rfl ?_; rw [all_false hx hoe']; done) | (exfalso; omega) | (exfalso; simp_all; done) | skip
  · intro u hp
    rw [List.take_length] at hp
    repeat' (first | refine zA ?_ | refine zB ?_ | (refine zC ?_ ?_ <;> intro hc; all_goals first | (cases hc; done) | ((try simp only [hc]); (try simp only [bm] at hc))) | refine zE ?_ | refine zN ?_ | fail)
    refine Qend.boo rfl rfl ?_
    rw [hp]
end Hm

/- Well shaped types, as the program has them: spans. Conditions: see each theorem. -/
namespace Hm
open Go (IntKind)
set_option maxHeartbeats 4000000
set_option maxRecDepth 4000
section
variable {T : Tab}
theorem swth_ret (h : Fn T F.shape_worth shape_worth.fn) (c2 : Fn T F.tens_Cmp tens_Cmp.fn) (c3 : Fn T F.tens_size tens_size.fn) (c4 : Fn T F.tens_split tens_split.fn) (c5 : Fn T F.tens_Formed tens_Formed.fn) (a b : Str) (ha : number a = true) (hb : number b = true) (hl : a.length ≤ 1073741824) (hl' : b.length ≤ 1073741824) :
    Ret T F.shape_worth [.val (.str a),.val (.str b)] (one (.int .i64 (zcmp a b))) := by
  have r := tensCmp_ret c2 c3 c4 c5 a b ha hb hl hl'
  refine Ret.mk h rfl ?_
  repeat' (first | refine WO.cons ?_ | refine WB.cons ?_ | refine WP.one ?_ | (first | (apply WQ.call (hm := c2.modes); (iterate 4 exact rfl)) | (apply W1.callV (hm := c2.modes); (iterate 5 exact rfl); exact (r); exact rfl)) | ((first | apply W1.add64 | apply W1.sub64); (iterate 3 exact rfl); omega; omega) | (apply W1.iadr; (iterate 3 exact rfl); omega; first | assumption | ((first | apply V.get_row | apply get_srow | apply get_ty | apply get_ar | apply get_ob | apply get_sprow | apply get_brow); assumption)) | (apply W1.idxS; (iterate 3 exact rfl); omega; omega) | (apply W1.slcS; (iterate 4 exact rfl); omega) | (apply W1.pickT; exact rfl; exact rfl; (first | with_reducible rfl | assumption | (simp only [bn]; first | omega | assumption | decide)); exact rfl) | (apply W1.pickF; exact rfl; exact rfl; (first | with_reducible rfl | assumption | (simp only [bn]; first | omega | assumption | decide)); exact rfl) | (apply W1.op; (iterate 3 exact rfl)) | (apply W1.no; exact rfl) | ((first | apply W1.knowT | apply W1.knowFn | apply WQ.knowT | apply WQ.knowFn | apply W.condT); exact rfl; (first | with_reducible rfl | assumption | (simp only [bn]; first | omega | assumption | decide))) | ((first | apply W1.knowTn | apply W1.knowF | apply WQ.knowTn | apply WQ.knowF | apply W.condF); exact rfl; (first | with_reducible rfl | assumption | (simp only [bn]; first | omega | assumption | decide))) | (apply WQ.go; exact rfl; exact rfl) | (apply WQ.no; exact rfl) | ((first | apply W1.bothT | apply W1.bothF | apply WQ.bothT | apply WQ.bothF | apply W.cond); exact rfl; all_goals intro hc; all_goals first | (cases hc; done) | ((try simp only [hc]); (try simp only [bm] at hc))) | refine WO.nil ?_ | refine WB.nil ?_ | refine WP.bag rfl ?_ | refine WP.nil ?_ | refine W.seq ?_ | refine W.reg ?_ | refine W.dreg ?_ | refine W.block ?_ | refine W.ret ?_ | refine W.skip ?_ | refine W.exit ?_ | (simp only [sprow_len,brow_len,srow_len,List.length_map,Qit,Int.toNat_natCast,entry,Opd.eat,cellsOf,TV.ofCells,allAv,Qseq,Qblk,List.map_cons,List.map_nil,putD,kp,Nat.reduceEqDiff,↓reduceIte,beq_self_eq_true,Nat.reduceBEq]))
  exact Qend.num rfl rfl rfl
theorem snums_ret (h : Fn T F.shape_piece_nums shape_piece_nums.fn) (h0 : Fn T F.shape_worth shape_worth.fn) (c2 : Fn T F.tens_Cmp tens_Cmp.fn) (c3 : Fn T F.tens_size tens_size.fn) (c4 : Fn T F.tens_split tens_split.fn) (c5 : Fn T F.tens_Formed tens_Formed.fn) (t : Ty) (hb : t.bk ≤ 1073741824) :
    Ret T F.shape_piece_nums [.val t.av] (one (.bool (t.nums.all spanOk && decide (t.nums.length ≤ 1)))) := by
  have hk := Ty.bk_eq t
  have hl := len_spbk t.nums
  have e1 := sprow_len t.nums
  refine Ret.mk h rfl ?_
  rw [Ty.av_eq]
  repeat' (first | refine WO.cons ?_ | refine WB.cons ?_ | refine WP.one ?_ | ((first | apply W1.add64 | apply W1.sub64); (iterate 3 exact rfl); omega; omega) | (apply W1.iadr; (iterate 3 exact rfl); omega; first | assumption | ((first | apply V.get_row | apply get_srow | apply get_ty | apply get_ar | apply get_ob | apply get_sprow | apply get_brow); assumption)) | (apply W1.idxS; (iterate 3 exact rfl); omega; omega) | (apply W1.slcS; (iterate 4 exact rfl); omega) | (apply W1.pickT; exact rfl; exact rfl; (first | with_reducible rfl | assumption | (simp only [bn]; first | omega | assumption | decide)); exact rfl) | (apply W1.pickF; exact rfl; exact rfl; (first | with_reducible rfl | assumption | (simp only [bn]; first | omega | assumption | decide)); exact rfl) | (apply W1.op; (iterate 3 exact rfl)) | (apply W1.no; exact rfl) | ((first | apply W1.knowT | apply W1.knowFn | apply WQ.knowT | apply WQ.knowFn | apply W.condT); exact rfl; (first | with_reducible rfl | assumption | (simp only [bn]; first | omega | assumption | decide))) | ((first | apply W1.knowTn | apply W1.knowF | apply WQ.knowTn | apply WQ.knowF | apply W.condF); exact rfl; (first | with_reducible rfl | assumption | (simp only [bn]; first | omega | assumption | decide))) | (apply WQ.go; exact rfl; exact rfl) | (apply WQ.no; exact rfl) | ((first | apply W1.bothT | apply W1.bothF | apply WQ.bothT | apply WQ.bothF | apply W.cond); exact rfl; all_goals intro hc; all_goals first | (cases hc; done) | ((try simp only [hc]); (try simp only [bm] at hc))) | refine WO.nil ?_ | refine WB.nil ?_ | refine WP.bag rfl ?_ | refine WP.nil ?_ | refine W.seq ?_ | refine W.reg ?_ | refine W.dreg ?_ | refine W.block ?_ | refine W.ret ?_ | refine W.skip ?_ | refine W.exit ?_ | (simp only [sprow_len,brow_len,srow_len,List.length_map,Qit,Int.toNat_natCast,entry,Opd.eat,cellsOf,TV.ofCells,allAv,Qseq,Qblk,List.map_cons,List.map_nil,putD,kp,Nat.reduceEqDiff,↓reduceIte,beq_self_eq_true,Nat.reduceBEq]))
  refine W.listP t.nums (fun i (_ : Unit) s => s.put 10 (.av (.int .i64 (i : Int)))) (fun i _ => (t.nums.take i).all spanOk = true) () (by simp) rfl ?_ ?_
  · intro i x u hx hi hp
    have hsx := spbk_mem (List.mem_of_getElem? hx)
    have r1 := tensFormed_ret c5 x.1 (by omega)
    have r2 := tensFormed_ret c5 x.2 (by omega)
    have r3 := fun p q => swth_ret h0 c2 c3 c4 c5 x.1 x.2 p q (by omega) (by omega)
    have hso : spanOk x = (boundOk x.1 && boundOk x.2 && !(!(x.1 == []) && !(x.2 == []) && decide (zcmp x.1 x.2 > 0))) := rfl
    simp only [boundOk] at hso
    by_cases n1 : number x.1 = true <;> by_cases n2 : number x.2 = true
    · have r3' := r3 n1 n2
      rw [n1] at r1
      rw [n2] at r2
      clear r3
      generalize zcmp x.1 x.2 = z at *
      repeat' (first | refine WO.cons ?_ | refine WB.cons ?_ | refine WP.one ?_ | (first | (apply WQ.call (hm := c5.modes); (iterate 4 exact rfl)) | (apply W1.callV (hm := c5.modes); (iterate 5 exact rfl); exact (r1); exact rfl)) | (first | (apply WQ.call (hm := c5.modes); (iterate 4 exact rfl)) | (apply W1.callV (hm := c5.modes); (iterate 5 exact rfl); exact (r2); exact rfl)) | (first | (apply WQ.call (hm := h0.modes); (iterate 4 exact rfl)) | (apply W1.callV (hm := h0.modes); (iterate 5 exact rfl); exact (r3'); exact rfl)) | ((first | apply W1.add64 | apply W1.sub64); (iterate 3 exact rfl); omega; omega) | (apply W1.iadr; (iterate 3 exact rfl); omega; first | assumption | ((first | apply V.get_row | apply get_srow | apply get_ty | apply get_ar | apply get_ob | apply get_sprow | apply get_brow); assumption)) | (apply W1.idxS; (iterate 3 exact rfl); omega; omega) | (apply W1.slcS; (iterate 4 exact rfl); omega) | (apply W1.pickT; exact rfl; exact rfl; (first | with_reducible rfl | assumption | (simp only [bn]; first | omega | assumption | decide)); exact rfl) | (apply W1.pickF; exact rfl; exact rfl; (first | with_reducible rfl | assumption | (simp only [bn]; first | omega | assumption | decide)); exact rfl) | (apply W1.op; (iterate 3 exact rfl)) | (apply W1.no; exact rfl) | ((first | apply W1.knowT | apply W1.knowFn | apply WQ.knowT | apply WQ.knowFn | apply W.condT); exact rfl; (first | with_reducible rfl | assumption | (simp only [bn]; first | omega | assumption | decide))) | ((first | apply W1.knowTn | apply W1.knowF | apply WQ.knowTn | apply WQ.knowF | apply W.condF); exact rfl; (first | with_reducible rfl | assumption | (simp only [bn]; first | omega | assumption | decide))) | (apply WQ.go; exact rfl; exact rfl) | (apply WQ.no; exact rfl) | ((first | apply W1.bothT | apply W1.bothF | apply WQ.bothT | apply WQ.bothF | apply W.cond); exact rfl; all_goals intro hc; all_goals first | (cases hc; done) | ((try simp only [hc]); (try simp only [bm] at hc))) | refine WO.nil ?_ | refine WB.nil ?_ | refine WP.bag rfl ?_ | refine WP.nil ?_ | refine W.seq ?_ | refine W.reg ?_ | refine W.dreg ?_ | refine W.block ?_ | refine W.ret ?_ | refine W.skip ?_ | refine W.exit ?_ | (simp only [sprow_len,brow_len,srow_len,List.length_map,Qit,Int.toNat_natCast,entry,Opd.eat,cellsOf,TV.ofCells,allAv,Qseq,Qblk,List.map_cons,List.map_nil,putD,kp,Nat.reduceEqDiff,↓reduceIte,beq_self_eq_true,Nat.reduceBEq]))
      all_goals clear r1 r2 r3'
      all_goals first
        | (refine ⟨(),?_,rfl⟩; rw [all_take_succ hx,hp,hso]; simp_all; done)
        | (refine ⟨(),?_,rfl⟩; rw [all_take_succ hx,hp,hso]; simp_all; omega)
        | (refine Qend.boo rfl rfl ?_; rw [all_false hx (by rw [hso]; simp_all; done)]; rfl)
        | (refine Qend.boo rfl rfl ?_; rw [all_false hx (by rw [hso]; simp_all; omega)]; rfl)
        | (exfalso; simp_all; done)
        | (exfalso; simp_all; omega)
    all_goals (try rw [Bool.not_eq_true] at n1)
    all_goals (try rw [Bool.not_eq_true] at n2)
    all_goals rw [n1] at r1
    all_goals rw [n2] at r2
    all_goals clear r3
    all_goals (repeat' (first | refine WO.cons ?_ | refine WB.cons ?_ | refine WP.one ?_ | (first | (apply WQ.call (hm := c5.modes); (iterate 4 exact rfl)) | (apply W1.callV (hm := c5.modes); (iterate 5 exact rfl); exact (r1); exact rfl)) | (first | (apply WQ.call (hm := c5.modes); (iterate 4 exact rfl)) | (apply W1.callV (hm := c5.modes); (iterate 5 exact rfl); exact (r2); exact rfl)) | ((first | apply W1.add64 | apply W1.sub64); (iterate 3 exact rfl); omega; omega) | (apply W1.iadr; (iterate 3 exact rfl); omega; first | assumption | ((first | apply V.get_row | apply get_srow | apply get_ty | apply get_ar | apply get_ob | apply get_sprow | apply get_brow); assumption)) | (apply W1.idxS; (iterate 3 exact rfl); omega; omega) | (apply W1.slcS; (iterate 4 exact rfl); omega) | (apply W1.pickT; exact rfl; exact rfl; (first | with_reducible rfl | assumption | (simp only [bn]; first | omega | assumption | decide)); exact rfl) | (apply W1.pickF; exact rfl; exact rfl; (first | with_reducible rfl | assumption | (simp only [bn]; first | omega | assumption | decide)); exact rfl) | (apply W1.op; (iterate 3 exact rfl)) | (apply W1.no; exact rfl) | ((first | apply W1.knowT | apply W1.knowFn | apply WQ.knowT | apply WQ.knowFn | apply W.condT); exact rfl; (first | with_reducible rfl | assumption | (simp only [bn]; first | omega | assumption | decide))) | ((first | apply W1.knowTn | apply W1.knowF | apply WQ.knowTn | apply WQ.knowF | apply W.condF); exact rfl; (first | with_reducible rfl | assumption | (simp only [bn]; first | omega | assumption | decide))) | (apply WQ.go; exact rfl; exact rfl) | (apply WQ.no; exact rfl) | ((first | apply W1.bothT | apply W1.bothF | apply WQ.bothT | apply WQ.bothF | apply W.cond); exact rfl; all_goals intro hc; all_goals first | (cases hc; done) | ((try simp only [hc]); (try simp only [bm] at hc))) | refine WO.nil ?_ | refine WB.nil ?_ | refine WP.bag rfl ?_ | refine WP.nil ?_ | refine W.seq ?_ | refine W.reg ?_ | refine W.dreg ?_ | refine W.block ?_ | refine W.ret ?_ | refine W.skip ?_ | refine W.exit ?_ | (simp only [sprow_len,brow_len,srow_len,List.length_map,Qit,Int.toNat_natCast,entry,Opd.eat,cellsOf,TV.ofCells,allAv,Qseq,Qblk,List.map_cons,List.map_nil,putD,kp,Nat.reduceEqDiff,↓reduceIte,beq_self_eq_true,Nat.reduceBEq])))
    all_goals clear r1 r2
    all_goals first
        | (refine ⟨(),?_,rfl⟩; rw [all_take_succ hx,hp,hso]; simp_all; done)
        | (refine Qend.boo rfl rfl ?_; rw [all_false hx (by rw [hso]; simp_all; done)]; rfl)
        | (exfalso; simp_all; done)
  · intro u hp
    rw [List.take_length] at hp
    repeat' (first | refine WO.cons ?_ | refine WB.cons ?_ | refine WP.one ?_ | ((first | apply W1.add64 | apply W1.sub64); (iterate 3 exact rfl); omega; omega) | (apply W1.iadr; (iterate 3 exact rfl); omega; first | assumption | ((first | apply V.get_row | apply get_srow | apply get_ty | apply get_ar | apply get_ob | apply get_sprow | apply get_brow); assumption)) | (apply W1.idxS; (iterate 3 exact rfl); omega; omega) | (apply W1.slcS; (iterate 4 exact rfl); omega) | (apply W1.pickT; exact rfl; exact rfl; (first | with_reducible rfl | assumption | (simp only [bn]; first | omega | assumption | decide)); exact rfl) | (apply W1.pickF; exact rfl; exact rfl; (first | with_reducible rfl | assumption | (simp only [bn]; first | omega | assumption | decide)); exact rfl) | (apply W1.op; (iterate 3 exact rfl)) | (apply W1.no; exact rfl) | ((first | apply W1.knowT | apply W1.knowFn | apply WQ.knowT | apply WQ.knowFn | apply W.condT); exact rfl; (first | with_reducible rfl | assumption | (simp only [bn]; first | omega | assumption | decide))) | ((first | apply W1.knowTn | apply W1.knowF | apply WQ.knowTn | apply WQ.knowF | apply W.condF); exact rfl; (first | with_reducible rfl | assumption | (simp only [bn]; first | omega | assumption | decide))) | (apply WQ.go; exact rfl; exact rfl) | (apply WQ.no; exact rfl) | ((first | apply W1.bothT | apply W1.bothF | apply WQ.bothT | apply WQ.bothF | apply W.cond); exact rfl; all_goals intro hc; all_goals first | (cases hc; done) | ((try simp only [hc]); (try simp only [bm] at hc))) | refine WO.nil ?_ | refine WB.nil ?_ | refine WP.bag rfl ?_ | refine WP.nil ?_ | refine W.seq ?_ | refine W.reg ?_ | refine W.dreg ?_ | refine W.block ?_ | refine W.ret ?_ | refine W.skip ?_ | refine W.exit ?_ | (simp only [sprow_len,brow_len,srow_len,List.length_map,Qit,Int.toNat_natCast,entry,Opd.eat,cellsOf,TV.ofCells,allAv,Qseq,Qblk,List.map_cons,List.map_nil,putD,kp,Nat.reduceEqDiff,↓reduceIte,beq_self_eq_true,Nat.reduceBEq]))
    refine Qend.boo rfl rfl ?_
    rw [hp]
    first | rfl | (rw [Bool.eq_iff_iff]; simp; omega) | simp
end
end Hm

/- Which types the program says are well shaped. Conditions: see each theorem. -/
namespace Hm
open Go (IntKind)
set_option maxHeartbeats 4000000
set_option maxRecDepth 4000
theorem sloop {T : Tab} {l : List (Nat × Bool)} (hl5 : l.length = 5) {A : AV} (hc : ∀ x ∈ l,T.modes x.1 = [.val] ∧ Ret T x.1 [.val A] (one (.bool x.2))) {as : List Arg} (has : fits shape_Formed.fn.params as = true) (ho : ∀ st : St,outs st 0 as = some []) :
    W T (.loop [17,18] shape_Formed.l1) ⟨lstE [(17,.av (.agg (l.map fun x => AV.clo x.1 [A] []))),(18,.av (.int .i64 0))],lstB [(17,none),(18,none)]⟩
      (Qblk 0 (Qseq T (.seq (.reg shape_Formed.r8 [2]) .ret) (Qend shape_Formed.fn as (one (.bool (l.all (·.2))))))) := by
  refine W.listP l (fun i (_ : Unit) s => s.put 18 (.av (.int .i64 (i : Int)))) (fun i _ => (l.take i).all (·.2) = true) () (by simp) rfl ?_ ?_
  · intro i x u hx hi hp
    obtain ⟨hm,r⟩ := hc x (List.mem_of_getElem? hx)
    have hx' : (l.map fun x => AV.clo x.1 [A] [])[i]? = some (AV.clo x.1 [A] []) := by rw [List.getElem?_map,hx]; rfl
    clear hc
    repeat' (first | refine zA ?_ | ((apply W1.idxA1; (iterate 3 exact rfl); omega; omega; exact hx')) | refine WQ.cl hm ?_ | refine W1.cl hm (r) ?_ | refine zB ?_ | (refine zC ?_ ?_ <;> intro hc; all_goals first | (cases hc; done) | ((try simp only [hc]); (try simp only [bm] at hc))) | refine zE ?_ | refine zN ?_ | fail)
    all_goals clear r
    · exact ⟨.inr rfl,by rw [all_false hx (by simp_all)]; rfl,ho _⟩
    · refine ⟨(),?_,rfl⟩
      rw [all_take_succ hx,hp]; simp_all
  · intro u hp
    rw [List.take_length] at hp
    repeat' (first | refine zA ?_ | refine zB ?_ | (refine zC ?_ ?_ <;> intro hc; all_goals first | (cases hc; done) | ((try simp only [hc]); (try simp only [bm] at hc))) | refine zE ?_ | refine zN ?_ | fail)
    exact ⟨.inr rfl,by rw [hp]; rfl,ho _⟩
theorem sFormed_ret {T : Tab} (hf : Fn T F.shape_Formed shape_Formed.fn) (f1 : Fn T F.shape_piece_every shape_piece_every.fn) (f2 : Fn T F.shape_piece_nums shape_piece_nums.fn) (f3 : Fn T F.shape_piece_texts shape_piece_texts.fn)
    (f4 : Fn T F.shape_piece_arrays shape_piece_arrays.fn) (f5 : Fn T F.shape_piece_objects shape_piece_objects.fn)
    (h1 : Fn T F.shape_never shape_never.fn) (h2 : Fn T F.shape_piece_bare shape_piece_bare.fn)
    (h3 : Fn T F.shape_rise shape_rise.fn) (hu : Fn T F.utf_Valid utf_Valid.fn) (hv : ValidOk T)
    (h0 : Fn T F.shape_worth shape_worth.fn) (c2 : Fn T F.tens_Cmp tens_Cmp.fn) (c3 : Fn T F.tens_size tens_size.fn) (c4 : Fn T F.tens_split tens_split.fn) (c5 : Fn T F.tens_Formed tens_Formed.fn) :
    ∀ (v : Ty),v.bk ≤ 1073741824 → FormedS T v := by
  intro v
  induction v using Ty.ind with
  | h v ih =>
  intro hb
  have hbk := Ty.bk_eq v
  have r1 := severy_ret f1 h2 v
  have r2 := snums_ret f2 h0 c2 c3 c4 c5 v hb
  have r3 := stexts_ret f3 h3 hu hv v hb
  have r4 := sarrays_of f4 hf h1 h2 v hb (fun x hx => by
    have := arBk_mem hx
    have := Ar.bk_eq x
    exact ih x.item (by omega) (by omega))
  have r5 := sobjects_of f5 hf h1 h2 h3 hu hv v hb (fun x hx => by
    have := obBk_mem hx
    have t3 := Ob.bk_eq x
    exact ⟨ih x.rest (by omega) (by omega),fun y hy => by have := tyBk_mem hy; exact ih y (by omega) (by omega)⟩)
  have key : tformed v = ([(F.shape_piece_every,!v.all || bare v),(F.shape_piece_nums,v.nums.all spanOk && decide (v.nums.length ≤ 1)),(F.shape_piece_texts,rise v.texts && (!v.anyText || decide (v.texts.length = 0))),
      (F.shape_piece_arrays,decide (v.arrays.length ≤ 1) && v.arrays.all arOk),(F.shape_piece_objects,v.objects.all obOk)] : List (Nat × Bool)).all (·.2) := by
    rw [tformed_eq]
    simp only [List.all_cons,List.all_nil,spansOk]
    rw [Bool.eq_iff_iff]
    simp only [Bool.and_eq_true,Bool.or_eq_true,Bool.not_eq_true']
    grind
  refine Ret.mk hf rfl ?_
  rw [key]
  clear key
  have hcs : ∀ x ∈ ([(F.shape_piece_every,!v.all || bare v),(F.shape_piece_nums,v.nums.all spanOk && decide (v.nums.length ≤ 1)),(F.shape_piece_texts,rise v.texts && (!v.anyText || decide (v.texts.length = 0))),
      (F.shape_piece_arrays,decide (v.arrays.length ≤ 1) && v.arrays.all arOk),(F.shape_piece_objects,v.objects.all obOk)] : List (Nat × Bool)),T.modes x.1 = [.val] ∧ Ret T x.1 [.val v.av] (one (.bool x.2)) := by
    intro x hx
    simp only [List.mem_cons,List.not_mem_nil,or_false] at hx
    rcases hx with rfl | rfl | rfl | rfl | rfl
    · exact ⟨f1.modes,r1⟩
    · exact ⟨f2.modes,r2⟩
    · exact ⟨f3.modes,r3⟩
    · exact ⟨f4.modes,r4⟩
    · exact ⟨f5.modes,r5⟩
  clear ih r1 r2 r3 r4 r5
  rw [Ty.av_eq] at *
  repeat' (first | refine zA ?_ | refine zB ?_ | (refine zC ?_ ?_ <;> intro hc; all_goals first | (cases hc; done) | ((try simp only [hc]); (try simp only [bm] at hc))) | refine zE ?_ | refine zN ?_ | fail)
  exact sloop rfl hcs rfl (fun _ => rfl)
end Hm

/- Whether a value is of a type, by the program's In; laws that speak of parts. NORMX NORMY NORMC Conditions: see each theorem. -/
namespace Hm
open Go (IntKind)
set_option maxHeartbeats 40000000
set_option maxRecDepth 4000
theorem mbks_le {x : V} : ∀ {l : List V},x ∈ l → x.bk ≤ V.bks l
  | y :: l,h => by
    rcases List.mem_cons.1 h with rfl | h
    · simp only [V.bks]; omega
    · have := mbks_le h; simp only [V.bks]; omega
/-- What the program's test of types reaches. -/
structure SpFns (T : Tab) : Prop where
  hf : Fn T F.shape_Formed shape_Formed.fn
  f1 : Fn T F.shape_piece_every shape_piece_every.fn
  f2 : Fn T F.shape_piece_nums shape_piece_nums.fn
  f3 : Fn T F.shape_piece_texts shape_piece_texts.fn
  f4 : Fn T F.shape_piece_arrays shape_piece_arrays.fn
  f5 : Fn T F.shape_piece_objects shape_piece_objects.fn
  h1 : Fn T F.shape_never shape_never.fn
  h2 : Fn T F.shape_piece_bare shape_piece_bare.fn
  h3 : Fn T F.shape_rise shape_rise.fn
  hu : Fn T F.utf_Valid utf_Valid.fn
  h0 : Fn T F.shape_worth shape_worth.fn
  c2 : Fn T F.tens_Cmp tens_Cmp.fn
  c3 : Fn T F.tens_size tens_size.fn
  c4 : Fn T F.tens_split tens_split.fn
  c5 : Fn T F.tens_Formed tens_Formed.fn
/-- What In reaches. -/
structure MiFns (T : Tab) : Prop where
  a1 : Fn T F.member_In member_In.fn
  a2 : Fn T F.member_formed member_formed.fn
  vf : VfFns T
  sp : SpFns T
  vk : ValidOk T
  lk : LkFns T
/-- What the reference's tests of shape reach. -/
structure RsFns (T : Tab) : Prop where
  p1 : Fn T F.h03_Formed h03_Formed.fn
  p2 : Fn T F.h03_All h03_All.fn
  p3 : Fn T F.h03_Number h03_Number.fn
  p4 : Fn T F.h03_Rise h03_Rise.fn
  p5 : Fn T F.h03_UTF h03_UTF.fn
  p6 : Fn T F.h03_width h03_width.fn
  p7 : Fn T F.h03_trail h03_trail.fn
  q1 : Fn T F.h09_Formed h09_Formed.fn
  q2 : Fn T F.h09_objects h09_objects.fn
  q3 : Fn T F.h09_object h09_object.fn
  q4 : Fn T F.h09_Never h09_Never.fn
  q5 : Fn T F.h09_Bare h09_Bare.fn
  q6 : Fn T F.h09_arrays h09_arrays.fn
  q7 : Fn T F.h09_Spans h09_Spans.fn
  q8 : Fn T F.h03_Numbers h03_Numbers.fn
  q9 : Fn T F.h03_Texts h03_Texts.fn
  q10 : Fn T F.h09_bound h09_bound.fn
section
variable {T : Tab}
theorem rsV_ret (f : RsFns T) (v : V) (hb : v.bk ≤ 1073741824) : Ret T F.h03_Formed [.val v.av] (one (.bool (formed v))) := refFormed_ret f.p1 f.p2 f.p3 f.p4 f.p5 f.p6 f.p7 v hb
theorem rsT_ret (f : RsFns T) (t : Ty) (hb : t.bk ≤ 1073741824) : Ret T F.h09_Formed [.val t.av] (one (.bool (tformed t))) := refFormed9_ret f.q1 f.q2 f.q3 f.q4 f.q5 f.p4 f.p5 f.p6 f.p7 f.q6 f.q7 f.q8 f.q9 f.q10 f.p3 t hb
theorem memIn_ret (f : MiFns T) (v : V) (t : Ty) (hb : v.bk ≤ 1073741824) (hbt : t.bk ≤ 1073741824) (hv : formed v = true) (ht : tformed t = true) : Ret T F.member_In [.val v.av,.val t.av] (two (.bool (inT v t)) (.int .i64 0)) := by
  have rV := valueFormed_ret f.vf f.vk v hb
  have rT := sFormed_ret f.sp.hf f.sp.f1 f.sp.f2 f.sp.f3 f.sp.f4 f.sp.f5 f.sp.h1 f.sp.h2 f.sp.h3 f.sp.hu f.vk f.sp.h0 f.sp.c2 f.sp.c3 f.sp.c4 f.sp.c5 t hbt
  have rF := mFormed_ret f.a2 f.vf.a1.modes f.sp.hf.modes v t rV rT
  rw [hv,ht] at rF
  exact mIn_ret f.a1 f.a2.modes f.lk.a1.modes v t hv ht rF (look_ret f.lk v hb hv t hbt ht)
end
end Hm

/- A step of a walk: errors.As at a variable of the call's own. Conditions: see each theorem. -/
namespace Hm
open Go (IntKind)
section
variable {T : Tab} {st st' : St} {Q : Ex → St → Prop}
theorem W.ask {f d d0 d1 tE tP e m : Nat} {ks : List Nat} (hT : T.ask f tE tP = true) (h : askSt d d0 d1 tE e m st = some st') (hq : Q .norm (st'.keep ks)) : W T (.ask f d d0 d1 tE tP e m ks) st Q :=
  ⟨1,.norm,_,by rw [exec,if_pos hT,h],hq⟩
end
end Hm

/- A step of a walk: something is appended to a list that lies in a variable. Conditions: see the theorem. -/
namespace Hm
open Go (IntKind)
section
variable {T : Tab}
end
end Hm

/- The way to the first part that isn't of its type, and why it isn't: the program's Why. NORMX NORMY NORMC Conditions: see each theorem. -/
namespace Hm
open Go (IntKind)
set_option maxHeartbeats 40000000
set_option maxRecDepth 4000
/-- The way, from the outside in. -/
def wayP : Miss → List V
  | [] => []
  | (r,s) :: m => if m.isEmpty then (if r = 6 then [s] else []) else s :: wayP m
def endR : Int → Miss → Int
  | r,[] => r
  | _,(r,_) :: m => endR r m
theorem lkItems_len {t : Ty} {n : Nat} : ∀ {fs : List (Ty → Miss)} {i : Nat},(∀ f ∈ fs,(f t).length ≤ n) → (lkItems t i fs).length ≤ n + 1
  | [],i,_ => by simp [lkItems]
  | f :: fs,i,h => by
    rw [lkItems]
    split
    · exact lkItems_len fun g hg => h g (by simp [hg])
    · have := h f (by simp); simp only [List.length_cons]; omega
theorem lkNames_len {o : Ob} {ks : List Str} : ∀ {ns : List Str},(lkNames o ks ns).length ≤ 1
  | [] => by simp [lkNames]
  | n :: ns => by
    rw [lkNames]
    split
    · simp
    · exact lkNames_len
theorem lkKeys_len {o : Ob} {n : Nat} : ∀ {ks : List Str} {fs : List (Ty → Miss)},(∀ f ∈ fs,∀ t,(f t).length ≤ n) → (lkKeys o ks fs).length ≤ n + 1
  | [],fs,_ => by cases fs <;> simp [lkKeys]
  | k :: ks,[],_ => by simp [lkKeys]
  | k :: ks,f :: fs,h => by
    rw [lkKeys]
    split
    · exact lkKeys_len fun g hg => h g (by simp [hg])
    · have := h f (by simp) (fldO o k); simp only [List.length_cons]; omega
theorem lkFields_len {o : Ob} {n : Nat} {ks : List Str} {fs : List (Ty → Miss)} (h : ∀ f ∈ fs,∀ t,(f t).length ≤ n) : (lkFields fs ks o).length ≤ n + 1 := by
  rw [lkFields]
  split
  · exact lkKeys_len h
  · have := lkNames_len (o := o) (ks := ks) (ns := o.names); omega
theorem lkObjs_len {n : Nat} {ks : List Str} {fs : List (Ty → Miss)} (h : ∀ f ∈ fs,∀ t,(f t).length ≤ n) : ∀ l : List Ob,(lkObjs fs ks l).length ≤ n + 1
  | [] => by simp [lkObjs]
  | [o] => lkFields_len h
  | o :: p :: l => by
    rw [lkObjs]
    · split <;> simp
    · intro q h; cases h
theorem lookM_len : ∀ (v : V) (t : Ty),(lookM v t).length ≤ v.bk := by
  intro v
  induction v using V.ind with
  | h v ih =>
  intro t
  have hbk := V.bk_eq v
  have hb : ∀ f ∈ v.items.map lookM,∀ t,(f t).length ≤ V.bks v.items := fun f hf t => by
    obtain ⟨x,hx,rfl⟩ := List.mem_map.1 hf
    have := ih x hx t
    have := mbks_le hx
    omega
  rw [lookM_eq]
  unfold lookBody
  split
  · simp
  split
  · simp only [List.length_cons,List.length_nil]; omega
  split
  · split
    · simp
    · split <;> simp; omega
  split
  · split <;> simp; omega
  split
  · split
    · simp
    · rename_i a _ _
      rw [lkArr]
      split
      · simp only [List.length_cons,List.length_nil]; omega
      split
      · simp only [List.length_cons,List.length_nil]; omega
      · have := lkItems_len (t := a.item) (i := 0) (fun f hf => hb f hf a.item); omega
  split
  · have := lkObjs_len (ks := v.keys) hb t.objects; omega
  · simp
section
variable {T : Tab}
theorem errAV_nil : errAV [] = .nili := rfl
theorem why_ret (h : Fn T F.member_Why member_Why.fn) (f : MiFns T) (ha : T.ask F.errors_As 1 0 = true) (v : V) (t : Ty) (hb : v.bk ≤ 1073741824) (hbt : t.bk ≤ 1073741824) (hv : formed v = true) (ht : tformed t = true) :
    Ret T F.member_Why [.val v.av,.val t.av] ⟨[([.own 5 (crow ((wayP (lookM v t)).map V.row))],false),([.av (.int .i64 (endR 0 (lookM v t)))],false),([.av (.int .i64 0)],false)],[]⟩ := by
  have rV := valueFormed_ret f.vf f.vk v hb
  have rT := sFormed_ret f.sp.hf f.sp.f1 f.sp.f2 f.sp.f3 f.sp.f4 f.sp.f5 f.sp.h1 f.sp.h2 f.sp.h3 f.sp.hu f.vk f.sp.h0 f.sp.c2 f.sp.c3 f.sp.c4 f.sp.c5 t hbt
  have rF := mFormed_ret f.a2 f.vf.a1.modes f.sp.hf.modes v t rV rT
  rw [hv,ht] at rF
  have rL := look_ret f.lk v hb hv t hbt ht
  have hlen := lookM_len v t
  clear rV rT
  generalize lookM v t = M0 at *
  rw [V.av_eq,Ty.av_eq] at *
  refine Ret.mk h rfl ?_
  have key : W T (.loop [4,5,7,8] member_Why.l1) ⟨lstE [(4,.own [.own 5 []] false),(5,.av (.int .i64 0)),(7,.av (errAV M0)),(8,.plc ⟨.box 8,[],0⟩)],lstB [(4,none),(5,none),(7,none),(8,some [.av .nilp])]⟩
      (Qblk 0 (Qseq T (.seq (.reg member_Why.r9 [4,5,6]) .ret) (Qend member_Why.fn [.val (.agg [.int .i64 v.kind,.str v.num,.str v.text,.lst 5 (v.items.map V.row),.lst 1 (srow v.keys)]),.val (.agg [.bool t.all,.bool t.nul,.bool t.fls,.bool t.tru,.lst 2 (sprow t.nums),.bool t.anyText,.lst 1 (srow t.texts),.lst 11 (t.arrays.map Ar.row),.lst 12 (t.objects.map Ob.row)])]
        ⟨[([.own 5 (crow ((wayP M0).map V.row))],false),([.av (.int .i64 (endR 0 M0))],false),([.av (.int .i64 0)],false)],[]⟩))) := by
    refine W.iter (β := List V × Int × Miss × Cell) (fun b => ⟨lstE [(4,.own [.own 5 (crow (b.1.map V.row))] false),(5,.av (.int .i64 b.2.1)),(7,.av (errAV b.2.2.1)),(8,.plc ⟨.box 8,[],0⟩)],lstB [(4,none),(5,none),(7,none),(8,some [b.2.2.2])]⟩)
      (fun b => b.1 ++ wayP b.2.2.1 = wayP M0 ∧ endR b.2.1 b.2.2.1 = endR 0 M0 ∧ b.1.length + b.2.2.1.length ≤ 1073741824) (fun b => b.2.2.1.length) ([],0,M0,.av .nilp) rfl ⟨rfl,rfl,by simp only [List.length_nil]; omega⟩ ?_
    rintro ⟨acc,r,m,c⟩ ⟨p1,p2,p3⟩
    simp only at p1 p2 p3
    cases m with
    | nil =>
      rw [wayP,List.append_nil] at p1
      rw [endR] at p2
      rw [← p1,← p2]
      clear rF rL p1 p2
      simp only [errAV]
      repeat' (first | refine zA ?_ | ((refine W.ask ha rfl ?_)) | refine zB ?_ | (refine zC ?_ ?_ <;> intro hc; all_goals first | (cases hc; done) | ((try simp only [hc]); (try simp only [bm] at hc))) | refine zE ?_ | refine zNZ ?_ | fail)
      all_goals exact ⟨.inr rfl,rfl,rfl⟩
    | cons p m =>
      obtain ⟨q,s⟩ := p
      rw [endR] at p2
      have el := crow_len (acc.map V.row)
      rw [List.length_map] at el
      simp only [List.length_cons] at p3
      have e3 : crow ((acc ++ [s]).map V.row) = crow (acc.map V.row) ++ [s.row.map .av] := by simp [crow]
      rw [V.row_eq s] at e3
      cases m with
      | nil =>
        rw [wayP] at p1
        clear rF rL
        simp only [errAV_cons,errAV_nil]
        by_cases h6 : q = 6
        · subst h6
          repeat' (first | refine zA ?_ | ((refine W.ask ha rfl ?_)) | (refine W1.bL ?_) | ((apply W1.appendO; (iterate 3 exact rfl); (simp only [crow_len,List.length_map,List.length_append,List.length_nil,List.length_cons,List.map_nil,limit] at *; omega))) | refine zB ?_ | (refine zC ?_ ?_ <;> intro hc; all_goals first | (cases hc; done) | ((try simp only [hc]); (try simp only [bm] at hc))) | refine zE ?_ | refine zNZ ?_ | fail)
          refine ⟨(acc ++ [s],6,[],Cell.av (AV.vptr [.int .i64 6,.int .i64 s.kind,.str s.num,.str s.text,.lst 5 (s.items.map V.row),.lst 1 (srow s.keys),.nili])),⟨?_,p2,?_⟩,?_,?_⟩
          · show (acc ++ [s]) ++ wayP [] = wayP M0
            rw [← p1]; simp [wayP]
          · simp only [List.length_append,List.length_cons,List.length_nil]; omega
          · simp
          · dsimp only
            rw [e3]; rfl
        · skip
          repeat' (first | refine zA ?_ | ((refine W.ask ha rfl ?_)) | (refine W1.bL ?_) | ((apply W1.appendO; (iterate 3 exact rfl); (simp only [crow_len,List.length_map,List.length_append,List.length_nil,List.length_cons,List.map_nil,limit] at *; omega))) | refine zB ?_ | (refine zC ?_ ?_ <;> intro hc; all_goals first | (cases hc; done) | ((try simp only [hc]); (try simp only [bm] at hc))) | refine zE ?_ | refine zNZ ?_ | fail)
          refine ⟨(acc,q,[],Cell.av (AV.vptr [.int .i64 q,.int .i64 s.kind,.str s.num,.str s.text,.lst 5 (s.items.map V.row),.lst 1 (srow s.keys),.nili])),⟨?_,p2,?_⟩,?_,?_⟩
          · show acc ++ wayP [] = wayP M0
            rw [← p1]; simp [wayP,h6]
          · simp only [List.length_nil]; omega
          · simp
          · rfl
      | cons p' m =>
        obtain ⟨q',s'⟩ := p'
        rw [wayP,List.isEmpty_cons,if_neg (by simp)] at p1
        clear rF rL
        simp only [errAV_cons]
        simp only [List.length_cons] at p3
        have hev : errAV ((q',s') :: m) = _ := errAV_cons q' s' m
        generalize hw : AV.vptr [.int .i64 q',.int .i64 s'.kind,.str s'.num,.str s'.text,.lst 5 (s'.items.map V.row),.lst 1 (srow s'.keys),errAV m] = ew at *
        repeat' (first | refine zA ?_ | ((refine W.ask ha rfl ?_)) | (refine W1.bL ?_) | ((apply W1.appendO; (iterate 3 exact rfl); (simp only [crow_len,List.length_map,List.length_append,List.length_nil,List.length_cons,List.map_nil,limit] at *; omega))) | refine zB ?_ | (refine zC ?_ ?_ <;> intro hc; all_goals first | (cases hc; done) | ((try simp only [hc]); (try simp only [bm] at hc))) | refine zE ?_ | refine zNZ ?_ | fail)
        refine ⟨(acc ++ [s],q,(q',s') :: m,Cell.av (AV.vptr [.int .i64 q,.int .i64 s.kind,.str s.num,.str s.text,.lst 5 (s.items.map V.row),.lst 1 (srow s.keys),.iface 1 ew])),⟨?_,p2,?_⟩,?_,?_⟩
        · show (acc ++ [s]) ++ wayP ((q',s') :: m) = wayP M0
          rw [← p1]; simp
        · simp only [List.length_append,List.length_cons,List.length_nil]; omega
        · simp
        · dsimp only
          rw [e3,hev]; rfl
  cases hM : M0 with
  | nil =>
    rw [hM] at rL key
    rw [errAV] at rL key
    repeat' (first | refine zA ?_ | refine WQ.cl f.a2.modes ?_ | refine W1.cl f.a2.modes (rF) ?_ | refine WQ.cl f.lk.a1.modes ?_ | refine W1.cl f.lk.a1.modes (rL) ?_ | (exact key) | refine zB ?_ | (refine zC ?_ ?_ <;> intro hc; all_goals first | (cases hc; done) | ((try simp only [hc]); (try simp only [bm] at hc))) | refine zE ?_ | refine zNZ ?_ | fail)
    all_goals trace_state
  | cons p m =>
    obtain ⟨q,s⟩ := p
    rw [hM] at rL key
    rw [errAV_cons] at rL key
    generalize AV.vptr [.int .i64 q,.int .i64 s.kind,.str s.num,.str s.text,.lst 5 (s.items.map V.row),.lst 1 (srow s.keys),errAV m] = ew at *
    repeat' (first | refine zA ?_ | refine WQ.cl f.a2.modes ?_ | refine W1.cl f.a2.modes (rF) ?_ | refine WQ.cl f.lk.a1.modes ?_ | refine W1.cl f.lk.a1.modes (rL) ?_ | (exact key) | refine zB ?_ | (refine zC ?_ ?_ <;> intro hc; all_goals first | (cases hc; done) | ((try simp only [hc]); (try simp only [bm] at hc))) | refine zE ?_ | refine zNZ ?_ | fail)
    all_goals trace_state
end
end Hm

/- Where the way to a misfit leads: plain laws. Conditions: none (definitions and plain lemmas). -/
namespace Hm
open Go (IntKind)
set_option maxRecDepth 4000
/-- One step: from an object by a name, from an array by a place. -/
def stepK (x k y : V) : Prop := (x.kind = 6 ∧ ∃ (i : Nat) (s : Str),k = txtV s ∧ x.keys[i]? = some s ∧ x.items[i]? = some y) ∨ (x.kind = 5 ∧ ∃ i : Nat,k = numV (itoa (i : Int)) ∧ x.items[i]? = some y)
def goes : V → List V → V → Prop
  | v,[],y => v = y
  | v,k :: p,y => ∃ x,stepK v k x ∧ goes x p y
/-- What is right of a way and a reason. -/
def wayOk (v : V) (w : List V) (r : Int) : Prop :=
  ∃ p y,goes v p y ∧ ((r = 6 ∧ ∃ s,w = p ++ [txtV s] ∧ y.kind = 6 ∧ s ∉ y.keys ∧ utf s = true) ∨ (r ≠ 6 ∧ w = p)) ∧ 1 ≤ r ∧ r ≤ 7
theorem wayOk_one {v : V} {r : Int} {s : V} (h1 : 1 ≤ r) (h7 : r ≤ 7) (h6 : r ≠ 6) : wayOk v (wayP [(r,s)]) (endR 0 [(r,s)]) :=
  ⟨[],v,rfl,.inr ⟨h6,by simp [wayP,h6]⟩,h1,h7⟩
theorem wayOk_step {v x s : V} {m : Miss} (hm : m ≠ []) (h : stepK v s x) (hx : wayOk x (wayP m) (endR 0 m)) : wayOk v (wayP ((0,s) :: m)) (endR 0 ((0,s) :: m)) := by
  obtain ⟨p,y,h1,h2,h3⟩ := hx
  have e1 : wayP ((0,s) :: m) = s :: wayP m := by
    rw [wayP,if_neg (by cases m with | nil => exact absurd rfl hm | cons a m => simp)]
  have e2 : endR 0 ((0,s) :: m) = endR 0 m := rfl
  rw [e1,e2]
  refine ⟨s :: p,y,⟨x,h,h1⟩,?_,h3⟩
  rcases h2 with ⟨a,n,b,c⟩ | ⟨a,b⟩
  · exact .inl ⟨a,n,by rw [b]; rfl,c⟩
  · exact .inr ⟨a,by rw [b]⟩
theorem isEmpty_ne {m : Miss} (h : ¬ m.isEmpty = true) : m ≠ [] := fun e => h (by rw [e]; rfl)
theorem lkItems_way {v : V} {t : Ty} (hk : v.kind = 5) : ∀ {l : List V} {i : Nat},(∀ j,l[j]? = v.items[i + j]?) → (∀ x ∈ l,lookM x t ≠ [] → wayOk x (wayP (lookM x t)) (endR 0 (lookM x t))) →
    lkItems t i (l.map lookM) ≠ [] → wayOk v (wayP (lkItems t i (l.map lookM))) (endR 0 (lkItems t i (l.map lookM)))
  | [],i,_,_,h => absurd rfl h
  | x :: l,i,hl,ih,h => by
    rw [List.map_cons,lkItems] at h ⊢
    split
    · rename_i he
      rw [if_pos he] at h
      exact lkItems_way (i := i + 1) hk (fun j => by have := hl (j + 1); rw [List.getElem?_cons_succ] at this; rw [this]; congr 1; omega) (fun y hy => ih y (by simp [hy])) h
    · rename_i he
      have hne := isEmpty_ne he
      refine wayOk_step hne (.inr ⟨hk,i,rfl,?_⟩) (ih x (by simp) hne)
      have := hl 0
      simpa using this.symm
theorem lkNames_way {v : V} {o : Ob} (hk : v.kind = 6) (hu : ∀ s ∈ o.names,utf s = true) : ∀ {ns : List Str},(∀ s ∈ ns,s ∈ o.names) → lkNames o v.keys ns ≠ [] → wayOk v (wayP (lkNames o v.keys ns)) (endR 0 (lkNames o v.keys ns))
  | [],_,h => absurd rfl h
  | n :: ns,hn,h => by
    rw [lkNames] at h ⊢
    split
    · rename_i hc
      simp only [Bool.and_eq_true,Bool.not_eq_true',← Bool.not_eq_true,List.contains_iff_mem] at hc
      exact ⟨[],v,rfl,.inl ⟨rfl,n,rfl,hk,hc.2,hu n (hn n (by simp))⟩,show (1 : Int) ≤ 6 by decide,show (6 : Int) ≤ 7 by decide⟩
    · rename_i hc
      rw [if_neg hc] at h
      exact lkNames_way hk hu (fun s hs => hn s (by simp [hs])) h
theorem lkKeys_way {v : V} {o : Ob} (hk : v.kind = 6) : ∀ {ks : List Str} {l : List V} {i : Nat},(∀ j,ks[j]? = v.keys[i + j]?) → (∀ j,l[j]? = v.items[i + j]?) → (∀ x ∈ l,∀ s : Str,lookM x (fldO o s) ≠ [] → wayOk x (wayP (lookM x (fldO o s))) (endR 0 (lookM x (fldO o s)))) →
    lkKeys o ks (l.map lookM) ≠ [] → wayOk v (wayP (lkKeys o ks (l.map lookM))) (endR 0 (lkKeys o ks (l.map lookM)))
  | [],l,i,_,_,_,h => by cases l <;> exact absurd rfl h
  | k :: ks,[],i,_,_,_,h => absurd rfl h
  | k :: ks,x :: l,i,h1,h2,ih,h => by
    rw [List.map_cons,lkKeys] at h ⊢
    split
    · rename_i he
      rw [if_pos he] at h
      exact lkKeys_way (i := i + 1) hk (fun j => by have := h1 (j + 1); rw [List.getElem?_cons_succ] at this; rw [this]; congr 1; omega) (fun j => by have := h2 (j + 1); rw [List.getElem?_cons_succ] at this; rw [this]; congr 1; omega) (fun y hy => ih y (by simp [hy])) h
    · rename_i he
      have hne := isEmpty_ne he
      refine wayOk_step hne (.inl ⟨hk,i,k,rfl,?_,?_⟩) (ih x (by simp) k hne)
      · have := h1 0
        simpa using this.symm
      · have := h2 0
        simpa using this.symm
theorem rise_utf {l : List Str} (h : rise l = true) : ∀ s ∈ l,utf s = true := by
  intro s hs
  obtain ⟨i,hi⟩ := List.mem_iff_getElem?.1 hs
  have hlt := (List.getElem?_eq_some_iff.1 hi).1
  have := List.all_eq_true.1 h i (List.mem_range.2 hlt)
  rw [riseAt,Bool.and_eq_true,List.getD,hi] at this
  exact this.1
theorem lookM_way : ∀ v : V,formed v = true → ∀ t : Ty,tformed t = true → lookM v t ≠ [] → wayOk v (wayP (lookM v t)) (endR 0 (lookM v t)) := by
  intro v
  induction v using V.ind with
  | h v ih =>
  intro hf t ht hne
  have hfi := formed_inv hf
  obtain ⟨p1,p2,p3⟩ := tformed_parts ht
  have ih' : ∀ x ∈ v.items,∀ u : Ty,tformed u = true → lookM x u ≠ [] → wayOk x (wayP (lookM x u)) (endR 0 (lookM x u)) := fun x hx u hu => ih x hx (hfi.2.2.2.2.2.2.2.2 x hx) u hu
  revert hne
  rw [lookM_eq]
  unfold lookBody
  intro hne
  split
  · rename_i h; rw [if_pos h] at hne; exact absurd rfl hne
  rename_i hA; rw [if_neg hA] at hne
  split
  · exact wayOk_one (by decide) (by decide) (by decide)
  rename_i hK; rw [if_neg hK] at hne
  split
  · rename_i h3; rw [if_pos h3] at hne
    cases hN : t.nums with
    | nil => rw [hN] at hne; exact absurd rfl hne
    | cons s r =>
      rw [hN] at hne
      simp only at hne ⊢
      split
      · rename_i h; rw [if_pos h] at hne; exact absurd rfl hne
      · exact wayOk_one (by decide) (by decide) (by decide)
  rename_i h3; rw [if_neg h3] at hne
  split
  · rename_i h4; rw [if_pos h4] at hne
    split
    · rename_i h; rw [if_pos h] at hne; exact absurd rfl hne
    · exact wayOk_one (by decide) (by decide) (by decide)
  rename_i h4; rw [if_neg h4] at hne
  split
  · rename_i h5; rw [if_pos h5] at hne
    cases hN : t.arrays with
    | nil => rw [hN] at hne; exact absurd rfl hne
    | cons a r =>
      rw [hN] at hne
      simp only at hne ⊢
      rw [lkArr] at hne ⊢
      split
      · exact wayOk_one (by decide) (by decide) (by decide)
      rename_i h; rw [if_neg h] at hne
      split
      · exact wayOk_one (by decide) (by decide) (by decide)
      rename_i h; rw [if_neg h] at hne
      exact lkItems_way h5 (fun j => by rw [Nat.zero_add]) (fun x hx => ih' x hx a.item (p2 a (by rw [hN]; simp))) hne
  rename_i h5; rw [if_neg h5] at hne
  split
  · rename_i h6; rw [if_pos h6] at hne
    have hF : ∀ o ∈ t.objects,lkFields (v.items.map lookM) v.keys o ≠ [] → wayOk v (wayP (lkFields (v.items.map lookM) v.keys o)) (endR 0 (lkFields (v.items.map lookM) v.keys o)) := fun o ho hn => by
      have hob := tobj_ok ht o ho
      rw [lkFields] at hn ⊢
      split
      · rename_i h; rw [if_pos h] at hn
        exact lkKeys_way h6 (fun j => by rw [Nat.zero_add]) (fun j => by rw [Nat.zero_add]) (fun x hx s => ih' x hx _ (hob.fld s)) hn
      · rename_i h; rw [if_neg h] at hn
        exact lkNames_way h6 (rise_utf (by
          have h := ht
          rw [tformed_eq] at h
          simp only [Bool.and_eq_true,List.all_eq_true] at h
          have := h.2.2.2 o ho
          rw [obOk_eq] at this
          simp only [Bool.and_eq_true] at this
          exact this.1.1.2)) (fun s hs => hs) hn
    cases hN : t.objects with
    | nil =>
      rw [hN] at hne
      have e : lkObjs (v.items.map lookM) v.keys [] = [(7,zeroV)] := by simp [lkObjs]
      rw [e]; exact wayOk_one (by decide) (by decide) (by decide)
    | cons o r =>
      rw [hN] at hne
      cases r with
      | nil => exact hF o (by rw [hN]; simp) hne
      | cons q r =>
        have e : lkObjs (v.items.map lookM) v.keys (o :: q :: r) = if (o :: q :: r).any (fun o => (lkFields (v.items.map lookM) v.keys o).isEmpty) then [] else [(7,zeroV)] := rfl
        rw [e] at hne ⊢
        split
        · rename_i h; rw [if_pos h] at hne; exact absurd rfl hne
        · exact wayOk_one (by decide) (by decide) (by decide)
  · rename_i h6; rw [if_neg h6] at hne; exact absurd rfl hne
end Hm
