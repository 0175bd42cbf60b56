/- What the law answers on the abstract machine. Conditions: see each theorem. -/
import Derived.Test.YtbbkcgpjieenbaaDoorVPrts3
import Derived.Test.YtbbkcgpjieenbaaDoorVPrts2
set_option linter.unusedVariables false
set_option linter.unusedSimpArgs false
/- Sameness of values by the program's Same. Conditions: see each theorem. -/
namespace Hm
open Go (IntKind)
set_option maxHeartbeats 4000000
set_option maxRecDepth 4000
section
variable {T : Tab}
theorem valueSame_ret (h : Fn T F.value_Same value_Same.fn) (f : VcFns T) (a b : V) (hla : a.bk ≤ 1073741824) (hfa : formed a = true) (hlb : b.bk ≤ 1073741824) (hfb : formed b = true) : Ret T F.value_Same [.val a.av, .val b.av] (one (.bool (vc a b == 0))) := by
  have r := valueCmp_ret f a hla hfa b hlb hfb
  refine Ret.mk h rfl ?_
  rw [V.av_eq, V.av_eq] at *
  repeat' (first | refine zA ?_ | refine WQ.cl f.a1.modes ?_ | refine W1.cl f.a1.modes (r) ?_ | refine zB ?_ | (refine zC ?_ ?_ <;> intro hc; all_goals first | (cases hc; done) | ((try simp only [hc]); (try simp only [bm] at hc))) | refine zE ?_ | refine zN ?_ | fail)
  exact Qend.boo rfl rfl rfl
end
end Hm

/- Which values the program says are well shaped, and the law. Conditions: see each theorem. -/
namespace Hm
open Go (IntKind)
set_option maxHeartbeats 4000000
set_option maxRecDepth 4000
structure VfFns (T : Tab) : Prop where
  a1 : Fn T F.value_Formed value_Formed.fn
  a2 : Fn T F.value_allFormed value_allFormed.fn
  a3 : Fn T F.value_allFormed_S1 value_allFormed_S1.fn
  a4 : Fn T F.value_empty value_empty.fn
  a5 : Fn T F.value_rise value_rise.fn
  a6 : Fn T F.utf_Valid utf_Valid.fn
  a7 : Fn T F.tens_Formed tens_Formed.fn
  a8 : Fn T F.slices_ContainsFunc_LValue_Value slices_ContainsFunc_LValue_Value.fn
  a9 : Fn T F.slices_IndexFunc_LValue_Value slices_IndexFunc_LValue_Value.fn
section
variable {T : Tab}
theorem indexFuncV_ret (h : Fn T F.slices_IndexFunc_LValue_Value slices_IndexFunc_LValue_Value.fn) {p : V → Bool} {g : Nat} (hg : T.modes g = [.val]) (l : List V) (hl : l.length ≤ 1073741824)
    (ih : ∀ x ∈ l, Ret T g [.val x.av] (one (.bool (p x)))) : ∃ n : Int, (0 ≤ n ↔ l.any p = true) ∧ Ret T F.slices_IndexFunc_LValue_Value [.val (.lst 5 (l.map V.row)), .val (.clo g [] [])] (one (.int .i64 n)) := by
  have e1 : (l.map V.row).length = l.length := List.length_map ..
  refine Ret.ex1 (g := fun n => AV.int .i64 n) (R := fun n => (0 ≤ n ↔ l.any p = true)) h rfl ?_
  repeat' (first | refine zA ?_ | refine zB ?_ | (refine zC ?_ ?_ <;> intro hc; all_goals first | (cases hc; done) | ((try simp only [hc]); (try simp only [bm] at hc))) | refine zE ?_ | refine zN ?_ | fail)
  refine W.listP l (fun i (_ : Unit) s => s.put 8 (.av (.int .i64 (i : Int)))) (fun i _ => (l.take i).any p = false) () (by simp) rfl ?_ ?_
  · intro i x u hx hi hp
    have r := ih x (List.mem_of_getElem? hx)
    rw [V.av_eq] at r
    repeat' (first | refine zA ?_ | refine WQ.cl hg ?_ | refine W1.cl hg (r) ?_ | refine zB ?_ | (refine zC ?_ ?_ <;> intro hc; all_goals first | (cases hc; done) | ((try simp only [hc]); (try simp only [bm] at hc))) | refine zE ?_ | refine zN ?_ | fail)
    all_goals clear r
    · refine ⟨_, ?_, Qend.num rfl rfl rfl⟩
      have : l.any p = true := List.any_eq_true.2 ⟨x, List.mem_of_getElem? hx, by assumption⟩
      simp [this]
    · refine ⟨(), ?_, rfl⟩
      rw [List.take_add_one, hx, List.any_append, hp]; simp_all
  · intro u hp
    rw [List.take_length] at hp
    repeat' (first | refine zA ?_ | refine zB ?_ | (refine zC ?_ ?_ <;> intro hc; all_goals first | (cases hc; done) | ((try simp only [hc]); (try simp only [bm] at hc))) | refine zE ?_ | refine zN ?_ | fail)
    refine ⟨_, ?_, Qend.num rfl rfl rfl⟩
    rw [hp]; simp
theorem containsFuncV_ret (h : Fn T F.slices_ContainsFunc_LValue_Value slices_ContainsFunc_LValue_Value.fn) (hi : Fn T F.slices_IndexFunc_LValue_Value slices_IndexFunc_LValue_Value.fn) {p : V → Bool} {g : Nat} (hg : T.modes g = [.val]) (l : List V) (hl : l.length ≤ 1073741824)
    (ih : ∀ x ∈ l, Ret T g [.val x.av] (one (.bool (p x)))) : Ret T F.slices_ContainsFunc_LValue_Value [.val (.lst 5 (l.map V.row)), .val (.clo g [] [])] (one (.bool (l.any p))) := by
  obtain ⟨n, hn, r⟩ := indexFuncV_ret hi hg l hl ih
  refine Ret.mk h rfl ?_
  repeat' (first | refine zA ?_ | refine WQ.cl hi.modes ?_ | refine W1.cl hi.modes (r) ?_ | refine zB ?_ | (refine zC ?_ ?_ <;> intro hc; all_goals first | (cases hc; done) | ((try simp only [hc]); (try simp only [bm] at hc))) | refine zE ?_ | refine zN ?_ | fail)
  refine Qend.boo rfl rfl ?_
  rw [Bool.eq_iff_iff, ← hn]; simp
theorem vrise_ret (h : Fn T F.value_rise value_rise.fn) (hu : Fn T F.utf_Valid utf_Valid.fn) (hv : ValidOk T) (l : List Str) (hb : sbk l ≤ 1073741824) : Ret T F.value_rise [.val (.lst 1 (srow l))] (one (.bool (rise l))) := by
  refine Ret.mk h rfl ?_
  have hl := len_sbk l
  have e1 := srow_len l
  repeat' (first | refine zA ?_ | refine zB ?_ | (refine zC ?_ ?_ <;> intro hc; all_goals first | (cases hc; done) | ((try simp only [hc]); (try simp only [bm] at hc))) | refine zE ?_ | refine zN ?_ | fail)
  refine W.listP l (fun i (_ : Unit) s => s.put 7 (.av (.int .i64 (i : Int)))) (fun i _ => ∀ j < i, riseAt l j = true) () (by simp) rfl ?_ ?_
  · intro i x u hx hi hp
    have hsx := sbk_mem (List.mem_of_getElem? hx)
    have hret := hv x (by omega)
    have hgx : l.getD i [] = x := by simp [List.getD, hx]
    by_cases h0 : i = 0
    · subst h0
      repeat' (first | refine zA ?_ | refine WQ.cl hu.modes ?_ | refine W1.cl hu.modes (hret) ?_ | refine zB ?_ | (refine zC ?_ ?_ <;> intro hc; all_goals first | (cases hc; done) | ((try simp only [hc]); (try simp only [bm] at hc))) | refine zE ?_ | refine zN ?_ | fail)
      all_goals clear hret hv
      all_goals first
        | (refine Qend.boo rfl rfl ?_; rw [rise_false hi (by simp_all [riseAt])]; done)
        | (refine ⟨(), fun j hj => ?_, rfl⟩; obtain rfl : j = 0 := by omega
           simp_all [riseAt]; done)
        | (exfalso; omega)
    · obtain ⟨y, hy⟩ : ∃ y, l[i - 1]? = some y := ⟨l[i - 1]'(by omega), List.getElem?_eq_getElem (by omega)⟩
      have hgy : l.getD (i - 1) [] = y := by simp [List.getD, hy]
      have hry : (srow l)[((i : Int) - 1).toNat]? = some [.str y] := by
        have : ((i : Int) - 1).toNat = i - 1 := by omega
        rw [this]; exact get_srow hy
      repeat' (first | refine zA ?_ | refine WQ.cl hu.modes ?_ | refine W1.cl hu.modes (hret) ?_ | refine zB ?_ | (refine zC ?_ ?_ <;> intro hc; all_goals first | (cases hc; done) | ((try simp only [hc]); (try simp only [bm] at hc))) | refine zE ?_ | refine zN ?_ | fail)
      all_goals clear hret hv
      all_goals first
        | (refine Qend.boo rfl rfl ?_; rw [rise_false hi (by simp_all [riseAt])]; done)
        | (refine ⟨(), fun j hj => ?_, rfl⟩
           by_cases hji : j < i
           · exact hp j hji
           · obtain rfl : j = i := by omega
             simp_all [riseAt])
        | (exfalso; omega)
  · intro u hp
    repeat' (first | refine zA ?_ | refine zB ?_ | (refine zC ?_ ?_ <;> intro hc; all_goals first | (cases hc; done) | ((try simp only [hc]); (try simp only [bm] at hc))) | refine zE ?_ | refine zN ?_ | fail)
    refine Qend.boo rfl rfl ?_
    rw [rise_true hp]
theorem vempty_ret (h : Fn T F.value_empty value_empty.fn) (v : V) (a b c d : Bool) : Ret T F.value_empty [.val v.av, .val (.bool a), .val (.bool b), .val (.bool c), .val (.bool d)]
    (one (.bool ((a || v.num == []) && (b || v.text == []) && (c || decide (v.items.length = 0)) && (d || decide (v.keys.length = 0))))) := by
  have e1 := srow_len v.keys
  have e2 : (v.items.map V.row).length = v.items.length := List.length_map ..
  have z : ∀ n : Nat, ((n : Int) == 0) = decide (n = 0) := fun n => by rw [Bool.eq_iff_iff]; simp
  refine Ret.mk h rfl ?_
  rw [V.av_eq]
  repeat' (first | refine zA ?_ | refine zB ?_ | (refine zC ?_ ?_ <;> intro hc; all_goals first | (cases hc; done) | ((try simp only [hc]); (try simp only [bm] at hc))) | refine zE ?_ | refine zN ?_ | fail)
  all_goals refine Qend.boo rfl rfl ?_
  all_goals clear h
  all_goals first | (simp_all; done) | (rw [Bool.eq_iff_iff]; simp_all; done) | (simp_all [z]; done) | (rw [Bool.eq_iff_iff]; simp_all [z]; done)
theorem vformed_eq (k : Int) (n t : Str) (is : List V) (ks : List Str) : formed (.mk k n t is ks) = (decide (0 ≤ k) && decide (k ≤ 6) && (if k = 3 then number n else decide (n = [])) && (if k = 4 then utf t else decide (t = [])) && (decide (5 ≤ k) || decide (is.length = 0)) && (decide (6 ≤ k) || decide (ks.length = 0)) &&
    (decide (k ≠ 6) || (decide (is.length = ks.length) && rise ks)) && is.all formed) := by
  have q : ∀ a b : Nat, (a == b) = decide (b = a) := fun a b => by rw [Bool.eq_iff_iff, beq_iff_eq, decide_eq_true_eq]; exact eq_comm
  simp only [formed, formedAll_eq]
  rw [Bool.eq_iff_iff]
  simp only [Bool.and_eq_true, Bool.or_eq_true, Bool.not_eq_true', Bool.or_eq_false_iff, Bool.and_eq_false_iff, decide_eq_true_eq, decide_eq_false_iff_not, q]
  grind
theorem valueFormed_ret (f : VfFns T) (hv : ValidOk T) : ∀ (v : V), v.bk ≤ 1073741824 → Ret T F.value_Formed [.val v.av] (one (.bool (formed v))) := by
  intro v
  induction v using V.ind with
  | h v ih =>
  intro hb
  have hbk := V.bk_eq v
  have hk := len_sbk v.keys
  have hl := V.len_bks v.items
  have e1 := srow_len v.keys
  have e2 : (v.items.map V.row).length = v.items.length := List.length_map ..
  have z : ∀ n : Nat, ((n : Int) == 0) = decide (n = 0) := fun n => by rw [Bool.eq_iff_iff]; simp
  have r1 := tensFormed_ret f.a7 v.num (by omega)
  have r2 := hv v.text (by omega)
  have r3 := vrise_ret f.a5 f.a6 hv v.keys (by omega)
  have r0 := vempty_ret f.a4 v
  have rc : ∀ x ∈ v.items, Ret T F.value_allFormed_S1 [.val x.av] (one (.bool (!formed x))) := fun x hx => by
    have r := ih x hx (by have := V.bk_item hx; omega)
    refine Ret.mk f.a3 rfl ?_
    rw [V.av_eq] at *
    repeat' (first | refine zA ?_ | refine WQ.cl f.a1.modes ?_ | refine W1.cl f.a1.modes (r) ?_ | refine zB ?_ | (refine zC ?_ ?_ <;> intro hc; all_goals first | (cases hc; done) | ((try simp only [hc]); (try simp only [bm] at hc))) | refine zE ?_ | refine zN ?_ | fail)
    exact Qend.boo rfl rfl rfl
  have r5 := containsFuncV_ret f.a8 f.a9 (p := fun x => !formed x) f.a3.modes v.items (by omega) rc
  have r4 : Ret T F.value_allFormed [.val (.lst 5 (v.items.map V.row))] (one (.bool (v.items.all formed))) := by
    refine Ret.mk f.a2 rfl ?_
    repeat' (first | refine zA ?_ | refine WQ.cl f.a8.modes ?_ | refine W1.cl f.a8.modes (r5) ?_ | refine zB ?_ | (refine zC ?_ ?_ <;> intro hc; all_goals first | (cases hc; done) | ((try simp only [hc]); (try simp only [bm] at hc))) | refine zE ?_ | refine zN ?_ | fail)
    refine Qend.boo rfl rfl ?_
    rw [List.all_eq_not_any_not]
  clear r5 rc ih hv
  refine Ret.mk f.a1 rfl ?_
  obtain ⟨k, n, t, is, ks⟩ := v
  rw [vformed_eq]
  rw [V.av_eq] at *
  simp only [V.kind, V.num, V.text, V.items, V.keys] at *
  repeat' (first | refine zA ?_ | refine WQ.cl f.a4.modes ?_ | refine W1.cl f.a4.modes (r0 _ _ _ _) ?_ | refine WQ.cl f.a7.modes ?_ | refine W1.cl f.a7.modes (r1) ?_ | refine WQ.cl f.a6.modes ?_ | refine W1.cl f.a6.modes (r2) ?_ | refine WQ.cl f.a5.modes ?_ | refine W1.cl f.a5.modes (r3) ?_ | refine WQ.cl f.a2.modes ?_ | refine W1.cl f.a2.modes (r4) ?_ | refine zB ?_ | (refine zC ?_ ?_ <;> intro hc; all_goals first | (cases hc; done) | ((try simp only [hc]); (try simp only [bm] at hc))) | refine zE ?_ | refine zN ?_ | fail)
  all_goals refine Qend.boo rfl rfl ?_
  all_goals clear r0 r1 r2 r3 r4 hb hbk hk hl e1 e2
  all_goals (try simp only [List.length_map, srow_len, Int.natCast_inj] at *)
  all_goals first
    | (simp_all; done)
    | (simp_all; omega)
    | (rw [Bool.eq_iff_iff]; simp_all; done)
    | (rw [Bool.eq_iff_iff]; simp_all; omega)
    | trace_state
end
end Hm

/- Places in lists of values: the program. Conditions: see each theorem. -/
namespace Hm
open Go (IntKind)
set_option maxHeartbeats 4000000
set_option maxRecDepth 4000
section
variable {T : Tab}
theorem bks_le {x : V} : ∀ {l : List V}, x ∈ l → x.bk ≤ V.bks l
  | y :: r, h => by
    have e : V.bks (y :: r) = y.bk + V.bks r := rfl
    rcases List.mem_cons.1 h with rfl | h
    · omega
    · have := bks_le h; omega
def lls (ls : List (List V)) : List (List AV) := ls.map fun l => [.lst 5 (l.map V.row)]
theorem lls_len (ls : List (List V)) : (lls ls).length = ls.length := List.length_map ..
theorem get_lls {ls : List (List V)} {i : Nat} {l : List V} (h : ls[i]? = some l) : (lls ls)[i]? = some [.lst 5 (l.map V.row)] := by simp [lls, h]
theorem orderFormed_ret (h : Fn T F.order_formed order_formed.fn) (hf : Fn T F.value_Formed value_Formed.fn) (ls : List (List V)) (hl : ls.length ≤ 1073741824) (hb : ∀ l ∈ ls, V.bks l ≤ 1073741824)
    (ih : ∀ l ∈ ls, ∀ x ∈ l, Ret T F.value_Formed [.val x.av] (one (.bool (formed x)))) : Ret T F.order_formed [.val (.lst 1 (lls ls))] (one (.bool (ls.all (·.all formed)))) := by
  have e1 := lls_len ls
  refine Ret.mk h rfl ?_
  repeat' (first | refine zA ?_ | refine zB ?_ | (refine zC ?_ ?_ <;> intro hc; all_goals first | (cases hc; done) | ((try simp only [hc]); (try simp only [bm] at hc))) | refine zE ?_ | refine zN ?_ | fail)
  refine W.listP ls (fun i (_ : Unit) s => s.put 9 (.av (.int .i64 (i : Int)))) (fun i _ => (ls.take i).all (·.all formed) = true) () (by simp) rfl ?_ ?_
  · intro i l u hx hi hp
    have hx' := get_lls hx
    have e2 : (l.map V.row).length = l.length := List.length_map ..
    have hbl := V.len_bks l
    have hbl2 := hb l (List.mem_of_getElem? hx)
    repeat' (first | refine zA ?_ | refine zB ?_ | (refine zC ?_ ?_ <;> intro hc; all_goals first | (cases hc; done) | ((try simp only [hc]); (try simp only [bm] at hc))) | refine zE ?_ | refine zN ?_ | fail)
    refine W.listP l (fun j (_ : Unit) s => s.put 15 (.av (.int .i64 (j : Int)))) (fun j _ => (l.take j).all formed = true) () (by simp) rfl ?_ ?_
    · intro j x u hy hj hq
      have r := ih l (List.mem_of_getElem? hx) x (List.mem_of_getElem? hy)
      rw [V.av_eq] at r
      repeat' (first | refine zA ?_ | refine WQ.cl hf.modes ?_ | refine W1.cl hf.modes (r) ?_ | refine zB ?_ | (refine zC ?_ ?_ <;> intro hc; all_goals first | (cases hc; done) | ((try simp only [hc]); (try simp only [bm] at hc))) | refine zE ?_ | refine zN ?_ | fail)
      · refine Qend.boo rfl rfl ?_
        rw [all_false hx (all_false hy (by simp_all))]
      · refine ⟨(), ?_, rfl⟩
        rw [all_take_succ hy, hq]; simp_all
    · intro u hq
      rw [List.take_length] at hq
      repeat' (first | refine zA ?_ | refine zB ?_ | (refine zC ?_ ?_ <;> intro hc; all_goals first | (cases hc; done) | ((try simp only [hc]); (try simp only [bm] at hc))) | refine zE ?_ | refine zN ?_ | fail)
      refine ⟨(), ?_, rfl⟩
      rw [all_take_succ hx, hp, hq]; rfl
  · intro u hp
    rw [List.take_length] at hp
    repeat' (first | refine zA ?_ | refine zB ?_ | (refine zC ?_ ?_ <;> intro hc; all_goals first | (cases hc; done) | ((try simp only [hc]); (try simp only [bm] at hc))) | refine zE ?_ | refine zN ?_ | fail)
    refine Qend.boo rfl rfl ?_
    rw [hp]
/-- The place of the one that no other is ahead of. -/
def bst (p : V → V → Bool) (l : List V) : Nat → Option Nat
  | 0 => none
  | i + 1 => match l[i]?, bst p l i with
    | some x, some j => match l[j]? with
      | some y => if p x y then some i else some j
      | none => some i
    | some _, none => some i
    | none, r => r
def bstI : Option Nat → Int
  | some j => (j : Int)
  | none => -1
theorem bst_none {p : V → V → Bool} {l : List V} {i : Nat} {x : V} (hx : l[i]? = some x) (h : bst p l i = none) : bst p l (i + 1) = some i := by
  rw [bst, hx, h]
theorem bst_some {p : V → V → Bool} {l : List V} {i j : Nat} {x y : V} (hx : l[i]? = some x) (h : bst p l i = some j) (hy : l[j]? = some y) : bst p l (i + 1) = if p x y then some i else some j := by
  rw [bst, hx, h]; simp only [hy]
theorem bst_lt {p : V → V → Bool} {l : List V} : ∀ {i j : Nat}, i ≤ l.length → bst p l i = some j → j < i
  | 0, j, _, h => by simp [bst] at h
  | i + 1, j, hi, h => by
    have hx : l[i]? = some l[i] := List.getElem?_eq_getElem (by omega)
    cases hb : bst p l i with
    | none => rw [bst_none hx hb] at h; simp at h; omega
    | some k =>
      have := bst_lt (i := i) (by omega) hb
      rw [bst_some hx hb (List.getElem?_eq_getElem (by omega))] at h
      split at h <;> (simp only [Option.some.injEq] at h; omega)
theorem orderBest_ret (h : Fn T F.order_best order_best.fn) (hf : Fn T F.order_formed order_formed.fn) {p : V → V → Bool} {g : Nat} (hg : T.modes g = [.val, .val]) (l : List V) (hb : V.bks l ≤ 1073741824)
    (r1 : Ret T F.order_formed [.val (.lst 1 (lls [l]))] (one (.bool (l.all formed))))
    (ih : l.all formed = true → ∀ x ∈ l, ∀ y ∈ l, Ret T g [.val x.av, .val y.av] (one (.bool (p x y)))) :
    Ret T F.order_best [.val (.lst 5 (l.map V.row)), .val (.clo g [] [])] (if l.all formed then two (.int .i64 (bstI (bst p l l.length))) (.int .i64 0) else two (.int .i64 0) (.int .i64 1)) := by
  have e1 : (l.map V.row).length = l.length := List.length_map ..
  have hbl := V.len_bks l
  simp only [lls, List.map_cons, List.map_nil] at r1
  refine Ret.mk h rfl ?_
  by_cases hall : l.all formed = true
  · have ih' := ih hall
    rw [hall] at r1 ⊢
    repeat' (first | refine zA ?_ | refine WQ.cl hf.modes ?_ | refine W1.cl hf.modes (r1) ?_ | refine zB ?_ | (refine zC ?_ ?_ <;> intro hc; all_goals first | (cases hc; done) | ((try simp only [hc]); (try simp only [bm] at hc))) | refine zE ?_ | refine zN ?_ | fail)
    refine W.listP l (fun i (_ : Unit) s => (s.put 6 (.av (.int .i64 (bstI (bst p l i))))).put 15 (.av (.int .i64 (i : Int)))) (fun _ _ => True) () trivial rfl ?_ ?_
    · intro i x u hx hi _
      cases hb' : bst p l i with
      | none =>
        have e := bst_none hx hb'
        simp only [bstI]
        repeat' (first | refine zA ?_ | refine zB ?_ | (refine zC ?_ ?_ <;> intro hc; all_goals first | (cases hc; done) | ((try simp only [hc]); (try simp only [bm] at hc))) | refine zE ?_ | refine zN ?_ | fail)
        exact ⟨(), trivial, by rw [e]; rfl⟩
      | some j =>
        have hj := bst_lt (by omega) hb'
        obtain ⟨y, hy⟩ : ∃ y, l[j]? = some y := ⟨l[j], List.getElem?_eq_getElem (by omega)⟩
        have e := bst_some hx hb' hy
        have r := ih' x (List.mem_of_getElem? hx) y (List.mem_of_getElem? hy)
        simp only [bstI]
        rw [V.av_eq, V.av_eq] at r
        repeat' (first | refine zA ?_ | refine WQ.cl hg ?_ | refine W1.cl hg (r) ?_ | refine zB ?_ | (refine zC ?_ ?_ <;> intro hc; all_goals first | (cases hc; done) | ((try simp only [hc]); (try simp only [bm] at hc))) | refine zE ?_ | refine zN ?_ | fail)
        · exact ⟨(), trivial, by rw [e, if_pos (by assumption)]; rfl⟩
        · exact ⟨(), trivial, by rw [e, if_neg (by simp_all)]; rfl⟩
    · intro u _
      repeat' (first | refine zA ?_ | refine zB ?_ | (refine zC ?_ ?_ <;> intro hc; all_goals first | (cases hc; done) | ((try simp only [hc]); (try simp only [bm] at hc))) | refine zE ?_ | refine zN ?_ | fail)
      exact Qend.two rfl rfl rfl rfl
  · rw [show l.all formed = false by simpa using hall] at r1 ⊢
    repeat' (first | refine zA ?_ | refine WQ.cl hf.modes ?_ | refine W1.cl hf.modes (r1) ?_ | refine zB ?_ | (refine zC ?_ ?_ <;> intro hc; all_goals first | (cases hc; done) | ((try simp only [hc]); (try simp only [bm] at hc))) | refine zE ?_ | refine zN ?_ | fail)
    exact Qend.two rfl rfl rfl rfl
structure OrFns (T : Tab) : Prop where
  v : VcFns T
  m : VfFns T
  u : ValidOk T
  a1 : Fn T F.order_formed order_formed.fn
  a2 : Fn T F.order_best order_best.fn
  a3 : Fn T F.order_Least order_Least.fn
  a4 : Fn T F.order_Least_S1 order_Least_S1.fn
  a5 : Fn T F.order_Greatest order_Greatest.fn
  a6 : Fn T F.order_Greatest_S1 order_Greatest_S1.fn
  a7 : Fn T F.order_rises order_rises.fn
  a8 : Fn T F.order_Search order_Search.fn
  a9 : Fn T F.value_Same value_Same.fn
theorem oformed_ret (f : OrFns T) (ls : List (List V)) (hl : ls.length ≤ 1073741824) (hb : ∀ l ∈ ls, V.bks l ≤ 1073741824) : Ret T F.order_formed [.val (.lst 1 (lls ls))] (one (.bool (ls.all (·.all formed)))) :=
  orderFormed_ret f.a1 f.m.a1 ls hl hb fun l hl x hx => valueFormed_ret f.m f.u x (by have := bks_le hx; have := hb l hl; omega)
theorem oleast1_ret (f : OrFns T) (a b : V) (hla : a.bk ≤ 1073741824) (hfa : formed a = true) (hlb : b.bk ≤ 1073741824) (hfb : formed b = true) : Ret T F.order_Least_S1 [.val a.av, .val b.av] (one (.bool (decide (vc a b < 0)))) := by
  have r := valueCmp_ret f.v a hla hfa b hlb hfb
  refine Ret.mk f.a4 rfl ?_
  rw [V.av_eq, V.av_eq] at *
  repeat' (first | refine zA ?_ | refine WQ.cl f.v.a1.modes ?_ | refine W1.cl f.v.a1.modes (r) ?_ | refine zB ?_ | (refine zC ?_ ?_ <;> intro hc; all_goals first | (cases hc; done) | ((try simp only [hc]); (try simp only [bm] at hc))) | refine zE ?_ | refine zN ?_ | fail)
  exact Qend.boo rfl rfl rfl
theorem ogreatest1_ret (f : OrFns T) (a b : V) (hla : a.bk ≤ 1073741824) (hfa : formed a = true) (hlb : b.bk ≤ 1073741824) (hfb : formed b = true) : Ret T F.order_Greatest_S1 [.val a.av, .val b.av] (one (.bool (decide (0 ≤ vc a b)))) := by
  have r := valueCmp_ret f.v a hla hfa b hlb hfb
  refine Ret.mk f.a6 rfl ?_
  rw [V.av_eq, V.av_eq] at *
  repeat' (first | refine zA ?_ | refine WQ.cl f.v.a1.modes ?_ | refine W1.cl f.v.a1.modes (r) ?_ | refine zB ?_ | (refine zC ?_ ?_ <;> intro hc; all_goals first | (cases hc; done) | ((try simp only [hc]); (try simp only [bm] at hc))) | refine zE ?_ | refine zN ?_ | fail)
  exact Qend.boo rfl rfl rfl
def plc1 (p : V → V → Bool) (l : List V) : CR := if l.all formed then two (.int .i64 (bstI (bst p l l.length))) (.int .i64 0) else two (.int .i64 0) (.int .i64 1)
theorem orderLeast_ret (f : OrFns T) (l : List V) (hb : V.bks l ≤ 1073741824) : Ret T F.order_Least [.val (.lst 5 (l.map V.row))] (plc1 (fun a b => decide (vc a b < 0)) l) := by
  have r1 := oformed_ret f [l] (by simp) (by simpa using hb)
  simp only [List.all_cons, List.all_nil, Bool.and_true] at r1
  have r := orderBest_ret f.a2 f.a1 (p := fun a b => decide (vc a b < 0)) (g := F.order_Least_S1) f.a4.modes l hb r1 fun hall x hx y hy =>
    oleast1_ret f x y (by have := bks_le hx; omega) (List.all_eq_true.1 hall x hx) (by have := bks_le hy; omega) (List.all_eq_true.1 hall y hy)
  refine Ret.mk f.a3 rfl ?_
  unfold plc1
  split at r
  · rename_i hall
    rw [if_pos hall]
    repeat' (first | refine zA ?_ | refine WQ.cl f.a2.modes ?_ | refine W1.cl f.a2.modes (r) ?_ | refine zB ?_ | (refine zC ?_ ?_ <;> intro hc; all_goals first | (cases hc; done) | ((try simp only [hc]); (try simp only [bm] at hc))) | refine zE ?_ | refine zN ?_ | fail)
    exact Qend.two rfl rfl rfl rfl
  · rename_i hall
    rw [if_neg hall]
    repeat' (first | refine zA ?_ | refine WQ.cl f.a2.modes ?_ | refine W1.cl f.a2.modes (r) ?_ | refine zB ?_ | (refine zC ?_ ?_ <;> intro hc; all_goals first | (cases hc; done) | ((try simp only [hc]); (try simp only [bm] at hc))) | refine zE ?_ | refine zN ?_ | fail)
    exact Qend.two rfl rfl rfl rfl
theorem orderGreatest_ret (f : OrFns T) (l : List V) (hb : V.bks l ≤ 1073741824) : Ret T F.order_Greatest [.val (.lst 5 (l.map V.row))] (plc1 (fun a b => decide (0 ≤ vc a b)) l) := by
  have r1 := oformed_ret f [l] (by simp) (by simpa using hb)
  simp only [List.all_cons, List.all_nil, Bool.and_true] at r1
  have r := orderBest_ret f.a2 f.a1 (p := fun a b => decide (0 ≤ vc a b)) (g := F.order_Greatest_S1) f.a6.modes l hb r1 fun hall x hx y hy =>
    ogreatest1_ret f x y (by have := bks_le hx; omega) (List.all_eq_true.1 hall x hx) (by have := bks_le hy; omega) (List.all_eq_true.1 hall y hy)
  refine Ret.mk f.a5 rfl ?_
  unfold plc1
  split at r
  · rename_i hall
    rw [if_pos hall]
    repeat' (first | refine zA ?_ | refine WQ.cl f.a2.modes ?_ | refine W1.cl f.a2.modes (r) ?_ | refine zB ?_ | (refine zC ?_ ?_ <;> intro hc; all_goals first | (cases hc; done) | ((try simp only [hc]); (try simp only [bm] at hc))) | refine zE ?_ | refine zN ?_ | fail)
    exact Qend.two rfl rfl rfl rfl
  · rename_i hall
    rw [if_neg hall]
    repeat' (first | refine zA ?_ | refine WQ.cl f.a2.modes ?_ | refine W1.cl f.a2.modes (r) ?_ | refine zB ?_ | (refine zC ?_ ?_ <;> intro hc; all_goals first | (cases hc; done) | ((try simp only [hc]); (try simp only [bm] at hc))) | refine zE ?_ | refine zN ?_ | fail)
    exact Qend.two rfl rfl rfl rfl
end
end Hm

/- Search in a list of values: the program. Conditions: see each theorem. -/
namespace Hm
open Go (IntKind)
set_option maxHeartbeats 4000000
set_option maxRecDepth 4000
def vle (l : List V) (j : Nat) : Bool := match l[j]?, l[j - 1]? with
  | some x, some y => !decide (vc x y < 0)
  | _, _ => true
def risesV (l : List V) : Bool := (List.range l.length).all fun j => j == 0 || vle l j
theorem vle_eq {l : List V} {j : Nat} {x y : V} (hx : l[j]? = some x) (hy : l[j - 1]? = some y) : vle l j = !decide (vc x y < 0) := by simp only [vle, hx, hy]
theorem risesV_no {l : List V} {j : Nat} {x y : V} (h1 : 1 ≤ j) (hx : l[j]? = some x) (hy : l[j - 1]? = some y) (h : vc x y < 0) : risesV l = false := by
  rw [risesV, List.all_eq_false]
  refine ⟨j, List.mem_range.2 (List.getElem?_eq_some_iff.1 hx).1, ?_⟩
  rw [vle_eq hx hy]
  simp [h]; omega
theorem risesV_yes {l : List V} {i : Nat} (hi : l.length ≤ i) (h : ∀ j < i, (j == 0 || vle l j) = true) : risesV l = true := by
  rw [risesV, List.all_eq_true]
  exact fun j hj => h j (by have := List.mem_range.1 hj; omega)
/-- How many are below. -/
def below (v : V) (l : List V) : Nat := l.countP fun x => decide (vc x v < 0)
theorem pre_count {p : V → Bool} : ∀ (l : List V), (∀ i x y, l[i]? = some x → l[i + 1]? = some y → p y = true → p x = true) → ∀ i x, l[i]? = some x → (p x = true ↔ i < l.countP p)
  | [], _, i, x, h => by simp at h
  | a :: r, hd, i, x, h => by
    have hd' : ∀ i x y, r[i]? = some x → r[i + 1]? = some y → p y = true → p x = true := fun i x y hx hy => hd (i + 1) x y (by simpa using hx) (by simpa using hy)
    by_cases ha : p a = true
    · rw [List.countP_cons_of_pos ha]
      cases i with
      | zero => simp at h; subst h; simp [ha]
      | succ i =>
        rw [pre_count r hd' i x (by simpa using h)]; omega
    · have hz : ∀ (i : Nat) (y : V), (a :: r)[i]? = some y → p y = false := by
        intro i
        induction i with
        | zero => intro y hy; simp at hy; subst hy; simpa using ha
        | succ i ih =>
          intro y hy
          have hlt := (List.getElem?_eq_some_iff.1 hy).1
          have hx : (a :: r)[i]? = some ((a :: r)[i]'(by omega)) := List.getElem?_eq_getElem (by omega)
          have := ih _ hx
          cases hp : p y with
          | false => rfl
          | true => rw [hd i _ y hx hy hp] at this; cases this
      have h0 : (a :: r).countP p = 0 := by
        rw [List.countP_eq_zero]
        intro y hy
        obtain ⟨i, hi⟩ := List.getElem?_of_mem hy
        rw [hz i y hi]; simp
      rw [hz i x h, h0]; simp
theorem below_pre {l : List V} (hr : risesV l = true) (v : V) : ∀ i x, l[i]? = some x → (vc x v < 0 ↔ i < below v l) := by
  have key := pre_count (p := fun x => decide (vc x v < 0)) l fun i x y hx hy h => by
    have h1 : (i + 1 == 0 || vle l (i + 1)) = true := List.all_eq_true.1 hr (i + 1) (List.mem_range.2 (List.getElem?_eq_some_iff.1 hy).1)
    rw [vle_eq hy (by simpa using hx)] at h1
    simp at h1
    simp only [decide_eq_true_eq] at h ⊢
    have a1 := vc_pre.anti x y trivial trivial
    have a2 := vc_pre.anti x v trivial trivial
    have a3 := vc_pre.anti y v trivial trivial
    have t1 := vc_pre.trans x y v trivial trivial trivial (by omega) (by omega)
    by_cases he : vc x v = 0
    · have t2 := vc_pre.trans v x y trivial trivial trivial (by omega) (by omega)
      omega
    · omega
  intro i x hx
  have := key i x hx
  simpa [below] using this
theorem below_le (v : V) (l : List V) : below v l ≤ l.length := List.countP_le_length
def inAt (l : List V) (v : V) : Bool := match l[below v l]? with
  | some x => vc x v == 0
  | none => false
def three (u v w : AV) : CR := ⟨[([.av u], false), ([.av v], false), ([.av w], false)], []⟩
theorem Qend.three {fn : AFun} {as : List Arg} {u v w u' v' w' : AV} {st : St} (hr : results st fn.results = some [([.av u], false), ([.av v], false), ([.av w], false)]) (ho : outs st 0 as = some []) (h0 : u = u') (h : v = v') (h' : w = w') : Qend fn as (Hm.three u' v' w') .ret st := by
  subst h0 h h'; exact ⟨.inr rfl, hr, ho⟩
def srch (l : List V) (v : V) : CR :=
  if !(l.all formed) || !(formed v) then three (.int .i64 0) (.bool false) (.int .i64 1) else
  if !(risesV l) then three (.int .i64 0) (.bool false) (.int .i64 2) else three (.int .i64 (below v l : Nat)) (.bool (inAt l v)) (.int .i64 0)
section
variable {T : Tab} {st : St} {K : St → Prop}
theorem W1.half2 {dst : Option Nat} {g : Option (Nat × Bool)} {x : Opd} {a : Int} (hg : wanted st g = some true) (hx : st.opd x = .av (.int .i64 a)) (ha : 0 ≤ a) (hb : a < 9223372036854775808)
    (hk : K (putD dst (.av (.int .i64 (a / 2))) st)) : W1 T ⟨dst, .bin .quo x (.v (.int .i64 2)), g⟩ st K := by
  refine W1.go hg (WS.op (v := .av (.int .i64 (a / 2))) rfl ?_ hk)
  have : Int.tdiv a 2 = a / 2 := Int.tdiv_eq_ediv_of_nonneg ha
  rw [← this]
  have hy : st.opd (.v (.int .i64 2)) = .av (.int .i64 2) := rfl
  simp only [stepOp, hx, hy, binA, ne_eq, not_true_eq_false, if_false, inRange, wrap64 (n := a.tdiv 2) (by rw [this]; omega) (by rw [this]; omega)]
  rfl
theorem orises_ret (f : OrFns T) (l : List V) (hb : V.bks l ≤ 1073741824) (hall : l.all formed = true) : Ret T F.order_rises [.val (.lst 5 (l.map V.row))] (one (.bool (risesV l))) := by
  have e1 : (l.map V.row).length = l.length := List.length_map ..
  have hbl := V.len_bks l
  refine Ret.mk f.a7 rfl ?_
  repeat' (first | refine zA ?_ | refine zB ?_ | (refine zC ?_ ?_ <;> intro hc; all_goals first | (cases hc; done) | ((try simp only [hc]); (try simp only [bm] at hc))) | refine zE ?_ | refine zN ?_ | fail)
  have h0 : ∀ j < 1, (j == 0 || vle l j) = true := fun j hj => by
    have : j = 0 := by omega
    subst this; rfl
  refine W.iterP (β := Nat) (fun i s => s.put 3 (.av (.int .i64 (i : Int)))) (fun i => 1 ≤ i ∧ i ≤ l.length + 1 ∧ ∀ j < i, (j == 0 || vle l j) = true) (fun i => l.length + 2 - i) 1 ⟨Nat.le_refl _, by omega, h0⟩ rfl ?_
  rintro i ⟨q1, q0, q2⟩
  by_cases hi : i < l.length
  · obtain ⟨x, hx⟩ : ∃ x, l[i]? = some x := ⟨l[i], List.getElem?_eq_getElem hi⟩
    obtain ⟨y, hy⟩ : ∃ y, l[i - 1]? = some y := ⟨l[i - 1], List.getElem?_eq_getElem (by omega)⟩
    have hh := V.get_row hy
    rw [show i - 1 = ((i : Int) - 1).toNat by omega] at hh
    have mx := List.mem_of_getElem? hx
    have my := List.mem_of_getElem? hy
    have r := valueCmp_ret f.v x (by have := bks_le mx; omega) (List.all_eq_true.1 hall x mx) y (by have := bks_le my; omega) (List.all_eq_true.1 hall y my)
    rw [V.av_eq, V.av_eq] at r
    repeat' (first | refine zA ?_ | refine WQ.cl f.v.a1.modes ?_ | refine W1.cl f.v.a1.modes (r) ?_ | refine zB ?_ | (refine zC ?_ ?_ <;> intro hc; all_goals first | (cases hc; done) | ((try simp only [hc]); (try simp only [bm] at hc))) | refine zE ?_ | refine zN ?_ | fail)
    · refine Qend.boo rfl rfl ?_
      rw [risesV_no q1 hx hy (by assumption)]
    · refine ⟨i + 1, ⟨by omega, by omega, fun j hj => ?_⟩, by omega, rfl⟩
      by_cases hji : j < i
      · exact q2 j hji
      · obtain rfl : j = i := by omega
        rw [vle_eq hx hy]; simp_all
  · skip
    repeat' (first | refine zA ?_ | refine zB ?_ | (refine zC ?_ ?_ <;> intro hc; all_goals first | (cases hc; done) | ((try simp only [hc]); (try simp only [bm] at hc))) | refine zE ?_ | refine zN ?_ | fail)
    refine Qend.boo rfl rfl ?_
    rw [risesV_yes (by omega) q2]
theorem orderSearch_ret (f : OrFns T) (l : List V) (hb : V.bks l ≤ 1073741824) (v : V) (hv : v.bk ≤ 1073741824) : Ret T F.order_Search [.val (.lst 5 (l.map V.row)), .val v.av] (srch l v) := by
  have e1 : (l.map V.row).length = l.length := List.length_map ..
  have hbl := V.len_bks l
  have r1 := oformed_ret f [l] (by simp) (by simpa using hb)
  simp only [List.all_cons, List.all_nil, Bool.and_true, lls, List.map_cons, List.map_nil] at r1
  have r2 := valueFormed_ret f.m f.u v hv
  refine Ret.mk f.a8 rfl ?_
  unfold srch
  by_cases hall : l.all formed = true
  · by_cases hf : formed v = true
    · have r3 := orises_ret f l hb hall
      rw [hall] at r1 ⊢
      rw [hf] at r2 ⊢
      by_cases hr : risesV l = true
      · rw [hr] at r3 ⊢
        have hs := below_pre hr v
        have hp := below_le v l
        have hin : ∀ x, l[below v l]? = some x → inAt l v = (vc x v == 0) := fun x hx => by simp only [inAt, hx]
        have hin0 : l.length ≤ below v l → inAt l v = false := fun h => by simp only [inAt, List.getElem?_eq_none h]
        generalize below v l = p at *
        rw [V.av_eq] at *
        repeat' (first | refine zA ?_ | refine WQ.cl f.a1.modes ?_ | refine W1.cl f.a1.modes (r1) ?_ | refine WQ.cl f.m.a1.modes ?_ | refine W1.cl f.m.a1.modes (r2) ?_ | refine WQ.cl f.a7.modes ?_ | refine W1.cl f.a7.modes (r3) ?_ | refine zB ?_ | (refine zC ?_ ?_ <;> intro hc; all_goals first | (cases hc; done) | ((try simp only [hc]); (try simp only [bm] at hc))) | refine zE ?_ | refine zN ?_ | fail)
        refine W.iterP (β := Nat × Nat) (fun b s => (s.put 7 (.av (.int .i64 (b.1 : Int)))).put 8 (.av (.int .i64 (b.2 : Int)))) (fun b => b.1 ≤ p ∧ p ≤ b.2 ∧ b.2 ≤ l.length) (fun b => b.2 - b.1) (0, l.length) ⟨by omega, hp, by omega⟩ ?_ ?_
        · rfl
        · rintro ⟨i, j⟩ ⟨q1, q2, q3⟩
          simp only at q1 q2 q3
          by_cases hij : i < j
          · obtain ⟨x, hx⟩ : ∃ x, l[(i + j) / 2]? = some x := ⟨l[(i + j) / 2]'(by omega), List.getElem?_eq_getElem (by omega)⟩
            have hh := V.get_row hx
            rw [show (i + j) / 2 = (((i : Int) + (j : Int)) / 2).toNat by omega] at hh
            have hc1 : (((i + j) / 2 + 1 : Nat) : Int) = ((i : Int) + (j : Int)) / 2 + 1 := by omega
            have hc2 : (((i + j) / 2 : Nat) : Int) = ((i : Int) + (j : Int)) / 2 := by omega
            have mx := List.mem_of_getElem? hx
            have r := valueCmp_ret f.v x (by have := bks_le mx; omega) (List.all_eq_true.1 hall x mx) v hv hf
            rw [V.av_eq, V.av_eq] at r
            have hsx := hs _ x hx
            repeat' (first | refine zA ?_ | ((apply W1.half2; exact rfl; exact rfl; omega; omega)) | refine WQ.cl f.v.a1.modes ?_ | refine W1.cl f.v.a1.modes (r) ?_ | refine zB ?_ | (refine zC ?_ ?_ <;> intro hc; all_goals first | (cases hc; done) | ((try simp only [hc]); (try simp only [bm] at hc))) | refine zE ?_ | refine zN ?_ | fail)
            all_goals first
              | (refine ⟨((i + j) / 2 + 1, j), ⟨?_, ?_, ?_⟩, ?_, ?_⟩
                 · show (i + j) / 2 + 1 ≤ p
                   have := hsx.1 (by assumption); omega
                 · exact q2
                 · exact q3
                 · show j - ((i + j) / 2 + 1) < j - i; omega
                 · dsimp only; rw [hc1])
              | (refine ⟨(i, (i + j) / 2), ⟨?_, ?_, ?_⟩, ?_, ?_⟩
                 · exact q1
                 · show p ≤ (i + j) / 2
                   have : ¬ (i + j) / 2 < p := fun hlt => by have := hsx.2 hlt; omega
                   omega
                 · show (i + j) / 2 ≤ l.length; omega
                 · show (i + j) / 2 - i < j - i; omega
                 · dsimp only; rw [hc2])
              | trace_state
          · obtain rfl : i = p := by omega
            obtain rfl : i = j := by omega
            by_cases hin1 : i < l.length
            · obtain ⟨x, hx⟩ : ∃ x, l[i]? = some x := ⟨l[i]'(by omega), List.getElem?_eq_getElem (by omega)⟩
              have mx := List.mem_of_getElem? hx
              have r := valueSame_ret f.a9 f.v x v (by have := bks_le mx; omega) (List.all_eq_true.1 hall x mx) hv hf
              rw [V.av_eq, V.av_eq] at r
              rw [hin x hx]
              repeat' (first | refine zA ?_ | refine WQ.cl f.a9.modes ?_ | refine W1.cl f.a9.modes (r) ?_ | refine zB ?_ | (refine zC ?_ ?_ <;> intro hc; all_goals first | (cases hc; done) | ((try simp only [hc]); (try simp only [bm] at hc))) | refine zE ?_ | refine zN ?_ | fail)
              all_goals first | exact Qend.three rfl rfl rfl rfl rfl | (exfalso; simp_all; done)
            · rw [hin0 (by omega)]
              repeat' (first | refine zA ?_ | refine zB ?_ | (refine zC ?_ ?_ <;> intro hc; all_goals first | (cases hc; done) | ((try simp only [hc]); (try simp only [bm] at hc))) | refine zE ?_ | refine zN ?_ | fail)
              all_goals first | exact Qend.three rfl rfl rfl rfl rfl | (exfalso; simp_all; done)
      · rw [show risesV l = false by simpa using hr] at r3 ⊢
        rw [V.av_eq] at *
        repeat' (first | refine zA ?_ | refine WQ.cl f.a1.modes ?_ | refine W1.cl f.a1.modes (r1) ?_ | refine WQ.cl f.m.a1.modes ?_ | refine W1.cl f.m.a1.modes (r2) ?_ | refine WQ.cl f.a7.modes ?_ | refine W1.cl f.a7.modes (r3) ?_ | refine zB ?_ | (refine zC ?_ ?_ <;> intro hc; all_goals first | (cases hc; done) | ((try simp only [hc]); (try simp only [bm] at hc))) | refine zE ?_ | refine zN ?_ | fail)
        exact Qend.three rfl rfl rfl rfl rfl
    · rw [hall] at r1 ⊢
      rw [show formed v = false by simpa using hf] at r2 ⊢
      rw [V.av_eq] at *
      repeat' (first | refine zA ?_ | refine WQ.cl f.a1.modes ?_ | refine W1.cl f.a1.modes (r1) ?_ | refine WQ.cl f.m.a1.modes ?_ | refine W1.cl f.m.a1.modes (r2) ?_ | refine zB ?_ | (refine zC ?_ ?_ <;> intro hc; all_goals first | (cases hc; done) | ((try simp only [hc]); (try simp only [bm] at hc))) | refine zE ?_ | refine zN ?_ | fail)
      exact Qend.three rfl rfl rfl rfl rfl
  · rw [show l.all formed = false by simpa using hall] at r1 ⊢
    rw [V.av_eq] at *
    repeat' (first | refine zA ?_ | refine WQ.cl f.a1.modes ?_ | refine W1.cl f.a1.modes (r1) ?_ | refine WQ.cl f.m.a1.modes ?_ | refine W1.cl f.m.a1.modes (r2) ?_ | refine zB ?_ | (refine zC ?_ ?_ <;> intro hc; all_goals first | (cases hc; done) | ((try simp only [hc]); (try simp only [bm] at hc))) | refine zE ?_ | refine zN ?_ | fail)
    exact Qend.three rfl rfl rfl rfl rfl
end
end Hm

/- Sameness of values and of their lists. Conditions: see each theorem. -/
namespace Hm
open Go (IntKind)
set_option maxHeartbeats 4000000
set_option maxRecDepth 4000
def vsame (a b : V) : Bool := vc a b == 0
theorem vsame_iff {a b : V} : vsame a b = true ↔ a = b := by
  simp only [vsame, beq_iff_eq]
  exact ⟨vc_zero, fun h => by rw [h]; exact vc_self b⟩
theorem vsame_no {a b : V} (h : a ≠ b) : vsame a b = false := by
  cases hs : vsame a b with
  | false => rfl
  | true => exact absurd (vsame_iff.1 hs) h
def lsame (l m : List V) : Bool := lcmp vc l m == 0
theorem lcmp_self (l : List V) : lcmp vc l l = 0 := by
  induction l with
  | nil => rfl
  | cons a l ih => rw [lcmp, vc_self, orI0, ih]
theorem lsame_iff {l m : List V} : lsame l m = true ↔ l = m := by
  simp only [lsame, beq_iff_eq]
  exact ⟨lcmp_eq2 fun a _ b h => vc_zero h, fun h => by rw [h]; exact lcmp_self m⟩
theorem lsame_no {l m : List V} (h : l ≠ m) : lsame l m = false := by
  cases hs : lsame l m with
  | false => rfl
  | true => exact absurd (lsame_iff.1 hs) h
def ssame (l m : List Str) : Bool := decide (l = m)
theorem ssame_iff {l m : List Str} : ssame l m = true ↔ l = m := by simp [ssame]
theorem ssame_no {l m : List Str} (h : l ≠ m) : ssame l m = false := by simp [ssame, h]
section
variable {T : Tab}
theorem sameStr_ret (h : Fn T F.hallmarkkit_SameStrings hallmarkkit_SameStrings.fn) (l m : List Str) (hl : l.length ≤ 1073741824) (hm : m.length ≤ 1073741824) : Ret T F.hallmarkkit_SameStrings [.val (.lst 1 (srow l)), .val (.lst 1 (srow m))] (one (.bool (ssame l m))) := by
  have e1 := srow_len l
  have e2 := srow_len m
  refine Ret.mk h rfl ?_
  by_cases hlen : l.length = m.length
  · have hlen' : (l.length : Int) = m.length := by omega
    repeat' (first | refine zA ?_ | refine zB ?_ | (refine zC ?_ ?_ <;> intro hc; all_goals first | (cases hc; done) | ((try simp only [hc]); (try simp only [bm] at hc))) | refine zE ?_ | refine zN ?_ | fail)
    refine W.listP l (fun i (_ : Unit) s => s.put 5 (.av (.int .i64 (i : Int)))) (fun i _ => l.take i = m.take i) () rfl rfl ?_ ?_
    · intro i x u hx hi hp
      obtain ⟨y, hy⟩ : ∃ y, m[i]? = some y := ⟨m[i]'(by omega), List.getElem?_eq_getElem (by omega)⟩
      repeat' (first | refine zA ?_ | refine zB ?_ | (refine zC ?_ ?_ <;> intro hc; all_goals first | (cases hc; done) | ((try simp only [hc]); (try simp only [bm] at hc))) | refine zE ?_ | refine zN ?_ | fail)
      · refine Qend.boo rfl rfl ?_
        have : l ≠ m := fun e => by subst e; rw [hx] at hy; cases hy; simp_all
        exact (ssame_no this).symm
      · refine ⟨(), ?_, rfl⟩
        rw [List.take_add_one, List.take_add_one, hp, hx, hy]; simp_all
    · intro u hp
      rw [List.take_length, hlen, List.take_length] at hp
      repeat' (first | refine zA ?_ | refine zB ?_ | (refine zC ?_ ?_ <;> intro hc; all_goals first | (cases hc; done) | ((try simp only [hc]); (try simp only [bm] at hc))) | refine zE ?_ | refine zN ?_ | fail)
      exact Qend.boo rfl rfl (ssame_iff.2 hp).symm
  · have : l ≠ m := fun e => hlen (by rw [e])
    have hlen' : ¬ (l.length : Int) = m.length := by omega
    repeat' (first | refine zA ?_ | refine zB ?_ | (refine zC ?_ ?_ <;> intro hc; all_goals first | (cases hc; done) | ((try simp only [hc]); (try simp only [bm] at hc))) | refine zE ?_ | refine zN ?_ | fail)
    exact Qend.boo rfl rfl (ssame_no this).symm
theorem sameVals_of (h : Fn T F.hallmarkkit_SameValues hallmarkkit_SameValues.fn) (hs : Fn T F.hallmarkkit_SameValue hallmarkkit_SameValue.fn) (l m : List V) (hl : l.length ≤ 1073741824) (hm : m.length ≤ 1073741824)
    (ih : ∀ x ∈ l, ∀ y ∈ m, Ret T F.hallmarkkit_SameValue [.val x.av, .val y.av] (one (.bool (vsame x y)))) : Ret T F.hallmarkkit_SameValues [.val (.lst 5 (l.map V.row)), .val (.lst 5 (m.map V.row))] (one (.bool (lsame l m))) := by
  have e1 : (l.map V.row).length = l.length := List.length_map ..
  have e2 : (m.map V.row).length = m.length := List.length_map ..
  refine Ret.mk h rfl ?_
  by_cases hlen : l.length = m.length
  · have hlen' : (l.length : Int) = m.length := by omega
    repeat' (first | refine zA ?_ | refine zB ?_ | (refine zC ?_ ?_ <;> intro hc; all_goals first | (cases hc; done) | ((try simp only [hc]); (try simp only [bm] at hc))) | refine zE ?_ | refine zN ?_ | fail)
    refine W.listP l (fun i (_ : Unit) s => s.put 5 (.av (.int .i64 (i : Int)))) (fun i _ => l.take i = m.take i) () rfl rfl ?_ ?_
    · intro i x u hx hi hp
      obtain ⟨y, hy⟩ : ∃ y, m[i]? = some y := ⟨m[i]'(by omega), List.getElem?_eq_getElem (by omega)⟩
      have r := ih x (List.mem_of_getElem? hx) y (List.mem_of_getElem? hy)
      rw [V.av_eq, V.av_eq] at r
      repeat' (first | refine zA ?_ | refine WQ.cl hs.modes ?_ | refine W1.cl hs.modes (r) ?_ | refine zB ?_ | (refine zC ?_ ?_ <;> intro hc; all_goals first | (cases hc; done) | ((try simp only [hc]); (try simp only [bm] at hc))) | refine zE ?_ | refine zN ?_ | fail)
      · refine Qend.boo rfl rfl (lsame_no fun e => ?_).symm
        subst e; rw [hx] at hy; cases hy
        have := (vsame_iff (a := x) (b := x)).2 rfl
        simp_all
      · refine ⟨(), ?_, rfl⟩
        rw [List.take_add_one, List.take_add_one, hp, hx, hy, (vsame_iff (a := x) (b := y)).1 (by simp_all)]
    · intro u hp
      rw [List.take_length, hlen, List.take_length] at hp
      repeat' (first | refine zA ?_ | refine zB ?_ | (refine zC ?_ ?_ <;> intro hc; all_goals first | (cases hc; done) | ((try simp only [hc]); (try simp only [bm] at hc))) | refine zE ?_ | refine zN ?_ | fail)
      exact Qend.boo rfl rfl (lsame_iff.2 hp).symm
  · have : l ≠ m := fun e => hlen (by rw [e])
    have hlen' : ¬ (l.length : Int) = m.length := by omega
    repeat' (first | refine zA ?_ | refine zB ?_ | (refine zC ?_ ?_ <;> intro hc; all_goals first | (cases hc; done) | ((try simp only [hc]); (try simp only [bm] at hc))) | refine zE ?_ | refine zN ?_ | fail)
    exact Qend.boo rfl rfl (lsame_no this).symm
structure SmFns (T : Tab) : Prop where
  a1 : Fn T F.hallmarkkit_SameValue hallmarkkit_SameValue.fn
  a2 : Fn T F.hallmarkkit_SameValues hallmarkkit_SameValues.fn
  a3 : Fn T F.hallmarkkit_SameStrings hallmarkkit_SameStrings.fn
theorem sameVal_ret (f : SmFns T) : ∀ (a : V), a.bk ≤ 1073741824 → ∀ b : V, b.bk ≤ 1073741824 → Ret T F.hallmarkkit_SameValue [.val a.av, .val b.av] (one (.bool (vsame a b))) := by
  intro a
  induction a using V.ind with
  | h a ih =>
  intro hla b hlb
  have k1 := V.bk_eq a
  have k2 := V.bk_eq b
  have n1 := len_sbk a.keys
  have n2 := len_sbk b.keys
  have n3 := V.len_bks a.items
  have n4 := V.len_bks b.items
  have r1 := sameVals_of f.a2 f.a1 a.items b.items (by omega) (by omega) fun x hx y hy => ih x hx (by have := V.bk_item hx; omega) y (by have := V.bk_item hy; omega)
  have r2 := sameStr_ret f.a3 a.keys b.keys (by omega) (by omega)
  refine Ret.mk f.a1 rfl ?_
  clear ih k1 k2 n1 n2 n3 n4 hla hlb
  have hs := vsame_iff (a := a) (b := b)
  have hs1 := lsame_iff (l := a.items) (m := b.items)
  obtain ⟨k, n, t, is, ks⟩ := a
  obtain ⟨k', n', t', is', ks'⟩ := b
  rw [V.av_eq, V.av_eq]
  simp only [V.kind, V.num, V.text, V.items, V.keys] at *
  simp only [V.mk.injEq] at hs
  have hv : vsame (.mk k n t is ks) (.mk k' n' t' is' ks') = (decide (k = k') && decide (n = n') && decide (t = t') && lsame is is' && ssame ks ks') := by
    rw [Bool.eq_iff_iff, hs]
    simp only [Bool.and_eq_true, decide_eq_true_eq, hs1, ssame_iff]
    constructor
    · rintro ⟨a, b, c, d, e⟩; exact ⟨⟨⟨⟨a, b⟩, c⟩, d⟩, e⟩
    · rintro ⟨⟨⟨⟨a, b⟩, c⟩, d⟩, e⟩; exact ⟨a, b, c, d, e⟩
  rw [hv]
  clear hs hs1 hv
  generalize lsame is is' = q1 at *
  generalize ssame ks ks' = q2 at *
  repeat' (first | refine zA ?_ | refine WQ.cl f.a2.modes ?_ | refine W1.cl f.a2.modes (r1) ?_ | refine WQ.cl f.a3.modes ?_ | refine W1.cl f.a3.modes (r2) ?_ | refine zB ?_ | (refine zC ?_ ?_ <;> intro hc; all_goals first | (cases hc; done) | ((try simp only [hc]); (try simp only [bm] at hc))) | refine zE ?_ | refine zN ?_ | fail)
  all_goals clear r1 r2
  all_goals first | refine Qend.boo rfl rfl ?_ | skip
  all_goals first
    | rfl
    | (simp only [Bool.not_eq_eq_eq_not, Bool.not_true, Bool.not_false, beq_iff_eq, beq_eq_false_iff_ne, decide_eq_true_eq, decide_eq_false_iff_not, ne_eq] at *; simp_all; done)
    | (simp_all; trace_state; done)
    | trace_state
end
end Hm

/- Rows in order: merged, sorted; there is one alone. Conditions: none (plain lemmas). -/
namespace Hm
section
variable {α : Type}
/-- Two rows as one; with fuel. -/
def mrgF (c : α → α → Int) : Nat → List α → List α → List α
  | 0, l, m => l ++ m
  | _ + 1, [], m => m
  | _ + 1, a :: l, [] => a :: l
  | n + 1, a :: l, b :: m => if c b a < 0 then b :: mrgF c n (a :: l) m else a :: mrgF c n l (b :: m)
def mrgG (c : α → α → Int) (l m : List α) : List α := mrgF c (l.length + m.length) l m
theorem mrgG_nilL (c : α → α → Int) (m : List α) : mrgG c [] m = m := by
  cases m <;> simp [mrgG, mrgF]
theorem mrgG_nilR (c : α → α → Int) (l : List α) : mrgG c l [] = l := by
  cases l <;> simp [mrgG, mrgF]
theorem mrgG_cons (c : α → α → Int) (a b : α) (l m : List α) : mrgG c (a :: l) (b :: m) = if c b a < 0 then b :: mrgG c (a :: l) m else a :: mrgG c l (b :: m) := by
  simp only [mrgG, List.length_cons]
  rw [show l.length + 1 + (m.length + 1) = (l.length + 1 + m.length) + 1 by omega, mrgF]
  rw [show l.length + (m.length + 1) = l.length + 1 + m.length by omega]
theorem mrgG_perm (c : α → α → Int) : ∀ (n : Nat) (l m : List α), l.length + m.length ≤ n → (mrgG c l m).Perm (l ++ m)
  | n, [], m, _ => by rw [mrgG_nilL]; exact List.Perm.refl _
  | n, a :: l, [], _ => by rw [mrgG_nilR, List.append_nil]
  | 0, a :: l, b :: m, h => by simp at h
  | n + 1, a :: l, b :: m, h => by
    rw [mrgG_cons]
    simp only [List.length_cons] at h
    split
    · have := mrgG_perm c n (a :: l) m (by simp only [List.length_cons]; omega)
      exact (this.cons b).trans (List.perm_middle.symm)
    · exact (mrgG_perm c n l (b :: m) (by simp only [List.length_cons]; omega)).cons a
def Srt (c : α → α → Int) (l : List α) : Prop := l.Pairwise fun a b => c a b ≤ 0
theorem mrgG_srt {c : α → α → Int} (hc : Pre (fun _ => True) c) : ∀ (n : Nat) (l m : List α), l.length + m.length ≤ n → Srt c l → Srt c m → Srt c (mrgG c l m)
  | n, [], m, _, _, h => by rw [mrgG_nilL]; exact h
  | n, a :: l, [], _, h, _ => by rw [mrgG_nilR]; exact h
  | 0, a :: l, b :: m, h, _, _ => by simp at h
  | n + 1, a :: l, b :: m, h, h1, h2 => by
    rw [mrgG_cons]
    simp only [List.length_cons] at h
    obtain ⟨p1, p2⟩ := List.pairwise_cons.1 h1
    obtain ⟨q1, q2⟩ := List.pairwise_cons.1 h2
    have ha := hc.anti a b trivial trivial
    split
    · rename_i hlt
      refine List.pairwise_cons.2 ⟨fun x hx => ?_, mrgG_srt hc n (a :: l) m (by simp only [List.length_cons]; omega) h1 q2⟩
      have hx' := (mrgG_perm c n (a :: l) m (by simp only [List.length_cons]; omega)).mem_iff.1 hx
      rcases List.mem_append.1 hx' with hx' | hx'
      · rcases List.mem_cons.1 hx' with rfl | hx'
        · omega
        · exact hc.trans b a x trivial trivial trivial (by omega) (p1 x hx')
      · exact q1 x hx'
    · rename_i hge
      refine List.pairwise_cons.2 ⟨fun x hx => ?_, mrgG_srt hc n l (b :: m) (by simp only [List.length_cons]; omega) p2 h2⟩
      have hx' := (mrgG_perm c n l (b :: m) (by simp only [List.length_cons]; omega)).mem_iff.1 hx
      rcases List.mem_append.1 hx' with hx' | hx'
      · exact p1 x hx'
      · rcases List.mem_cons.1 hx' with rfl | hx'
        · omega
        · exact hc.trans a b x trivial trivial trivial (by omega) (q1 x hx')
/-- A row in order. -/
def srtF (c : α → α → Int) : Nat → List α → List α
  | 0, l => l
  | n + 1, l => if l.length < 2 then l else mrgG c (srtF c n (l.take (l.length / 2))) (srtF c n (l.drop (l.length / 2)))
theorem srtF_perm (c : α → α → Int) : ∀ (n : Nat) (l : List α), (srtF c n l).Perm l
  | 0, l => List.Perm.refl _
  | n + 1, l => by
    rw [srtF]
    split
    · exact List.Perm.refl _
    · refine (mrgG_perm c _ _ _ (Nat.le_refl _)).trans ?_
      have := (srtF_perm c n (l.take (l.length / 2))).append (srtF_perm c n (l.drop (l.length / 2)))
      rwa [List.take_append_drop] at this
theorem srtF_srt {c : α → α → Int} (hc : Pre (fun _ => True) c) : ∀ (n : Nat) (l : List α), l.length ≤ n + 1 → Srt c (srtF c n l)
  | 0, l, h => by
    match l, h with
    | [], _ => exact List.Pairwise.nil
    | [a], _ => exact List.pairwise_singleton _ _
  | n + 1, l, h => by
    rw [srtF]
    split
    · rename_i hl
      match l, hl with
      | [], _ => exact List.Pairwise.nil
      | [a], _ => exact List.pairwise_singleton _ _
    · exact mrgG_srt hc _ _ _ (Nat.le_refl _) (srtF_srt hc n _ (by simp; omega)) (srtF_srt hc n _ (by simp; omega))
/-- There is one row in order alone. -/
theorem srt_one {c : α → α → Int} (hc : Pre (fun _ => True) c) (hz : ∀ a b, c a b = 0 → a = b) : ∀ (l m : List α), l.Perm m → Srt c l → Srt c m → l = m
  | [], m, h, _, _ => by rw [List.nil_perm.1 h]
  | a :: l, [], h, _, _ => by simpa using h.length_eq
  | a :: l, b :: m, h, h1, h2 => by
    obtain ⟨p1, p2⟩ := List.pairwise_cons.1 h1
    obtain ⟨q1, q2⟩ := List.pairwise_cons.1 h2
    have ha : a = b := by
      have m1 : a ∈ b :: m := h.mem_iff.1 (by simp)
      have m2 : b ∈ a :: l := h.mem_iff.2 (by simp)
      rcases List.mem_cons.1 m1 with e | m1
      · exact e
      · rcases List.mem_cons.1 m2 with e | m2
        · exact e.symm
        · have := q1 a m1
          have := p1 b m2
          have := hc.anti a b trivial trivial
          exact hz a b (by omega)
    subst ha
    rw [srt_one hc hz l m (List.perm_cons a |>.1 h) p2 q2]
end
theorem srt_rises {l : List V} (h : Srt vc l) : risesV l = true := by
  refine risesV_yes (Nat.le_refl _) fun j hj => ?_
  by_cases hj0 : j = 0
  · subst hj0; rfl
  · have hx : l[j]? = some l[j] := List.getElem?_eq_getElem hj
    have hy : l[j - 1]? = some (l[j - 1]'(by omega)) := List.getElem?_eq_getElem (by omega)
    rw [vle_eq hx hy]
    have := (List.pairwise_iff_getElem.1 h) (j - 1) j (by omega) hj (by omega)
    have := vc_pre.anti l[j] (l[j - 1]'(by omega)) trivial trivial
    have hn : ¬ vc l[j] (l[j - 1]'(by omega)) < 0 := by omega
    simp [hn]
end Hm

/- Values in memory of their own. Conditions: see each theorem. -/
namespace Hm
open Go (IntKind)
set_option maxHeartbeats 4000000
set_option maxRecDepth 4000
def crow (l : List (List AV)) : List (List Cell) := l.map fun r => r.map .av
mutual
def twC : V → List Cell
  | .mk k n t is ks => [.av (.int .i64 k), .av (.str n), .av (.str t), .own 5 (twCs is), .own 1 (crow (srow ks))]
def twCs : List V → List (List Cell)
  | [] => []
  | v :: r => twC v :: twCs r
end
theorem twCs_eq (l : List V) : twCs l = l.map twC := by
  induction l with
  | nil => rfl
  | cons x l ih => simp only [twCs, List.map_cons, ih]
theorem twC_eq (v : V) : twC v = [.av (.int .i64 v.kind), .av (.str v.num), .av (.str v.text), .own 5 (v.items.map twC), .own 1 (crow (srow v.keys))] := by
  cases v with
  | mk k n t is ks => simp only [twC, V.kind, V.num, V.text, V.items, V.keys, twCs_eq]
theorem sealRow_av (r : List AV) : sealRow (r.map .av) = r := by
  induction r with
  | nil => rfl
  | cons x r ih => simp only [List.map_cons, sealRow, Cell.shut, ih]
theorem seal_crow (l : List (List AV)) : sealRows (crow l) = l := by
  induction l with
  | nil => rfl
  | cons x r ih => simp only [crow, List.map_cons, sealRows, sealRow_av] at *; rw [ih]
theorem sealRows_len (l : List (List Cell)) : (sealRows l).length = l.length := by
  induction l with
  | nil => rfl
  | cons x r ih => simp only [sealRows, List.length_cons, ih]
theorem sealRows_mp (l : List (List Cell)) : sealRows l = l.map sealRow := by
  induction l with
  | nil => rfl
  | cons x r ih => simp only [sealRows, List.map_cons, ih]
theorem seal_twC (v : V) : sealRow (twC v) = v.row := by
  induction v using V.ind with
  | h v ih =>
  rw [twC_eq, V.row_eq]
  have : sealRows (v.items.map twC) = v.items.map V.row := by
    generalize v.items = l at ih
    induction l with
    | nil => rfl
    | cons x r ih2 => simp only [List.map_cons, sealRows, ih x (by simp), ih2 (fun y hy => ih y (by simp [hy]))]
  simp only [sealRow, Cell.shut, this, seal_crow]
theorem seal_twCs (l : List V) : sealRows (l.map twC) = l.map V.row := by
  induction l with
  | nil => rfl
  | cons x r ih2 => simp only [List.map_cons, sealRows, seal_twC, ih2]
theorem crow_len (l : List (List AV)) : (crow l).length = l.length := by simp [crow]
/-- What Twin reaches. -/
structure TwFns (T : Tab) : Prop where
  a1 : Fn T F.value_Twin value_Twin.fn
  m1 : T.modes F.slices_Clone_Lstring_string = [.val]
  p1 : T.prim F.slices_Clone_Lstring_string = some (pClone 1)
  m2 : T.modes F.slices_Clone_LValue_Value = [.val]
  p2 : T.prim F.slices_Clone_LValue_Value = some (pClone 5)
theorem clone_prim {T : Tab} {f k : Nat} (hp : T.prim f = some (pClone k)) (rows : List (List AV)) (hl : rows.length ≤ limit) : Ret T f [.val (.lst k rows)] ⟨[([.own k (crow rows)], false)], []⟩ :=
  Ret.prim hp (by simp only [pClone]; rw [if_pos ⟨trivial, hl⟩]; rfl)
/-- The list of items while it is gone through. -/
def twR (l : List V) (i : Nat) : List (List Cell) := (l.take i).map twC ++ crow ((l.drop i).map V.row)
theorem twR_len (l : List V) (i : Nat) : (twR l i).length = l.length := by simp [twR, crow]; omega
theorem twR_get {l : List V} {i : Nat} {x : V} (h : l[i]? = some x) : (twR l i)[i]? = some (x.row.map .av) := by
  have hl : i < l.length := (List.getElem?_eq_some_iff.1 h).1
  rw [twR, crow, List.getElem?_append_right (by simp; omega), List.getElem?_map, List.getElem?_map, List.getElem?_drop, List.length_map, List.length_take, Nat.min_eq_left (by omega)]
  simp [h]
theorem twR_set {l : List V} {i : Nat} {x : V} (h : l[i]? = some x) : (twR l i).set i (twC x) = twR l (i + 1) := by
  have hl : i < l.length := (List.getElem?_eq_some_iff.1 h).1
  have e1 : ((l.take i).map twC).length = i := by rw [List.length_map, List.length_take]; omega
  rw [List.getElem?_eq_getElem hl] at h
  rw [twR, twR, crow, crow, List.set_append_right _ _ (by omega), e1, Nat.sub_self, List.drop_eq_getElem_cons hl, List.map_cons, List.map_cons, List.set_cons_zero, List.take_succ_eq_append_getElem hl, List.map_append, List.append_assoc]
  simp at h
  simp [h]
theorem twR_all (l : List V) : twR l l.length = l.map twC := by simp [twR, crow]
theorem valueTwin_ret {T : Tab} (f : TwFns T) : ∀ v : V, v.bk ≤ 1073741824 → Ret T F.value_Twin [.val v.av] ⟨[(twC v, true)], []⟩ := by
  intro v
  induction v using V.ind with
  | h v ih =>
  intro hb
  have hbk := V.bk_eq v
  have hk := len_sbk v.keys
  have hl := V.len_bks v.items
  have c1 := clone_prim f.p1 (srow v.keys) (by rw [srow_len]; show _ ≤ 4294967296; omega)
  have c2 := clone_prim f.p2 (v.items.map V.row) (by rw [List.length_map]; show _ ≤ 4294967296; omega)
  have lr := sealRows_len (crow (v.items.map V.row))
  rw [crow_len, List.length_map] at lr
  refine Ret.mk f.a1 rfl ?_
  rw [V.av_eq, twC_eq]
  repeat' (first | refine zA ?_ | refine WQ.cl f.m1 ?_ | refine W1.cl f.m1 (c1) ?_ | refine WQ.cl f.m2 ?_ | refine W1.cl f.m2 (c2) ?_ | refine zB ?_ | (refine zC ?_ ?_ <;> intro hc; all_goals first | (cases hc; done) | ((try simp only [hc]); (try simp only [bm] at hc))) | refine zE ?_ | refine zN ?_ | fail)
  refine W.list v.items (fun i (_ : Unit) => ⟨lstE [(1, .plc ⟨.box 1, [], 0⟩), (2, .plc ⟨.box 2, [], 0⟩), (14, .av (.int .i64 ((sealRows (crow (v.items.map V.row))).length : Nat))), (15, .av (.int .i64 (i : Int)))],
    lstB [(1, some [.av (.int .i64 v.kind), .av (.str v.num), .av (.str v.text), .own 5 (twR v.items i), .own 1 (crow (srow v.keys))]), (2, some [.av (.int .i64 0), .av (.str []), .av (.str []), .own 5 [], .own 1 []]), (14, none), (15, none)]⟩) (fun _ _ => True) () rfl trivial ?_ ?_
  · intro i x u hx hi _
    have r := ih x (List.mem_of_getElem? hx) (by have := V.bk_item (List.mem_of_getElem? hx); omega)
    have g1 := twR_len v.items i
    have g2 := twR_get hx
    have g3 := twR_set hx
    have g4 : (x.row.map Cell.av).length = 5 := by rw [V.row_eq]; rfl
    have g5 : x.row.length = 5 := by rw [V.row_eq]; rfl
    rw [twC_eq] at r g3
    repeat' (first | refine zA ?_ | ((apply W1.iadrO; exact rfl; exact rfl; exact rfl; exact rfl; exact rfl; omega; (rw [g1]; omega))) | ((apply W1.loadP (vs := x.row); exact rfl; exact rfl; exact rfl; exact rfl; exact g2; exact g5)) | ((apply W1.storeP (cs' := [.av (.int .i64 v.kind), .av (.str v.num), .av (.str v.text), .own 5 (twR v.items (i + 1)), .own 1 (crow (srow v.keys))]); exact rfl; exact rfl; exact rfl; exact rfl; exact rfl; exact g2; exact rfl; exact g4; (rw [← g3]; rfl))) | refine WQ.cl f.a1.modes ?_ | refine W1.cl f.a1.modes (r) ?_ | refine zB ?_ | (refine zC ?_ ?_ <;> intro hc; all_goals first | (cases hc; done) | ((try simp only [hc]); (try simp only [bm] at hc))) | refine zE ?_ | refine zN ?_ | fail)
    exact ⟨(), trivial, rfl⟩
  · intro u _
    repeat' (first | refine zA ?_ | refine zB ?_ | (refine zC ?_ ?_ <;> intro hc; all_goals first | (cases hc; done) | ((try simp only [hc]); (try simp only [bm] at hc))) | refine zE ?_ | refine zN ?_ | fail)
    exact ⟨.inr rfl, by rw [← twR_all]; rfl, rfl⟩
end Hm

/- Lists of values put in order: the program's twins, merged, sorted. NORMX NORMY Conditions: see each theorem. -/
namespace Hm
open Go (IntKind)
set_option maxHeartbeats 4000000
set_option maxRecDepth 4000
theorem crow_snoc7 {α : Type} {l : List α} {i : Nat} {x : α} (f : α → List AV) (h : l[i]? = some x) : crow ((l.take (i + 1)).map f) = crow ((l.take i).map f) ++ [(f x).map .av] := by
  rw [List.take_add_one, h]; simp [crow]
theorem crow_app (l m : List (List AV)) : crow (l ++ m) = crow l ++ crow m := by simp [crow]
section
variable {T : Tab}
theorem W1.appZ {st st1 st2 : St} {K : St → Prop} {dst : Option Nat} {g : Option (Nat × Bool)} {bytes k k0 : Nat} {x y : Opd} {p : Place} {v0 : List (List AV)} {base rows : List (List Cell)} {r : List Cell} (hg : wanted st g = some true) (hn : appNew st k y = some (rows, st1)) (hr : rows = [r])
    (hx : st1.opd x = .ali (.lst k0 v0) (some p)) (hc : st1.cells p 1 = some [.own k base]) (hw : st1.write p [.dead] = some st2) (hl : base.length + 1 ≤ 4294967296) (hk : K (putD dst (.own [.own k (base ++ [r])] false) st2.hush)) : W1 T ⟨dst, .append bytes k x y, g⟩ st K := by
  subst hr
  refine W1.go hg (WS.op (v := .own [.own k (base ++ [r])] false) (st' := st2.hush) rfl ?_ hk)
  have hl' : base.length + [r].length ≤ limit := hl
  simp only [stepOp, hn, hx, hc, hw]
  rw [if_pos ⟨trivial, hl'⟩]
theorem W1.mks0 {st : St} {K : St → Prop} {dst : Option Nat} {g : Option (Nat × Bool)} {zero : List Cell} {c : Opd} {m : Int} (hg : wanted st g = some true) (hc : st.opd c = .av (.int .i64 m)) (h0 : 0 ≤ m) (h1 : m ≤ 4294967296)
    (hk : K (putD dst (.own [.own zero.length []] false) st)) : W1 T ⟨dst, .mks zero (.v (.int .i64 0)) c, g⟩ st K := by
  refine W1.go hg (WS.op (v := .own [.own zero.length []] false) (st' := st) rfl ?_ hk)
  have hy : st.opd (.v (.int .i64 0)) = .av (.int .i64 0) := rfl
  simp only [stepOp, hc, hy]
  rw [if_pos ⟨Int.le_refl _, h0, h1⟩]; rfl
theorem W1.slcZ {st : St} {K : St → Prop} {dst : Option Nat} {g : Option (Nat × Bool)} {k : Nat} {x : Opd} {r0 : List AV} {rows : List (List AV)} (hg : wanted st g = some true) (hx : st.opd x = .av (.lst k (r0 :: rows)))
    (hk : K (putD dst (.av (.lst k rows)) st)) : W1 T ⟨dst, .slc false k x (some (.v (.int .i64 1))) none, g⟩ st K := by
  refine W1.go hg (WS.op (v := .av (.lst k rows)) (st' := st) rfl ?_ hk)
  have e : (TV.av (.lst k (r0 :: rows))).rd = some (.lst k (r0 :: rows)) := rfl
  have b1 : st.bnd 0 (some (.v (.int .i64 1))) = some 1 := rfl
  have b2 : st.bnd (r0 :: rows).length none = some (r0 :: rows).length := rfl
  simp only [stepOp, hx, e, b1, b2]
  rw [if_pos ⟨trivial, by simp, Nat.le_refl _⟩, List.take_length]
  rfl
theorem otwins_ret (h : Fn T F.order_twins order_twins.fn) (f : TwFns T) (l : List V) (hb : V.bks l ≤ 1073741824) : Ret T F.order_twins [.val (.lst 5 (l.map V.row))] ⟨[([.own 5 (crow (l.map V.row))], false)], []⟩ := by
  have e1 : (l.map V.row).length = l.length := List.length_map ..
  have hbl := V.len_bks l
  refine Ret.mk h rfl ?_
  repeat' (first | refine zA ?_ | refine zB ?_ | (refine zC ?_ ?_ <;> intro hc; all_goals first | (cases hc; done) | ((try simp only [hc]); (try simp only [bm] at hc))) | refine zE ?_ | refine zNV ?_ | fail)
  refine W.list l (fun i (_ : Unit) => ⟨lstE [(3, .own [.own 5 (crow ((l.take i).map V.row))] false), (6, .av (.lst 5 (l.map V.row))), (7, .av (.int .i64 (l.length : Nat))), (8, .av (.int .i64 (i : Int)))], lstB [(3, none), (6, none), (7, none), (8, none)]⟩) (fun _ _ => True) () rfl trivial ?_ ?_
  · intro i x u hx hi _
    have r := valueTwin_ret f x (by have := bks_le (List.mem_of_getElem? hx); omega)
    have hC := seal_twC x
    have e := crow_snoc7 V.row hx
    have el := crow_len ((l.take i).map V.row)
    rw [List.length_map, List.length_take] at el
    rw [V.row_eq x] at e hC
    rw [V.av_eq] at r
    generalize crow ((l.take i).map V.row) = K0 at *
    repeat' (first | refine zA ?_ | (refine W1.bL ?_) | (refine W1.cd1 f.a1.modes hC r ?_) | ((apply W1.append1; (iterate 4 exact rfl); omega)) | refine zB ?_ | (refine zC ?_ ?_ <;> intro hc; all_goals first | (cases hc; done) | ((try simp only [hc]); (try simp only [bm] at hc))) | refine zE ?_ | refine zNV ?_ | fail)
    refine ⟨(), trivial, ?_⟩
    rw [e]
    rfl
  · intro u _
    repeat' (first | refine zA ?_ | refine zB ?_ | (refine zC ?_ ?_ <;> intro hc; all_goals first | (cases hc; done) | ((try simp only [hc]); (try simp only [bm] at hc))) | refine zE ?_ | refine zNV ?_ | fail)
    refine ⟨.inr rfl, ?_, rfl⟩
    rw [List.take_length]; rfl
theorem omerged_ret (h : Fn T F.order_merged_Value order_merged_Value.fn) {c : V → V → Int} {g : Nat} (hg : T.modes g = [.val, .val]) (a b : List V) (hl : a.length + b.length ≤ 1073741824)
    (ih : ∀ x ∈ a ++ b, ∀ y ∈ a ++ b, Ret T g [.val x.av, .val y.av] (one (.int .i64 (c x y)))) :
    Ret T F.order_merged_Value [.val (.lst 5 (a.map V.row)), .val (.lst 5 (b.map V.row)), .val (.clo g [] [])] ⟨[([.own 5 (crow ((mrgG c a b).map V.row))], false)], []⟩ := by
  have e1 : (a.map V.row).length = a.length := List.length_map ..
  have e2 : (b.map V.row).length = b.length := List.length_map ..
  refine Ret.mk h rfl ?_
  repeat' (first | refine zA ?_ | ((apply W1.mks0; exact rfl; exact rfl; omega; omega)) | refine zB ?_ | (refine zC ?_ ?_ <;> intro hc; all_goals first | (cases hc; done) | ((try simp only [hc]); (try simp only [bm] at hc))) | refine zE ?_ | refine zNV ?_ | fail)
  refine W.iter (β := List V × List V × List V) (fun s => ⟨lstE [(0, .av (.lst 5 (s.1.map V.row))), (1, .av (.lst 5 (s.2.1.map V.row))), (2, .av (.clo g [] [])), (7, .own [.own 5 (crow (s.2.2.map V.row))] false)], lstB [(0, none), (1, none), (2, none), (7, none)]⟩)
    (fun s => s.2.2 ++ mrgG c s.1 s.2.1 = mrgG c a b ∧ (∀ x ∈ s.1, x ∈ a ++ b) ∧ (∀ x ∈ s.2.1, x ∈ a ++ b) ∧ s.1.length + s.2.1.length + s.2.2.length = a.length + b.length) (fun s => s.1.length + s.2.1.length) (a, b, []) ?_ ?_ ?_
  · rfl
  · exact ⟨rfl, fun x hx => List.mem_append_left _ hx, fun x hx => List.mem_append_right _ hx, by simp⟩
  · rintro ⟨p, q, o⟩ ⟨p1, p2, p3, p4⟩
    simp only at p1 p2 p3 p4
    have el := crow_len (o.map V.row)
    rw [List.length_map] at el
    have fin : p = [] ∨ q = [] → (mrgG c a b) = o ++ p ++ q := fun h => by
      rw [← p1]
      rcases h with rfl | rfl
      · rw [mrgG_nilL]; simp
      · rw [mrgG_nilR]; simp
    cases p with
    | nil =>
      have hfin := fin (.inl rfl)
      rw [hfin]
      simp only [List.map_append, crow_app]
      have el2 : (crow (q.map V.row)).length = q.length := by rw [crow_len, List.length_map]
      repeat' (first | refine zA ?_ | ((apply W1.appendO; (iterate 3 exact rfl); (simp only [crow_len, List.length_map, List.length_append, List.length_nil, List.length_cons, List.map_nil, limit] at *; omega))) | refine zB ?_ | (refine zC ?_ ?_ <;> intro hc; all_goals first | (cases hc; done) | ((try simp only [hc]); (try simp only [bm] at hc))) | refine zE ?_ | refine zNV ?_ | fail)
      all_goals first | exact ⟨.inr rfl, rfl, rfl⟩ | (exfalso; simp at *; omega) | trace_state
    | cons x p =>
      cases q with
      | nil =>
        have hfin := fin (.inr rfl)
        rw [hfin]
        simp only [List.map_append, crow_app]
        have el2 : (crow (p.map V.row)).length = p.length := by rw [crow_len, List.length_map]
        repeat' (first | refine zA ?_ | ((apply W1.appendO; (iterate 3 exact rfl); (simp only [crow_len, List.length_map, List.length_append, List.length_nil, List.length_cons, List.map_nil, limit] at *; omega))) | refine zB ?_ | (refine zC ?_ ?_ <;> intro hc; all_goals first | (cases hc; done) | ((try simp only [hc]); (try simp only [bm] at hc))) | refine zE ?_ | refine zNV ?_ | fail)
        all_goals first | exact ⟨.inr rfl, rfl, rfl⟩ | (exfalso; simp at *; omega) | trace_state
      | cons y q =>
        have r := ih y (p3 y (by simp)) x (p2 x (by simp))
        have e := mrgG_cons c x y p q
        rw [V.av_eq, V.av_eq] at r
        simp only [List.map_cons, List.length_cons] at *
        have gx : (V.row x :: p.map V.row)[Int.toNat 0]? = some [AV.int .i64 x.kind, AV.str x.num, AV.str x.text, AV.lst 5 (x.items.map V.row), AV.lst 1 (srow x.keys)] := by rw [← V.row_eq]; rfl
        have gy : (V.row y :: q.map V.row)[Int.toNat 0]? = some [AV.int .i64 y.kind, AV.str y.num, AV.str y.text, AV.lst 5 (y.items.map V.row), AV.lst 1 (srow y.keys)] := by rw [← V.row_eq]; rfl
        repeat' (first | refine zA ?_ | (refine W1.bL ?_) | ((apply W1.slcZ; exact rfl; exact rfl)) | ((apply W1.appZ; (iterate 6 exact rfl); omega)) | refine WQ.cl hg ?_ | refine W1.cl hg (r) ?_ | refine zB ?_ | (refine zC ?_ ?_ <;> intro hc; all_goals first | (cases hc; done) | ((try simp only [hc]); (try simp only [bm] at hc))) | refine zE ?_ | refine zNV ?_ | fail)
        all_goals clear r ih
        · refine ⟨(x :: p, q, o ++ [y]), ⟨?_, ?_, ?_, ?_⟩, ?_, ?_⟩
          · show (o ++ [y]) ++ mrgG c (x :: p) q = mrgG c a b
            rw [← p1, e, if_pos (by assumption)]; simp
          · exact p2
          · exact fun z hz => p3 z (List.mem_cons_of_mem _ hz)
          · show (x :: p).length + q.length + (o ++ [y]).length = _
            simp only [List.length_cons, List.length_append, List.length_nil] at *; omega
          · show (x :: p).length + q.length < _
            simp only [List.length_cons]; omega
          · have e3 : crow ((o ++ [y]).map V.row) = crow (o.map V.row) ++ [(V.row y).map .av] := by simp [crow]
            dsimp only
            rw [e3, V.row_eq y]
            rfl
        · refine ⟨(p, y :: q, o ++ [x]), ⟨?_, ?_, ?_, ?_⟩, ?_, ?_⟩
          · show (o ++ [x]) ++ mrgG c p (y :: q) = mrgG c a b
            rw [← p1, e, if_neg (by omega)]; simp
          · exact fun z hz => p2 z (List.mem_cons_of_mem _ hz)
          · exact p3
          · show p.length + (y :: q).length + (o ++ [x]).length = _
            simp only [List.length_cons, List.length_append, List.length_nil] at *; omega
          · show p.length + (y :: q).length < _
            simp only [List.length_cons]; omega
          · have e3 : crow ((o ++ [x]).map V.row) = crow (o.map V.row) ++ [(V.row x).map .av] := by simp [crow]
            dsimp only
            rw [e3, V.row_eq x]
            rfl
        all_goals (exfalso; simp only [List.length_cons] at *; omega)
theorem W1.slcT7 {st : St} {K : St → Prop} {dst : Option Nat} {g : Option (Nat × Bool)} {k : Nat} {x hi : Opd} {rows : List (List AV)} {n : Int} {m : Nat} (hg : wanted st g = some true) (hx : st.opd x = .av (.lst k rows)) (hh : st.opd hi = .av (.int .i64 n)) (hn : n = (m : Int)) (hm : m ≤ rows.length)
    (hk : K (putD dst (.av (.lst k (rows.take m))) st)) : W1 T ⟨dst, .slc false k x none (some hi), g⟩ st K := by
  refine W1.go hg (WS.op (v := .av (.lst k (rows.take m))) (st' := st) rfl ?_ hk)
  subst hn
  have e : (TV.av (.lst k rows)).rd = some (.lst k rows) := rfl
  have b1 : st.bnd 0 none = some 0 := rfl
  have b2 : st.bnd rows.length (some hi) = some m := by simp only [St.bnd, hh, idx]; simp
  simp only [stepOp, hx, e, b1, b2]
  rw [if_pos ⟨trivial, Nat.zero_le _, hm⟩, List.drop_zero]
theorem W1.slcD7 {st : St} {K : St → Prop} {dst : Option Nat} {g : Option (Nat × Bool)} {k : Nat} {x lo : Opd} {rows : List (List AV)} {n : Int} {m : Nat} (hg : wanted st g = some true) (hx : st.opd x = .av (.lst k rows)) (hh : st.opd lo = .av (.int .i64 n)) (hn : n = (m : Int)) (hm : m ≤ rows.length)
    (hk : K (putD dst (.av (.lst k (rows.drop m))) st)) : W1 T ⟨dst, .slc false k x (some lo) none, g⟩ st K := by
  refine W1.go hg (WS.op (v := .av (.lst k (rows.drop m))) (st' := st) rfl ?_ hk)
  subst hn
  have e : (TV.av (.lst k rows)).rd = some (.lst k rows) := rfl
  have b1 : st.bnd 0 (some lo) = some m := by simp only [St.bnd, hh, idx]; simp
  have b2 : st.bnd rows.length none = some rows.length := rfl
  simp only [stepOp, hx, e, b1, b2]
  rw [if_pos ⟨trivial, hm, Nat.le_refl _⟩, List.take_length]
/-- A call whose one result, a list, is sealed. -/
theorem W1.callL7 {st st' : St} {K : St → Prop} {dst : Option Nat} {gd : Option (Nat × Bool)} {f : Opd} {xs : List Opd} {g k : Nat} {first cs : List AV} {t0 t : Bool} {ms : List PMode} {l : List Arg} {ks : List Nat} {rows : List (List AV)} {cell : Cell} (hC : cell.shut = .lst k rows)
    (hg : wanted st gd = some true) (hf : (st.opd f).fn = some (g, first, cs, t0)) (hm : T.modes g = ms) (ha : args st (ms.drop first.length) xs = some (l, t, ks, st')) (hio : hasIo l = false) (hmv : hasMv l = false)
    (hr : Ret T g (first.map .val ++ l ++ cs.map .val) ⟨[([cell], false)], []⟩) (ht : (t0 || t) = false) (hk : K (putD dst (.av (.lst k rows)) st')) : W1 T ⟨dst, .call .deep f xs, gd⟩ st K := by
  refine W1.callV hg hf hm ha hio hmv hr (by rw [ht]; rfl) ?_
  show K (putD dst (.av cell.shut) st')
  rw [hC]; exact hk
theorem shut_crow (k : Nat) (rows : List (List AV)) : (Cell.own k (crow rows)).shut = .lst k rows := by rw [Cell.shut, seal_crow]
theorem osorted_ret (h : Fn T F.order_sorted_Value order_sorted_Value.fn) (h2 : Fn T F.order_merged_Value order_merged_Value.fn) {c : V → V → Int} {g : Nat} (hg : T.modes g = [.val, .val]) :
    ∀ (n : Nat) (l : List V), l.length ≤ n + 1 → l.length ≤ 1073741824 → (∀ x ∈ l, ∀ y ∈ l, Ret T g [.val x.av, .val y.av] (one (.int .i64 (c x y)))) →
    ∃ cell : Cell, cell.shut = .lst 5 ((srtF c n l).map V.row) ∧ Ret T F.order_sorted_Value [.val (.lst 5 (l.map V.row)), .val (.clo g [] [])] ⟨[([cell], false)], []⟩ := by
  intro n
  induction n with
  | zero =>
    intro l hn hl ih
    have e1 : (l.map V.row).length = l.length := List.length_map ..
    have e2 : srtF c 0 l = l := rfl
    rw [e2]
    refine ⟨_, shut_crow 5 _, Ret.mk h rfl ?_⟩
    repeat' (first | refine zA ?_ | ((apply W1.appendO; (iterate 3 exact rfl); (simp only [crow_len, List.length_map, List.length_append, List.length_nil, List.length_cons, List.map_nil, limit] at *; omega))) | refine zB ?_ | (refine zC ?_ ?_ <;> intro hc; all_goals first | (cases hc; done) | ((try simp only [hc]); (try simp only [bm] at hc))) | refine zE ?_ | refine zNV ?_ | fail)
    all_goals first | exact ⟨.inr rfl, rfl, rfl⟩ | (exfalso; simp at *; omega) | trace_state
  | succ n IH =>
    intro l hn hl ih
    have e1 : (l.map V.row).length = l.length := List.length_map ..
    by_cases h2l : l.length < 2
    · have e2 : srtF c (n + 1) l = l := by rw [srtF, if_pos h2l]
      rw [e2]
      refine ⟨_, shut_crow 5 _, Ret.mk h rfl ?_⟩
      repeat' (first | refine zA ?_ | ((apply W1.appendO; (iterate 3 exact rfl); (simp only [crow_len, List.length_map, List.length_append, List.length_nil, List.length_cons, List.map_nil, limit] at *; omega))) | refine zB ?_ | (refine zC ?_ ?_ <;> intro hc; all_goals first | (cases hc; done) | ((try simp only [hc]); (try simp only [bm] at hc))) | refine zE ?_ | refine zNV ?_ | fail)
      all_goals first | exact ⟨.inr rfl, rfl, rfl⟩ | (exfalso; simp at *; omega) | trace_state
    · have e2 : srtF c (n + 1) l = mrgG c (srtF c n (l.take (l.length / 2))) (srtF c n (l.drop (l.length / 2))) := by rw [srtF, if_neg h2l]
      rw [e2]
      have p1 := srtF_perm c n (l.take (l.length / 2))
      have p2 := srtF_perm c n (l.drop (l.length / 2))
      obtain ⟨c1, s1, r1⟩ := IH (l.take (l.length / 2)) (by simp; omega) (by simp; omega) fun x hx y hy => ih x (List.mem_of_mem_take hx) y (List.mem_of_mem_take hy)
      obtain ⟨c2, s2, r2⟩ := IH (l.drop (l.length / 2)) (by simp; omega) (by simp; omega) fun x hx y hy => ih x (List.mem_of_mem_drop hx) y (List.mem_of_mem_drop hy)
      have mm : ∀ x ∈ srtF c n (l.take (l.length / 2)) ++ srtF c n (l.drop (l.length / 2)), x ∈ l := fun x hx => by
        rcases List.mem_append.1 hx with hx | hx
        · exact List.mem_of_mem_take (p1.mem_iff.1 hx)
        · exact List.mem_of_mem_drop (p2.mem_iff.1 hx)
      have r3 := omerged_ret h2 hg (srtF c n (l.take (l.length / 2))) (srtF c n (l.drop (l.length / 2))) (by rw [p1.length_eq, p2.length_eq]; simp; omega) fun x hx y hy => ih x (mm x hx) y (mm y hy)
      rw [List.map_take] at r1
      rw [List.map_drop] at r2
      refine ⟨.av (.lst 5 _), rfl, Ret.mk h rfl ?_⟩
      have hq : (l.length : Int) / 2 = ((l.length / 2 : Nat) : Int) := by omega
      repeat' (first | refine zA ?_ | (refine WQ.cl h.modes ?_) | (refine WQ.cl h2.modes ?_) | ((apply W1.half2; exact rfl; exact rfl; omega; omega)) | ((apply W1.slcT7 (hn := hq); exact rfl; exact rfl; exact rfl; simp; omega)) | ((apply W1.slcD7 (hn := hq); exact rfl; exact rfl; exact rfl; simp; omega)) | ((apply W1.callL7 (hm := h.modes) s1; (iterate 5 exact rfl); exact r1; exact rfl)) | ((apply W1.callL7 (hm := h.modes) s2; (iterate 5 exact rfl); exact r2; exact rfl)) | ((apply W1.callL7 (hm := h2.modes) (shut_crow 5 _); (iterate 5 exact rfl); exact r3; exact rfl)) | refine zB ?_ | (refine zC ?_ ?_ <;> intro hc; all_goals first | (cases hc; done) | ((try simp only [hc]); (try simp only [bm] at hc))) | refine zE ?_ | refine zNV ?_ | fail)
      all_goals first | exact ⟨.inr rfl, rfl, rfl⟩ | (exfalso; simp at *; omega) | trace_state
end
end Hm

/- Merged of sorted is sorted of both: the law. NORMX NORMY Conditions: see each theorem. -/
namespace Hm
open Go (IntKind)
set_option maxHeartbeats 4000000
set_option maxRecDepth 4000
theorem bks_perm {l m : List V} (h : l.Perm m) : V.bks l = V.bks m := by
  induction h with
  | nil => rfl
  | cons x _ ih => simp only [V.bks, ih]
  | swap x y l => simp only [V.bks]; omega
  | trans _ _ h1 h2 => rw [h1, h2]
theorem bks_app (l m : List V) : V.bks (l ++ m) = V.bks l + V.bks m := by
  induction l with
  | nil => simp [V.bks]
  | cons x l ih => simp only [List.cons_append, V.bks, ih]; omega
def srtV (l : List V) : List V := srtF vc l.length l
theorem srtV_perm (l : List V) : (srtV l).Perm l := srtF_perm vc l.length l
theorem srtV_srt (l : List V) : Srt vc (srtV l) := srtF_srt vc_pre l.length l (by omega)
theorem all_perm {l m : List V} (h : l.Perm m) (p : V → Bool) : l.all p = m.all p := by
  rw [Bool.eq_iff_iff, List.all_eq_true, List.all_eq_true]
  exact ⟨fun a x hx => a x (h.mem_iff.2 hx), fun a x hx => a x (h.mem_iff.1 hx)⟩
theorem srtV_mrg (a b : List V) : mrgG vc (srtV a) (srtV b) = srtV (a ++ b) :=
  srt_one vc_pre (fun a b => vc_zero) _ _ ((mrgG_perm vc _ _ _ (Nat.le_refl _)).trans (((srtV_perm a).append (srtV_perm b)).trans (srtV_perm (a ++ b)).symm))
    (mrgG_srt vc_pre _ _ _ (Nat.le_refl _) (srtV_srt a) (srtV_srt b)) (srtV_srt (a ++ b))
section
variable {T : Tab}
structure OsFns (T : Tab) : Prop where
  o : OrFns T
  t : TwFns T
  a1 : Fn T F.order_twins order_twins.fn
  a2 : Fn T F.order_sorted_Value order_sorted_Value.fn
  a3 : Fn T F.order_merged_Value order_merged_Value.fn
  a4 : Fn T F.order_Sort order_Sort.fn
  a5 : Fn T F.order_Merge order_Merge.fn
theorem cmps_ret (f : OsFns T) {l : List V} (hb : V.bks l ≤ 1073741824) (hall : l.all formed = true) : ∀ x ∈ l, ∀ y ∈ l, Ret T F.value_Cmp [.val x.av, .val y.av] (one (.int .i64 (vc x y))) := fun x hx y hy =>
  valueCmp_ret f.o.v x (by have := bks_le hx; omega) (List.all_eq_true.1 hall x hx) y (by have := bks_le hy; omega) (List.all_eq_true.1 hall y hy)
theorem osort_ret (f : OsFns T) (l : List V) (hb : V.bks l ≤ 1073741824) (hall : l.all formed = true) : Ret T F.order_Sort [.val (.lst 5 (l.map V.row))] (two (.lst 5 ((srtV l).map V.row)) (.int .i64 0)) := by
  have hbl := V.len_bks l
  have r1 := oformed_ret f.o [l] (by simp) (by simpa using hb)
  simp only [List.all_cons, List.all_nil, Bool.and_true, lls, List.map_cons, List.map_nil] at r1
  rw [hall] at r1
  have r2 := otwins_ret f.a1 f.t l hb
  obtain ⟨c3, s3, r3⟩ := osorted_ret f.a2 f.a3 (c := vc) (g := F.value_Cmp) f.o.v.a1.modes l.length l (by omega) (by omega) (cmps_ret f hb hall)
  refine Ret.mk f.a4 rfl ?_
  repeat' (first | refine zA ?_ | refine WQ.cl f.o.a1.modes ?_ | refine W1.cl f.o.a1.modes (r1) ?_ | ((apply W1.callL7 (hm := f.a1.modes) (shut_crow 5 _); (iterate 5 exact rfl); exact r2; exact rfl)) | ((apply W1.callL7 (hm := f.a2.modes) s3; (iterate 5 exact rfl); exact r3; exact rfl)) | refine zB ?_ | (refine zC ?_ ?_ <;> intro hc; all_goals first | (cases hc; done) | ((try simp only [hc]); (try simp only [bm] at hc))) | refine zE ?_ | refine zNV ?_ | fail)
  all_goals first | exact Qend.two rfl rfl rfl rfl | (exfalso; simp_all; done) | trace_state
theorem omerge_ret (f : OsFns T) (a b : List V) (hb : V.bks a + V.bks b ≤ 1073741824) (ha : a.all formed = true) (hb' : b.all formed = true) (ra : risesV a = true) (rb : risesV b = true) :
    Ret T F.order_Merge [.val (.lst 5 (a.map V.row)), .val (.lst 5 (b.map V.row))] (two (.lst 5 ((mrgG vc a b).map V.row)) (.int .i64 0)) := by
  have hla := V.len_bks a
  have hlb := V.len_bks b
  have r1 := oformed_ret f.o [a, b] (by simp) (fun l hl => by
    simp only [List.mem_cons, List.not_mem_nil, or_false] at hl
    rcases hl with rfl | rfl <;> omega)
  simp only [List.all_cons, List.all_nil, Bool.and_true, lls, List.map_cons, List.map_nil] at r1
  rw [ha, hb'] at r1
  have r2 := orises_ret f.o a (by omega) ha
  have r3 := orises_ret f.o b (by omega) hb'
  rw [ra] at r2
  rw [rb] at r3
  have r4 := otwins_ret f.a1 f.t a (by omega)
  have r5 := otwins_ret f.a1 f.t b (by omega)
  have hall : (a ++ b).all formed = true := by rw [List.all_append, ha, hb']; rfl
  have r6 := omerged_ret f.a3 (c := vc) (g := F.value_Cmp) f.o.v.a1.modes a b (by omega) (cmps_ret f (by rw [bks_app]; omega) hall)
  refine Ret.mk f.a5 rfl ?_
  repeat' (first | refine zA ?_ | refine WQ.cl f.o.a1.modes ?_ | refine W1.cl f.o.a1.modes (r1) ?_ | refine WQ.cl f.o.a7.modes ?_ | refine W1.cl f.o.a7.modes (r2) ?_ | refine WQ.cl f.o.a7.modes ?_ | refine W1.cl f.o.a7.modes (r3) ?_ | ((apply W1.callL7 (hm := f.a1.modes) (shut_crow 5 _); (iterate 5 exact rfl); exact r4; exact rfl)) | ((apply W1.callL7 (hm := f.a1.modes) (shut_crow 5 _); (iterate 5 exact rfl); exact r5; exact rfl)) | ((apply W1.callL7 (hm := f.a3.modes) (shut_crow 5 _); (iterate 5 exact rfl); exact r6; exact rfl)) | refine zB ?_ | (refine zC ?_ ?_ <;> intro hc; all_goals first | (cases hc; done) | ((try simp only [hc]); (try simp only [bm] at hc))) | refine zE ?_ | refine zNV ?_ | fail)
  all_goals first | exact Qend.two rfl rfl rfl rfl | (exfalso; simp_all; done) | trace_state
end
end Hm

/- Sameness of lists. NORMX NORMY Conditions: see each theorem. -/
namespace Hm
open Go (IntKind)
set_option maxHeartbeats 4000000
set_option maxRecDepth 4000
section
variable {T : Tab}
theorem sameVals_ret (s : SmFns T) (l m : List V) (hl : V.bks l ≤ 1073741824) (hm : V.bks m ≤ 1073741824) : Ret T F.hallmarkkit_SameValues [.val (.lst 5 (l.map V.row)), .val (.lst 5 (m.map V.row))] (one (.bool (lsame l m))) := by
  have h1 := V.len_bks l
  have h2 := V.len_bks m
  exact sameVals_of s.a2 s.a1 l m (by omega) (by omega) fun x hx y hy => sameVal_ret s x (by have := bks_le hx; omega) y (by have := bks_le hy; omega)
end
end Hm

/- Lists of pairs put in order: the program's merged, sorted. NORMX NORMY Conditions: see each theorem. -/
namespace Hm
open Go (IntKind)
set_option maxHeartbeats 4000000
set_option maxRecDepth 4000
def prow (p : V × V) : List AV := p.1.row ++ p.2.row
theorem prow_eq (p : V × V) : prow p = [AV.int .i64 p.1.kind, AV.str p.1.num, AV.str p.1.text, AV.lst 5 (p.1.items.map V.row), AV.lst 1 (srow p.1.keys), AV.int .i64 p.2.kind, AV.str p.2.num, AV.str p.2.text, AV.lst 5 (p.2.items.map V.row), AV.lst 1 (srow p.2.keys)] := by rw [prow, V.row_eq, V.row_eq]; rfl
section
variable {T : Tab}
theorem pmerged_ret (h : Fn T F.order_merged_order_pair order_merged_order_pair.fn) {c : V × V → V × V → Int} {g : Nat} (hg : T.modes g = [.val, .val]) (a b : List (V × V)) (hl : a.length + b.length ≤ 1073741824)
    (ih : ∀ x ∈ a ++ b, ∀ y ∈ a ++ b, Ret T g [.val (.agg (prow x)), .val (.agg (prow y))] (one (.int .i64 (c x y)))) :
    Ret T F.order_merged_order_pair [.val (.lst 10 (a.map prow)), .val (.lst 10 (b.map prow)), .val (.clo g [] [])] ⟨[([.own 10 (crow ((mrgG c a b).map prow))], false)], []⟩ := by
  have e1 : (a.map prow).length = a.length := List.length_map ..
  have e2 : (b.map prow).length = b.length := List.length_map ..
  refine Ret.mk h rfl ?_
  repeat' (first | refine zA ?_ | ((apply W1.mks0; exact rfl; exact rfl; omega; omega)) | refine zB ?_ | (refine zC ?_ ?_ <;> intro hc; all_goals first | (cases hc; done) | ((try simp only [hc]); (try simp only [bm] at hc))) | refine zE ?_ | refine zNV ?_ | fail)
  refine W.iter (β := List (V × V) × List (V × V) × List (V × V)) (fun s => ⟨lstE [(0, .av (.lst 10 (s.1.map prow))), (1, .av (.lst 10 (s.2.1.map prow))), (2, .av (.clo g [] [])), (7, .own [.own 10 (crow (s.2.2.map prow))] false)], lstB [(0, none), (1, none), (2, none), (7, none)]⟩)
    (fun s => s.2.2 ++ mrgG c s.1 s.2.1 = mrgG c a b ∧ (∀ x ∈ s.1, x ∈ a ++ b) ∧ (∀ x ∈ s.2.1, x ∈ a ++ b) ∧ s.1.length + s.2.1.length + s.2.2.length = a.length + b.length) (fun s => s.1.length + s.2.1.length) (a, b, []) ?_ ?_ ?_
  · rfl
  · exact ⟨rfl, fun x hx => List.mem_append_left _ hx, fun x hx => List.mem_append_right _ hx, by simp⟩
  · rintro ⟨p, q, o⟩ ⟨p1, p2, p3, p4⟩
    simp only at p1 p2 p3 p4
    have el := crow_len (o.map prow)
    rw [List.length_map] at el
    have fin : p = [] ∨ q = [] → (mrgG c a b) = o ++ p ++ q := fun h => by
      rw [← p1]
      rcases h with rfl | rfl
      · rw [mrgG_nilL]; simp
      · rw [mrgG_nilR]; simp
    cases p with
    | nil =>
      have hfin := fin (.inl rfl)
      rw [hfin]
      simp only [List.map_append, crow_app]
      have el2 : (crow (q.map prow)).length = q.length := by rw [crow_len, List.length_map]
      repeat' (first | refine zA ?_ | ((apply W1.appendO; (iterate 3 exact rfl); (simp only [crow_len, List.length_map, List.length_append, List.length_nil, List.length_cons, List.map_nil, limit] at *; omega))) | refine zB ?_ | (refine zC ?_ ?_ <;> intro hc; all_goals first | (cases hc; done) | ((try simp only [hc]); (try simp only [bm] at hc))) | refine zE ?_ | refine zNV ?_ | fail)
      all_goals first | exact ⟨.inr rfl, rfl, rfl⟩ | (exfalso; simp at *; omega) | trace_state
    | cons x p =>
      cases q with
      | nil =>
        have hfin := fin (.inr rfl)
        rw [hfin]
        simp only [List.map_append, crow_app]
        have el2 : (crow (p.map prow)).length = p.length := by rw [crow_len, List.length_map]
        repeat' (first | refine zA ?_ | ((apply W1.appendO; (iterate 3 exact rfl); (simp only [crow_len, List.length_map, List.length_append, List.length_nil, List.length_cons, List.map_nil, limit] at *; omega))) | refine zB ?_ | (refine zC ?_ ?_ <;> intro hc; all_goals first | (cases hc; done) | ((try simp only [hc]); (try simp only [bm] at hc))) | refine zE ?_ | refine zNV ?_ | fail)
        all_goals first | exact ⟨.inr rfl, rfl, rfl⟩ | (exfalso; simp at *; omega) | trace_state
      | cons y q =>
        have r := ih y (p3 y (by simp)) x (p2 x (by simp))
        have e := mrgG_cons c x y p q
        rw [prow_eq, prow_eq] at r
        simp only [List.map_cons, List.length_cons] at *
        have gx : (prow x :: p.map prow)[Int.toNat 0]? = some [AV.int .i64 x.1.kind, AV.str x.1.num, AV.str x.1.text, AV.lst 5 (x.1.items.map V.row), AV.lst 1 (srow x.1.keys), AV.int .i64 x.2.kind, AV.str x.2.num, AV.str x.2.text, AV.lst 5 (x.2.items.map V.row), AV.lst 1 (srow x.2.keys)] := by rw [← prow_eq]; rfl
        have gy : (prow y :: q.map prow)[Int.toNat 0]? = some [AV.int .i64 y.1.kind, AV.str y.1.num, AV.str y.1.text, AV.lst 5 (y.1.items.map V.row), AV.lst 1 (srow y.1.keys), AV.int .i64 y.2.kind, AV.str y.2.num, AV.str y.2.text, AV.lst 5 (y.2.items.map V.row), AV.lst 1 (srow y.2.keys)] := by rw [← prow_eq]; rfl
        repeat' (first | refine zA ?_ | (refine W1.bL ?_) | ((apply W1.slcZ; exact rfl; exact rfl)) | ((apply W1.appZ; (iterate 6 exact rfl); omega)) | refine WQ.cl hg ?_ | refine W1.cl hg (r) ?_ | refine zB ?_ | (refine zC ?_ ?_ <;> intro hc; all_goals first | (cases hc; done) | ((try simp only [hc]); (try simp only [bm] at hc))) | refine zE ?_ | refine zNV ?_ | fail)
        all_goals clear r ih
        · refine ⟨(x :: p, q, o ++ [y]), ⟨?_, ?_, ?_, ?_⟩, ?_, ?_⟩
          · show (o ++ [y]) ++ mrgG c (x :: p) q = mrgG c a b
            rw [← p1, e, if_pos (by assumption)]; simp
          · exact p2
          · exact fun z hz => p3 z (List.mem_cons_of_mem _ hz)
          · show (x :: p).length + q.length + (o ++ [y]).length = _
            simp only [List.length_cons, List.length_append, List.length_nil] at *; omega
          · show (x :: p).length + q.length < _
            simp only [List.length_cons]; omega
          · have e3 : crow ((o ++ [y]).map prow) = crow (o.map prow) ++ [(prow y).map .av] := by simp [crow]
            dsimp only
            rw [e3, prow_eq y]
            rfl
        · refine ⟨(p, y :: q, o ++ [x]), ⟨?_, ?_, ?_, ?_⟩, ?_, ?_⟩
          · show (o ++ [x]) ++ mrgG c p (y :: q) = mrgG c a b
            rw [← p1, e, if_neg (by omega)]; simp
          · exact fun z hz => p2 z (List.mem_cons_of_mem _ hz)
          · exact p3
          · show p.length + (y :: q).length + (o ++ [x]).length = _
            simp only [List.length_cons, List.length_append, List.length_nil] at *; omega
          · show p.length + (y :: q).length < _
            simp only [List.length_cons]; omega
          · have e3 : crow ((o ++ [x]).map prow) = crow (o.map prow) ++ [(prow x).map .av] := by simp [crow]
            dsimp only
            rw [e3, prow_eq x]
            rfl
        all_goals (exfalso; simp only [List.length_cons] at *; omega)
theorem psorted_ret (h : Fn T F.order_sorted_order_pair order_sorted_order_pair.fn) (h2 : Fn T F.order_merged_order_pair order_merged_order_pair.fn) {c : V × V → V × V → Int} {g : Nat} (hg : T.modes g = [.val, .val]) :
    ∀ (n : Nat) (l : List (V × V)), l.length ≤ n + 1 → l.length ≤ 1073741824 → (∀ x ∈ l, ∀ y ∈ l, Ret T g [.val (.agg (prow x)), .val (.agg (prow y))] (one (.int .i64 (c x y)))) →
    ∃ cell : Cell, cell.shut = .lst 10 ((srtF c n l).map prow) ∧ Ret T F.order_sorted_order_pair [.val (.lst 10 (l.map prow)), .val (.clo g [] [])] ⟨[([cell], false)], []⟩ := by
  intro n
  induction n with
  | zero =>
    intro l hn hl ih
    have e1 : (l.map prow).length = l.length := List.length_map ..
    have e2 : srtF c 0 l = l := rfl
    rw [e2]
    refine ⟨_, shut_crow 10 _, Ret.mk h rfl ?_⟩
    repeat' (first | refine zA ?_ | ((apply W1.appendO; (iterate 3 exact rfl); (simp only [crow_len, List.length_map, List.length_append, List.length_nil, List.length_cons, List.map_nil, limit] at *; omega))) | refine zB ?_ | (refine zC ?_ ?_ <;> intro hc; all_goals first | (cases hc; done) | ((try simp only [hc]); (try simp only [bm] at hc))) | refine zE ?_ | refine zNV ?_ | fail)
    all_goals first | exact ⟨.inr rfl, rfl, rfl⟩ | (exfalso; simp at *; omega) | trace_state
  | succ n IH =>
    intro l hn hl ih
    have e1 : (l.map prow).length = l.length := List.length_map ..
    by_cases h2l : l.length < 2
    · have e2 : srtF c (n + 1) l = l := by rw [srtF, if_pos h2l]
      rw [e2]
      refine ⟨_, shut_crow 10 _, Ret.mk h rfl ?_⟩
      repeat' (first | refine zA ?_ | ((apply W1.appendO; (iterate 3 exact rfl); (simp only [crow_len, List.length_map, List.length_append, List.length_nil, List.length_cons, List.map_nil, limit] at *; omega))) | refine zB ?_ | (refine zC ?_ ?_ <;> intro hc; all_goals first | (cases hc; done) | ((try simp only [hc]); (try simp only [bm] at hc))) | refine zE ?_ | refine zNV ?_ | fail)
      all_goals first | exact ⟨.inr rfl, rfl, rfl⟩ | (exfalso; simp at *; omega) | trace_state
    · have e2 : srtF c (n + 1) l = mrgG c (srtF c n (l.take (l.length / 2))) (srtF c n (l.drop (l.length / 2))) := by rw [srtF, if_neg h2l]
      rw [e2]
      have p1 := srtF_perm c n (l.take (l.length / 2))
      have p2 := srtF_perm c n (l.drop (l.length / 2))
      obtain ⟨c1, s1, r1⟩ := IH (l.take (l.length / 2)) (by simp; omega) (by simp; omega) fun x hx y hy => ih x (List.mem_of_mem_take hx) y (List.mem_of_mem_take hy)
      obtain ⟨c2, s2, r2⟩ := IH (l.drop (l.length / 2)) (by simp; omega) (by simp; omega) fun x hx y hy => ih x (List.mem_of_mem_drop hx) y (List.mem_of_mem_drop hy)
      have mm : ∀ x ∈ srtF c n (l.take (l.length / 2)) ++ srtF c n (l.drop (l.length / 2)), x ∈ l := fun x hx => by
        rcases List.mem_append.1 hx with hx | hx
        · exact List.mem_of_mem_take (p1.mem_iff.1 hx)
        · exact List.mem_of_mem_drop (p2.mem_iff.1 hx)
      have r3 := pmerged_ret h2 hg (srtF c n (l.take (l.length / 2))) (srtF c n (l.drop (l.length / 2))) (by rw [p1.length_eq, p2.length_eq]; simp; omega) fun x hx y hy => ih x (mm x hx) y (mm y hy)
      rw [List.map_take] at r1
      rw [List.map_drop] at r2
      refine ⟨.av (.lst 10 _), rfl, Ret.mk h rfl ?_⟩
      have hq : (l.length : Int) / 2 = ((l.length / 2 : Nat) : Int) := by omega
      repeat' (first | refine zA ?_ | (refine WQ.cl h.modes ?_) | (refine WQ.cl h2.modes ?_) | ((apply W1.half2; exact rfl; exact rfl; omega; omega)) | ((apply W1.slcT7 (hn := hq); exact rfl; exact rfl; exact rfl; simp; omega)) | ((apply W1.slcD7 (hn := hq); exact rfl; exact rfl; exact rfl; simp; omega)) | ((apply W1.callL7 (hm := h.modes) s1; (iterate 5 exact rfl); exact r1; exact rfl)) | ((apply W1.callL7 (hm := h.modes) s2; (iterate 5 exact rfl); exact r2; exact rfl)) | ((apply W1.callL7 (hm := h2.modes) (shut_crow 10 _); (iterate 5 exact rfl); exact r3; exact rfl)) | refine zB ?_ | (refine zC ?_ ?_ <;> intro hc; all_goals first | (cases hc; done) | ((try simp only [hc]); (try simp only [bm] at hc))) | refine zE ?_ | refine zNV ?_ | fail)
      all_goals first | exact ⟨.inr rfl, rfl, rfl⟩ | (exfalso; simp at *; omega) | trace_state
end
end Hm

/- Values with their keys in the order of these: pairs, SortBy. NORMX NORMY Conditions: see each theorem. -/
namespace Hm
open Go (IntKind)
set_option maxHeartbeats 4000000
set_option maxRecDepth 4000
def pc (x y : V × V) : Int := vc x.2 y.2
theorem pc_pre : Pre (fun _ : V × V => True) pc := ⟨fun a b _ _ => vc_pre.rng a.2 b.2 trivial trivial, fun a b _ _ => vc_pre.anti a.2 b.2 trivial trivial, fun a b d _ _ _ h1 h2 => vc_pre.trans a.2 b.2 d.2 trivial trivial trivial h1 h2⟩
def srtP (l : List (V × V)) : List (V × V) := srtF pc l.length l
theorem srtP_perm (l : List (V × V)) : (srtP l).Perm l := srtF_perm pc l.length l
theorem srtP_srt (l : List (V × V)) : Srt pc (srtP l) := srtF_srt pc_pre l.length l (by omega)
section
variable {T : Tab}
structure OpFns (T : Tab) : Prop where
  s : OsFns T
  a1 : Fn T F.order_pairs order_pairs.fn
  a2 : Fn T F.order_pairs_S1 order_pairs_S1.fn
  a3 : Fn T F.order_sorted_order_pair order_sorted_order_pair.fn
  a4 : Fn T F.order_merged_order_pair order_merged_order_pair.fn
  a5 : Fn T F.order_SortBy order_SortBy.fn
theorem pS1_ret (f : OpFns T) (x y : V × V) (hx : x.2.bk ≤ 1073741824) (fx : formed x.2 = true) (hy : y.2.bk ≤ 1073741824) (fy : formed y.2 = true) : Ret T F.order_pairs_S1 [.val (.agg (prow x)), .val (.agg (prow y))] (one (.int .i64 (pc x y))) := by
  have r := valueCmp_ret f.s.o.v x.2 hx fx y.2 hy fy
  refine Ret.mk f.a2 rfl ?_
  rw [V.av_eq, V.av_eq] at r
  rw [prow_eq, prow_eq]
  repeat' (first | refine zA ?_ | refine WQ.cl f.s.o.v.a1.modes ?_ | refine W1.cl f.s.o.v.a1.modes (r) ?_ | refine zB ?_ | (refine zC ?_ ?_ <;> intro hc; all_goals first | (cases hc; done) | ((try simp only [hc]); (try simp only [bm] at hc))) | refine zE ?_ | refine zNV ?_ | fail)
  exact Qend.num rfl rfl rfl
theorem opairs_ret (f : OpFns T) (l m : List V) (hlen : l.length = m.length) (hb : V.bks l + V.bks m ≤ 1073741824) (hl : l.all formed = true) (hm : m.all formed = true) :
    Ret T F.order_pairs [.val (.lst 5 (l.map V.row)), .val (.lst 5 (m.map V.row))] (two (.lst 10 ((srtP (l.zip m)).map prow)) (.int .i64 0)) := by
  have e1 : (l.map V.row).length = l.length := List.length_map ..
  have e2 : (m.map V.row).length = m.length := List.length_map ..
  have hla := V.len_bks l
  have hlb := V.len_bks m
  have hlen' : (l.length : Int) = m.length := by omega
  have r1 := oformed_ret f.s.o [l, m] (by simp) (fun k hk => by
    simp only [List.mem_cons, List.not_mem_nil, or_false] at hk
    rcases hk with rfl | rfl <;> omega)
  simp only [List.all_cons, List.all_nil, Bool.and_true, lls, List.map_cons, List.map_nil] at r1
  rw [hl, hm] at r1
  have hz : (l.zip m).length = l.length := by rw [List.length_zip]; omega
  obtain ⟨c3, s3, r3⟩ := psorted_ret f.a3 f.a4 (c := pc) (g := F.order_pairs_S1) f.a2.modes (l.zip m).length (l.zip m) (by omega) (by omega) fun x hx y hy => by
    have mx := (List.of_mem_zip hx).2
    have my := (List.of_mem_zip hy).2
    exact pS1_ret f x y (by have := bks_le mx; omega) (List.all_eq_true.1 hm _ mx) (by have := bks_le my; omega) (List.all_eq_true.1 hm _ my)
  have r3' : Ret T F.order_sorted_order_pair [.val (.lst 10 (sealRows (crow ((l.zip m).map prow)))), .val (.clo F.order_pairs_S1 [] [])] ⟨[([c3], false)], []⟩ := by rw [seal_crow]; exact r3
  refine Ret.mk f.a1 rfl ?_
  repeat' (first | refine zA ?_ | refine WQ.cl f.s.o.a1.modes ?_ | refine W1.cl f.s.o.a1.modes (r1) ?_ | refine zB ?_ | (refine zC ?_ ?_ <;> intro hc; all_goals first | (cases hc; done) | ((try simp only [hc]); (try simp only [bm] at hc))) | refine zE ?_ | refine zNV ?_ | fail)
  all_goals first | (exfalso; simp_all; done) | skip
  refine W.list l (fun i (_ : Unit) => ⟨lstE [(0, .av (.lst 5 (l.map V.row))), (1, .av (.lst 5 (m.map V.row))), (6, .own [.own 10 (crow (((l.zip m).take i).map prow))] false), (19, .av (.int .i64 (l.length : Nat))), (20, .av (.int .i64 (i : Int)))], lstB [(0, none), (1, none), (6, none), (19, none), (20, none)]⟩) (fun _ _ => True) () rfl trivial ?_ ?_
  · intro i x u hx hi _
    obtain ⟨y, hy⟩ : ∃ y, m[i]? = some y := ⟨m[i]'(by omega), List.getElem?_eq_getElem (by omega)⟩
    have hzi : (l.zip m)[i]? = some (x, y) := by rw [List.getElem?_zip_eq_some]; exact ⟨hx, hy⟩
    have r := valueTwin_ret f.s.t x (by have := bks_le (List.mem_of_getElem? hx); omega)
    have hC := seal_twC x
    have e := crow_snoc7 prow hzi
    have el := crow_len (((l.zip m).take i).map prow)
    rw [List.length_map, List.length_take] at el
    rw [prow_eq] at e
    rw [V.row_eq x] at hC
    rw [V.av_eq] at r
    clear r1 r3 r3' s3
    generalize crow (((l.zip m).take i).map prow) = K0 at *
    repeat' (first | refine zA ?_ | (refine WQ.cl f.s.t.a1.modes ?_) | (refine W1.bC ?_) | (refine W1.bL ?_) | (refine W1.cd1 f.s.t.a1.modes hC r ?_) | ((apply W1.appZ; (iterate 6 exact rfl); omega)) | refine zB ?_ | (refine zC ?_ ?_ <;> intro hc; all_goals first | (cases hc; done) | ((try simp only [hc]); (try simp only [bm] at hc))) | refine zE ?_ | refine zNV ?_ | fail)
    refine ⟨(), trivial, ?_⟩
    rw [e]
    rfl
  · intro u _
    rw [← hz, List.take_length]
    repeat' (first | refine zA ?_ | ((apply W1.callL7 (hm := f.a3.modes) s3; (iterate 5 exact rfl); exact r3'; exact rfl)) | refine zB ?_ | (refine zC ?_ ?_ <;> intro hc; all_goals first | (cases hc; done) | ((try simp only [hc]); (try simp only [bm] at hc))) | refine zE ?_ | refine zNV ?_ | fail)
    all_goals first | exact Qend.two rfl rfl rfl rfl | (exfalso; simp_all; done) | trace_state
/-- A call whose two results, a list and a number, are sealed. -/
theorem W1.callM7 {st st' : St} {K : St → Prop} {dst : Option Nat} {gd : Option (Nat × Bool)} {f : Opd} {xs : List Opd} {g k : Nat} {first cs : List AV} {t0 t : Bool} {ms : List PMode} {l : List Arg} {ks : List Nat} {rows : List (List AV)} {v : AV} {cell : Cell} (hC : cell.shut = .lst k rows)
    (hg : wanted st gd = some true) (hf : (st.opd f).fn = some (g, first, cs, t0)) (hm : T.modes g = ms) (ha : args st (ms.drop first.length) xs = some (l, t, ks, st')) (hio : hasIo l = false) (hmv : hasMv l = false)
    (hr : Ret T g (first.map .val ++ l ++ cs.map .val) ⟨[([cell], false), ([.av v], false)], []⟩) (ht : (t0 || t) = false) (hk : K (putD dst (.tup [some ([.av (.lst k rows)], false), some ([.av v], false)]) st')) : W1 T ⟨dst, .call .deep f xs, gd⟩ st K := by
  refine W1.callV hg hf hm ha hio hmv hr (by rw [ht]; rfl) ?_
  show K (putD dst (.tup [some ([.av cell.shut], false), some ([.av v], false)]) st')
  rw [hC]; exact hk
theorem osortBy_ret (f : OpFns T) (l m : List V) (hlen : l.length = m.length) (hb : V.bks l + V.bks m ≤ 1073741824) (hl : l.all formed = true) (hm : m.all formed = true) :
    Ret T F.order_SortBy [.val (.lst 5 (l.map V.row)), .val (.lst 5 (m.map V.row))] ⟨[([.own 5 (crow ((srtP (l.zip m)).map fun p => p.1.row))], false), ([.av (.int .i64 0)], false)], []⟩ := by
  have hla := V.len_bks l
  have r1 := opairs_ret f l m hlen hb hl hm
  have hz : (l.zip m).length = l.length := by rw [List.length_zip]; omega
  have hp : (srtP (l.zip m)).length = l.length := by rw [(srtP_perm _).length_eq, hz]
  generalize srtP (l.zip m) = P at *
  have e1 : (P.map prow).length = P.length := List.length_map ..
  refine Ret.mk f.a5 rfl ?_
  repeat' (first | refine zA ?_ | refine WQ.cl f.a1.modes ?_ | refine W1.cl f.a1.modes (r1) ?_ | refine zB ?_ | (refine zC ?_ ?_ <;> intro hc; all_goals first | (cases hc; done) | ((try simp only [hc]); (try simp only [bm] at hc))) | refine zE ?_ | refine zNV ?_ | fail)
  refine W.list P (fun i (_ : Unit) => ⟨lstE [(7, .av (.int .i64 0)), (8, .own [.own 5 (crow ((P.take i).map fun p => p.1.row))] false), (17, .av (.lst 10 (P.map prow))), (18, .av (.int .i64 (P.length : Nat))), (19, .av (.int .i64 (i : Int)))], lstB [(7, none), (8, none), (17, none), (18, none), (19, none)]⟩) (fun _ _ => True) () rfl trivial ?_ ?_
  · intro i x u hx hi _
    have e := crow_snoc7 (fun p : V × V => p.1.row) hx
    have el := crow_len ((P.take i).map fun p => p.1.row)
    rw [List.length_map, List.length_take] at el
    rw [V.row_eq x.1] at e
    have hx' : (P.map prow)[i]? = some (prow x) := by rw [List.getElem?_map, hx]; rfl
    rw [prow_eq] at hx'
    clear r1
    generalize crow ((P.take i).map fun p => p.1.row) = K0 at *
    repeat' (first | refine zA ?_ | (refine W1.bL ?_) | ((apply W1.append1; (iterate 4 exact rfl); omega)) | refine zB ?_ | (refine zC ?_ ?_ <;> intro hc; all_goals first | (cases hc; done) | ((try simp only [hc]); (try simp only [bm] at hc))) | refine zE ?_ | refine zNV ?_ | fail)
    refine ⟨(), trivial, ?_⟩
    rw [e]
    rfl
  · intro u _
    rw [List.take_length]
    repeat' (first | refine zA ?_ | refine zB ?_ | (refine zC ?_ ?_ <;> intro hc; all_goals first | (cases hc; done) | ((try simp only [hc]); (try simp only [bm] at hc))) | refine zE ?_ | refine zNV ?_ | fail)
    all_goals first | exact ⟨.inr rfl, rfl, rfl⟩ | trace_state
end
end Hm

/- Steps of a walk: lists in slots that are written into. -/
namespace Hm
open Go (IntKind)
section
variable {T : Tab} {st : St} {K : St → Prop} {dst : Option Nat} {g : Option (Nat × Bool)}
theorem W1.mvhO {n k : Nat} {r : List Cell} {rs : List (List Cell)} (hg : wanted st g = some true) (hx : getE st.env n = .own [.own k (r :: rs)] false)
    (hk : K (putD dst (.hd ⟨.slot n, [(0, 0)], 0⟩ (r :: rs).length) st)) : W1 T ⟨dst, .mvh n, g⟩ st K := by
  refine W1.go hg (WS.op (v := .hd ⟨.slot n, [(0, 0)], 0⟩ (r :: rs).length) (st' := st) rfl ?_ hk)
  simp only [stepOp, hx]
theorem W1.iadrHO {n m k len : Nat} {i : Opd} {j : Int} {rs : List (List Cell)} (hg : wanted st g = some true) (hi : st.opd i = .av (.int .i64 j)) (hm : getE st.env m = .hd ⟨.slot n, [(0, 0)], 0⟩ len) (hc : st.cells ⟨.slot n, [], 0⟩ 1 = some [.own k rs]) (h0 : 0 ≤ j) (h1 : j.toNat < rs.length) (h2 : j.toNat < len)
    (hk : K (putD dst (.plc ⟨.slot n, [(0, j.toNat)], 0⟩) st)) : W1 T ⟨dst, .iadrH k m i, g⟩ st K := by
  refine W1.go hg (WS.op (v := .plc ⟨.slot n, [(0, j.toNat)], 0⟩) (st' := st) rfl ?_ hk)
  simp only [stepOp, hi, idx, if_pos h0, hm, hc]
  rw [if_pos ⟨trivial, h1, h2⟩]
theorem W1.iadrRO {n k : Nat} {i : Opd} {j : Int} {rs : List (List Cell)} (hg : wanted st g = some true) (hi : st.opd i = .av (.int .i64 j)) (hx : getE st.env n = .own [.own k rs] false) (h0 : 0 ≤ j) (h1 : j.toNat < rs.length)
    (hk : K (putD dst (.plc ⟨.slot n, [(0, j.toNat)], 0⟩) st)) : W1 T ⟨dst, .iadrR k n i, g⟩ st K := by
  refine W1.go hg (WS.op (v := .plc ⟨.slot n, [(0, j.toNat)], 0⟩) (st' := st) rfl ?_ hk)
  simp only [stepOp, hi, idx, if_pos h0, hx]
  rw [if_pos ⟨trivial, h1⟩]
end
end Hm

/- Steps of a walk: lists of lists in slots that are written into. Conditions: see each theorem. -/
namespace Hm
open Go (IntKind)
section
variable {T : Tab} {st : St} {K : St → Prop} {dst : Option Nat} {g : Option (Nat × Bool)}
/-- A place of a list of lists is the j-th list's header. -/
abbrev plj (n j : Nat) : Place := ⟨.slot n, [(0, j)], 0⟩
theorem cells_plj {st : St} {n k1 j : Nat} {Z : List (List Cell)} {r : List Cell} {m : Nat} (h8 : getE st.env n = .own [.own k1 Z] false) (hj : Z[j]? = some r) (hm : m ≤ r.length) : st.cells (plj n j) m = some (r.take m) := by
  simp only [St.cells, St.root, h8, getRow, List.getElem?_cons_zero, hj]
  rw [if_pos (by omega), List.drop_zero]
theorem write_plj {st : St} {n k1 j : Nat} {Z : List (List Cell)} {r new : List Cell} (h8 : getE st.env n = .own [.own k1 Z] false) (hj : Z[j]? = some r) (hm : new.length = r.length) :
    st.write (plj n j) new = some ⟨upd (clrE (plj n j) new.length st.env) n (.own [.own k1 (Z.set j new)] false), st.boxes⟩ := by
  have e : splice 0 new r = some new := by
    rw [splice, if_pos (by omega), List.drop_of_length_le (by omega)]
    simp
  have e2 : getE (clrE (plj n j) new.length st.env) n = .own [.own k1 Z] false := by
    show (getE st.env n).clr _ _ = _
    rw [h8]; rfl
  simp only [St.write, St.root, h8, setRow, List.getElem?_cons_zero, hj, e, List.set_cons_zero, St.setRoot, e2]
theorem W1.mvhZ {n k : Nat} {Z : List (List Cell)} (hg : wanted st g = some true) (hx : getE st.env n = .own [.own k Z] false) (hne : Z ≠ [])
    (hk : K (putD dst (.hd (plj n 0) Z.length) st)) : W1 T ⟨dst, .mvh n, g⟩ st K := by
  cases Z with
  | nil => exact absurd rfl hne
  | cons r rs => exact W1.mvhO hg hx hk
theorem W1.loadZ {n k1 k j : Nat} {a : Opd} {Z gs : List (List Cell)} (hg : wanted st g = some true) (ha : st.opd a = .plc (plj n j)) (h8 : getE st.env n = .own [.own k1 Z] false) (hj : Z[j]? = some [.own k gs])
    (hk : K (putD dst (.ali (.lst k (sealRows gs)) (some (plj n j))) st)) : W1 T ⟨dst, .load 1 false a, g⟩ st K := by
  refine W1.go hg (WS.op (v := .ali (.lst k (sealRows gs)) (some (plj n j))) (st' := st) rfl ?_ hk)
  simp only [stepOp, ha, cells_plj h8 hj (m := 1) (by simp)]
  rfl
theorem W1.appRZ {n k1 k j d x y b : Nat} {Z gs : List (List Cell)} {row : List Cell} {v0 : List (List AV)} (hg : wanted st g = some true) (hy : getE st.env y = .own [.own k [row]] false) (hx : getE (st.put y .und).env x = .ali (.lst k v0) (some (plj n j)))
    (h8 : getE (st.put y .und).env n = .own [.own k1 Z] false) (hj : Z[j]? = some [.own k gs]) (hl : gs.length + 1 ≤ 4294967296)
    (hk : K ((⟨unE (.slot d) (hushE (upd (clrE (plj n j) 1 (st.put y .und).env) n (.own [.own k1 (Z.set j [.dead])] false))), st.boxes⟩ : St).put d (.own [.own k (gs ++ [row])] false))) : W1 T ⟨some d, .appendR b k (.t x) (.t y), g⟩ st K := by
  refine W1.go hg (WS.op (v := .own [.own k (gs ++ [row])] false) (st' := ⟨unE (.slot d) (hushE (upd (clrE (plj n j) 1 (st.put y .und).env) n (.own [.own k1 (Z.set j [.dead])] false))), st.boxes⟩) rfl ?_ hk)
  have hl' : gs.length + [row].length ≤ limit := hl
  have e1 : st.opd (.t y) = .own [.own k [row]] false := hy
  have e2 : (Opd.t y).eat st = st.put y .und := by simp only [Opd.eat, hy]
  have e3 : appNew st k (.t y) = some ([row], st.put y .und) := by simp only [appNew, e1, if_true, e2]
  have e4 : (st.put y .und).opd (.t x) = .ali (.lst k v0) (some (plj n j)) := hx
  have e5 := cells_plj (m := 1) h8 hj (by simp)
  have e6 := write_plj (new := [.dead]) h8 hj rfl
  simp only [stepOp, appR, e3, e4, e5, List.take_succ_cons, List.take_zero, e6]
  rw [if_pos ⟨trivial, hl'⟩]
  rfl
theorem W1.storeZ {n k j : Nat} {a x : Opd} {L : List (List Cell)} {row cs : List Cell} {gg : Bool} (hg : wanted st none = some true) (ha : st.opd a = .plc (plj n j)) (hx : (st.opd x).give = some (cs, gg)) (he : x.eat st = st) (hn : getE st.env n = .own [.own k L] false) (hj : L[j]? = some row) (hc : cs.length = row.length)
    {m : Nat} (hm : cs.length = m) (hk : K ⟨upd (clrE (plj n j) cs.length st.env) n (.own [.own k (L.set j cs)] false), st.boxes⟩) : W1 T ⟨none, .store m a x, none⟩ st K := by
  refine W1.go hg (WS.op (v := .und) (st' := ⟨upd (clrE (plj n j) cs.length st.env) n (.own [.own k (L.set j cs)] false), st.boxes⟩) rfl ?_ hk)
  simp only [stepOp, ha, hx, hm, if_true, he, write_plj hn hj hc]
theorem W1.storeRZ {n k1 j m : Nat} {a : Opd} {Z : List (List Cell)} {c c' : Cell} (hg : wanted st none = some true) (ha : st.opd a = .plc (plj n j)) (hm : getE st.env m = .own [c'] false) (h8 : getE (unE (.slot m) (st.put m .und).env) n = .own [.own k1 Z] false) (hj : Z[j]? = some [c])
    (hk : K ⟨upd (clrE (plj n j) 1 (unE (.slot m) (st.put m .und).env)) n (.own [.own k1 (Z.set j [c'])] false), st.boxes⟩) : W1 T ⟨none, .storeR 1 a m, none⟩ st K := by
  refine W1.go hg (WS.op (v := .und) (st' := ⟨upd (clrE (plj n j) 1 (unE (.slot m) (st.put m .und).env)) n (.own [.own k1 (Z.set j [c'])] false), st.boxes⟩) rfl ?_ hk)
  have e6 := write_plj (st := ⟨unE (.slot m) (st.put m .und).env, st.boxes⟩) (new := [c']) h8 hj rfl
  simp only [stepOp, ha, hm, List.length_cons, List.length_nil, Nat.zero_add, if_true, e6]
end
end Hm

/- Lists by their keys: groups, the first of each. NORMX NORMY Conditions: see each theorem. -/
namespace Hm
open Go (IntKind)
set_option maxHeartbeats 40000000
set_option maxRecDepth 4000
def grows (G : List (List V)) : List (List Cell) := G.map fun g => [Cell.own 5 (crow (g.map V.row))]
theorem grows_len (G : List (List V)) : (grows G).length = G.length := List.length_map ..
theorem grows_app (G H : List (List V)) : grows (G ++ H) = grows G ++ grows H := List.map_append ..
section
variable {T : Tab}
theorem group_step {A6 A7 A18 A19 A20 : AV} {Z gs : List (List Cell)} {j : Nat} {c1 c2 c3 c4 c5 c6 c7 c8 c9 c10 : AV} {Q : Ex → St → Prop} (hj : Z[j]? = some [.own 5 gs]) (hl : gs.length ≤ 1073741824)
    (hQ : Q .norm ⟨lstE [(6, .av A6), (7, .av A7), (8, .own [.own 1 (Z.set j [.own 5 (gs ++ [[.av c1, .av c2, .av c3, .av c4, .av c5]])])] false), (18, .av A18), (19, .av A19), (20, .av A20)], lstB [(6, none), (7, none), (8, none), (18, none), (19, none), (20, none)]⟩) :
    W T (.dreg order_Group.r9 [6, 7, 8, 18, 19, 20]) ⟨lstE [(6, .av A6), (7, .av A7), (8, .own [.own 1 Z] false), (10, .plc ⟨.box 10, [], 0⟩), (11, .av (.int .i64 (j : Int))), (18, .av A18), (19, .av A19), (20, .av A20)],
      lstB [(6, none), (7, none), (8, none), (10, some [.av c1, .av c2, .av c3, .av c4, .av c5, .av c6, .av c7, .av c8, .av c9, .av c10]), (11, none), (18, none), (19, none), (20, none)]⟩ Q := by
  have hjl : j < Z.length := (List.getElem?_eq_some_iff.1 hj).1
  have hne : Z ≠ [] := by rintro rfl; simp at hj
  have hjj : ((j : Int)).toNat = j := Int.toNat_natCast j
  refine W.dreg (WP.bag rfl ?_)
  refine WB.cons (WQ.go rfl rfl ?_)
  refine W1.mvhZ (n := 8) (k := 1) (Z := Z) rfl rfl hne ?_
  refine WB.cons (WQ.go rfl rfl ?_)
  refine W1.op rfl rfl rfl ?_
  refine WB.cons (WQ.go rfl rfl ?_)
  refine W1.iadrHO (n := 8) (len := Z.length) (j := (j : Int)) (rs := Z) rfl rfl rfl rfl (by omega) (by rw [hjj]; exact hjl) (by rw [hjj]; exact hjl) ?_
  rw [hjj]
  refine WB.cons (WQ.go rfl rfl ?_)
  refine W1.loadZ (n := 8) (k1 := 1) (k := 5) (j := j) (Z := Z) (gs := gs) rfl rfl rfl hj ?_
  refine WB.cons (WQ.go rfl rfl ?_)
  refine W1.op rfl rfl rfl ?_
  refine WB.cons (WQ.go rfl rfl ?_)
  refine W1.op rfl rfl rfl ?_
  refine WB.cons (WQ.go rfl rfl ?_)
  refine W1.op rfl rfl rfl ?_
  refine WB.cons (WQ.go rfl rfl ?_)
  refine W1.op rfl rfl rfl ?_
  refine WB.nil ?_
  have hsl : (sealRows gs).length = gs.length := sealRows_len gs
  refine WP.one ?_
  refine W1.appRZ (n := 8) (k1 := 1) (k := 5) (j := j) (Z := Z) (gs := gs) (row := [.av (.int .i64 0), .av (.str []), .av (.str []), .own 5 [], .own 1 []]) rfl rfl rfl rfl hj (by omega) ?_
  refine WP.bag rfl ?_
  refine WB.cons (WQ.go rfl rfl ?_)
  refine W1.iadrRO (n := 53) (k := 5) (j := ((sealRows gs).length : Int)) (rs := gs ++ [[.av (.int .i64 0), .av (.str []), .av (.str []), .own 5 [], .own 1 []]]) rfl rfl rfl (by omega) (by rw [Int.toNat_natCast, hsl]; simp) ?_
  rw [Int.toNat_natCast, hsl]
  refine WB.cons (WQ.go rfl rfl ?_)
  refine W1.iadrHO (n := 8) (len := Z.length) (j := (j : Int)) (rs := Z.set j [.dead]) rfl rfl rfl rfl (by omega) (by rw [hjj, List.length_set]; exact hjl) (by rw [hjj]; exact hjl) ?_
  rw [hjj]
  refine WB.nil ?_
  refine WP.pair rfl ?_
  refine W1.storeZ (n := 53) (k := 5) (j := gs.length) (L := gs ++ [[.av (.int .i64 0), .av (.str []), .av (.str []), .own 5 [], .own 1 []]]) (row := [.av (.int .i64 0), .av (.str []), .av (.str []), .own 5 [], .own 1 []]) (cs := [.av c1, .av c2, .av c3, .av c4, .av c5]) (gg := true) rfl rfl rfl rfl rfl (by simp) rfl rfl ?_
  refine W1.storeRZ (n := 8) (k1 := 1) (j := j) (m := 53) (Z := Z.set j [.dead]) (c := .dead) (c' := .own 5 ((gs ++ ([[.av (.int .i64 0), .av (.str []), .av (.str []), .own 5 [], .own 1 []]] : List (List Cell))).set gs.length [.av c1, .av c2, .av c3, .av c4, .av c5])) rfl rfl rfl rfl (by rw [List.getElem?_set_self hjl]) ?_
  refine WP.nil ?_
  have e1 : (gs ++ [[Cell.av (.int .i64 0), .av (.str []), .av (.str []), .own 5 [], .own 1 []]]).set gs.length [.av c1, .av c2, .av c3, .av c4, .av c5] = gs ++ [[.av c1, .av c2, .av c3, .av c4, .av c5]] := by
    rw [List.set_append_right _ _ (Nat.le_refl _), Nat.sub_self]; rfl
  rw [e1, List.set_set]
  exact hQ
theorem group_step2 {A6 A7 A18 A19 A20 : AV} {Z gs : List (List Cell)} {j : Nat} {n : Int} {c1 c2 c3 c4 c5 c6 c7 c8 c9 c10 : AV} {Q : Ex → St → Prop} (hj : Z[j]? = some [.own 5 gs]) (hl : gs.length ≤ 1073741824) (hn : n = (j : Int))
    (hQ : Q .norm ⟨lstE [(6, .av A6), (7, .av A7), (8, .own [.own 1 (Z.set j [.own 5 (gs ++ [[.av c1, .av c2, .av c3, .av c4, .av c5]])])] false), (18, .av A18), (19, .av A19), (20, .av A20)], lstB [(6, none), (7, none), (8, none), (18, none), (19, none), (20, none)]⟩) :
    W T (.dreg order_Group.r9 [6, 7, 8, 18, 19, 20]) ⟨lstE [(6, .av A6), (7, .av A7), (8, .own [.own 1 Z] false), (10, .plc ⟨.box 10, [], 0⟩), (11, .av (.int .i64 n)), (18, .av A18), (19, .av A19), (20, .av A20)],
      lstB [(6, none), (7, none), (8, none), (10, some [.av c1, .av c2, .av c3, .av c4, .av c5, .av c6, .av c7, .av c8, .av c9, .av c10]), (11, none), (18, none), (19, none), (20, none)]⟩ Q := by
  subst hn
  exact group_step hj hl hQ
theorem grows_set (G : List (List V)) (g : List V) (v : V) : (grows (G ++ [g])).set G.length [.own 5 (crow (g.map V.row) ++ [v.row.map .av])] = grows (G ++ [g ++ [v]]) := by
  have e : (grows G).length = G.length := grows_len G
  rw [grows_app, List.set_append_right _ _ (by omega), e, Nat.sub_self, grows_app]
  simp [grows, crow]
theorem ogroup_ret (f : OpFns T) (hG : Fn T F.order_Group order_Group.fn) (l m : List V) (hlen : l.length = m.length) (hb : V.bks l + V.bks m ≤ 1073741824) (hl : l.all formed = true) (hm : m.all formed = true) :
    ∃ G : List (List V), (G.flatten = (srtP (l.zip m)).map Prod.fst ∧ ∀ g ∈ G, g ≠ []) ∧ Ret T F.order_Group [.val (.lst 5 (l.map V.row)), .val (.lst 5 (m.map V.row))] ⟨[([.own 1 (grows G)], false), ([.av (.int .i64 0)], false)], []⟩ := by
  have main : ∃ r : CR, (∃ G : List (List V), (G.flatten = (srtP (l.zip m)).map Prod.fst ∧ ∀ g ∈ G, g ≠ []) ∧ r = ⟨[([.own 1 (grows G)], false), ([.av (.int .i64 0)], false)], []⟩) ∧ Ret T F.order_Group [.val (.lst 5 (l.map V.row)), .val (.lst 5 (m.map V.row))] r := by
    refine Ret.ex hG rfl ?_
    have hla := V.len_bks l
    have r1 := opairs_ret f l m hlen hb hl hm
    have hz : (l.zip m).length = l.length := by rw [List.length_zip]; omega
    have hp : (srtP (l.zip m)).length = l.length := by rw [(srtP_perm _).length_eq, hz]
    have hmem : ∀ x ∈ srtP (l.zip m), x.2 ∈ m := fun x hx => (List.of_mem_zip ((srtP_perm _).mem_iff.1 hx)).2
    have hfm : ∀ x ∈ srtP (l.zip m), x.2.bk ≤ 1073741824 ∧ formed x.2 = true := fun x hx => ⟨by have := bks_le (hmem x hx); omega, List.all_eq_true.1 hm _ (hmem x hx)⟩
    clear hmem
    generalize srtP (l.zip m) = P at *
    have e1 : (P.map prow).length = P.length := List.length_map ..
    repeat' (first | refine zA ?_ | refine WQ.cl f.a1.modes ?_ | refine W1.cl f.a1.modes (r1) ?_ | refine zB ?_ | (refine zC ?_ ?_ <;> intro hc; all_goals first | (cases hc; done) | ((try simp only [hc]); (try simp only [bm] at hc))) | refine zE ?_ | refine zNV ?_ | fail)
    refine W.list P (fun i (G : List (List V)) => ⟨lstE [(6, .av (.lst 10 (P.map prow))), (7, .av (.int .i64 0)), (8, .own [.own 1 (grows G)] false), (18, .av (.lst 10 (P.map prow))), (19, .av (.int .i64 (P.length : Nat))), (20, .av (.int .i64 (i : Int)))], lstB [(6, none), (7, none), (8, none), (18, none), (19, none), (20, none)]⟩)
      (fun i G => G.flatten = (P.take i).map Prod.fst ∧ (∀ g ∈ G, g ≠ []) ∧ (0 < i → G ≠ [])) [] rfl ⟨rfl, by simp, by omega⟩ ?_ ?_
    · rintro i x G hx hi ⟨g1, g2, g3⟩
      have hx' : (P.map prow)[i]? = some (prow x) := by rw [List.getElem?_map, hx]; rfl
      rw [prow_eq] at hx'
      have hGl : G.length ≤ 1073741824 := by
        have h1 : G.length ≤ G.flatten.length := by
          clear g1 g3
          induction G with
          | nil => simp
          | cons g G ih =>
            have := ih fun g hg => g2 g (List.mem_cons_of_mem _ hg)
            have h2 := g2 g List.mem_cons_self
            have h3 : 0 < g.length := List.length_pos_iff.2 h2
            simp only [List.flatten_cons, List.length_append, List.length_cons]
            omega
        rw [g1, List.length_map, List.length_take] at h1
        omega
      have glen := grows_len G
      have nA : ((sealRows (grows G ++ [[Cell.own 5 []]])).length : Int) - 1 = (G.length : Int) := by rw [sealRows_len, List.length_append, glen]; simp
      have jA : (grows G ++ [[Cell.own 5 []]])[G.length]? = some [Cell.own 5 []] := by rw [List.getElem?_append_right (by omega), glen, Nat.sub_self]; rfl
      have fin : ∀ (G0 : List (List V)) (g : List V), (G0 ++ [g]).flatten = (P.take i).map Prod.fst → (∀ h ∈ G0, h ≠ []) → (G0 ++ [g ++ [x.1]]).flatten = (P.take (i + 1)).map Prod.fst ∧ (∀ h ∈ G0 ++ [g ++ [x.1]], h ≠ []) ∧ (0 < i + 1 → G0 ++ [g ++ [x.1]] ≠ []) := fun G0 g h1 h2 => by
        refine ⟨?_, fun h hh => ?_, fun _ => by simp⟩
        · rw [List.take_add_one, hx, List.map_append, ← h1]
          simp
        · rcases List.mem_append.1 hh with hh | hh
          · exact h2 h hh
          · rw [List.mem_singleton.1 hh]; simp
      have fA := fin G [] (by simpa using g1) g2
      have sA := grows_set G [] x.1
      rw [V.row_eq x.1] at sA
      have eA : grows (G ++ [[]]) = grows G ++ [[Cell.own 5 []]] := by rw [grows_app]; rfl
      rw [eA] at sA
      by_cases hi0 : i = 0
      · subst hi0
        clear r1 hfm
        repeat' (first | refine zA ?_ | (refine W1.bL ?_) | ((apply W1.append1; (iterate 4 exact rfl); omega)) | ((refine group_step2 (j := G.length) (gs := []) jA (by simp) nA ?_)) | refine zB ?_ | (refine zC ?_ ?_ <;> intro hc; all_goals first | (cases hc; done) | ((try simp only [hc]); (try simp only [bm] at hc))) | refine zE ?_ | refine zNV ?_ | fail)
        all_goals first
          | (exfalso; omega)
          | (exfalso; simp_all; done)
          | (refine ⟨G ++ [[] ++ [x.1]], fA, ?_⟩; rw [← sA]; rfl)
          | trace_state
      · obtain ⟨y, hy⟩ : ∃ y, P[i - 1]? = some y := ⟨P[i - 1]'(by omega), List.getElem?_eq_getElem (by omega)⟩
        have hy' : (P.map prow)[((i : Int) - 1).toNat]? = some (prow y) := by
          rw [show ((i : Int) - 1).toNat = i - 1 by omega, List.getElem?_map, hy]; rfl
        rw [prow_eq] at hy'
        have fx := hfm x (List.mem_of_getElem? hx)
        have fy := hfm y (List.mem_of_getElem? hy)
        have r := valueCmp_ret f.s.o.v x.2 fx.1 fx.2 y.2 fy.1 fy.2
        rw [V.av_eq, V.av_eq] at r
        obtain ⟨G0, g, rfl⟩ : ∃ G0 g, G = G0 ++ [g] := ⟨G.dropLast, G.getLast (g3 (by omega)), (List.dropLast_concat_getLast (g3 (by omega))).symm⟩
        have hG0 : G0.length ≤ 1073741824 := by rw [List.length_append] at hGl; omega
        have nB : ((sealRows (grows (G0 ++ [g]))).length : Int) - 1 = (G0.length : Int) := by rw [sealRows_len, grows_len]; simp
        have jB : (grows (G0 ++ [g]))[G0.length]? = some [Cell.own 5 (crow (g.map V.row))] := by
          rw [grows_app, List.getElem?_append_right (by rw [grows_len]; omega), grows_len, Nat.sub_self]; rfl
        have fB := fin G0 g g1 fun h hh => g2 h (List.mem_append_left _ hh)
        have sB := grows_set G0 g x.1
        rw [V.row_eq x.1] at sB
        have hgl : (crow (g.map V.row)).length ≤ 1073741824 := by
          rw [crow_len, List.length_map]
          have h1 : g.length ≤ (G0 ++ [g]).flatten.length := by simp
          rw [g1, List.length_map, List.length_take] at h1
          omega
        clear r1 hfm fin fx fy
        repeat' (first | refine zA ?_ | (refine W1.bL ?_) | ((apply W1.append1; (iterate 4 exact rfl); omega)) | ((refine group_step2 (j := (G0 ++ [g]).length) (gs := []) jA (by simp) nA ?_)) | ((refine group_step2 (j := G0.length) (gs := crow (g.map V.row)) jB hgl nB ?_)) | refine WQ.cl f.s.o.v.a1.modes ?_ | refine W1.cl f.s.o.v.a1.modes (r) ?_ | refine zB ?_ | (refine zC ?_ ?_ <;> intro hc; all_goals first | (cases hc; done) | ((try simp only [hc]); (try simp only [bm] at hc))) | refine zE ?_ | refine zNV ?_ | fail)
        all_goals first
          | (exfalso; omega)
          | (refine ⟨G0 ++ [g] ++ [[] ++ [x.1]], fA, ?_⟩; rw [← sA]; rfl)
          | (refine ⟨G0 ++ [g ++ [x.1]], fB, ?_⟩; rw [← sB]; rfl)
          | (exfalso; simp_all; done)
          | trace_state
    · rintro G ⟨g1, g2, g3⟩
      rw [List.take_length] at g1
      repeat' (first | refine zA ?_ | refine zB ?_ | (refine zC ?_ ?_ <;> intro hc; all_goals first | (cases hc; done) | ((try simp only [hc]); (try simp only [bm] at hc))) | refine zE ?_ | refine zNV ?_ | fail)
      all_goals first | exact ⟨_, ⟨G, ⟨g1, g2⟩, rfl⟩, .inr rfl, rfl, rfl⟩ | trace_state
  obtain ⟨r, ⟨G, hp, rfl⟩, hr⟩ := main
  exact ⟨G, hp, hr⟩
end
end Hm

/- The law of groups. NORMX NORMY Conditions: see each theorem. -/
namespace Hm
open Go (IntKind)
set_option maxHeartbeats 40000000
set_option maxRecDepth 4000
theorem seal_grows (G : List (List V)) : sealRows (grows G) = lls G := by
  induction G with
  | nil => rfl
  | cons g G ih =>
    simp only [grows, lls, List.map_cons, sealRows, sealRow, Cell.shut, seal_crow] at *
    rw [ih]
theorem shut_grows (G : List (List V)) : (Cell.own 1 (grows G)).shut = .lst 1 (lls G) := by rw [Cell.shut, seal_grows]
def zV : V := .mk 0 [] [] [] []
def hds (G : List (List V)) : List V := G.map fun g => g.headD zV
theorem hds_take {G : List (List V)} {i : Nat} {g : List V} (h : G[i]? = some g) : hds (G.take (i + 1)) = hds (G.take i) ++ [g.headD zV] := by
  rw [hds, hds, List.take_add_one, h]; simp
section
variable {T : Tab}
theorem ounique_ret (f : OpFns T) (hG : T.modes F.order_Group = [.val, .val]) (hU : Fn T F.order_Unique order_Unique.fn) (l m : List V) (G : List (List V)) (hl : G.length ≤ 1073741824) (hne : ∀ g ∈ G, g ≠ [])
    (r : Ret T F.order_Group [.val (.lst 5 (l.map V.row)), .val (.lst 5 (m.map V.row))] ⟨[([.own 1 (grows G)], false), ([.av (.int .i64 0)], false)], []⟩) :
    Ret T F.order_Unique [.val (.lst 5 (l.map V.row)), .val (.lst 5 (m.map V.row))] ⟨[([.own 5 (crow ((hds G).map V.row))], false), ([.av (.int .i64 0)], false)], []⟩ := by
  have e1 := lls_len G
  refine Ret.mk hU rfl ?_
  repeat' (first | refine zA ?_ | ((apply W1.callM7 (hm := hG) (shut_grows G); (iterate 5 exact rfl); exact r; exact rfl)) | refine zB ?_ | (refine zC ?_ ?_ <;> intro hc; all_goals first | (cases hc; done) | ((try simp only [hc]); (try simp only [bm] at hc))) | refine zE ?_ | refine zNV ?_ | fail)
  refine W.list G (fun i (_ : Unit) => ⟨lstE [(7, .av (.int .i64 0)), (8, .own [.own 5 (crow ((hds (G.take i)).map V.row))] false), (17, .av (.lst 1 (lls G))), (18, .av (.int .i64 (G.length : Nat))), (19, .av (.int .i64 (i : Int)))], lstB [(7, none), (8, none), (17, none), (18, none), (19, none)]⟩) (fun _ _ => True) () (by rw [lls_len]; rfl) trivial ?_ ?_
  · intro i g u hx hi _
    have hx' := get_lls hx
    have hg := hne g (List.mem_of_getElem? hx)
    have e := hds_take hx
    have el : (crow ((hds (G.take i)).map V.row)).length ≤ 1073741824 := by
      rw [crow_len, List.length_map, hds, List.length_map, List.length_take]; omega
    cases g with
    | nil => exact absurd rfl hg
    | cons v g =>
      have e3 : crow ((hds (G.take (i + 1))).map V.row) = crow ((hds (G.take i)).map V.row) ++ [(V.row v).map .av] := by
        rw [e, List.map_append, crow_app]; rfl
      rw [V.row_eq v] at e3
      rw [List.map_cons, V.row_eq v] at hx'
      clear r
      generalize crow ((hds (G.take i)).map V.row) = K0 at *
      have l0 : (0 : Int) < (([AV.int .i64 v.kind, AV.str v.num, AV.str v.text, AV.lst 5 (v.items.map V.row), AV.lst 1 (srow v.keys)] :: g.map V.row).length : Nat) := by simp
      repeat' (first | refine zA ?_ | ((apply W1.iadr; (iterate 3 exact rfl); omega; exact rfl)) | (refine W1.bL ?_) | ((apply W1.append1; (iterate 4 exact rfl); omega)) | refine zB ?_ | (refine zC ?_ ?_ <;> intro hc; all_goals first | (cases hc; done) | ((try simp only [hc]); (try simp only [bm] at hc))) | refine zE ?_ | refine zNV ?_ | fail)
      all_goals first
        | (exfalso; omega)
        | (refine ⟨(), trivial, ?_⟩; rw [e3]; rfl)
        | trace_state
  · intro u _
    rw [List.take_length]
    repeat' (first | refine zA ?_ | refine zB ?_ | (refine zC ?_ ?_ <;> intro hc; all_goals first | (cases hc; done) | ((try simp only [hc]); (try simp only [bm] at hc))) | refine zE ?_ | refine zNV ?_ | fail)
    all_goals first | exact ⟨.inr rfl, rfl, rfl⟩ | trace_state
theorem OrderParts_ret (h : Fn T F.hallmarklaw07_OrderParts hallmarklaw07_OrderParts.fn) (hk : Fn T F.hallmarklaw07_OrderKnown hallmarklaw07_OrderKnown.fn) (rk : Ret T F.hallmarklaw07_OrderKnown [] (one (.bool true))) (f : OpFns T) (hG : Fn T F.order_Group order_Group.fn) (hU : Fn T F.order_Unique order_Unique.fn) (p1 : Fn T F.hallmarkref03_Formed hallmarkref03_Formed.fn) (p2 : Fn T F.hallmarkref03_All hallmarkref03_All.fn) (p3 : Fn T F.hallmarkref03_Number hallmarkref03_Number.fn) (p4 : Fn T F.hallmarkref03_Rise hallmarkref03_Rise.fn) (p5 : Fn T F.hallmarkref03_UTF hallmarkref03_UTF.fn) (p6 : Fn T F.hallmarkref03_width hallmarkref03_width.fn) (p7 : Fn T F.hallmarkref03_trail hallmarkref03_trail.fn) (s : SmFns T)
    (l m : List V) (hbl : V.bks l ≤ 100000000) (hbm : V.bks m ≤ 100000000) : Ret T F.hallmarklaw07_OrderParts [.val (.lst 5 (l.map V.row)), .val (.lst 5 (m.map V.row))] (one (.bool true)) := by
  have e1 : (l.map V.row).length = l.length := List.length_map ..
  have e2 : (m.map V.row).length = m.length := List.length_map ..
  have hla := V.len_bks l
  have hlm := V.len_bks m
  have hall : ∀ k : List V, V.bks k ≤ 1073741824 → Ret T F.hallmarkref03_All [.val (.lst 5 (k.map V.row))] (one (.bool (k.all formed))) := fun k hk => by
    rw [← formedAll_eq]
    exact refAll_of p2 p1 k hk fun x hx => refFormed_ret p1 p2 p3 p4 p5 p6 p7 x (by have := bks_le hx; omega)
  have r1 := hall l (by omega)
  have r2 := hall m (by omega)
  clear hall
  by_cases ha : l.all formed = true ∧ m.all formed = true ∧ l.length = m.length
  · obtain ⟨ha, hb, hlen⟩ := ha
    rw [ha] at r1
    rw [hb] at r2
    obtain ⟨G, ⟨g1, g2⟩, q1⟩ := ogroup_ret f hG l m hlen (by omega) ha hb
    have q2 := osortBy_ret f l m hlen (by omega) ha hb
    have hP : (srtP (l.zip m)).length = l.length := by rw [(srtP_perm _).length_eq, List.length_zip]; omega
    have hGl : G.length ≤ 1073741824 := by
      have h1 : G.length ≤ G.flatten.length := by
        clear g1 q1
        induction G with
        | nil => simp
        | cons g G ih =>
          have := ih fun g hg => g2 g (List.mem_cons_of_mem _ hg)
          have h3 : 0 < g.length := List.length_pos_iff.2 (g2 g List.mem_cons_self)
          simp only [List.flatten_cons, List.length_append, List.length_cons]
          omega
      rw [g1, List.length_map] at h1
      omega
    have q3 := ounique_ret f hG.modes hU l m G hGl g2 q1
    rw [show ((srtP (l.zip m)).map fun p => p.1.row) = (G.flatten).map V.row by rw [g1, List.map_map]; rfl] at q2
    have hV : V.bks G.flatten ≤ 1073741824 := by
      have hp := (srtP_perm (l.zip m)).map Prod.fst
      rw [List.map_fst_zip (by omega)] at hp
      rw [g1, bks_perm hp]; omega
    have hF : G.flatten.length ≤ 1073741824 := by rw [g1, List.length_map]; omega
    have q4 := sameVals_ret s G.flatten G.flatten hV hV
    rw [lsame_iff.2 rfl] at q4
    have hbk : ∀ v ∈ G.flatten, v.bk ≤ 1073741824 := fun v hv => by
      rw [g1] at hv
      obtain ⟨p, hp, rfl⟩ := List.mem_map.1 hv
      have := (List.of_mem_zip ((srtP_perm _).mem_iff.1 hp)).1
      have := bks_le this
      omega
    clear g1 hP
    have e3 := lls_len G
    have e4 : (hds G).length = G.length := List.length_map ..
    have e5 : ((hds G).map V.row).length = G.length := by rw [List.length_map, e4]
    have q4' : Ret T F.hallmarkkit_SameValues [.val (.lst 5 (sealRows (crow (G.flatten.map V.row)))), .val (.lst 5 (G.flatten.map V.row))] (one (.bool true)) := by rw [seal_crow]; exact q4
    refine Ret.mk h rfl ?_
    repeat' (first | refine zA ?_ | ((apply W1.callM7 (hm := hG.modes) (shut_grows G); (iterate 5 exact rfl); exact q1; exact rfl)) | ((apply W1.callM7 (hm := f.a5.modes) (shut_crow 5 _); (iterate 5 exact rfl); exact q2; exact rfl)) | ((apply W1.callM7 (hm := hU.modes) (shut_crow 5 _); (iterate 5 exact rfl); exact q3; exact rfl)) | refine WQ.cl hk.modes ?_ | refine W1.cl hk.modes (rk) ?_ | refine WQ.cl p2.modes ?_ | refine W1.cl p2.modes (r1) ?_ | refine WQ.cl p2.modes ?_ | refine W1.cl p2.modes (r2) ?_ | refine zB ?_ | (refine zC ?_ ?_ <;> intro hc; all_goals first | (cases hc; done) | ((try simp only [hc]); (try simp only [bm] at hc))) | refine zE ?_ | refine zNV ?_ | fail)
    all_goals first | (exfalso; simp_all; done) | (exfalso; omega) | skip
    refine W.list G (fun i (_ : Unit) => ⟨lstE [(5, .av (.lst 1 (lls G))), (7, .av (.lst 5 (G.flatten.map V.row))), (9, .av (.lst 5 ((hds G).map V.row))), (11, .own [.own 5 (crow ((G.take i).flatten.map V.row))] false), (12, .av (.int .i64 (i : Int)))], lstB [(5, none), (7, none), (9, none), (11, none), (12, none)]⟩) (fun _ _ => True) () rfl trivial ?_ ?_
    · intro i gr u hx hi _
      have hx' := get_lls hx
      have hne := g2 gr (List.mem_of_getElem? hx)
      have hgm : ∀ v ∈ gr, v ∈ G.flatten := fun v hv => List.mem_flatten.2 ⟨gr, List.mem_of_getElem? hx, hv⟩
      have htk : (G.take (i + 1)).flatten = (G.take i).flatten ++ gr := by rw [List.take_add_one, hx]; simp
      have hfl : (G.take i).flatten.length + gr.length ≤ 1073741824 := by
        have h1 : ((G.take (i + 1)).flatten).length ≤ G.flatten.length := by
          conv => rhs; rw [← List.take_append_drop (i + 1) G]
          rw [List.flatten_append, List.length_append]; omega
        rw [htk, List.length_append] at h1
        omega
      clear q1 q2 q3 q4 q4' r1 r2 rk
      have lr : ((gr.map V.row).length : Int) = gr.length := by rw [List.length_map]
      have key : ∀ st : St, st.keep [5, 7, 9, 11, 12, 13] = ⟨lstE [(5, .av (.lst 1 (lls G))), (7, .av (.lst 5 (G.flatten.map V.row))), (9, .av (.lst 5 ((hds G).map V.row))), (11, .own [.own 5 (crow ((G.take i).flatten.map V.row))] false), (12, .av (.int .i64 (i : Int))), (13, .av (.int .i64 0))], lstB [(5, none), (7, none), (9, none), (11, none), (12, none), (13, none)]⟩ →
          ∀ Q : Ex → St → Prop, (∀ z : TV, Q (.exit 2) ⟨lstE [(5, .av (.lst 1 (lls G))), (7, .av (.lst 5 (G.flatten.map V.row))), (9, .av (.lst 5 ((hds G).map V.row))), (11, .own [.own 5 (crow ((G.take (i + 1)).flatten.map V.row))] false), (12, .av (.int .i64 (i : Int))), (13, .av (.int .i64 (gr.length : Nat))), (98, z)], lstB [(5, none), (7, none), (9, none), (11, none), (12, none), (13, none), (98, none)]⟩) →
          W T (.loop [5, 7, 9, 11, 12, 13] hallmarklaw07_OrderParts.l2) st Q := by
        intro st hst Q hQ
        refine W.list gr (fun k (_ : Unit) => ⟨lstE [(5, .av (.lst 1 (lls G))), (7, .av (.lst 5 (G.flatten.map V.row))), (9, .av (.lst 5 ((hds G).map V.row))), (11, .own [.own 5 (crow (((G.take i).flatten ++ gr.take k).map V.row))] false), (12, .av (.int .i64 (i : Int))), (13, .av (.int .i64 (k : Int)))], lstB [(5, none), (7, none), (9, none), (11, none), (12, none), (13, none)]⟩) (fun _ _ => True) () (by rw [hst, List.take_zero, List.append_nil]; rfl) trivial ?_ ?_
        · intro k w u hw hk _
          have hw' := V.get_row hw
          have e : crow (((G.take i).flatten ++ gr.take (k + 1)).map V.row) = crow (((G.take i).flatten ++ gr.take k).map V.row) ++ [(V.row w).map .av] := by
            rw [List.take_add_one, hw, ← List.append_assoc, List.map_append, crow_app]; rfl
          rw [V.row_eq w] at e
          have el : (crow (((G.take i).flatten ++ gr.take k).map V.row)).length ≤ 1073741824 := by
            rw [crow_len, List.length_map, List.length_append, List.length_take]; omega
          generalize crow (((G.take i).flatten ++ gr.take k).map V.row) = K0 at *
          repeat' (first | refine zA ?_ | (refine W1.bL ?_) | ((apply W1.append1; (iterate 4 exact rfl); omega)) | refine zB ?_ | (refine zC ?_ ?_ <;> intro hc; all_goals first | (cases hc; done) | ((try simp only [hc]); (try simp only [bm] at hc))) | refine zE ?_ | refine zNV ?_ | fail)
          all_goals first
            | (exfalso; omega)
            | (refine ⟨(), trivial, ?_⟩; rw [e]; rfl)
            | trace_state
        · intro u _
          rw [List.take_length, ← htk]
          repeat' (first | refine zA ?_ | refine zB ?_ | (refine zC ?_ ?_ <;> intro hc; all_goals first | (cases hc; done) | ((try simp only [hc]); (try simp only [bm] at hc))) | refine zE ?_ | refine zNV ?_ | fail)
          all_goals first
            | (exfalso; omega)
            | exact hQ _
            | trace_state
      cases gr with
      | nil => exact absurd rfl hne
      | cons v r =>
        have hhd : (hds G)[i]? = some v := by rw [hds, List.getElem?_map, hx]; rfl
        have hhd' := V.get_row hhd
        have q5 := sameVal_ret s v (hbk v (hgm v List.mem_cons_self)) v (hbk v (hgm v List.mem_cons_self))
        rw [vsame_iff.2 rfl, V.av_eq] at q5
        have hx2 := hx'
        rw [List.map_cons, V.row_eq v] at hx2
        have l0 : (0 : Int) < (([AV.int .i64 v.kind, AV.str v.num, AV.str v.text, AV.lst 5 (v.items.map V.row), AV.lst 1 (srow v.keys)] :: r.map V.row).length : Nat) := by simp
        repeat' (first | refine zA ?_ | refine WQ.cl s.a1.modes ?_ | refine W1.cl s.a1.modes (q5) ?_ | ((refine key _ rfl _ fun z => ?_)) | refine zB ?_ | (refine zC ?_ ?_ <;> intro hc; all_goals first | (cases hc; done) | ((try simp only [hc]); (try simp only [bm] at hc))) | refine zE ?_ | refine zNV ?_ | fail)
        all_goals first
          | (exfalso; omega)
          | (exfalso; simp_all; done)
          | (exact ⟨(), trivial, rfl⟩)
          | trace_state
    · intro u _
      rw [List.take_length]
      repeat' (first | refine zA ?_ | refine WQ.cl s.a2.modes ?_ | refine W1.cl s.a2.modes (q4') ?_ | refine zB ?_ | (refine zC ?_ ?_ <;> intro hc; all_goals first | (cases hc; done) | ((try simp only [hc]); (try simp only [bm] at hc))) | refine zE ?_ | refine zNV ?_ | fail)
      all_goals first | exact Qend.boo rfl rfl rfl | (exfalso; omega) | trace_state
  · have hbad : l.all formed = true → m.all formed = true → ¬ l.length = m.length := fun x1 x2 x3 => ha ⟨x1, x2, x3⟩
    clear ha
    generalize l.all formed = c1 at *
    generalize m.all formed = c2 at *
    refine Ret.mk h rfl ?_
    repeat' (first | refine zA ?_ | refine WQ.cl hk.modes ?_ | refine W1.cl hk.modes (rk) ?_ | refine WQ.cl p2.modes ?_ | refine W1.cl p2.modes (r1) ?_ | refine WQ.cl p2.modes ?_ | refine W1.cl p2.modes (r2) ?_ | refine zB ?_ | (refine zC ?_ ?_ <;> intro hc; all_goals first | (cases hc; done) | ((try simp only [hc]); (try simp only [bm] at hc))) | refine zE ?_ | refine zNV ?_ | fail)
    all_goals first | exact Qend.boo rfl rfl rfl | (exfalso; simp_all; done) | (exfalso; have := hbad (by simp_all) (by simp_all); omega) | trace_state
end
end Hm
