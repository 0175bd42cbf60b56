/- What the law answers on the abstract machine. Conditions: see each theorem. -/
import Derived.Test.YtbbkcgpjieenbaaDoorVFinds3
import Derived.Test.YtbbkcgpjieenbaaDoorVFinds2
set_option linter.unusedVariables false
set_option linter.unusedSimpArgs false
/- Which values the program says are well shaped, and the law. Conditions: see each theorem. -/
namespace Hm
open Go (IntKind)
set_option maxHeartbeats 4000000
set_option maxRecDepth 4000
structure VfFns (T : Tab) : Prop where
  a1 : Fn T F.value_Formed value_Formed.fn
  a2 : Fn T F.value_allFormed value_allFormed.fn
  a3 : Fn T F.value_allFormed_S1 value_allFormed_S1.fn
  a4 : Fn T F.value_empty value_empty.fn
  a5 : Fn T F.value_rise value_rise.fn
  a6 : Fn T F.utf_Valid utf_Valid.fn
  a7 : Fn T F.tens_Formed tens_Formed.fn
  a8 : Fn T F.slices_ContainsFunc_LValue_Value slices_ContainsFunc_LValue_Value.fn
  a9 : Fn T F.slices_IndexFunc_LValue_Value slices_IndexFunc_LValue_Value.fn
section
variable {T : Tab}
theorem indexFuncV_ret (h : Fn T F.slices_IndexFunc_LValue_Value slices_IndexFunc_LValue_Value.fn) {p : V → Bool} {g : Nat} (hg : T.modes g = [.val]) (l : List V) (hl : l.length ≤ 1073741824)
    (ih : ∀ x ∈ l, Ret T g [.val x.av] (one (.bool (p x)))) : ∃ n : Int, (0 ≤ n ↔ l.any p = true) ∧ Ret T F.slices_IndexFunc_LValue_Value [.val (.lst 5 (l.map V.row)), .val (.clo g [] [])] (one (.int .i64 n)) := by
  have e1 : (l.map V.row).length = l.length := List.length_map ..
  refine Ret.ex1 (g := fun n => AV.int .i64 n) (R := fun n => (0 ≤ n ↔ l.any p = true)) h rfl ?_
  repeat' (first | refine zA ?_ | refine zB ?_ | (refine zC ?_ ?_ <;> intro hc; all_goals first | (cases hc; done) | ((try simp only [hc]); (try simp only [bm] at hc))) | refine zE ?_ | refine zN ?_ | fail)
  refine W.listP l (fun i (_ : Unit) s => s.put 8 (.av (.int .i64 (i : Int)))) (fun i _ => (l.take i).any p = false) () (by simp) rfl ?_ ?_
  · intro i x u hx hi hp
    have r := ih x (List.mem_of_getElem? hx)
    rw [V.av_eq] at r
    repeat' (first | refine zA ?_ | refine WQ.cl hg ?_ | refine W1.cl hg (r) ?_ | refine zB ?_ | (refine zC ?_ ?_ <;> intro hc; all_goals first | (cases hc; done) | ((try simp only [hc]); (try simp only [bm] at hc))) | refine zE ?_ | refine zN ?_ | fail)
    all_goals clear r
    · refine ⟨_, ?_, Qend.num rfl rfl rfl⟩
      have : l.any p = true := List.any_eq_true.2 ⟨x, List.mem_of_getElem? hx, by assumption⟩
      simp [this]
    · refine ⟨(), ?_, rfl⟩
      rw [List.take_add_one, hx, List.any_append, hp]; simp_all
  · intro u hp
    rw [List.take_length] at hp
    repeat' (first | refine zA ?_ | refine zB ?_ | (refine zC ?_ ?_ <;> intro hc; all_goals first | (cases hc; done) | ((try simp only [hc]); (try simp only [bm] at hc))) | refine zE ?_ | refine zN ?_ | fail)
    refine ⟨_, ?_, Qend.num rfl rfl rfl⟩
    rw [hp]; simp
theorem containsFuncV_ret (h : Fn T F.slices_ContainsFunc_LValue_Value slices_ContainsFunc_LValue_Value.fn) (hi : Fn T F.slices_IndexFunc_LValue_Value slices_IndexFunc_LValue_Value.fn) {p : V → Bool} {g : Nat} (hg : T.modes g = [.val]) (l : List V) (hl : l.length ≤ 1073741824)
    (ih : ∀ x ∈ l, Ret T g [.val x.av] (one (.bool (p x)))) : Ret T F.slices_ContainsFunc_LValue_Value [.val (.lst 5 (l.map V.row)), .val (.clo g [] [])] (one (.bool (l.any p))) := by
  obtain ⟨n, hn, r⟩ := indexFuncV_ret hi hg l hl ih
  refine Ret.mk h rfl ?_
  repeat' (first | refine zA ?_ | refine WQ.cl hi.modes ?_ | refine W1.cl hi.modes (r) ?_ | refine zB ?_ | (refine zC ?_ ?_ <;> intro hc; all_goals first | (cases hc; done) | ((try simp only [hc]); (try simp only [bm] at hc))) | refine zE ?_ | refine zN ?_ | fail)
  refine Qend.boo rfl rfl ?_
  rw [Bool.eq_iff_iff, ← hn]; simp
theorem vrise_ret (h : Fn T F.value_rise value_rise.fn) (hu : Fn T F.utf_Valid utf_Valid.fn) (hv : ValidOk T) (l : List Str) (hb : sbk l ≤ 1073741824) : Ret T F.value_rise [.val (.lst 1 (srow l))] (one (.bool (rise l))) := by
  refine Ret.mk h rfl ?_
  have hl := len_sbk l
  have e1 := srow_len l
  repeat' (first | refine zA ?_ | refine zB ?_ | (refine zC ?_ ?_ <;> intro hc; all_goals first | (cases hc; done) | ((try simp only [hc]); (try simp only [bm] at hc))) | refine zE ?_ | refine zN ?_ | fail)
  refine W.listP l (fun i (_ : Unit) s => s.put 7 (.av (.int .i64 (i : Int)))) (fun i _ => ∀ j < i, riseAt l j = true) () (by simp) rfl ?_ ?_
  · intro i x u hx hi hp
    have hsx := sbk_mem (List.mem_of_getElem? hx)
    have hret := hv x (by omega)
    have hgx : l.getD i [] = x := by simp [List.getD, hx]
    by_cases h0 : i = 0
    · subst h0
      repeat' (first | refine zA ?_ | refine WQ.cl hu.modes ?_ | refine W1.cl hu.modes (hret) ?_ | refine zB ?_ | (refine zC ?_ ?_ <;> intro hc; all_goals first | (cases hc; done) | ((try simp only [hc]); (try simp only [bm] at hc))) | refine zE ?_ | refine zN ?_ | fail)
      all_goals clear hret hv
      all_goals first
        | (refine Qend.boo rfl rfl ?_; rw [rise_false hi (by simp_all [riseAt])]; done)
        | (refine ⟨(), fun j hj => ?_, rfl⟩; obtain rfl : j = 0 := by omega
           simp_all [riseAt]; done)
        | (exfalso; omega)
    · obtain ⟨y, hy⟩ : ∃ y, l[i - 1]? = some y := ⟨l[i - 1]'(by omega), List.getElem?_eq_getElem (by omega)⟩
      have hgy : l.getD (i - 1) [] = y := by simp [List.getD, hy]
      have hry : (srow l)[((i : Int) - 1).toNat]? = some [.str y] := by
        have : ((i : Int) - 1).toNat = i - 1 := by omega
        rw [this]; exact get_srow hy
      repeat' (first | refine zA ?_ | refine WQ.cl hu.modes ?_ | refine W1.cl hu.modes (hret) ?_ | refine zB ?_ | (refine zC ?_ ?_ <;> intro hc; all_goals first | (cases hc; done) | ((try simp only [hc]); (try simp only [bm] at hc))) | refine zE ?_ | refine zN ?_ | fail)
      all_goals clear hret hv
      all_goals first
        | (refine Qend.boo rfl rfl ?_; rw [rise_false hi (by simp_all [riseAt])]; done)
        | (refine ⟨(), fun j hj => ?_, rfl⟩
           by_cases hji : j < i
           · exact hp j hji
           · obtain rfl : j = i := by omega
             simp_all [riseAt])
        | (exfalso; omega)
  · intro u hp
    repeat' (first | refine zA ?_ | refine zB ?_ | (refine zC ?_ ?_ <;> intro hc; all_goals first | (cases hc; done) | ((try simp only [hc]); (try simp only [bm] at hc))) | refine zE ?_ | refine zN ?_ | fail)
    refine Qend.boo rfl rfl ?_
    rw [rise_true hp]
theorem vempty_ret (h : Fn T F.value_empty value_empty.fn) (v : V) (a b c d : Bool) : Ret T F.value_empty [.val v.av, .val (.bool a), .val (.bool b), .val (.bool c), .val (.bool d)]
    (one (.bool ((a || v.num == []) && (b || v.text == []) && (c || decide (v.items.length = 0)) && (d || decide (v.keys.length = 0))))) := by
  have e1 := srow_len v.keys
  have e2 : (v.items.map V.row).length = v.items.length := List.length_map ..
  have z : ∀ n : Nat, ((n : Int) == 0) = decide (n = 0) := fun n => by rw [Bool.eq_iff_iff]; simp
  refine Ret.mk h rfl ?_
  rw [V.av_eq]
  repeat' (first | refine zA ?_ | refine zB ?_ | (refine zC ?_ ?_ <;> intro hc; all_goals first | (cases hc; done) | ((try simp only [hc]); (try simp only [bm] at hc))) | refine zE ?_ | refine zN ?_ | fail)
  all_goals refine Qend.boo rfl rfl ?_
  all_goals clear h
  all_goals first | (simp_all; done) | (rw [Bool.eq_iff_iff]; simp_all; done) | (simp_all [z]; done) | (rw [Bool.eq_iff_iff]; simp_all [z]; done)
theorem vformed_eq (k : Int) (n t : Str) (is : List V) (ks : List Str) : formed (.mk k n t is ks) = (decide (0 ≤ k) && decide (k ≤ 6) && (if k = 3 then number n else decide (n = [])) && (if k = 4 then utf t else decide (t = [])) && (decide (5 ≤ k) || decide (is.length = 0)) && (decide (6 ≤ k) || decide (ks.length = 0)) &&
    (decide (k ≠ 6) || (decide (is.length = ks.length) && rise ks)) && is.all formed) := by
  have q : ∀ a b : Nat, (a == b) = decide (b = a) := fun a b => by rw [Bool.eq_iff_iff, beq_iff_eq, decide_eq_true_eq]; exact eq_comm
  simp only [formed, formedAll_eq]
  rw [Bool.eq_iff_iff]
  simp only [Bool.and_eq_true, Bool.or_eq_true, Bool.not_eq_true', Bool.or_eq_false_iff, Bool.and_eq_false_iff, decide_eq_true_eq, decide_eq_false_iff_not, q]
  grind
theorem valueFormed_ret (f : VfFns T) (hv : ValidOk T) : ∀ (v : V), v.bk ≤ 1073741824 → Ret T F.value_Formed [.val v.av] (one (.bool (formed v))) := by
  intro v
  induction v using V.ind with
  | h v ih =>
  intro hb
  have hbk := V.bk_eq v
  have hk := len_sbk v.keys
  have hl := V.len_bks v.items
  have e1 := srow_len v.keys
  have e2 : (v.items.map V.row).length = v.items.length := List.length_map ..
  have z : ∀ n : Nat, ((n : Int) == 0) = decide (n = 0) := fun n => by rw [Bool.eq_iff_iff]; simp
  have r1 := tensFormed_ret f.a7 v.num (by omega)
  have r2 := hv v.text (by omega)
  have r3 := vrise_ret f.a5 f.a6 hv v.keys (by omega)
  have r0 := vempty_ret f.a4 v
  have rc : ∀ x ∈ v.items, Ret T F.value_allFormed_S1 [.val x.av] (one (.bool (!formed x))) := fun x hx => by
    have r := ih x hx (by have := V.bk_item hx; omega)
    refine Ret.mk f.a3 rfl ?_
    rw [V.av_eq] at *
    repeat' (first | refine zA ?_ | refine WQ.cl f.a1.modes ?_ | refine W1.cl f.a1.modes (r) ?_ | refine zB ?_ | (refine zC ?_ ?_ <;> intro hc; all_goals first | (cases hc; done) | ((try simp only [hc]); (try simp only [bm] at hc))) | refine zE ?_ | refine zN ?_ | fail)
    exact Qend.boo rfl rfl rfl
  have r5 := containsFuncV_ret f.a8 f.a9 (p := fun x => !formed x) f.a3.modes v.items (by omega) rc
  have r4 : Ret T F.value_allFormed [.val (.lst 5 (v.items.map V.row))] (one (.bool (v.items.all formed))) := by
    refine Ret.mk f.a2 rfl ?_
    repeat' (first | refine zA ?_ | refine WQ.cl f.a8.modes ?_ | refine W1.cl f.a8.modes (r5) ?_ | refine zB ?_ | (refine zC ?_ ?_ <;> intro hc; all_goals first | (cases hc; done) | ((try simp only [hc]); (try simp only [bm] at hc))) | refine zE ?_ | refine zN ?_ | fail)
    refine Qend.boo rfl rfl ?_
    rw [List.all_eq_not_any_not]
  clear r5 rc ih hv
  refine Ret.mk f.a1 rfl ?_
  obtain ⟨k, n, t, is, ks⟩ := v
  rw [vformed_eq]
  rw [V.av_eq] at *
  simp only [V.kind, V.num, V.text, V.items, V.keys] at *
  repeat' (first | refine zA ?_ | refine WQ.cl f.a4.modes ?_ | refine W1.cl f.a4.modes (r0 _ _ _ _) ?_ | refine WQ.cl f.a7.modes ?_ | refine W1.cl f.a7.modes (r1) ?_ | refine WQ.cl f.a6.modes ?_ | refine W1.cl f.a6.modes (r2) ?_ | refine WQ.cl f.a5.modes ?_ | refine W1.cl f.a5.modes (r3) ?_ | refine WQ.cl f.a2.modes ?_ | refine W1.cl f.a2.modes (r4) ?_ | refine zB ?_ | (refine zC ?_ ?_ <;> intro hc; all_goals first | (cases hc; done) | ((try simp only [hc]); (try simp only [bm] at hc))) | refine zE ?_ | refine zN ?_ | fail)
  all_goals refine Qend.boo rfl rfl ?_
  all_goals clear r0 r1 r2 r3 r4 hb hbk hk hl e1 e2
  all_goals (try simp only [List.length_map, srow_len, Int.natCast_inj] at *)
  all_goals first
    | (simp_all; done)
    | (simp_all; omega)
    | (rw [Bool.eq_iff_iff]; simp_all; done)
    | (rw [Bool.eq_iff_iff]; simp_all; omega)
    | trace_state
end
end Hm

/- Places in lists of values: the program. Conditions: see each theorem. -/
namespace Hm
open Go (IntKind)
set_option maxHeartbeats 4000000
set_option maxRecDepth 4000
section
variable {T : Tab}
theorem bks_le {x : V} : ∀ {l : List V}, x ∈ l → x.bk ≤ V.bks l
  | y :: r, h => by
    have e : V.bks (y :: r) = y.bk + V.bks r := rfl
    rcases List.mem_cons.1 h with rfl | h
    · omega
    · have := bks_le h; omega
def lls (ls : List (List V)) : List (List AV) := ls.map fun l => [.lst 5 (l.map V.row)]
theorem lls_len (ls : List (List V)) : (lls ls).length = ls.length := List.length_map ..
theorem get_lls {ls : List (List V)} {i : Nat} {l : List V} (h : ls[i]? = some l) : (lls ls)[i]? = some [.lst 5 (l.map V.row)] := by simp [lls, h]
theorem orderFormed_ret (h : Fn T F.order_formed order_formed.fn) (hf : Fn T F.value_Formed value_Formed.fn) (ls : List (List V)) (hl : ls.length ≤ 1073741824) (hb : ∀ l ∈ ls, V.bks l ≤ 1073741824)
    (ih : ∀ l ∈ ls, ∀ x ∈ l, Ret T F.value_Formed [.val x.av] (one (.bool (formed x)))) : Ret T F.order_formed [.val (.lst 1 (lls ls))] (one (.bool (ls.all (·.all formed)))) := by
  have e1 := lls_len ls
  refine Ret.mk h rfl ?_
  repeat' (first | refine zA ?_ | refine zB ?_ | (refine zC ?_ ?_ <;> intro hc; all_goals first | (cases hc; done) | ((try simp only [hc]); (try simp only [bm] at hc))) | refine zE ?_ | refine zN ?_ | fail)
  refine W.listP ls (fun i (_ : Unit) s => s.put 9 (.av (.int .i64 (i : Int)))) (fun i _ => (ls.take i).all (·.all formed) = true) () (by simp) rfl ?_ ?_
  · intro i l u hx hi hp
    have hx' := get_lls hx
    have e2 : (l.map V.row).length = l.length := List.length_map ..
    have hbl := V.len_bks l
    have hbl2 := hb l (List.mem_of_getElem? hx)
    repeat' (first | refine zA ?_ | refine zB ?_ | (refine zC ?_ ?_ <;> intro hc; all_goals first | (cases hc; done) | ((try simp only [hc]); (try simp only [bm] at hc))) | refine zE ?_ | refine zN ?_ | fail)
    refine W.listP l (fun j (_ : Unit) s => s.put 15 (.av (.int .i64 (j : Int)))) (fun j _ => (l.take j).all formed = true) () (by simp) rfl ?_ ?_
    · intro j x u hy hj hq
      have r := ih l (List.mem_of_getElem? hx) x (List.mem_of_getElem? hy)
      rw [V.av_eq] at r
      repeat' (first | refine zA ?_ | refine WQ.cl hf.modes ?_ | refine W1.cl hf.modes (r) ?_ | refine zB ?_ | (refine zC ?_ ?_ <;> intro hc; all_goals first | (cases hc; done) | ((try simp only [hc]); (try simp only [bm] at hc))) | refine zE ?_ | refine zN ?_ | fail)
      · refine Qend.boo rfl rfl ?_
        rw [all_false hx (all_false hy (by simp_all))]
      · refine ⟨(), ?_, rfl⟩
        rw [all_take_succ hy, hq]; simp_all
    · intro u hq
      rw [List.take_length] at hq
      repeat' (first | refine zA ?_ | refine zB ?_ | (refine zC ?_ ?_ <;> intro hc; all_goals first | (cases hc; done) | ((try simp only [hc]); (try simp only [bm] at hc))) | refine zE ?_ | refine zN ?_ | fail)
      refine ⟨(), ?_, rfl⟩
      rw [all_take_succ hx, hp, hq]; rfl
  · intro u hp
    rw [List.take_length] at hp
    repeat' (first | refine zA ?_ | refine zB ?_ | (refine zC ?_ ?_ <;> intro hc; all_goals first | (cases hc; done) | ((try simp only [hc]); (try simp only [bm] at hc))) | refine zE ?_ | refine zN ?_ | fail)
    refine Qend.boo rfl rfl ?_
    rw [hp]
/-- The place of the one that no other is ahead of. -/
def bst (p : V → V → Bool) (l : List V) : Nat → Option Nat
  | 0 => none
  | i + 1 => match l[i]?, bst p l i with
    | some x, some j => match l[j]? with
      | some y => if p x y then some i else some j
      | none => some i
    | some _, none => some i
    | none, r => r
def bstI : Option Nat → Int
  | some j => (j : Int)
  | none => -1
theorem bst_none {p : V → V → Bool} {l : List V} {i : Nat} {x : V} (hx : l[i]? = some x) (h : bst p l i = none) : bst p l (i + 1) = some i := by
  rw [bst, hx, h]
theorem bst_some {p : V → V → Bool} {l : List V} {i j : Nat} {x y : V} (hx : l[i]? = some x) (h : bst p l i = some j) (hy : l[j]? = some y) : bst p l (i + 1) = if p x y then some i else some j := by
  rw [bst, hx, h]; simp only [hy]
theorem bst_lt {p : V → V → Bool} {l : List V} : ∀ {i j : Nat}, i ≤ l.length → bst p l i = some j → j < i
  | 0, j, _, h => by simp [bst] at h
  | i + 1, j, hi, h => by
    have hx : l[i]? = some l[i] := List.getElem?_eq_getElem (by omega)
    cases hb : bst p l i with
    | none => rw [bst_none hx hb] at h; simp at h; omega
    | some k =>
      have := bst_lt (i := i) (by omega) hb
      rw [bst_some hx hb (List.getElem?_eq_getElem (by omega))] at h
      split at h <;> (simp only [Option.some.injEq] at h; omega)
theorem orderBest_ret (h : Fn T F.order_best order_best.fn) (hf : Fn T F.order_formed order_formed.fn) {p : V → V → Bool} {g : Nat} (hg : T.modes g = [.val, .val]) (l : List V) (hb : V.bks l ≤ 1073741824)
    (r1 : Ret T F.order_formed [.val (.lst 1 (lls [l]))] (one (.bool (l.all formed))))
    (ih : l.all formed = true → ∀ x ∈ l, ∀ y ∈ l, Ret T g [.val x.av, .val y.av] (one (.bool (p x y)))) :
    Ret T F.order_best [.val (.lst 5 (l.map V.row)), .val (.clo g [] [])] (if l.all formed then two (.int .i64 (bstI (bst p l l.length))) (.int .i64 0) else two (.int .i64 0) (.int .i64 1)) := by
  have e1 : (l.map V.row).length = l.length := List.length_map ..
  have hbl := V.len_bks l
  simp only [lls, List.map_cons, List.map_nil] at r1
  refine Ret.mk h rfl ?_
  by_cases hall : l.all formed = true
  · have ih' := ih hall
    rw [hall] at r1 ⊢
    repeat' (first | refine zA ?_ | refine WQ.cl hf.modes ?_ | refine W1.cl hf.modes (r1) ?_ | refine zB ?_ | (refine zC ?_ ?_ <;> intro hc; all_goals first | (cases hc; done) | ((try simp only [hc]); (try simp only [bm] at hc))) | refine zE ?_ | refine zN ?_ | fail)
    refine W.listP l (fun i (_ : Unit) s => (s.put 6 (.av (.int .i64 (bstI (bst p l i))))).put 15 (.av (.int .i64 (i : Int)))) (fun _ _ => True) () trivial rfl ?_ ?_
    · intro i x u hx hi _
      cases hb' : bst p l i with
      | none =>
        have e := bst_none hx hb'
        simp only [bstI]
        repeat' (first | refine zA ?_ | refine zB ?_ | (refine zC ?_ ?_ <;> intro hc; all_goals first | (cases hc; done) | ((try simp only [hc]); (try simp only [bm] at hc))) | refine zE ?_ | refine zN ?_ | fail)
        exact ⟨(), trivial, by rw [e]; rfl⟩
      | some j =>
        have hj := bst_lt (by omega) hb'
        obtain ⟨y, hy⟩ : ∃ y, l[j]? = some y := ⟨l[j], List.getElem?_eq_getElem (by omega)⟩
        have e := bst_some hx hb' hy
        have r := ih' x (List.mem_of_getElem? hx) y (List.mem_of_getElem? hy)
        simp only [bstI]
        rw [V.av_eq, V.av_eq] at r
        repeat' (first | refine zA ?_ | refine WQ.cl hg ?_ | refine W1.cl hg (r) ?_ | refine zB ?_ | (refine zC ?_ ?_ <;> intro hc; all_goals first | (cases hc; done) | ((try simp only [hc]); (try simp only [bm] at hc))) | refine zE ?_ | refine zN ?_ | fail)
        · exact ⟨(), trivial, by rw [e, if_pos (by assumption)]; rfl⟩
        · exact ⟨(), trivial, by rw [e, if_neg (by simp_all)]; rfl⟩
    · intro u _
      repeat' (first | refine zA ?_ | refine zB ?_ | (refine zC ?_ ?_ <;> intro hc; all_goals first | (cases hc; done) | ((try simp only [hc]); (try simp only [bm] at hc))) | refine zE ?_ | refine zN ?_ | fail)
      exact Qend.two rfl rfl rfl rfl
  · rw [show l.all formed = false by simpa using hall] at r1 ⊢
    repeat' (first | refine zA ?_ | refine WQ.cl hf.modes ?_ | refine W1.cl hf.modes (r1) ?_ | refine zB ?_ | (refine zC ?_ ?_ <;> intro hc; all_goals first | (cases hc; done) | ((try simp only [hc]); (try simp only [bm] at hc))) | refine zE ?_ | refine zN ?_ | fail)
    exact Qend.two rfl rfl rfl rfl
structure OrFns (T : Tab) : Prop where
  v : VcFns T
  m : VfFns T
  u : ValidOk T
  a1 : Fn T F.order_formed order_formed.fn
  a2 : Fn T F.order_best order_best.fn
  a3 : Fn T F.order_Least order_Least.fn
  a4 : Fn T F.order_Least_S1 order_Least_S1.fn
  a5 : Fn T F.order_Greatest order_Greatest.fn
  a6 : Fn T F.order_Greatest_S1 order_Greatest_S1.fn
  a7 : Fn T F.order_rises order_rises.fn
  a8 : Fn T F.order_Search order_Search.fn
  a9 : Fn T F.value_Same value_Same.fn
theorem oformed_ret (f : OrFns T) (ls : List (List V)) (hl : ls.length ≤ 1073741824) (hb : ∀ l ∈ ls, V.bks l ≤ 1073741824) : Ret T F.order_formed [.val (.lst 1 (lls ls))] (one (.bool (ls.all (·.all formed)))) :=
  orderFormed_ret f.a1 f.m.a1 ls hl hb fun l hl x hx => valueFormed_ret f.m f.u x (by have := bks_le hx; have := hb l hl; omega)
theorem oleast1_ret (f : OrFns T) (a b : V) (hla : a.bk ≤ 1073741824) (hfa : formed a = true) (hlb : b.bk ≤ 1073741824) (hfb : formed b = true) : Ret T F.order_Least_S1 [.val a.av, .val b.av] (one (.bool (decide (vc a b < 0)))) := by
  have r := valueCmp_ret f.v a hla hfa b hlb hfb
  refine Ret.mk f.a4 rfl ?_
  rw [V.av_eq, V.av_eq] at *
  repeat' (first | refine zA ?_ | refine WQ.cl f.v.a1.modes ?_ | refine W1.cl f.v.a1.modes (r) ?_ | refine zB ?_ | (refine zC ?_ ?_ <;> intro hc; all_goals first | (cases hc; done) | ((try simp only [hc]); (try simp only [bm] at hc))) | refine zE ?_ | refine zN ?_ | fail)
  exact Qend.boo rfl rfl rfl
theorem ogreatest1_ret (f : OrFns T) (a b : V) (hla : a.bk ≤ 1073741824) (hfa : formed a = true) (hlb : b.bk ≤ 1073741824) (hfb : formed b = true) : Ret T F.order_Greatest_S1 [.val a.av, .val b.av] (one (.bool (decide (0 ≤ vc a b)))) := by
  have r := valueCmp_ret f.v a hla hfa b hlb hfb
  refine Ret.mk f.a6 rfl ?_
  rw [V.av_eq, V.av_eq] at *
  repeat' (first | refine zA ?_ | refine WQ.cl f.v.a1.modes ?_ | refine W1.cl f.v.a1.modes (r) ?_ | refine zB ?_ | (refine zC ?_ ?_ <;> intro hc; all_goals first | (cases hc; done) | ((try simp only [hc]); (try simp only [bm] at hc))) | refine zE ?_ | refine zN ?_ | fail)
  exact Qend.boo rfl rfl rfl
def plc1 (p : V → V → Bool) (l : List V) : CR := if l.all formed then two (.int .i64 (bstI (bst p l l.length))) (.int .i64 0) else two (.int .i64 0) (.int .i64 1)
theorem orderLeast_ret (f : OrFns T) (l : List V) (hb : V.bks l ≤ 1073741824) : Ret T F.order_Least [.val (.lst 5 (l.map V.row))] (plc1 (fun a b => decide (vc a b < 0)) l) := by
  have r1 := oformed_ret f [l] (by simp) (by simpa using hb)
  simp only [List.all_cons, List.all_nil, Bool.and_true] at r1
  have r := orderBest_ret f.a2 f.a1 (p := fun a b => decide (vc a b < 0)) (g := F.order_Least_S1) f.a4.modes l hb r1 fun hall x hx y hy =>
    oleast1_ret f x y (by have := bks_le hx; omega) (List.all_eq_true.1 hall x hx) (by have := bks_le hy; omega) (List.all_eq_true.1 hall y hy)
  refine Ret.mk f.a3 rfl ?_
  unfold plc1
  split at r
  · rename_i hall
    rw [if_pos hall]
    repeat' (first | refine zA ?_ | refine WQ.cl f.a2.modes ?_ | refine W1.cl f.a2.modes (r) ?_ | refine zB ?_ | (refine zC ?_ ?_ <;> intro hc; all_goals first | (cases hc; done) | ((try simp only [hc]); (try simp only [bm] at hc))) | refine zE ?_ | refine zN ?_ | fail)
    exact Qend.two rfl rfl rfl rfl
  · rename_i hall
    rw [if_neg hall]
    repeat' (first | refine zA ?_ | refine WQ.cl f.a2.modes ?_ | refine W1.cl f.a2.modes (r) ?_ | refine zB ?_ | (refine zC ?_ ?_ <;> intro hc; all_goals first | (cases hc; done) | ((try simp only [hc]); (try simp only [bm] at hc))) | refine zE ?_ | refine zN ?_ | fail)
    exact Qend.two rfl rfl rfl rfl
theorem orderGreatest_ret (f : OrFns T) (l : List V) (hb : V.bks l ≤ 1073741824) : Ret T F.order_Greatest [.val (.lst 5 (l.map V.row))] (plc1 (fun a b => decide (0 ≤ vc a b)) l) := by
  have r1 := oformed_ret f [l] (by simp) (by simpa using hb)
  simp only [List.all_cons, List.all_nil, Bool.and_true] at r1
  have r := orderBest_ret f.a2 f.a1 (p := fun a b => decide (0 ≤ vc a b)) (g := F.order_Greatest_S1) f.a6.modes l hb r1 fun hall x hx y hy =>
    ogreatest1_ret f x y (by have := bks_le hx; omega) (List.all_eq_true.1 hall x hx) (by have := bks_le hy; omega) (List.all_eq_true.1 hall y hy)
  refine Ret.mk f.a5 rfl ?_
  unfold plc1
  split at r
  · rename_i hall
    rw [if_pos hall]
    repeat' (first | refine zA ?_ | refine WQ.cl f.a2.modes ?_ | refine W1.cl f.a2.modes (r) ?_ | refine zB ?_ | (refine zC ?_ ?_ <;> intro hc; all_goals first | (cases hc; done) | ((try simp only [hc]); (try simp only [bm] at hc))) | refine zE ?_ | refine zN ?_ | fail)
    exact Qend.two rfl rfl rfl rfl
  · rename_i hall
    rw [if_neg hall]
    repeat' (first | refine zA ?_ | refine WQ.cl f.a2.modes ?_ | refine W1.cl f.a2.modes (r) ?_ | refine zB ?_ | (refine zC ?_ ?_ <;> intro hc; all_goals first | (cases hc; done) | ((try simp only [hc]); (try simp only [bm] at hc))) | refine zE ?_ | refine zN ?_ | fail)
    exact Qend.two rfl rfl rfl rfl
end
end Hm

/- Search in a list of values: the program. Conditions: see each theorem. -/
namespace Hm
open Go (IntKind)
set_option maxHeartbeats 4000000
set_option maxRecDepth 4000
def vle (l : List V) (j : Nat) : Bool := match l[j]?, l[j - 1]? with
  | some x, some y => !decide (vc x y < 0)
  | _, _ => true
def risesV (l : List V) : Bool := (List.range l.length).all fun j => j == 0 || vle l j
theorem vle_eq {l : List V} {j : Nat} {x y : V} (hx : l[j]? = some x) (hy : l[j - 1]? = some y) : vle l j = !decide (vc x y < 0) := by simp only [vle, hx, hy]
theorem risesV_no {l : List V} {j : Nat} {x y : V} (h1 : 1 ≤ j) (hx : l[j]? = some x) (hy : l[j - 1]? = some y) (h : vc x y < 0) : risesV l = false := by
  rw [risesV, List.all_eq_false]
  refine ⟨j, List.mem_range.2 (List.getElem?_eq_some_iff.1 hx).1, ?_⟩
  rw [vle_eq hx hy]
  simp [h]; omega
theorem risesV_yes {l : List V} {i : Nat} (hi : l.length ≤ i) (h : ∀ j < i, (j == 0 || vle l j) = true) : risesV l = true := by
  rw [risesV, List.all_eq_true]
  exact fun j hj => h j (by have := List.mem_range.1 hj; omega)
/-- How many are below. -/
def below (v : V) (l : List V) : Nat := l.countP fun x => decide (vc x v < 0)
theorem pre_count {p : V → Bool} : ∀ (l : List V), (∀ i x y, l[i]? = some x → l[i + 1]? = some y → p y = true → p x = true) → ∀ i x, l[i]? = some x → (p x = true ↔ i < l.countP p)
  | [], _, i, x, h => by simp at h
  | a :: r, hd, i, x, h => by
    have hd' : ∀ i x y, r[i]? = some x → r[i + 1]? = some y → p y = true → p x = true := fun i x y hx hy => hd (i + 1) x y (by simpa using hx) (by simpa using hy)
    by_cases ha : p a = true
    · rw [List.countP_cons_of_pos ha]
      cases i with
      | zero => simp at h; subst h; simp [ha]
      | succ i =>
        rw [pre_count r hd' i x (by simpa using h)]; omega
    · have hz : ∀ (i : Nat) (y : V), (a :: r)[i]? = some y → p y = false := by
        intro i
        induction i with
        | zero => intro y hy; simp at hy; subst hy; simpa using ha
        | succ i ih =>
          intro y hy
          have hlt := (List.getElem?_eq_some_iff.1 hy).1
          have hx : (a :: r)[i]? = some ((a :: r)[i]'(by omega)) := List.getElem?_eq_getElem (by omega)
          have := ih _ hx
          cases hp : p y with
          | false => rfl
          | true => rw [hd i _ y hx hy hp] at this; cases this
      have h0 : (a :: r).countP p = 0 := by
        rw [List.countP_eq_zero]
        intro y hy
        obtain ⟨i, hi⟩ := List.getElem?_of_mem hy
        rw [hz i y hi]; simp
      rw [hz i x h, h0]; simp
theorem below_pre {l : List V} (hr : risesV l = true) (v : V) : ∀ i x, l[i]? = some x → (vc x v < 0 ↔ i < below v l) := by
  have key := pre_count (p := fun x => decide (vc x v < 0)) l fun i x y hx hy h => by
    have h1 : (i + 1 == 0 || vle l (i + 1)) = true := List.all_eq_true.1 hr (i + 1) (List.mem_range.2 (List.getElem?_eq_some_iff.1 hy).1)
    rw [vle_eq hy (by simpa using hx)] at h1
    simp at h1
    simp only [decide_eq_true_eq] at h ⊢
    have a1 := vc_pre.anti x y trivial trivial
    have a2 := vc_pre.anti x v trivial trivial
    have a3 := vc_pre.anti y v trivial trivial
    have t1 := vc_pre.trans x y v trivial trivial trivial (by omega) (by omega)
    by_cases he : vc x v = 0
    · have t2 := vc_pre.trans v x y trivial trivial trivial (by omega) (by omega)
      omega
    · omega
  intro i x hx
  have := key i x hx
  simpa [below] using this
theorem below_le (v : V) (l : List V) : below v l ≤ l.length := List.countP_le_length
def inAt (l : List V) (v : V) : Bool := match l[below v l]? with
  | some x => vc x v == 0
  | none => false
def three (u v w : AV) : CR := ⟨[([.av u], false), ([.av v], false), ([.av w], false)], []⟩
theorem Qend.three {fn : AFun} {as : List Arg} {u v w u' v' w' : AV} {st : St} (hr : results st fn.results = some [([.av u], false), ([.av v], false), ([.av w], false)]) (ho : outs st 0 as = some []) (h0 : u = u') (h : v = v') (h' : w = w') : Qend fn as (Hm.three u' v' w') .ret st := by
  subst h0 h h'; exact ⟨.inr rfl, hr, ho⟩
def srch (l : List V) (v : V) : CR :=
  if !(l.all formed) || !(formed v) then three (.int .i64 0) (.bool false) (.int .i64 1) else
  if !(risesV l) then three (.int .i64 0) (.bool false) (.int .i64 2) else three (.int .i64 (below v l : Nat)) (.bool (inAt l v)) (.int .i64 0)
section
variable {T : Tab} {st : St} {K : St → Prop}
theorem W1.half2 {dst : Option Nat} {g : Option (Nat × Bool)} {x : Opd} {a : Int} (hg : wanted st g = some true) (hx : st.opd x = .av (.int .i64 a)) (ha : 0 ≤ a) (hb : a < 9223372036854775808)
    (hk : K (putD dst (.av (.int .i64 (a / 2))) st)) : W1 T ⟨dst, .bin .quo x (.v (.int .i64 2)), g⟩ st K := by
  refine W1.go hg (WS.op (v := .av (.int .i64 (a / 2))) rfl ?_ hk)
  have : Int.tdiv a 2 = a / 2 := Int.tdiv_eq_ediv_of_nonneg ha
  rw [← this]
  have hy : st.opd (.v (.int .i64 2)) = .av (.int .i64 2) := rfl
  simp only [stepOp, hx, hy, binA, ne_eq, not_true_eq_false, if_false, inRange, wrap64 (n := a.tdiv 2) (by rw [this]; omega) (by rw [this]; omega)]
  rfl
theorem orises_ret (f : OrFns T) (l : List V) (hb : V.bks l ≤ 1073741824) (hall : l.all formed = true) : Ret T F.order_rises [.val (.lst 5 (l.map V.row))] (one (.bool (risesV l))) := by
  have e1 : (l.map V.row).length = l.length := List.length_map ..
  have hbl := V.len_bks l
  refine Ret.mk f.a7 rfl ?_
  repeat' (first | refine zA ?_ | refine zB ?_ | (refine zC ?_ ?_ <;> intro hc; all_goals first | (cases hc; done) | ((try simp only [hc]); (try simp only [bm] at hc))) | refine zE ?_ | refine zN ?_ | fail)
  have h0 : ∀ j < 1, (j == 0 || vle l j) = true := fun j hj => by
    have : j = 0 := by omega
    subst this; rfl
  refine W.iterP (β := Nat) (fun i s => s.put 3 (.av (.int .i64 (i : Int)))) (fun i => 1 ≤ i ∧ i ≤ l.length + 1 ∧ ∀ j < i, (j == 0 || vle l j) = true) (fun i => l.length + 2 - i) 1 ⟨Nat.le_refl _, by omega, h0⟩ rfl ?_
  rintro i ⟨q1, q0, q2⟩
  by_cases hi : i < l.length
  · obtain ⟨x, hx⟩ : ∃ x, l[i]? = some x := ⟨l[i], List.getElem?_eq_getElem hi⟩
    obtain ⟨y, hy⟩ : ∃ y, l[i - 1]? = some y := ⟨l[i - 1], List.getElem?_eq_getElem (by omega)⟩
    have hh := V.get_row hy
    rw [show i - 1 = ((i : Int) - 1).toNat by omega] at hh
    have mx := List.mem_of_getElem? hx
    have my := List.mem_of_getElem? hy
    have r := valueCmp_ret f.v x (by have := bks_le mx; omega) (List.all_eq_true.1 hall x mx) y (by have := bks_le my; omega) (List.all_eq_true.1 hall y my)
    rw [V.av_eq, V.av_eq] at r
    repeat' (first | refine zA ?_ | refine WQ.cl f.v.a1.modes ?_ | refine W1.cl f.v.a1.modes (r) ?_ | refine zB ?_ | (refine zC ?_ ?_ <;> intro hc; all_goals first | (cases hc; done) | ((try simp only [hc]); (try simp only [bm] at hc))) | refine zE ?_ | refine zN ?_ | fail)
    · refine Qend.boo rfl rfl ?_
      rw [risesV_no q1 hx hy (by assumption)]
    · refine ⟨i + 1, ⟨by omega, by omega, fun j hj => ?_⟩, by omega, rfl⟩
      by_cases hji : j < i
      · exact q2 j hji
      · obtain rfl : j = i := by omega
        rw [vle_eq hx hy]; simp_all
  · skip
    repeat' (first | refine zA ?_ | refine zB ?_ | (refine zC ?_ ?_ <;> intro hc; all_goals first | (cases hc; done) | ((try simp only [hc]); (try simp only [bm] at hc))) | refine zE ?_ | refine zN ?_ | fail)
    refine Qend.boo rfl rfl ?_
    rw [risesV_yes (by omega) q2]
theorem orderSearch_ret (f : OrFns T) (l : List V) (hb : V.bks l ≤ 1073741824) (v : V) (hv : v.bk ≤ 1073741824) : Ret T F.order_Search [.val (.lst 5 (l.map V.row)), .val v.av] (srch l v) := by
  have e1 : (l.map V.row).length = l.length := List.length_map ..
  have hbl := V.len_bks l
  have r1 := oformed_ret f [l] (by simp) (by simpa using hb)
  simp only [List.all_cons, List.all_nil, Bool.and_true, lls, List.map_cons, List.map_nil] at r1
  have r2 := valueFormed_ret f.m f.u v hv
  refine Ret.mk f.a8 rfl ?_
  unfold srch
  by_cases hall : l.all formed = true
  · by_cases hf : formed v = true
    · have r3 := orises_ret f l hb hall
      rw [hall] at r1 ⊢
      rw [hf] at r2 ⊢
      by_cases hr : risesV l = true
      · rw [hr] at r3 ⊢
        have hs := below_pre hr v
        have hp := below_le v l
        have hin : ∀ x, l[below v l]? = some x → inAt l v = (vc x v == 0) := fun x hx => by simp only [inAt, hx]
        have hin0 : l.length ≤ below v l → inAt l v = false := fun h => by simp only [inAt, List.getElem?_eq_none h]
        generalize below v l = p at *
        rw [V.av_eq] at *
        repeat' (first | refine zA ?_ | refine WQ.cl f.a1.modes ?_ | refine W1.cl f.a1.modes (r1) ?_ | refine WQ.cl f.m.a1.modes ?_ | refine W1.cl f.m.a1.modes (r2) ?_ | refine WQ.cl f.a7.modes ?_ | refine W1.cl f.a7.modes (r3) ?_ | refine zB ?_ | (refine zC ?_ ?_ <;> intro hc; all_goals first | (cases hc; done) | ((try simp only [hc]); (try simp only [bm] at hc))) | refine zE ?_ | refine zN ?_ | fail)
        refine W.iterP (β := Nat × Nat) (fun b s => (s.put 7 (.av (.int .i64 (b.1 : Int)))).put 8 (.av (.int .i64 (b.2 : Int)))) (fun b => b.1 ≤ p ∧ p ≤ b.2 ∧ b.2 ≤ l.length) (fun b => b.2 - b.1) (0, l.length) ⟨by omega, hp, by omega⟩ ?_ ?_
        · rfl
        · rintro ⟨i, j⟩ ⟨q1, q2, q3⟩
          simp only at q1 q2 q3
          by_cases hij : i < j
          · obtain ⟨x, hx⟩ : ∃ x, l[(i + j) / 2]? = some x := ⟨l[(i + j) / 2]'(by omega), List.getElem?_eq_getElem (by omega)⟩
            have hh := V.get_row hx
            rw [show (i + j) / 2 = (((i : Int) + (j : Int)) / 2).toNat by omega] at hh
            have hc1 : (((i + j) / 2 + 1 : Nat) : Int) = ((i : Int) + (j : Int)) / 2 + 1 := by omega
            have hc2 : (((i + j) / 2 : Nat) : Int) = ((i : Int) + (j : Int)) / 2 := by omega
            have mx := List.mem_of_getElem? hx
            have r := valueCmp_ret f.v x (by have := bks_le mx; omega) (List.all_eq_true.1 hall x mx) v hv hf
            rw [V.av_eq, V.av_eq] at r
            have hsx := hs _ x hx
            repeat' (first | refine zA ?_ | ((apply W1.half2; exact rfl; exact rfl; omega; omega)) | refine WQ.cl f.v.a1.modes ?_ | refine W1.cl f.v.a1.modes (r) ?_ | refine zB ?_ | (refine zC ?_ ?_ <;> intro hc; all_goals first | (cases hc; done) | ((try simp only [hc]); (try simp only [bm] at hc))) | refine zE ?_ | refine zN ?_ | fail)
            all_goals first
              | (refine ⟨((i + j) / 2 + 1, j), ⟨?_, ?_, ?_⟩, ?_, ?_⟩
                 · show (i + j) / 2 + 1 ≤ p
                   have := hsx.1 (by assumption); omega
                 · exact q2
                 · exact q3
                 · show j - ((i + j) / 2 + 1) < j - i; omega
                 · dsimp only; rw [hc1])
              | (refine ⟨(i, (i + j) / 2), ⟨?_, ?_, ?_⟩, ?_, ?_⟩
                 · exact q1
                 · show p ≤ (i + j) / 2
                   have : ¬ (i + j) / 2 < p := fun hlt => by have := hsx.2 hlt; omega
                   omega
                 · show (i + j) / 2 ≤ l.length; omega
                 · show (i + j) / 2 - i < j - i; omega
                 · dsimp only; rw [hc2])
              | trace_state
          · obtain rfl : i = p := by omega
            obtain rfl : i = j := by omega
            by_cases hin1 : i < l.length
            · obtain ⟨x, hx⟩ : ∃ x, l[i]? = some x := ⟨l[i]'(by omega), List.getElem?_eq_getElem (by omega)⟩
              have mx := List.mem_of_getElem? hx
              have r := valueSame_ret f.a9 f.v x v (by have := bks_le mx; omega) (List.all_eq_true.1 hall x mx) hv hf
              rw [V.av_eq, V.av_eq] at r
              rw [hin x hx]
              repeat' (first | refine zA ?_ | refine WQ.cl f.a9.modes ?_ | refine W1.cl f.a9.modes (r) ?_ | refine zB ?_ | (refine zC ?_ ?_ <;> intro hc; all_goals first | (cases hc; done) | ((try simp only [hc]); (try simp only [bm] at hc))) | refine zE ?_ | refine zN ?_ | fail)
              all_goals first | exact Qend.three rfl rfl rfl rfl rfl | (exfalso; simp_all; done)
            · rw [hin0 (by omega)]
              repeat' (first | refine zA ?_ | refine zB ?_ | (refine zC ?_ ?_ <;> intro hc; all_goals first | (cases hc; done) | ((try simp only [hc]); (try simp only [bm] at hc))) | refine zE ?_ | refine zN ?_ | fail)
              all_goals first | exact Qend.three rfl rfl rfl rfl rfl | (exfalso; simp_all; done)
      · rw [show risesV l = false by simpa using hr] at r3 ⊢
        rw [V.av_eq] at *
        repeat' (first | refine zA ?_ | refine WQ.cl f.a1.modes ?_ | refine W1.cl f.a1.modes (r1) ?_ | refine WQ.cl f.m.a1.modes ?_ | refine W1.cl f.m.a1.modes (r2) ?_ | refine WQ.cl f.a7.modes ?_ | refine W1.cl f.a7.modes (r3) ?_ | refine zB ?_ | (refine zC ?_ ?_ <;> intro hc; all_goals first | (cases hc; done) | ((try simp only [hc]); (try simp only [bm] at hc))) | refine zE ?_ | refine zN ?_ | fail)
        exact Qend.three rfl rfl rfl rfl rfl
    · rw [hall] at r1 ⊢
      rw [show formed v = false by simpa using hf] at r2 ⊢
      rw [V.av_eq] at *
      repeat' (first | refine zA ?_ | refine WQ.cl f.a1.modes ?_ | refine W1.cl f.a1.modes (r1) ?_ | refine WQ.cl f.m.a1.modes ?_ | refine W1.cl f.m.a1.modes (r2) ?_ | refine zB ?_ | (refine zC ?_ ?_ <;> intro hc; all_goals first | (cases hc; done) | ((try simp only [hc]); (try simp only [bm] at hc))) | refine zE ?_ | refine zN ?_ | fail)
      exact Qend.three rfl rfl rfl rfl rfl
  · rw [show l.all formed = false by simpa using hall] at r1 ⊢
    rw [V.av_eq] at *
    repeat' (first | refine zA ?_ | refine WQ.cl f.a1.modes ?_ | refine W1.cl f.a1.modes (r1) ?_ | refine WQ.cl f.m.a1.modes ?_ | refine W1.cl f.m.a1.modes (r2) ?_ | refine zB ?_ | (refine zC ?_ ?_ <;> intro hc; all_goals first | (cases hc; done) | ((try simp only [hc]); (try simp only [bm] at hc))) | refine zE ?_ | refine zN ?_ | fail)
    exact Qend.three rfl rfl rfl rfl rfl
end
end Hm

/- Which lists of values are well shaped, as the reference has it. Conditions: see each theorem. -/
namespace Hm
open Go (IntKind)
set_option maxHeartbeats 4000000
set_option maxRecDepth 4000
structure RoFns7 (T : Tab) : Prop where
  g : RvFns T
  p1 : Fn T F.hallmarkref03_Formed hallmarkref03_Formed.fn
  p2 : Fn T F.hallmarkref03_All hallmarkref03_All.fn
  p3 : Fn T F.hallmarkref03_Number hallmarkref03_Number.fn
  p4 : Fn T F.hallmarkref03_Rise hallmarkref03_Rise.fn
  p5 : Fn T F.hallmarkref03_UTF hallmarkref03_UTF.fn
  p6 : Fn T F.hallmarkref03_width hallmarkref03_width.fn
  p7 : Fn T F.hallmarkref03_trail hallmarkref03_trail.fn
section
variable {T : Tab}
theorem r7form_ret (f : RoFns7 T) (v : V) (hb : v.bk ≤ 1073741824) : Ret T F.hallmarkref03_Formed [.val v.av] (one (.bool (formed v))) := refFormed_ret f.p1 f.p2 f.p3 f.p4 f.p5 f.p6 f.p7 v hb
theorem r7all_ret (f : RoFns7 T) (l : List V) (hb : V.bks l ≤ 1073741824) : Ret T F.hallmarkref03_All [.val (.lst 5 (l.map V.row))] (one (.bool (l.all formed))) := by
  rw [← formedAll_eq]
  exact refAll_of f.p2 f.p1 l hb fun x hx => r7form_ret f x (by have := bks_le hx; omega)
end
end Hm

/- Sameness of values and of their lists. Conditions: see each theorem. -/
namespace Hm
open Go (IntKind)
set_option maxHeartbeats 4000000
set_option maxRecDepth 4000
def vsame (a b : V) : Bool := vc a b == 0
theorem vsame_iff {a b : V} : vsame a b = true ↔ a = b := by
  simp only [vsame, beq_iff_eq]
  exact ⟨vc_zero, fun h => by rw [h]; exact vc_self b⟩
theorem vsame_no {a b : V} (h : a ≠ b) : vsame a b = false := by
  cases hs : vsame a b with
  | false => rfl
  | true => exact absurd (vsame_iff.1 hs) h
def lsame (l m : List V) : Bool := lcmp vc l m == 0
theorem lcmp_self (l : List V) : lcmp vc l l = 0 := by
  induction l with
  | nil => rfl
  | cons a l ih => rw [lcmp, vc_self, orI0, ih]
theorem lsame_iff {l m : List V} : lsame l m = true ↔ l = m := by
  simp only [lsame, beq_iff_eq]
  exact ⟨lcmp_eq2 fun a _ b h => vc_zero h, fun h => by rw [h]; exact lcmp_self m⟩
theorem lsame_no {l m : List V} (h : l ≠ m) : lsame l m = false := by
  cases hs : lsame l m with
  | false => rfl
  | true => exact absurd (lsame_iff.1 hs) h
def ssame (l m : List Str) : Bool := decide (l = m)
theorem ssame_iff {l m : List Str} : ssame l m = true ↔ l = m := by simp [ssame]
theorem ssame_no {l m : List Str} (h : l ≠ m) : ssame l m = false := by simp [ssame, h]
section
variable {T : Tab}
theorem sameStr_ret (h : Fn T F.hallmarkkit_SameStrings hallmarkkit_SameStrings.fn) (l m : List Str) (hl : l.length ≤ 1073741824) (hm : m.length ≤ 1073741824) : Ret T F.hallmarkkit_SameStrings [.val (.lst 1 (srow l)), .val (.lst 1 (srow m))] (one (.bool (ssame l m))) := by
  have e1 := srow_len l
  have e2 := srow_len m
  refine Ret.mk h rfl ?_
  by_cases hlen : l.length = m.length
  · have hlen' : (l.length : Int) = m.length := by omega
    repeat' (first | refine zA ?_ | refine zB ?_ | (refine zC ?_ ?_ <;> intro hc; all_goals first | (cases hc; done) | ((try simp only [hc]); (try simp only [bm] at hc))) | refine zE ?_ | refine zN ?_ | fail)
    refine W.listP l (fun i (_ : Unit) s => s.put 5 (.av (.int .i64 (i : Int)))) (fun i _ => l.take i = m.take i) () rfl rfl ?_ ?_
    · intro i x u hx hi hp
      obtain ⟨y, hy⟩ : ∃ y, m[i]? = some y := ⟨m[i]'(by omega), List.getElem?_eq_getElem (by omega)⟩
      repeat' (first | refine zA ?_ | refine zB ?_ | (refine zC ?_ ?_ <;> intro hc; all_goals first | (cases hc; done) | ((try simp only [hc]); (try simp only [bm] at hc))) | refine zE ?_ | refine zN ?_ | fail)
      · refine Qend.boo rfl rfl ?_
        have : l ≠ m := fun e => by subst e; rw [hx] at hy; cases hy; simp_all
        exact (ssame_no this).symm
      · refine ⟨(), ?_, rfl⟩
        rw [List.take_add_one, List.take_add_one, hp, hx, hy]; simp_all
    · intro u hp
      rw [List.take_length, hlen, List.take_length] at hp
      repeat' (first | refine zA ?_ | refine zB ?_ | (refine zC ?_ ?_ <;> intro hc; all_goals first | (cases hc; done) | ((try simp only [hc]); (try simp only [bm] at hc))) | refine zE ?_ | refine zN ?_ | fail)
      exact Qend.boo rfl rfl (ssame_iff.2 hp).symm
  · have : l ≠ m := fun e => hlen (by rw [e])
    have hlen' : ¬ (l.length : Int) = m.length := by omega
    repeat' (first | refine zA ?_ | refine zB ?_ | (refine zC ?_ ?_ <;> intro hc; all_goals first | (cases hc; done) | ((try simp only [hc]); (try simp only [bm] at hc))) | refine zE ?_ | refine zN ?_ | fail)
    exact Qend.boo rfl rfl (ssame_no this).symm
theorem sameVals_of (h : Fn T F.hallmarkkit_SameValues hallmarkkit_SameValues.fn) (hs : Fn T F.hallmarkkit_SameValue hallmarkkit_SameValue.fn) (l m : List V) (hl : l.length ≤ 1073741824) (hm : m.length ≤ 1073741824)
    (ih : ∀ x ∈ l, ∀ y ∈ m, Ret T F.hallmarkkit_SameValue [.val x.av, .val y.av] (one (.bool (vsame x y)))) : Ret T F.hallmarkkit_SameValues [.val (.lst 5 (l.map V.row)), .val (.lst 5 (m.map V.row))] (one (.bool (lsame l m))) := by
  have e1 : (l.map V.row).length = l.length := List.length_map ..
  have e2 : (m.map V.row).length = m.length := List.length_map ..
  refine Ret.mk h rfl ?_
  by_cases hlen : l.length = m.length
  · have hlen' : (l.length : Int) = m.length := by omega
    repeat' (first | refine zA ?_ | refine zB ?_ | (refine zC ?_ ?_ <;> intro hc; all_goals first | (cases hc; done) | ((try simp only [hc]); (try simp only [bm] at hc))) | refine zE ?_ | refine zN ?_ | fail)
    refine W.listP l (fun i (_ : Unit) s => s.put 5 (.av (.int .i64 (i : Int)))) (fun i _ => l.take i = m.take i) () rfl rfl ?_ ?_
    · intro i x u hx hi hp
      obtain ⟨y, hy⟩ : ∃ y, m[i]? = some y := ⟨m[i]'(by omega), List.getElem?_eq_getElem (by omega)⟩
      have r := ih x (List.mem_of_getElem? hx) y (List.mem_of_getElem? hy)
      rw [V.av_eq, V.av_eq] at r
      repeat' (first | refine zA ?_ | refine WQ.cl hs.modes ?_ | refine W1.cl hs.modes (r) ?_ | refine zB ?_ | (refine zC ?_ ?_ <;> intro hc; all_goals first | (cases hc; done) | ((try simp only [hc]); (try simp only [bm] at hc))) | refine zE ?_ | refine zN ?_ | fail)
      · refine Qend.boo rfl rfl (lsame_no fun e => ?_).symm
        subst e; rw [hx] at hy; cases hy
        have := (vsame_iff (a := x) (b := x)).2 rfl
        simp_all
      · refine ⟨(), ?_, rfl⟩
        rw [List.take_add_one, List.take_add_one, hp, hx, hy, (vsame_iff (a := x) (b := y)).1 (by simp_all)]
    · intro u hp
      rw [List.take_length, hlen, List.take_length] at hp
      repeat' (first | refine zA ?_ | refine zB ?_ | (refine zC ?_ ?_ <;> intro hc; all_goals first | (cases hc; done) | ((try simp only [hc]); (try simp only [bm] at hc))) | refine zE ?_ | refine zN ?_ | fail)
      exact Qend.boo rfl rfl (lsame_iff.2 hp).symm
  · have : l ≠ m := fun e => hlen (by rw [e])
    have hlen' : ¬ (l.length : Int) = m.length := by omega
    repeat' (first | refine zA ?_ | refine zB ?_ | (refine zC ?_ ?_ <;> intro hc; all_goals first | (cases hc; done) | ((try simp only [hc]); (try simp only [bm] at hc))) | refine zE ?_ | refine zN ?_ | fail)
    exact Qend.boo rfl rfl (lsame_no this).symm
structure SmFns (T : Tab) : Prop where
  a1 : Fn T F.hallmarkkit_SameValue hallmarkkit_SameValue.fn
  a2 : Fn T F.hallmarkkit_SameValues hallmarkkit_SameValues.fn
  a3 : Fn T F.hallmarkkit_SameStrings hallmarkkit_SameStrings.fn
theorem sameVal_ret (f : SmFns T) : ∀ (a : V), a.bk ≤ 1073741824 → ∀ b : V, b.bk ≤ 1073741824 → Ret T F.hallmarkkit_SameValue [.val a.av, .val b.av] (one (.bool (vsame a b))) := by
  intro a
  induction a using V.ind with
  | h a ih =>
  intro hla b hlb
  have k1 := V.bk_eq a
  have k2 := V.bk_eq b
  have n1 := len_sbk a.keys
  have n2 := len_sbk b.keys
  have n3 := V.len_bks a.items
  have n4 := V.len_bks b.items
  have r1 := sameVals_of f.a2 f.a1 a.items b.items (by omega) (by omega) fun x hx y hy => ih x hx (by have := V.bk_item hx; omega) y (by have := V.bk_item hy; omega)
  have r2 := sameStr_ret f.a3 a.keys b.keys (by omega) (by omega)
  refine Ret.mk f.a1 rfl ?_
  clear ih k1 k2 n1 n2 n3 n4 hla hlb
  have hs := vsame_iff (a := a) (b := b)
  have hs1 := lsame_iff (l := a.items) (m := b.items)
  obtain ⟨k, n, t, is, ks⟩ := a
  obtain ⟨k', n', t', is', ks'⟩ := b
  rw [V.av_eq, V.av_eq]
  simp only [V.kind, V.num, V.text, V.items, V.keys] at *
  simp only [V.mk.injEq] at hs
  have hv : vsame (.mk k n t is ks) (.mk k' n' t' is' ks') = (decide (k = k') && decide (n = n') && decide (t = t') && lsame is is' && ssame ks ks') := by
    rw [Bool.eq_iff_iff, hs]
    simp only [Bool.and_eq_true, decide_eq_true_eq, hs1, ssame_iff]
    constructor
    · rintro ⟨a, b, c, d, e⟩; exact ⟨⟨⟨⟨a, b⟩, c⟩, d⟩, e⟩
    · rintro ⟨⟨⟨⟨a, b⟩, c⟩, d⟩, e⟩; exact ⟨a, b, c, d, e⟩
  rw [hv]
  clear hs hs1 hv
  generalize lsame is is' = q1 at *
  generalize ssame ks ks' = q2 at *
  repeat' (first | refine zA ?_ | refine WQ.cl f.a2.modes ?_ | refine W1.cl f.a2.modes (r1) ?_ | refine WQ.cl f.a3.modes ?_ | refine W1.cl f.a3.modes (r2) ?_ | refine zB ?_ | (refine zC ?_ ?_ <;> intro hc; all_goals first | (cases hc; done) | ((try simp only [hc]); (try simp only [bm] at hc))) | refine zE ?_ | refine zN ?_ | fail)
  all_goals clear r1 r2
  all_goals first | refine Qend.boo rfl rfl ?_ | skip
  all_goals first
    | rfl
    | (simp only [Bool.not_eq_eq_eq_not, Bool.not_true, Bool.not_false, beq_iff_eq, beq_eq_false_iff_ne, decide_eq_true_eq, decide_eq_false_iff_not, ne_eq] at *; simp_all; done)
    | (simp_all; trace_state; done)
    | trace_state
end
end Hm

/- How often a value stands in a list. Conditions: see each theorem. -/
namespace Hm
open Go (IntKind)
set_option maxHeartbeats 4000000
set_option maxRecDepth 4000
/-- How often it stands there. -/
def vcnt (v : V) (l : List V) : Nat := l.countP fun x => vsame x v
theorem vcnt_le (v : V) (l : List V) : vcnt v l ≤ l.length := List.countP_le_length
theorem inAt_cnt {l : List V} (hr : risesV l = true) (v : V) : inAt l v = decide (0 < vcnt v l) := by
  rw [Bool.eq_iff_iff, decide_eq_true_eq]
  have hb := below_pre hr v
  constructor
  · intro h
    unfold inAt at h
    split at h
    · rename_i x hx
      exact List.countP_pos_iff.2 ⟨x, List.mem_of_getElem? hx, h⟩
    · cases h
  · intro h
    obtain ⟨x, hx, hs⟩ := List.countP_pos_iff.1 h
    have hxv := vsame_iff.1 hs
    subst hxv
    obtain ⟨i, hi⟩ := List.getElem?_of_mem hx
    have hlt := (List.getElem?_eq_some_iff.1 hi).1
    have h1 : ¬ i < below x l := fun hc => by have := (hb i x hi).2 hc; rw [vc_self] at this; omega
    obtain ⟨y, hy⟩ : ∃ y, l[below x l]? = some y := ⟨l[below x l]'(by omega), List.getElem?_eq_getElem (by omega)⟩
    have h2 : ¬ vc y x < 0 := fun hc => by have := (hb _ y hy).1 hc; omega
    -- from there on none is below the one ahead
    have key : ∀ (k j : Nat) (z w : V), l[j]? = some z → l[j + k]? = some w → vc z w ≤ 0 := by
      intro k
      induction k with
      | zero => intro j z w hz hw; rw [Nat.add_zero, hz] at hw; cases hw; rw [vc_self]; omega
      | succ k ih =>
        intro j z w hz hw
        have hlw := (List.getElem?_eq_some_iff.1 hw).1
        have hu : l[j + k]? = some (l[j + k]'(by omega)) := List.getElem?_eq_getElem (by omega)
        have hzu := ih j z _ hz hu
        have hle : (j + (k + 1) == 0 || vle l (j + (k + 1))) = true := List.all_eq_true.1 hr (j + (k + 1)) (List.mem_range.2 hlw)
        rw [vle_eq hw (by rw [show j + (k + 1) - 1 = j + k by omega]; exact hu)] at hle
        simp at hle
        have a1 := vc_pre.anti w (l[j + k]'(by omega)) trivial trivial
        exact vc_pre.trans z _ w trivial trivial trivial hzu (by omega)
    have h3 : vc y x ≤ 0 := key (i - below x l) (below x l) y x hy (by rw [show below x l + (i - below x l) = i by omega]; exact hi)
    simp only [inAt, hy, beq_iff_eq]
    omega
section
variable {T : Tab}
theorem count_ret (s : SmFns T) (h : Fn T F.hallmarklaw07_count hallmarklaw07_count.fn) (l : List V) (hb : V.bks l ≤ 1073741824) (v : V) (hv : v.bk ≤ 1073741824) : Ret T F.hallmarklaw07_count [.val (.lst 5 (l.map V.row)), .val v.av] (one (.int .i64 (vcnt v l : Nat))) := by
  have e1 : (l.map V.row).length = l.length := List.length_map ..
  have hbl := V.len_bks l
  refine Ret.mk h rfl ?_
  have fv := V.av_eq v
  rw [fv]
  repeat' (first | refine zA ?_ | refine zB ?_ | (refine zC ?_ ?_ <;> intro hc; all_goals first | (cases hc; done) | ((try simp only [hc]); (try simp only [bm] at hc))) | refine zE ?_ | refine zN ?_ | fail)
  refine W.listP l (fun i (_ : Unit) s => (s.put 5 (.av (.int .i64 ((vcnt v (l.take i) : Nat) : Int)))).put 6 (.av (.int .i64 (i : Int)))) (fun _ _ => True) () trivial rfl ?_ ?_
  · intro i x u hx hi _
    have mx := List.mem_of_getElem? hx
    have r := sameVal_ret s x (by have := bks_le mx; omega) v hv
    have e : vcnt v (l.take (i + 1)) = vcnt v (l.take i) + if vsame x v then 1 else 0 := by
      rw [List.take_add_one, hx]; simp [vcnt, List.countP_append, List.countP_cons]
    have hle := vcnt_le v (l.take i)
    have hlt : (l.take i).length ≤ i := by simp; omega
    generalize vcnt v (l.take i) = c at *
    rw [V.av_eq, V.av_eq] at r
    repeat' (first | refine zA ?_ | refine WQ.cl s.a1.modes ?_ | refine W1.cl s.a1.modes (r) ?_ | refine zB ?_ | (refine zC ?_ ?_ <;> intro hc; all_goals first | (cases hc; done) | ((try simp only [hc]); (try simp only [bm] at hc))) | refine zE ?_ | refine zN ?_ | fail)
    · exact ⟨(), trivial, by rw [e, if_pos (by assumption)]; rfl⟩
    · exact ⟨(), trivial, by rw [e, if_neg (by simp_all)]; rfl⟩
  · intro u _
    rw [List.take_length]
    repeat' (first | refine zA ?_ | refine zB ?_ | (refine zC ?_ ?_ <;> intro hc; all_goals first | (cases hc; done) | ((try simp only [hc]); (try simp only [bm] at hc))) | refine zE ?_ | refine zN ?_ | fail)
    exact Qend.num rfl rfl rfl
theorem lrises_ret (f : RoFns7 T) (h : Fn T F.hallmarklaw07_rises hallmarklaw07_rises.fn) (l : List V) (hb : V.bks l ≤ 1073741824) (hall : l.all formed = true) : Ret T F.hallmarklaw07_rises [.val (.lst 5 (l.map V.row))] (one (.bool (risesV l))) := by
  have e1 : (l.map V.row).length = l.length := List.length_map ..
  have hbl := V.len_bks l
  refine Ret.mk h rfl ?_
  repeat' (first | refine zA ?_ | refine zB ?_ | (refine zC ?_ ?_ <;> intro hc; all_goals first | (cases hc; done) | ((try simp only [hc]); (try simp only [bm] at hc))) | refine zE ?_ | refine zN ?_ | fail)
  have h0 : ∀ j < 1, (j == 0 || vle l j) = true := fun j hj => by
    have : j = 0 := by omega
    subst this; rfl
  refine W.iterP (β := Nat) (fun i s => s.put 3 (.av (.int .i64 (i : Int)))) (fun i => 1 ≤ i ∧ i ≤ l.length + 1 ∧ ∀ j < i, (j == 0 || vle l j) = true) (fun i => l.length + 2 - i) 1 ⟨Nat.le_refl _, by omega, h0⟩ rfl ?_
  rintro i ⟨q1, q0, q2⟩
  by_cases hi : i < l.length
  · obtain ⟨x, hx⟩ : ∃ x, l[i]? = some x := ⟨l[i], List.getElem?_eq_getElem hi⟩
    obtain ⟨y, hy⟩ : ∃ y, l[i - 1]? = some y := ⟨l[i - 1], List.getElem?_eq_getElem (by omega)⟩
    have hh := V.get_row hy
    rw [show i - 1 = ((i : Int) - 1).toNat by omega] at hh
    have mx := List.mem_of_getElem? hx
    have my := List.mem_of_getElem? hy
    have ha := vc_pre.anti x y trivial trivial
    have r := refCmp_ret f.g y (by have := bks_le my; omega) (List.all_eq_true.1 hall y my) x (by have := bks_le mx; omega) (List.all_eq_true.1 hall x mx)
    rw [V.av_eq, V.av_eq] at r
    repeat' (first | refine zA ?_ | refine WQ.cl f.g.a1.modes ?_ | refine W1.cl f.g.a1.modes (r) ?_ | refine zB ?_ | (refine zC ?_ ?_ <;> intro hc; all_goals first | (cases hc; done) | ((try simp only [hc]); (try simp only [bm] at hc))) | refine zE ?_ | refine zN ?_ | fail)
    · refine Qend.boo rfl rfl ?_
      rw [risesV_no q1 hx hy (by omega)]
    · refine ⟨i + 1, ⟨by omega, by omega, fun j hj => ?_⟩, by omega, rfl⟩
      by_cases hji : j < i
      · exact q2 j hji
      · obtain rfl : j = i := by omega
        have : ¬ vc x y < 0 := by omega
        rw [vle_eq hx hy]; simp [this]
  · skip
    repeat' (first | refine zA ?_ | refine zB ?_ | (refine zC ?_ ?_ <;> intro hc; all_goals first | (cases hc; done) | ((try simp only [hc]); (try simp only [bm] at hc))) | refine zE ?_ | refine zN ?_ | fail)
    refine Qend.boo rfl rfl ?_
    rw [risesV_yes (by omega) q2]
end
end Hm

/- What is there is found: the law. Conditions: see each theorem. -/
namespace Hm
open Go (IntKind)
set_option maxHeartbeats 4000000
set_option maxRecDepth 4000
section
variable {T : Tab}
theorem OrderFinds_ret (h : Fn T F.hallmarklaw07_OrderFinds hallmarklaw07_OrderFinds.fn) (hk : Fn T F.hallmarklaw07_OrderKnown hallmarklaw07_OrderKnown.fn) (rk : Ret T F.hallmarklaw07_OrderKnown [] (one (.bool true))) (f : OrFns T) (g : RoFns7 T) (s : SmFns T)
    (h1 : Fn T F.hallmarklaw07_count hallmarklaw07_count.fn) (h2 : Fn T F.hallmarklaw07_rises hallmarklaw07_rises.fn)
    (l : List V) (hb : V.bks l ≤ 1073741824) (v : V) (hv : v.bk ≤ 1073741824) : Ret T F.hallmarklaw07_OrderFinds [.val (.lst 5 (l.map V.row)), .val v.av] (one (.bool true)) := by
  have e1 : (l.map V.row).length = l.length := List.length_map ..
  have hbl := V.len_bks l
  have r1 := r7all_ret g l hb
  have r2 := r7form_ret g v hv
  have r4 := orderSearch_ret f l hb v hv
  have r5 := count_ret s h1 l hb v hv
  have fv := V.av_eq v
  refine Ret.mk h rfl ?_
  by_cases hall : l.all formed = true
  · have r3 := lrises_ret g h2 l hb hall
    by_cases hf : formed v = true
    · rw [hall] at r1
      rw [hf] at r2
      by_cases hr : risesV l = true
      · rw [hr] at r3
        have hs := below_pre hr v
        have hp := below_le v l
        rw [show srch l v = three (.int .i64 (below v l : Nat)) (.bool (inAt l v)) (.int .i64 0) by simp [srch, hall, hf, hr], inAt_cnt hr v] at r4
        generalize below v l = p at *
        generalize vcnt v l = c at *
        rw [show (decide (0 < c)) = decide ((0 : Int) < (c : Int)) by simp] at r4
        have h00 := fun i x (hx : l[i]? = some x) => refCmp_ret g.g x (by have := bks_le (List.mem_of_getElem? hx); omega) (List.all_eq_true.1 hall x (List.mem_of_getElem? hx)) v hv hf
        rw [fv] at r2 r4 r5 ⊢
        repeat' (first | refine zA ?_ | refine WQ.cl hk.modes ?_ | refine W1.cl hk.modes (rk) ?_ | refine WQ.cl g.p2.modes ?_ | refine W1.cl g.p2.modes (r1) ?_ | refine WQ.cl g.p1.modes ?_ | refine W1.cl g.p1.modes (r2) ?_ | refine WQ.cl h2.modes ?_ | refine W1.cl h2.modes (r3) ?_ | refine WQ.cl f.a8.modes ?_ | refine W1.cl f.a8.modes (r4) ?_ | refine WQ.cl h1.modes ?_ | refine W1.cl h1.modes (r5) ?_ | refine zB ?_ | (refine zC ?_ ?_ <;> intro hc; all_goals first | (cases hc; done) | ((try simp only [hc]); (try simp only [bm] at hc))) | refine zE ?_ | refine zN ?_ | fail)
        all_goals first | (exfalso; simp_all; done) | (exfalso; omega) | skip
        refine W.listP l (fun i (_ : Unit) s => s.put 8 (.av (.int .i64 (i : Int)))) (fun _ _ => True) () trivial rfl ?_ ?_
        · intro i x u hx hi _
          have r := h00 i x hx
          have hsx := hs i x hx
          rw [V.av_eq, V.av_eq] at r
          repeat' (first | refine zA ?_ | refine WQ.cl g.g.a1.modes ?_ | refine W1.cl g.g.a1.modes (r) ?_ | refine zB ?_ | (refine zC ?_ ?_ <;> intro hc; all_goals first | (cases hc; done) | ((try simp only [hc]); (try simp only [bm] at hc))) | refine zE ?_ | refine zN ?_ | fail)
          all_goals first
            | exact ⟨(), trivial, rfl⟩
            | (exfalso; revert hc; by_cases hv0 : vc x v < 0 <;> simp [hv0] <;> omega)
            | trace_state
        · intro u _
          repeat' (first | refine zA ?_ | refine zB ?_ | (refine zC ?_ ?_ <;> intro hc; all_goals first | (cases hc; done) | ((try simp only [hc]); (try simp only [bm] at hc))) | refine zE ?_ | refine zN ?_ | fail)
          exact Qend.boo rfl rfl rfl
      · rw [show risesV l = false by simpa using hr] at r3
        rw [fv] at r2 ⊢
        repeat' (first | refine zA ?_ | refine WQ.cl hk.modes ?_ | refine W1.cl hk.modes (rk) ?_ | refine WQ.cl g.p2.modes ?_ | refine W1.cl g.p2.modes (r1) ?_ | refine WQ.cl g.p1.modes ?_ | refine W1.cl g.p1.modes (r2) ?_ | refine WQ.cl h2.modes ?_ | refine W1.cl h2.modes (r3) ?_ | refine zB ?_ | (refine zC ?_ ?_ <;> intro hc; all_goals first | (cases hc; done) | ((try simp only [hc]); (try simp only [bm] at hc))) | refine zE ?_ | refine zN ?_ | fail)
        exact Qend.boo rfl rfl rfl
    · rw [hall] at r1
      rw [show formed v = false by simpa using hf] at r2
      rw [fv] at r2 ⊢
      repeat' (first | refine zA ?_ | refine WQ.cl hk.modes ?_ | refine W1.cl hk.modes (rk) ?_ | refine WQ.cl g.p2.modes ?_ | refine W1.cl g.p2.modes (r1) ?_ | refine WQ.cl g.p1.modes ?_ | refine W1.cl g.p1.modes (r2) ?_ | refine zB ?_ | (refine zC ?_ ?_ <;> intro hc; all_goals first | (cases hc; done) | ((try simp only [hc]); (try simp only [bm] at hc))) | refine zE ?_ | refine zN ?_ | fail)
      exact Qend.boo rfl rfl rfl
  · rw [show l.all formed = false by simpa using hall] at r1
    rw [fv] at r2 ⊢
    repeat' (first | refine zA ?_ | refine WQ.cl hk.modes ?_ | refine W1.cl hk.modes (rk) ?_ | refine WQ.cl g.p2.modes ?_ | refine W1.cl g.p2.modes (r1) ?_ | refine WQ.cl g.p1.modes ?_ | refine W1.cl g.p1.modes (r2) ?_ | refine zB ?_ | (refine zC ?_ ?_ <;> intro hc; all_goals first | (cases hc; done) | ((try simp only [hc]); (try simp only [bm] at hc))) | refine zE ?_ | refine zN ?_ | fail)
    exact Qend.boo rfl rfl rfl
end
end Hm
