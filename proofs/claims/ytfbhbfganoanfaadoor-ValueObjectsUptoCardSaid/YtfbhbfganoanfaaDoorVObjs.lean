/- What the law answers on the abstract machine. Conditions: see each theorem. -/
import Derived.Test.YtfbhbfganoanfaaDoorVObjs1
set_option linter.unusedVariables false
set_option linter.unusedSimpArgs false
/- The search in a sorted list. Conditions: see each theorem. -/
namespace Hm
open Go (IntKind)
set_option maxHeartbeats 4000000
set_option maxRecDepth 4000
theorem isNaNs_ret {T : Tab} (h : Fn T F.slices_isNaN_string slices_isNaN_string.fn) (a : Str) : Ret T F.slices_isNaN_string [.val (.str a)] (one (.bool false)) := by
  refine Ret.mk h rfl ?_
  repeat' (first | refine zA ?_ | refine zB ?_ | (refine zC ?_ ?_ <;> intro hc; all_goals first | (cases hc; done) | ((try simp only [hc]); (try simp only [bm] at hc))) | refine zE ?_ | refine zN ?_ | fail)
  exact Qend.boo rfl rfl (by simp)
theorem lessS_ret {T : Tab} (h : Fn T F.cmp_Less_string cmp_Less_string.fn) (h2 : Fn T F.cmp_isNaN_string cmp_isNaN_string.fn) (a b : Str) : Ret T F.cmp_Less_string [.val (.str a), .val (.str b)] (one (.bool (binA.bLess a b))) := by
  have r : ∀ a, Ret T F.cmp_isNaN_string [.val (.str a)] (one (.bool false)) := fun a => by
    refine Ret.mk h2 rfl ?_
    repeat' (first | refine zA ?_ | refine zB ?_ | (refine zC ?_ ?_ <;> intro hc; all_goals first | (cases hc; done) | ((try simp only [hc]); (try simp only [bm] at hc))) | refine zE ?_ | refine zN ?_ | fail)
    exact Qend.boo rfl rfl (by simp)
  refine Ret.mk h rfl ?_
  repeat' (first | refine zA ?_ | refine WQ.cl h2.modes ?_ | refine W1.cl h2.modes (r _) ?_ | refine zB ?_ | (refine zC ?_ ?_ <;> intro hc; all_goals first | (cases hc; done) | ((try simp only [hc]); (try simp only [bm] at hc))) | refine zE ?_ | refine zN ?_ | fail)
  all_goals first | (refine Qend.boo rfl rfl ?_; simp_all; done) | (exfalso; simp_all; done)
theorem binSearch_ret {T : Tab} (h : Fn T F.slices_BinarySearch_Lstring_string slices_BinarySearch_Lstring_string.fn) (hl : Fn T F.cmp_Less_string cmp_Less_string.fn) (h2 : Fn T F.cmp_isNaN_string cmp_isNaN_string.fn)
    (h3 : Fn T F.slices_isNaN_string slices_isNaN_string.fn) (l : List Str) (hb : l.length ≤ 1073741824) (k : Str) (p : Nat) (hp : p ≤ l.length) (hs : ∀ i x, l[i]? = some x → (binA.bLess x k = true ↔ i < p)) :
    Ret T F.slices_BinarySearch_Lstring_string [.val (.lst 1 (srow l)), .val (.str k)] (two (.int .i64 (p : Nat)) (.bool (decide (l[p]? = some k)))) := by
  have e1 := srow_len l
  refine Ret.mk h rfl ?_
  repeat' (first | refine zA ?_ | refine zB ?_ | (refine zC ?_ ?_ <;> intro hc; all_goals first | (cases hc; done) | ((try simp only [hc]); (try simp only [bm] at hc))) | refine zE ?_ | refine zN ?_ | fail)
  refine W.iterP (β := Nat × Nat) (fun b s => (s.put 7 (.av (.int .i64 (b.1 : Int)))).put 8 (.av (.int .i64 (b.2 : Int)))) (fun b => b.1 ≤ p ∧ p ≤ b.2 ∧ b.2 ≤ l.length) (fun b => b.2 - b.1) (0, l.length) ⟨by omega, hp, by omega⟩ ?_ ?_
  · rfl
  · rintro ⟨i, j⟩ ⟨q1, q2, q3⟩
    simp only at q1 q2 q3
    by_cases hij : i < j
    · obtain ⟨x, hx⟩ : ∃ x, l[(i + j) / 2]? = some x := ⟨l[(i + j) / 2]'(by omega), List.getElem?_eq_getElem (by omega)⟩
      have hh : (srow l)[(((i : Int) + (j : Int)) / 2).toNat]? = some [.str x] := by
        rw [show (((i : Int) + (j : Int)) / 2).toNat = (i + j) / 2 by omega]; exact get_srow hx
      have hc1 : (((i + j) / 2 + 1 : Nat) : Int) = ((i : Int) + (j : Int)) / 2 + 1 := by omega
      have hc2 : (((i + j) / 2 : Nat) : Int) = ((i : Int) + (j : Int)) / 2 := by omega
      have r := lessS_ret hl h2 x k
      have hsx := hs _ x hx
      repeat' (first | refine zA ?_ | ((apply W1.toU64; exact rfl; exact rfl; omega; omega)) | ((apply W1.half; exact rfl; exact rfl)) | ((apply W1.toI64; exact rfl; exact rfl; omega; omega)) | refine WQ.cl hl.modes ?_ | refine W1.cl hl.modes (r) ?_ | refine zB ?_ | (refine zC ?_ ?_ <;> intro hc; all_goals first | (cases hc; done) | ((try simp only [hc]); (try simp only [bm] at hc))) | refine zE ?_ | refine zN ?_ | fail)
      all_goals first
        | (refine ⟨((i + j) / 2 + 1, j), ⟨?_, ?_, ?_⟩, ?_, ?_⟩
           · show (i + j) / 2 + 1 ≤ p
             have := hsx.1 (by assumption); omega
           · exact q2
           · exact q3
           · show j - ((i + j) / 2 + 1) < j - i; omega
           · dsimp only; rw [hc1])
        | (refine ⟨(i, (i + j) / 2), ⟨?_, ?_, ?_⟩, ?_, ?_⟩
           · exact q1
           · show p ≤ (i + j) / 2
             have : ¬ (i + j) / 2 < p := fun hlt => by have := hsx.2 hlt; simp_all
             omega
           · show (i + j) / 2 ≤ l.length; omega
           · show (i + j) / 2 - i < j - i; omega
           · dsimp only; rw [hc2])
        | trace_state
    · obtain rfl : i = p := by omega
      obtain rfl : i = j := by omega
      by_cases hin : i < l.length
      · obtain ⟨x, hx⟩ : ∃ x, l[i]? = some x := ⟨l[i]'(by omega), List.getElem?_eq_getElem (by omega)⟩
        have r1 := isNaNs_ret h3 x
        have r2 := isNaNs_ret h3 k
        have hq : decide (l[i]? = some k) = (x == k) := by rw [hx, Bool.eq_iff_iff]; simp
        rw [hq]
        repeat' (first | refine zA ?_ | refine WQ.cl h3.modes ?_ | refine W1.cl h3.modes (r1) ?_ | refine WQ.cl h3.modes ?_ | refine W1.cl h3.modes (r2) ?_ | refine zB ?_ | (refine zC ?_ ?_ <;> intro hc; all_goals first | (cases hc; done) | ((try simp only [hc]); (try simp only [bm] at hc))) | refine zE ?_ | refine zN ?_ | fail)
        all_goals first
          | (refine Qend.two rfl rfl rfl ?_; simp_all; done)
          | (exfalso; simp_all; done)
          | trace_state
      · have hq : decide (l[i]? = some k) = false := by rw [List.getElem?_eq_none (by omega)]; simp
        rw [hq]
        repeat' (first | refine zA ?_ | refine zB ?_ | (refine zC ?_ ?_ <;> intro hc; all_goals first | (cases hc; done) | ((try simp only [hc]); (try simp only [bm] at hc))) | refine zE ?_ | refine zN ?_ | fail)
        all_goals first
          | (refine Qend.two rfl rfl rfl ?_; simp_all; done)
          | (exfalso; simp_all; done)
          | trace_state
end Hm

/- A field put into an object. Conditions: see each theorem. -/
namespace Hm
open Go (IntKind)
set_option maxHeartbeats 4000000
set_option maxRecDepth 4000
/-- What put reaches. -/
structure PutFns (T : Tab) : Prop where
  a1 : Fn T F.value_put value_put.fn
  a2 : Fn T F.slices_BinarySearch_Lstring_string slices_BinarySearch_Lstring_string.fn
  a3 : Fn T F.cmp_Less_string cmp_Less_string.fn
  a4 : Fn T F.cmp_isNaN_string cmp_isNaN_string.fn
  a5 : Fn T F.slices_isNaN_string slices_isNaN_string.fn
  m1 : T.modes F.slices_Insert_Lstring_string = [.mv, .val, .val]
  p1 : T.prim F.slices_Insert_Lstring_string = some (pIns 1)
  m2 : T.modes F.slices_Insert_LValue_Value = [.mv, .val, .val]
  p2 : T.prim F.slices_Insert_LValue_Value = some (pIns 5)
theorem ins_prim {T : Tab} {f k : Nat} (hp : T.prim f = some (pIns k)) (rows : List (List Cell)) (p : Nat) (new : List AV) (h : p ≤ rows.length) (hl : rows.length + 1 ≤ limit) :
    Ret T f [.mv [.own k rows] false, .val (.int .i64 (p : Nat)), .val (.lst k [new])] ⟨[([.own k (rows.take p ++ (new.map .av :: rows.drop p))], false)], []⟩ :=
  Ret.prim hp (by simp only [pIns]; rw [if_pos ⟨trivial, trivial, by omega, by omega, hl⟩]; rfl)
theorem crow_ins (ks : List Str) (p : Nat) (k : Str) : (crow (srow ks)).take p ++ ([Cell.av (.str k)] :: (crow (srow ks)).drop p) = crow (srow (ks.take p ++ (k :: ks.drop p))) := by
  simp [crow, srow, List.map_take, List.map_drop]
theorem valuePut_ret {T : Tab} (f : PutFns T) (kd : Int) (n t : Str) (R : List (List Cell)) (ks : List Str) (hR : R.length = ks.length) (hrow : ∀ r ∈ R, r.length = 5) (hb : ks.length ≤ 1073741824) (k : Str) (x : V) (p : Nat) (hp : p ≤ ks.length)
    (hs : ∀ i y, ks[i]? = some y → (binA.bLess y k = true ↔ i < p)) :
    Ret T F.value_put [.io [.av (.int .i64 kd), .av (.str n), .av (.str t), .own 5 R, .own 1 (crow (srow ks))], .val (.str k), .val x.av]
      ⟨[], [if ks[p]? = some k then [.av (.int .i64 kd), .av (.str n), .av (.str t), .own 5 (R.set p (x.row.map .av)), .own 1 (crow (srow ks))]
        else [.av (.int .i64 kd), .av (.str n), .av (.str t), .own 5 (R.take p ++ (x.row.map .av :: R.drop p)), .own 1 (crow (srow (ks.take p ++ (k :: ks.drop p))))]]⟩ := by
  have r0 := binSearch_ret f.a2 f.a3 f.a4 f.a5 ks hb k p hp hs
  rw [← seal_crow (srow ks)] at r0
  have c0 := crow_len (srow ks)
  rw [srow_len] at c0
  have r1 := ins_prim f.p1 (crow (srow ks)) p [.str k] (by omega) (by show _ ≤ 4294967296; omega)
  have r2 := ins_prim f.p2 R p x.row (by omega) (by show _ ≤ 4294967296; omega)
  rw [show ([AV.str k].map Cell.av) = [Cell.av (.str k)] from rfl, crow_ins] at r1
  refine Ret.mk f.a1 rfl ?_
  rw [V.row_eq] at r2
  rw [V.av_eq, V.row_eq]
  by_cases hk : ks[p]? = some k
  · rw [if_pos hk]
    rw [decide_eq_true hk] at r0
    have hpl : p < ks.length := (List.getElem?_eq_some_iff.1 hk).1
    obtain ⟨q, hq⟩ : ∃ q, R[p]? = some q := ⟨R[p]'(by omega), List.getElem?_eq_getElem (by omega)⟩
    have hq5 := hrow q (List.mem_of_getElem? hq)
    repeat' (first | refine zA ?_ | refine WQ.cl f.a2.modes ?_ | refine W1.cl f.a2.modes (r0) ?_ | ((apply W1.iadrO; exact rfl; exact rfl; exact rfl; exact rfl; exact rfl; omega; omega)) | ((apply W1.storeP; exact rfl; exact rfl; exact rfl; exact rfl; exact rfl; exact hq; exact rfl; exact hq5; exact rfl)) | refine zB ?_ | (refine zC ?_ ?_ <;> intro hc; all_goals first | (cases hc; done) | ((try simp only [hc]); (try simp only [bm] at hc))) | refine zE ?_ | refine zN ?_ | fail)
    all_goals first | (exfalso; simp_all; done) | (exact ⟨.inr rfl, rfl, rfl⟩) | (exact ⟨.inl rfl, rfl, rfl⟩) | trace_state
  · rw [if_neg hk]
    rw [decide_eq_false hk] at r0
    repeat' (first | refine zA ?_ | refine WQ.cl f.a2.modes ?_ | refine W1.cl f.a2.modes (r0) ?_ | ((apply W1.callM0 (hm := f.m1); exact rfl; exact rfl; exact rfl; exact r1; exact rfl)) | ((apply W1.callM0 (hm := f.m2); exact rfl; exact rfl; exact rfl; exact r2; exact rfl)) | refine zB ?_ | (refine zC ?_ ?_ <;> intro hc; all_goals first | (cases hc; done) | ((try simp only [hc]); (try simp only [bm] at hc))) | refine zE ?_ | refine zN ?_ | fail)
    all_goals first | (exfalso; simp_all; done) | (exact ⟨.inr rfl, rfl, rfl⟩) | (exact ⟨.inl rfl, rfl, rfl⟩) | trace_state
end Hm

/- Objects put together. Conditions: see each theorem. -/
namespace Hm
open Go (IntKind)
set_option maxHeartbeats 4000000
set_option maxRecDepth 4000
/-- Cells that hold the items of fields. -/
def ItC (m : List Fld) (R : List (List Cell)) : Prop := sealRows R = (m.map (·.2)).map V.row ∧ ∀ r ∈ R, r.length = 5
theorem ItC.len {m : List Fld} {R : List (List Cell)} (h : ItC m R) : R.length = m.length := by
  have := congrArg List.length h.1
  rw [sealRows_len] at this
  simpa using this
theorem sealRows_append (a b : List (List Cell)) : sealRows (a ++ b) = sealRows a ++ sealRows b := by rw [sealRows_mp, sealRows_mp, sealRows_mp, List.map_append]
theorem ItC.ins {m : List Fld} {R : List (List Cell)} (h : ItC m R) (k : Str) (x : V) :
    ItC (insA m k x) (if (m.map (·.1))[posF m k]? = some k then R.set (posF m k) (x.row.map .av) else R.take (posF m k) ++ (x.row.map .av :: R.drop (posF m k))) := by
  have h5 : (x.row.map Cell.av).length = 5 := by rw [V.row_eq]; rfl
  have hs := h.1
  rw [sealRows_mp] at hs
  rw [insA_eq]
  split
  · refine ⟨?_, fun r hr => ?_⟩
    · rw [sealRows_mp, List.map_set, hs, sealRow_av, List.map_set, List.map_set]
    · rcases List.mem_or_eq_of_mem_set hr with hr | rfl
      · exact h.2 r hr
      · exact h5
  · refine ⟨?_, fun r hr => ?_⟩
    · rw [sealRows_append, sealRows, sealRows_mp, sealRows_mp, sealRow_av, List.map_take, List.map_drop, hs]
      simp only [List.map_append, List.map_cons, List.map_take, List.map_drop]
    · rcases List.mem_append.1 hr with hr | hr
      · exact h.2 r (List.mem_of_mem_take hr)
      · rcases List.mem_cons.1 hr with rfl | hr
        · exact h5
        · exact h.2 r (List.mem_of_mem_drop hr)
/-- The cells of an object under construction. -/
def obC (m : List Fld) (R : List (List Cell)) : List Cell := [.av (.int .i64 6), .av (.str []), .av (.str []), .own 5 R, .own 1 (crow (srow (m.map (·.1))))]
theorem seal_obC {m : List Fld} {R : List (List Cell)} (h : ItC m R) : sealRow (obC m R) = (objF m).row := by
  rw [V.row_eq]
  simp only [obC, sealRow, Cell.shut, h.1, seal_crow]; rfl
theorem putF_ret {T : Tab} (f : PutFns T) {m : List Fld} {R : List (List Cell)} (hR : ItC m R) (ha : AscF m) (hb : m.length ≤ 1073741824) (k : Str) (x : V) :
    ∃ R', ItC (insA m k x) R' ∧ Ret T F.value_put [.io (obC m R), .val (.str k), .val x.av] ⟨[], [obC (insA m k x) R']⟩ := by
  have r := valuePut_ret f 6 [] [] R (m.map (·.1)) (by rw [hR.len, List.length_map]) hR.2 (by rw [List.length_map]; exact hb) k x (posF m k) (by rw [List.length_map]; exact posF_le m k) (posF_spec k ha)
  refine ⟨_, hR.ins k x, ?_⟩
  have e : (insA m k x).map (·.1) = if (m.map (·.1))[posF m k]? = some k then m.map (·.1) else (m.map (·.1)).take (posF m k) ++ (k :: (m.map (·.1)).drop (posF m k)) := by
    rw [insA_eq]
    split
    · rename_i h; exact set_keys x h
    · simp only [List.map_append, List.map_cons, List.map_take, List.map_drop]
  simp only [obC]
  rw [e]
  split
  · rename_i h; rw [if_pos h] at r; exact r
  · rename_i h; rw [if_neg h] at r; exact r
theorem objF_row (m : List Fld) : (objF m).row = [.int .i64 6, .str [], .str [], .lst 5 ((m.map (·.2)).map V.row), .lst 1 (srow (m.map (·.1)))] := by rw [V.row_eq]; rfl
theorem objF_av (m : List Fld) : (objF m).av = .agg [.int .i64 6, .str [], .str [], .lst 5 ((m.map (·.2)).map V.row), .lst 1 (srow (m.map (·.1)))] := by rw [V.av, objF_row]
theorem ItC.twin (m : List Fld) : ItC m ((m.map (·.2)).map twC) := ⟨seal_twCs _, fun r hr => by
  obtain ⟨x, _, rfl⟩ := List.mem_map.1 hr
  rw [twC_eq]; rfl⟩
theorem get_fst {m : List Fld} {i : Nat} {f : Fld} (h : m[i]? = some f) : (srow (m.map (·.1)))[i]? = some [.str f.1] := get_srow (by rw [List.getElem?_map, h]; rfl)
theorem get_snd {m : List Fld} {i : Nat} {f : Fld} (h : m[i]? = some f) : ((m.map (·.2)).map V.row)[i]? = some f.2.row := by rw [List.getElem?_map, List.getElem?_map, h]; rfl
/-- What objects' functions reach. -/
structure ObFns (T : Tab) : Prop where
  tw : TwFns T
  pt : PutFns T
  fm : VfFns T
  a1 : Fn T F.value_Merge value_Merge.fn
  a2 : Fn T F.value_isObject value_isObject.fn
section
variable {T : Tab}
theorem isObject_ret (f : ObFns T) (hv : ValidOk T) (v : V) (hb : v.bk ≤ 1073741824) : Ret T F.value_isObject [.val v.av] (one (.bool (decide (v.kind = 6) && formed v))) := by
  have r := valueFormed_ret f.fm hv v hb
  refine Ret.mk f.a2 rfl ?_
  generalize formed v = b at *
  rw [V.av_eq] at *
  repeat' (first | refine zA ?_ | refine WQ.cl f.fm.a1.modes ?_ | refine W1.cl f.fm.a1.modes (r) ?_ | refine zB ?_ | (refine zC ?_ ?_ <;> intro hc; all_goals first | (cases hc; done) | ((try simp only [hc]); (try simp only [bm] at hc))) | refine zE ?_ | refine zN ?_ | fail)
  all_goals clear r
  all_goals refine Qend.boo rfl rfl ?_
  all_goals first | (simp_all; done) | (rw [Bool.eq_iff_iff]; simp_all; done)
theorem valueMerge_ret (f : ObFns T) (hv : ValidOk T) (a b : List Fld) (ha : formed (objF a) = true) (hb : formed (objF b) = true) (sa : AscF a) (la : szF a + szF b ≤ 1000000000) :
    ∃ C, sealRow C = (objF (mergeF a b)).row ∧ Ret T F.value_Merge [.val (objF a).av, .val (objF b).av] ⟨[(C, true), ([.av (.int .i64 0)], false)], []⟩ := by
  have ba := objF_bk a
  have bb := objF_bk b
  have r1 := isObject_ret f hv (objF a) (by omega)
  have r2 := isObject_ret f hv (objF b) (by omega)
  have r3 := valueTwin_ret f.tw (objF a) (by omega)
  have r4 := valueTwin_ret f.tw (objF b) (by omega)
  rw [ha] at r1
  rw [hb] at r2
  have e3 : twC (objF a) = obC a ((a.map (·.2)).map twC) := by rw [twC_eq]; rfl
  have e4 : sealRow (twC (objF b)) = [.int .i64 6, .str [], .str [], .lst 5 ((b.map (·.2)).map V.row), .lst 1 (srow (b.map (·.1)))] := by rw [seal_twC, objF_row]
  rw [e3, obC] at r3
  have main : ∃ r : CR, (∃ C, sealRow C = (objF (mergeF a b)).row ∧ r = ⟨[(C, true), ([.av (.int .i64 0)], false)], []⟩) ∧ Ret T F.value_Merge [.val (objF a).av, .val (objF b).av] r := by
    refine Ret.ex f.a1 rfl ?_
    rw [objF_av, objF_av] at *
    have lb := len_sz b
    have el : (srow (b.map (·.1))).length = b.length := by rw [srow_len, List.length_map]
    repeat' (first | refine zA ?_ | refine WQ.cl f.a2.modes ?_ | refine W1.cl f.a2.modes (r1) ?_ | refine WQ.cl f.a2.modes ?_ | refine W1.cl f.a2.modes (r2) ?_ | refine WQ.cl f.tw.a1.modes ?_ | refine W1.cl f.tw.a1.modes (r3) ?_ | (refine W1.cd1 f.tw.a1.modes e4 r4 ?_) | refine zB ?_ | (refine zC ?_ ?_ <;> intro hc; all_goals first | (cases hc; done) | ((try simp only [hc]); (try simp only [bm] at hc))) | refine zE ?_ | refine zN ?_ | fail)
    all_goals first | (exfalso; simp_all; done) | skip
    refine W.list b (fun i (R : List (List Cell)) => ⟨lstE [(3, .plc ⟨.box 3, [], 0⟩), (4, .plc ⟨.box 4, [], 0⟩), (6, .plc ⟨.box 6, [], 0⟩), (23, .av (.lst 1 (srow (b.map fun x : Fld => x.1)))), (24, .av (.int .i64 (b.length : Nat))), (25, .av (.int .i64 (i : Int)))],
      lstB [(3, some [.av (.int .i64 6), .av (.str []), .av (.str []), .av (.lst 5 ((b.map fun x : Fld => x.2).map V.row)), .av (.lst 1 (srow (b.map fun x : Fld => x.1)))]), (4, some [.av (.int .i64 0), .av (.str []), .av (.str []), .own 5 [], .own 1 []]), (6, some (obC (mergeF a (b.take i)) R)), (23, none), (24, none), (25, none)]⟩)
      (fun i R => ItC (mergeF a (b.take i)) R) ((a.map fun x : Fld => x.2).map twC) rfl (ItC.twin a) ?_ ?_
    · intro i x R hx hi hR
      have g1 := get_fst hx
      have g2 := get_snd hx
      have sm := sz_merge (b.take i) a
      have lm := len_sz (mergeF a (b.take i))
      have st := szF_take b i
      obtain ⟨R', hR', rp⟩ := putF_ret f.pt hR (asc_merge sa) (by omega) x.1 x.2
      rw [← mergeF_take_succ hx] at hR' rp
      rw [V.av, V.row_eq] at rp
      rw [V.row_eq] at g2
      repeat' (first | refine zA ?_ | ((apply W1.callM1 (hm := f.pt.a1.modes); exact rfl; exact rfl; exact rfl; exact rp; exact rfl)) | refine zB ?_ | (refine zC ?_ ?_ <;> intro hc; all_goals first | (cases hc; done) | ((try simp only [hc]); (try simp only [bm] at hc))) | refine zE ?_ | refine zN ?_ | fail)
      all_goals exact ⟨R', hR', rfl⟩
    · intro R hR
      rw [List.take_length] at hR
      repeat' (first | refine zA ?_ | refine zB ?_ | (refine zC ?_ ?_ <;> intro hc; all_goals first | (cases hc; done) | ((try simp only [hc]); (try simp only [bm] at hc))) | refine zE ?_ | refine zN ?_ | fail)
      refine ⟨_, ⟨_, ?_, rfl⟩, .inr rfl, rfl, rfl⟩
      rw [List.take_length]
      exact seal_obC hR
  obtain ⟨r, ⟨C, hC, rfl⟩, hr⟩ := main
  exact ⟨C, hC, hr⟩
end
end Hm

/- Objects made of lists. Conditions: see each theorem. -/
namespace Hm
open Go (IntKind)
set_option maxHeartbeats 4000000
set_option maxRecDepth 4000
/-- What Make reaches. -/
structure MkFns (T : Tab) : Prop where
  a1 : Fn T F.value_Make value_Make.fn
  a2 : Fn T F.value_Make_S1 value_Make_S1.fn
  a3 : Fn T F.slices_ContainsFunc_Lstring_string slices_ContainsFunc_Lstring_string.fn
  a4 : Fn T F.slices_IndexFunc_Lstring_string slices_IndexFunc_Lstring_string.fn
section
variable {T : Tab}
theorem indexFuncS_ret (h : Fn T F.slices_IndexFunc_Lstring_string slices_IndexFunc_Lstring_string.fn) {p : Str → Bool} {g : Nat} (hg : T.modes g = [.val]) (l : List Str) (hl : l.length ≤ 1073741824)
    (ih : ∀ x ∈ l, Ret T g [.val (.str x)] (one (.bool (p x)))) : ∃ n : Int, (0 ≤ n ↔ l.any p = true) ∧ Ret T F.slices_IndexFunc_Lstring_string [.val (.lst 1 (srow l)), .val (.clo g [] [])] (one (.int .i64 n)) := by
  have e1 := srow_len l
  refine Ret.ex1 (g := fun n => AV.int .i64 n) (R := fun n => (0 ≤ n ↔ l.any p = true)) h rfl ?_
  repeat' (first | refine zA ?_ | refine zB ?_ | (refine zC ?_ ?_ <;> intro hc; all_goals first | (cases hc; done) | ((try simp only [hc]); (try simp only [bm] at hc))) | refine zE ?_ | refine zN ?_ | fail)
  refine W.listP l (fun i (_ : Unit) s => s.put 8 (.av (.int .i64 (i : Int)))) (fun i _ => (l.take i).any p = false) () (by simp) rfl ?_ ?_
  · intro i x u hx hi hp
    have r := ih x (List.mem_of_getElem? hx)
    repeat' (first | refine zA ?_ | refine WQ.cl hg ?_ | refine W1.cl hg (r) ?_ | refine zB ?_ | (refine zC ?_ ?_ <;> intro hc; all_goals first | (cases hc; done) | ((try simp only [hc]); (try simp only [bm] at hc))) | refine zE ?_ | refine zN ?_ | fail)
    all_goals clear r
    · refine ⟨_, ?_, Qend.num rfl rfl rfl⟩
      have : l.any p = true := List.any_eq_true.2 ⟨x, List.mem_of_getElem? hx, by assumption⟩
      simp [this]
    · refine ⟨(), ?_, rfl⟩
      rw [List.take_add_one, hx, List.any_append, hp]; simp_all
  · intro u hp
    rw [List.take_length] at hp
    repeat' (first | refine zA ?_ | refine zB ?_ | (refine zC ?_ ?_ <;> intro hc; all_goals first | (cases hc; done) | ((try simp only [hc]); (try simp only [bm] at hc))) | refine zE ?_ | refine zN ?_ | fail)
    refine ⟨_, ?_, Qend.num rfl rfl rfl⟩
    rw [hp]; simp
theorem containsFuncS_ret (h : Fn T F.slices_ContainsFunc_Lstring_string slices_ContainsFunc_Lstring_string.fn) (hi : Fn T F.slices_IndexFunc_Lstring_string slices_IndexFunc_Lstring_string.fn) {p : Str → Bool} {g : Nat} (hg : T.modes g = [.val]) (l : List Str) (hl : l.length ≤ 1073741824)
    (ih : ∀ x ∈ l, Ret T g [.val (.str x)] (one (.bool (p x)))) : Ret T F.slices_ContainsFunc_Lstring_string [.val (.lst 1 (srow l)), .val (.clo g [] [])] (one (.bool (l.any p))) := by
  obtain ⟨n, hn, r⟩ := indexFuncS_ret hi hg l hl ih
  refine Ret.mk h rfl ?_
  repeat' (first | refine zA ?_ | refine WQ.cl hi.modes ?_ | refine W1.cl hi.modes (r) ?_ | refine zB ?_ | (refine zC ?_ ?_ <;> intro hc; all_goals first | (cases hc; done) | ((try simp only [hc]); (try simp only [bm] at hc))) | refine zE ?_ | refine zN ?_ | fail)
  refine Qend.boo rfl rfl ?_
  rw [Bool.eq_iff_iff, ← hn]; simp
/-- All values of a list, as the program tests them. -/
theorem valueAll_ret (f : VfFns T) (hv : ValidOk T) (l : List V) (hb : V.bks l ≤ 1073741824) : Ret T F.value_allFormed [.val (.lst 5 (l.map V.row))] (one (.bool (l.all formed))) := by
  have hl := V.len_bks l
  have rc : ∀ x ∈ l, Ret T F.value_allFormed_S1 [.val x.av] (one (.bool (!formed x))) := fun x hx => by
    have r := valueFormed_ret f hv x (by have := V.bk_mem hx; omega)
    refine Ret.mk f.a3 rfl ?_
    rw [V.av_eq] at *
    repeat' (first | refine zA ?_ | refine WQ.cl f.a1.modes ?_ | refine W1.cl f.a1.modes (r) ?_ | refine zB ?_ | (refine zC ?_ ?_ <;> intro hc; all_goals first | (cases hc; done) | ((try simp only [hc]); (try simp only [bm] at hc))) | refine zE ?_ | refine zN ?_ | fail)
    exact Qend.boo rfl rfl rfl
  have r5 := containsFuncV_ret f.a8 f.a9 (p := fun x => !formed x) f.a3.modes l (by omega) rc
  refine Ret.mk f.a2 rfl ?_
  repeat' (first | refine zA ?_ | refine WQ.cl f.a8.modes ?_ | refine W1.cl f.a8.modes (r5) ?_ | refine zB ?_ | (refine zC ?_ ?_ <;> intro hc; all_goals first | (cases hc; done) | ((try simp only [hc]); (try simp only [bm] at hc))) | refine zE ?_ | refine zN ?_ | fail)
  refine Qend.boo rfl rfl ?_
  rw [List.all_eq_not_any_not]
theorem anyBad_ret (g : MkFns T) (hu : Fn T F.utf_Valid utf_Valid.fn) (hv : ValidOk T) (l : List Str) (hb : sbk l ≤ 1073741824) : Ret T F.slices_ContainsFunc_Lstring_string [.val (.lst 1 (srow l)), .val (.clo F.value_Make_S1 [] [])] (one (.bool (l.any fun s => !utf s))) := by
  have hl := len_sbk l
  refine containsFuncS_ret g.a3 g.a4 g.a2.modes l (by omega) fun x hx => ?_
  have r := hv x (by have := sbk_mem hx; omega)
  refine Ret.mk g.a2 rfl ?_
  repeat' (first | refine zA ?_ | refine WQ.cl hu.modes ?_ | refine W1.cl hu.modes (r) ?_ | refine zB ?_ | (refine zC ?_ ?_ <;> intro hc; all_goals first | (cases hc; done) | ((try simp only [hc]); (try simp only [bm] at hc))) | refine zE ?_ | refine zN ?_ | fail)
  exact Qend.boo rfl rfl rfl
theorem valueMake_ret (f : ObFns T) (g : MkFns T) (hv : ValidOk T) (b : List Fld) (hk : ∀ x ∈ b, utf x.1 = true) (hi : ∀ x ∈ b, formed x.2 = true) (lb : szF b ≤ 1000000000) :
    ∃ C, sealRow C = (objF (mergeF [] b)).row ∧ Ret T F.value_Make [.val (.lst 1 (srow (b.map (·.1)))), .val (.lst 5 ((b.map (·.2)).map V.row))] ⟨[(C, true), ([.av (.int .i64 0)], false)], []⟩ := by
  have sz := sz_eq b
  have r1 := valueAll_ret f.fm hv (b.map (·.2)) (by omega)
  have r2 := anyBad_ret g f.fm.a6 hv (b.map (·.1)) (by omega)
  rw [show (b.map (·.2)).all formed = true by rw [List.all_map, List.all_eq_true]; exact hi] at r1
  rw [show (b.map (·.1)).any (fun s => !utf s) = false by
    rw [List.any_map, List.any_eq_false]; intro x hx; simp [hk x hx]] at r2
  have main : ∃ r : CR, (∃ C, sealRow C = (objF (mergeF [] b)).row ∧ r = ⟨[(C, true), ([.av (.int .i64 0)], false)], []⟩) ∧ Ret T F.value_Make [.val (.lst 1 (srow (b.map (·.1)))), .val (.lst 5 ((b.map (·.2)).map V.row))] r := by
    refine Ret.ex g.a1 rfl ?_
    have l1 := len_sz b
    have el : (srow (b.map (·.1))).length = b.length := by rw [srow_len, List.length_map]
    have el2 : ((b.map (·.2)).map V.row).length = b.length := by rw [List.length_map, List.length_map]
    repeat' (first | refine zA ?_ | refine WQ.cl f.fm.a2.modes ?_ | refine W1.cl f.fm.a2.modes (r1) ?_ | refine WQ.cl g.a3.modes ?_ | refine W1.cl g.a3.modes (r2) ?_ | refine zB ?_ | (refine zC ?_ ?_ <;> intro hc; all_goals first | (cases hc; done) | ((try simp only [hc]); (try simp only [bm] at hc))) | refine zE ?_ | refine zN ?_ | fail)
    all_goals first | (exfalso; simp_all; done) | skip
    refine W.list b (fun i (R : List (List Cell)) => ⟨lstE [(1, .av (.lst 5 ((b.map fun x : Fld => x.2).map V.row))), (4, .plc ⟨.box 4, [], 0⟩), (6, .plc ⟨.box 6, [], 0⟩), (25, .av (.lst 1 (srow (b.map fun x : Fld => x.1)))), (26, .av (.int .i64 (b.length : Nat))), (27, .av (.int .i64 (i : Int)))],
      lstB [(1, none), (4, some [.av (.int .i64 0), .av (.str []), .av (.str []), .own 5 [], .own 1 []]), (6, some (obC (mergeF [] (b.take i)) R)), (25, none), (26, none), (27, none)]⟩)
      (fun i R => ItC (mergeF [] (b.take i)) R) [] rfl ⟨rfl, by simp⟩ ?_ ?_
    · intro i x R hx hi hR
      have g1 := get_fst hx
      have g2 := get_snd hx
      have sm := sz_merge (b.take i) []
      have lm := len_sz (mergeF [] (b.take i))
      have st := szF_take b i
      have sx := szF_mem (List.mem_of_getElem? hx)
      have s0 : szF [] = 0 := rfl
      have rt := valueTwin_ret f.tw x.2 (by omega)
      obtain ⟨R', hR', rp⟩ := putF_ret f.pt hR (asc_merge List.Pairwise.nil) (by omega) x.1 x.2
      rw [← mergeF_take_succ hx] at hR' rp
      have hC := seal_twC x.2
      rw [V.av, V.row_eq] at rp rt
      rw [V.row_eq] at g2 hC
      repeat' (first | refine zA ?_ | (refine W1.cd1 f.tw.a1.modes hC rt ?_) | ((apply W1.callM1 (hm := f.pt.a1.modes); exact rfl; exact rfl; exact rfl; exact rp; exact rfl)) | refine zB ?_ | (refine zC ?_ ?_ <;> intro hc; all_goals first | (cases hc; done) | ((try simp only [hc]); (try simp only [bm] at hc))) | refine zE ?_ | refine zN ?_ | fail)
      all_goals exact ⟨R', hR', rfl⟩
    · intro R hR
      rw [List.take_length] at hR
      repeat' (first | refine zA ?_ | refine zB ?_ | (refine zC ?_ ?_ <;> intro hc; all_goals first | (cases hc; done) | ((try simp only [hc]); (try simp only [bm] at hc))) | refine zE ?_ | refine zN ?_ | fail)
      refine ⟨_, ⟨_, ?_, rfl⟩, .inr rfl, rfl, rfl⟩
      rw [List.take_length]
      exact seal_obC hR
  obtain ⟨r, ⟨C, hC, rfl⟩, hr⟩ := main
  exact ⟨C, hC, hr⟩
end
end Hm

/- The law of merging by threes. Conditions: see each theorem. -/
namespace Hm
open Go (IntKind)
set_option maxHeartbeats 4000000
set_option maxRecDepth 4000
theorem bLess_of_rise {l : List Str} (h : rise l = true) : l.Pairwise fun a b => binA.bLess a b = true := by
  rw [rise] at h
  have hs : ∀ i a b, l[i]? = some a → l[i + 1]? = some b → binA.bLess a b = true := by
    intro i a b ha hb
    have hl : i + 1 < l.length := (List.getElem?_eq_some_iff.1 hb).1
    have := List.all_eq_true.1 h (i + 1) (List.mem_range.2 hl)
    simp only [riseAt, List.getD, hb, Nat.add_sub_cancel, ha, Option.getD_some] at this
    simp_all
  clear h
  induction l with
  | nil => exact List.Pairwise.nil
  | cons a r ih =>
    have ih' := ih fun i x y hx hy => hs (i + 1) x y (by simpa using hx) (by simpa using hy)
    refine List.pairwise_cons.2 ⟨fun y hy => ?_, ih'⟩
    cases r with
    | nil => cases hy
    | cons b s =>
      have hab := hs 0 a b rfl rfl
      rcases List.mem_cons.1 hy with rfl | hy
      · exact hab
      · exact bLess_trans _ _ _ hab ((List.pairwise_cons.1 ih').1 y hy)
theorem rise_of {l : List Str} (h : l.Pairwise fun a b => binA.bLess a b = true) (hu : ∀ s ∈ l, utf s = true) : rise l = true := by
  refine rise_true fun j hj => ?_
  have h1 : utf (l.getD j []) = true := by
    rw [List.getD, List.getElem?_eq_getElem hj]
    exact hu _ (List.getElem_mem hj)
  have h2 : 0 < j → binA.bLess (l.getD (j - 1) []) (l.getD j []) = true := fun h0 => by
    rw [List.getD, List.getD, List.getElem?_eq_getElem hj, List.getElem?_eq_getElem (show j - 1 < l.length by omega)]
    exact List.pairwise_iff_getElem.1 h (j - 1) j (by omega) hj (by omega)
  simp only [riseAt, h1]
  cases j with
  | zero => simp
  | succ j =>
    have h3 := h2 (by omega)
    rw [h3]; simp
theorem utf_of_rise {l : List Str} (h : rise l = true) : ∀ s ∈ l, utf s = true := by
  intro s hs
  rw [rise] at h
  obtain ⟨i, hi⟩ := List.mem_iff_getElem?.1 hs
  have hl : i < l.length := (List.getElem?_eq_some_iff.1 hi).1
  have := List.all_eq_true.1 h i (List.mem_range.2 hl)
  simp only [riseAt, List.getD, hi, Option.getD_some] at this
  simp_all
/-- A well shaped object is a list of fields in order. -/
theorem obj_of {v : V} (h : formed v = true) (hk : v.kind = 6) : ∃ m, v = objF m ∧ AscF m ∧ (∀ x ∈ m, utf x.1 = true) ∧ ∀ x ∈ m, formed x.2 = true := by
  obtain ⟨_, f2, f3, f4, f5, f6, f7, f8, f9⟩ := formed_inv h
  obtain ⟨k, n, t, is, ks⟩ := v
  simp only [V.kind, V.num, V.text, V.items, V.keys] at *
  subst hk
  obtain rfl := f3 (by decide)
  obtain rfl := f5 (by decide)
  obtain ⟨hl, hr⟩ := f8 rfl
  have e1 : (ks.zip is).map (·.1) = ks := List.map_fst_zip (by omega)
  have e2 : (ks.zip is).map (·.2) = is := List.map_snd_zip (by omega)
  refine ⟨ks.zip is, by rw [objF, e1, e2], ?_, ?_, ?_⟩
  · have := bLess_of_rise hr
    rw [← e1] at this
    exact List.pairwise_map.1 this
  · intro x hx
    exact utf_of_rise hr x.1 (by rw [← e1]; exact List.mem_map.2 ⟨x, hx, rfl⟩)
  · intro x hx
    exact f9 x.2 (by rw [← e2]; exact List.mem_map.2 ⟨x, hx, rfl⟩)
theorem formed_obj {m : List Fld} (h1 : AscF m) (h2 : ∀ x ∈ m, utf x.1 = true) (h3 : ∀ x ∈ m, formed x.2 = true) : formed (objF m) = true := by
  rw [objF, vformed_eq]
  have hr : rise (m.map (·.1)) = true := rise_of (List.pairwise_map.2 h1) fun s hs => by
    obtain ⟨x, hx, rfl⟩ := List.mem_map.1 hs
    exact h2 x hx
  have ha : (m.map (·.2)).all formed = true := by rw [List.all_map, List.all_eq_true]; exact h3
  rw [hr, ha]
  simp
theorem merge_all {p : Fld → Prop} {b : List Fld} : ∀ {a : List Fld}, (∀ x ∈ a, p x) → (∀ x ∈ b, p x) → ∀ x ∈ mergeF a b, p x := by
  induction b with
  | nil => intro a ha _; exact ha
  | cons f r ih =>
    intro a ha hb
    refine ih (a := insA a f.1 f.2) (fun x hx => ?_) (fun x hx => hb x (by simp [hx]))
    rcases mem_ins hx with rfl | hx
    · exact hb f (by simp)
    · exact ha x hx
/-- A list of fields that is a well shaped object. -/
structure Obj (m : List Fld) : Prop where
  asc : AscF m
  key : ∀ x ∈ m, utf x.1 = true
  val : ∀ x ∈ m, formed x.2 = true
theorem Obj.formed {m : List Fld} (h : Obj m) : formed (objF m) = true := formed_obj h.asc h.key h.val
theorem Obj.merge {a b : List Fld} (ha : Obj a) (hb : Obj b) : Obj (mergeF a b) := ⟨asc_merge ha.asc, merge_all ha.key hb.key, merge_all ha.val hb.val⟩
theorem Obj.nil : Obj [] := ⟨List.Pairwise.nil, by simp, by simp⟩
end Hm

/- What slices.Delete of one element answers. Conditions: none (a definition). -/
namespace Hm
def pDel (k : Nat) : List Arg → Option CR
  | [.mv [.own k' rows] false, .val (.int .i64 i), .val (.int .i64 j)] =>
    if k' = k ∧ 0 ≤ i ∧ i < rows.length ∧ j = i + 1 then some ⟨[([.own k (rows.take i.toNat ++ rows.drop (i.toNat + 1))], false)], []⟩ else none
  | _ => none
end Hm

/- Fields got, put, taken out. Conditions: see each theorem. -/
namespace Hm
open Go (IntKind)
set_option maxHeartbeats 4000000
set_option maxRecDepth 4000
/-- What Get, With, Without reach. -/
structure GwFns (T : Tab) : Prop where
  a1 : Fn T F.value_Get value_Get.fn
  a2 : Fn T F.value_With value_With.fn
  a3 : Fn T F.value_Without value_Without.fn
  a4 : Fn T F.slices_Index_Lstring_string slices_Index_Lstring_string.fn
  m1 : T.modes F.slices_Delete_Lstring_string = [.mv, .val, .val]
  p1 : T.prim F.slices_Delete_Lstring_string = some (pDel 1)
  m2 : T.modes F.slices_Delete_LValue_Value = [.mv, .val, .val]
  p2 : T.prim F.slices_Delete_LValue_Value = some (pDel 5)
theorem del_prim {T : Tab} {f k : Nat} (hp : T.prim f = some (pDel k)) (rows : List (List Cell)) (p : Nat) (h : p < rows.length) :
    Ret T f [.mv [.own k rows] false, .val (.int .i64 (p : Nat)), .val (.int .i64 ((p : Nat) + 1))] ⟨[([.own k (rows.take p ++ rows.drop (p + 1))], false)], []⟩ :=
  Ret.prim hp (by simp only [pDel]; rw [if_pos ⟨trivial, by omega, by omega, trivial⟩]; rfl)
section
variable {T : Tab}
theorem indexS_ret (h : Fn T F.slices_Index_Lstring_string slices_Index_Lstring_string.fn) (l : List Str) (hl : l.length ≤ 1073741824) (k : Str) :
    ∃ n : Int, ((n = -1 ∧ k ∉ l) ∨ ∃ i : Nat, n = (i : Int) ∧ l[i]? = some k ∧ ∀ j, j < i → l[j]? ≠ some k) ∧ Ret T F.slices_Index_Lstring_string [.val (.lst 1 (srow l)), .val (.str k)] (one (.int .i64 n)) := by
  have e1 := srow_len l
  refine Ret.ex1 (g := fun n => AV.int .i64 n) (R := fun n => ((n = -1 ∧ k ∉ l) ∨ ∃ i : Nat, n = (i : Int) ∧ l[i]? = some k ∧ ∀ j, j < i → l[j]? ≠ some k)) h rfl ?_
  repeat' (first | refine zA ?_ | refine zB ?_ | (refine zC ?_ ?_ <;> intro hc; all_goals first | (cases hc; done) | ((try simp only [hc]); (try simp only [bm] at hc))) | refine zE ?_ | refine zN ?_ | fail)
  refine W.listP l (fun i (_ : Unit) s => s.put 8 (.av (.int .i64 (i : Int)))) (fun i _ => ∀ j, j < i → l[j]? ≠ some k) () (by simp) rfl ?_ ?_
  · intro i x u hx hi hp
    repeat' (first | refine zA ?_ | refine zB ?_ | (refine zC ?_ ?_ <;> intro hc; all_goals first | (cases hc; done) | ((try simp only [hc]); (try simp only [bm] at hc))) | refine zE ?_ | refine zN ?_ | fail)
    · refine ⟨_, .inr ⟨i, rfl, ?_, hp⟩, Qend.num rfl rfl rfl⟩
      rw [hx]; simp_all
    · refine ⟨(), fun j hj => ?_, rfl⟩
      by_cases hji : j < i
      · exact hp j hji
      · obtain rfl : j = i := by omega
        rw [hx]; intro e; simp_all
  · intro u hp
    repeat' (first | refine zA ?_ | refine zB ?_ | (refine zC ?_ ?_ <;> intro hc; all_goals first | (cases hc; done) | ((try simp only [hc]); (try simp only [bm] at hc))) | refine zE ?_ | refine zN ?_ | fail)
    refine ⟨_, .inl ⟨rfl, fun hm => ?_⟩, Qend.num rfl rfl rfl⟩
    obtain ⟨j, hj⟩ := List.mem_iff_getElem?.1 hm
    exact hp j (List.getElem?_eq_some_iff.1 hj).1 hj
theorem zeroV_row : zeroV.row = [.int .i64 0, .str [], .str [], .lst 5 [], .lst 1 []] := rfl
theorem valueGet_ret (f : GwFns T) (tw : TwFns T) (v : V) (hb : v.bk ≤ 1073741824) (k : Str) :
    ∃ C, sealRow C = ((getV v k).getD zeroV).row ∧ Ret T F.value_Get [.val v.av, .val (.str k)] ⟨[(C, true), ([.av (.bool (getV v k).isSome)], false)], []⟩ := by
  have hbk := V.bk_eq v
  have hk := len_sbk v.keys
  have hl := V.len_bks v.items
  have e2 : (v.items.map V.row).length = v.items.length := List.length_map ..
  obtain ⟨n, hn, r1⟩ := indexS_ret f.a4 v.keys (by omega) k
  have main : ∃ r : CR, (∃ C, sealRow C = ((getV v k).getD zeroV).row ∧ r = ⟨[(C, true), ([.av (.bool (getV v k).isSome)], false)], []⟩) ∧ Ret T F.value_Get [.val v.av, .val (.str k)] r := by
    refine Ret.ex f.a1 rfl ?_
    rw [V.av_eq]
    by_cases hk6 : v.kind = 6
    · by_cases hin : ∃ i : Nat, n = (i : Int) ∧ i < v.items.length
      · obtain ⟨i, rfl, hi⟩ := hin
        obtain ⟨x, hx⟩ : ∃ x, v.items[i]? = some x := ⟨v.items[i], List.getElem?_eq_getElem hi⟩
        have hg : getV v k = some x := by
          rcases hn with ⟨h, _⟩ | ⟨j, hj, h1, h2⟩
          · omega
          · obtain rfl : j = i := by omega
            rw [getV, if_pos hk6, lookL_at k h1 h2, hx]
        have rt := valueTwin_ret tw x (by have := V.bk_item (List.mem_of_getElem? hx); omega)
        have hC := seal_twC x
        have e0 := V.row_eq x
        rw [V.av_eq, twC_eq] at rt
        rw [twC_eq, e0] at hC
        rw [hg]
        repeat' (first | refine zA ?_ | refine WQ.cl f.a4.modes ?_ | refine W1.cl f.a4.modes (r1) ?_ | (refine W1.cd1 tw.a1.modes hC rt ?_) | refine zB ?_ | (refine zC ?_ ?_ <;> intro hc; all_goals first | (cases hc; done) | ((try simp only [hc]); (try simp only [bm] at hc))) | refine zE ?_ | refine zN ?_ | fail)
        all_goals first | (exfalso; omega) | (exfalso; simp_all; done) | skip
        all_goals refine ⟨_, ⟨_, ?_, rfl⟩, .inr rfl, rfl, rfl⟩
        all_goals exact e0.symm
      · have hg : getV v k = none := by
          rcases hn with ⟨_, h⟩ | ⟨j, hj, h1, h2⟩
          · rw [getV, if_pos hk6, lookL_none k h]
          · rw [getV, if_pos hk6, lookL_at k h1 h2, List.getElem?_eq_none]
            have : ¬ j < v.items.length := fun hlt => hin ⟨j, hj, hlt⟩
            omega
        have hcond : n < 0 ∨ (v.items.length : Int) ≤ n := by
          rcases hn with ⟨h, _⟩ | ⟨j, hj, h1, h2⟩
          · left; omega
          · right
            have : ¬ j < v.items.length := fun hlt => hin ⟨j, hj, hlt⟩
            omega
        rw [hg]
        repeat' (first | refine zA ?_ | refine WQ.cl f.a4.modes ?_ | refine W1.cl f.a4.modes (r1) ?_ | refine zB ?_ | (refine zC ?_ ?_ <;> intro hc; all_goals first | (cases hc; done) | ((try simp only [hc]); (try simp only [bm] at hc))) | refine zE ?_ | refine zN ?_ | fail)
        all_goals first | (exfalso; omega) | (exfalso; simp_all; done) | skip
        all_goals refine ⟨_, ⟨_, ?_, rfl⟩, .inr rfl, rfl, rfl⟩
        all_goals rfl
    · have hg : getV v k = none := by rw [getV, if_neg hk6]
      rw [hg]
      repeat' (first | refine zA ?_ | refine WQ.cl f.a4.modes ?_ | refine W1.cl f.a4.modes (r1) ?_ | refine zB ?_ | (refine zC ?_ ?_ <;> intro hc; all_goals first | (cases hc; done) | ((try simp only [hc]); (try simp only [bm] at hc))) | refine zE ?_ | refine zN ?_ | fail)
      all_goals first | (exfalso; omega) | (exfalso; simp_all; done) | skip
      all_goals refine ⟨_, ⟨_, ?_, rfl⟩, .inr rfl, rfl, rfl⟩
      all_goals rfl
  obtain ⟨r, ⟨C, hC, rfl⟩, hr⟩ := main
  exact ⟨C, hC, hr⟩
theorem valueWith_ret (f : GwFns T) (o : ObFns T) (hv : ValidOk T) {m : List Fld} (hm : Obj m) (k : Str) (hk : utf k = true) (x : V) (hx : formed x = true) (lb : szF m + (k.length + 1 + x.bk) ≤ 1000000000) :
    ∃ C, sealRow C = (objF (insA m k x)).row ∧ Ret T F.value_With [.val (objF m).av, .val (.str k), .val x.av] ⟨[(C, true), ([.av (.int .i64 0)], false)], []⟩ := by
  have ba := objF_bk m
  have r1 := isObject_ret o hv (objF m) (by omega)
  rw [hm.formed] at r1
  have r2 := hv k (by omega)
  rw [hk] at r2
  have r3 := valueFormed_ret o.fm hv x (by omega)
  rw [hx] at r3
  have r4 := valueTwin_ret o.tw (objF m) (by omega)
  have r5 := valueTwin_ret o.tw x (by omega)
  have e4 : twC (objF m) = obC m ((m.map (·.2)).map twC) := by rw [twC_eq]; rfl
  have lm := len_sz m
  obtain ⟨R', hR', rp⟩ := putF_ret o.pt (ItC.twin m) hm.asc (by omega) k x
  have hC := seal_twC x
  rw [twC_eq] at hC r5
  rw [V.av, ← hC] at rp
  rw [e4] at r4
  have main : ∃ r : CR, (∃ C, sealRow C = (objF (insA m k x)).row ∧ r = ⟨[(C, true), ([.av (.int .i64 0)], false)], []⟩) ∧ Ret T F.value_With [.val (objF m).av, .val (.str k), .val x.av] r := by
    refine Ret.ex f.a2 rfl ?_
    simp only [objF_av] at *
    rw [V.av_eq] at *
    simp only [obC] at *
    repeat' (first | refine zA ?_ | refine WQ.cl o.a2.modes ?_ | refine W1.cl o.a2.modes (r1) ?_ | refine WQ.cl o.fm.a6.modes ?_ | refine W1.cl o.fm.a6.modes (r2) ?_ | refine WQ.cl o.fm.a1.modes ?_ | refine W1.cl o.fm.a1.modes (r3) ?_ | refine WQ.cl o.tw.a1.modes ?_ | refine W1.cl o.tw.a1.modes (r4) ?_ | refine WQ.cl o.tw.a1.modes ?_ | refine W1.cl o.tw.a1.modes (r5) ?_ | ((apply W1.callM1 (hm := o.pt.a1.modes); exact rfl; exact rfl; exact rfl; exact rp; exact rfl)) | refine zB ?_ | (refine zC ?_ ?_ <;> intro hc; all_goals first | (cases hc; done) | ((try simp only [hc]); (try simp only [bm] at hc))) | refine zE ?_ | refine zN ?_ | fail)
    all_goals first | (exfalso; simp_all; done) | skip
    all_goals refine ⟨_, ⟨_, ?_, rfl⟩, .inr rfl, rfl, rfl⟩
    all_goals exact seal_obC hR'
  obtain ⟨r, ⟨C, hC, rfl⟩, hr⟩ := main
  exact ⟨C, hC, hr⟩
theorem ItC.del {m : List Fld} {R : List (List Cell)} (h : ItC m R) (p : Nat) : ItC (m.take p ++ m.drop (p + 1)) (R.take p ++ R.drop (p + 1)) := by
  have hs := h.1
  rw [sealRows_mp] at hs
  refine ⟨?_, fun r hr => ?_⟩
  · rw [sealRows_append, sealRows_mp, sealRows_mp, List.map_take, List.map_drop, hs]
    simp only [List.map_append, List.map_take, List.map_drop]
  · rcases List.mem_append.1 hr with hr | hr
    · exact h.2 r (List.mem_of_mem_take hr)
    · exact h.2 r (List.mem_of_mem_drop hr)
theorem valueWithout_ret (f : GwFns T) (o : ObFns T) (hv : ValidOk T) {m : List Fld} (hm : Obj m) (k : Str) (lb : szF m ≤ 1000000000) :
    ∃ C, sealRow C = (objF (delA m k)).row ∧ Ret T F.value_Without [.val (objF m).av, .val (.str k)] ⟨[(C, true), ([.av (.int .i64 0)], false)], []⟩ := by
  have ba := objF_bk m
  have r1 := isObject_ret o hv (objF m) (by omega)
  rw [hm.formed] at r1
  have r4 := valueTwin_ret o.tw (objF m) (by omega)
  have e4 : twC (objF m) = obC m ((m.map (·.2)).map twC) := by rw [twC_eq]; rfl
  rw [e4] at r4
  have lm := len_sz m
  have hp := posF_le m k
  have r0 := binSearch_ret o.pt.a2 o.pt.a3 o.pt.a4 o.pt.a5 (m.map (·.1)) (by rw [List.length_map]; omega) k (posF m k) (by rw [List.length_map]; exact hp) (posF_spec k hm.asc)
  rw [← seal_crow (srow (m.map (·.1)))] at r0
  have c0 : (crow (srow (m.map (·.1)))).length = m.length := by rw [crow_len, srow_len, List.length_map]
  have c1 : ((m.map (·.2)).map twC).length = m.length := by rw [List.length_map, List.length_map]
  have main : ∃ r : CR, (∃ C, sealRow C = (objF (delA m k)).row ∧ r = ⟨[(C, true), ([.av (.int .i64 0)], false)], []⟩) ∧ Ret T F.value_Without [.val (objF m).av, .val (.str k)] r := by
    refine Ret.ex f.a3 rfl ?_
    simp only [objF_av] at *
    simp only [obC] at *
    rw [delA_eq]
    by_cases hk : (m.map (·.1))[posF m k]? = some k
    · rw [if_pos hk]
      rw [decide_eq_true hk] at r0
      have hpl : posF m k < m.length := by
        have := (List.getElem?_eq_some_iff.1 hk).1
        rwa [List.length_map] at this
      have d1 := del_prim f.p1 (crow (srow (m.map (·.1)))) (posF m k) (by omega)
      have d2 := del_prim f.p2 ((m.map (·.2)).map twC) (posF m k) (by omega)
      have ek : (crow (srow (m.map (·.1)))).take (posF m k) ++ (crow (srow (m.map (·.1)))).drop (posF m k + 1) = crow (srow ((m.take (posF m k) ++ m.drop (posF m k + 1)).map (·.1))) := by
        simp [crow, srow, List.map_take, List.map_drop]
      rw [ek] at d1
      have hR := (ItC.twin m).del (posF m k)
      repeat' (first | refine zA ?_ | refine WQ.cl o.a2.modes ?_ | refine W1.cl o.a2.modes (r1) ?_ | refine WQ.cl o.tw.a1.modes ?_ | refine W1.cl o.tw.a1.modes (r4) ?_ | refine WQ.cl o.pt.a2.modes ?_ | refine W1.cl o.pt.a2.modes (r0) ?_ | ((apply W1.callM0 (hm := f.m1); exact rfl; exact rfl; exact rfl; exact d1; exact rfl)) | ((apply W1.callM0 (hm := f.m2); exact rfl; exact rfl; exact rfl; exact d2; exact rfl)) | refine zB ?_ | (refine zC ?_ ?_ <;> intro hc; all_goals first | (cases hc; done) | ((try simp only [hc]); (try simp only [bm] at hc))) | refine zE ?_ | refine zN ?_ | fail)
      all_goals first | (exfalso; simp_all; done) | skip
      all_goals refine ⟨_, ⟨_, ?_, rfl⟩, .inr rfl, rfl, rfl⟩
      all_goals exact seal_obC hR
    · rw [if_neg hk]
      rw [decide_eq_false hk] at r0
      repeat' (first | refine zA ?_ | refine WQ.cl o.a2.modes ?_ | refine W1.cl o.a2.modes (r1) ?_ | refine WQ.cl o.tw.a1.modes ?_ | refine W1.cl o.tw.a1.modes (r4) ?_ | refine WQ.cl o.pt.a2.modes ?_ | refine W1.cl o.pt.a2.modes (r0) ?_ | refine zB ?_ | (refine zC ?_ ?_ <;> intro hc; all_goals first | (cases hc; done) | ((try simp only [hc]); (try simp only [bm] at hc))) | refine zE ?_ | refine zN ?_ | fail)
      all_goals first | (exfalso; simp_all; done) | skip
      all_goals refine ⟨_, ⟨_, ?_, rfl⟩, .inr rfl, rfl, rfl⟩
      all_goals exact seal_obC (ItC.twin m)
  obtain ⟨r, ⟨C, hC, rfl⟩, hr⟩ := main
  exact ⟨C, hC, hr⟩
end
end Hm

/- Objects gathered key by key: plain laws. Conditions: none (definitions and plain lemmas). -/
namespace Hm
def nxtF (p : Str → Bool) (o : Option Str) (k : Str) : Option Str := if (p k && (!o.isSome || binA.bLess k (o.getD []))) = true then some k else o
def nxt (p : Str → Bool) (l : List Str) : Option Str := l.foldl (nxtF p) none
theorem nxt_take_succ {p : Str → Bool} {l : List Str} {i : Nat} {x : Str} (h : l[i]? = some x) : nxt p (l.take (i + 1)) = nxtF p (nxt p (l.take i)) x := by
  rw [nxt, nxt, List.take_add_one, h, List.foldl_append]; rfl
theorem nxt_fold (p : Str → Bool) : ∀ (l : List Str) (o : Option Str), (∀ m, o = some m → p m = true) →
    (l.foldl (nxtF p) o = none ∧ o = none ∧ ∀ k ∈ l, p k = false) ∨
    (∃ m, l.foldl (nxtF p) o = some m ∧ p m = true ∧ (m ∈ l ∨ o = some m) ∧ (∀ k ∈ l, p k = true → binA.bLess k m = false) ∧ ∀ m', o = some m' → binA.bLess m' m = false)
  | [], none, _ => .inl ⟨rfl, rfl, by simp⟩
  | [], some m, h => .inr ⟨m, rfl, h m rfl, .inr rfl, by simp, fun m' e => by cases e; exact bLess_irrefl m⟩
  | k :: r, o, h => by
    rw [List.foldl_cons]
    by_cases hp : p k = true
    · by_cases hc : (!o.isSome || binA.bLess k (o.getD [])) = true
      · have e : nxtF p o k = some k := by rw [nxtF, hp, hc]; rfl
        rw [e]
        rcases nxt_fold p r (some k) (fun m e => by cases e; exact hp) with h1 | ⟨m, h1, h2, h3, h4, h5⟩
        · exact absurd h1.2.1 (by simp)
        · have hkm := h5 k rfl
          refine .inr ⟨m, h1, h2, ?_, ?_, ?_⟩
          · rcases h3 with h3 | h3
            · exact .inl (by simp [h3])
            · cases h3; exact .inl (by simp)
          · intro x hx px
            rcases List.mem_cons.1 hx with rfl | hx
            · exact hkm
            · exact h4 x hx px
          · intro m' em
            subst em
            simp only [Option.isSome_some, Bool.not_true, Bool.false_or, Option.getD_some] at hc
            cases hb : binA.bLess m' m
            · rfl
            · rw [bLess_trans _ _ _ hc hb] at hkm; exact hkm
      · have e : nxtF p o k = o := by rw [nxtF, if_neg]; rw [hp, Bool.true_and]; exact hc
        rw [e]
        simp only [Bool.or_eq_true, Bool.not_eq_true', not_or, Bool.not_eq_false] at hc
        obtain ⟨m0, rfl⟩ : ∃ m0, o = some m0 := Option.isSome_iff_exists.1 hc.1
        have hn : binA.bLess k m0 = false := by simpa using hc.2
        rcases nxt_fold p r (some m0) h with h1 | ⟨m, h1, h2, h3, h4, h5⟩
        · exact absurd h1.2.1 (by simp)
        · have h6 := h5 m0 rfl
          refine .inr ⟨m, h1, h2, ?_, ?_, h5⟩
          · rcases h3 with h3 | h3
            · exact .inl (by simp [h3])
            · exact .inr h3
          · intro x hx px
            rcases List.mem_cons.1 hx with rfl | hx
            · cases hb : binA.bLess x m
              · rfl
              · rcases bLess_tri x m0 with h7 | h7 | h7
                · rw [h7] at hn; cases hn
                · rw [← h7, hb] at h6; cases h6
                · rw [bLess_trans _ _ _ h7 hb] at h6; cases h6
            · exact h4 x hx px
    · have e : nxtF p o k = o := by rw [nxtF, if_neg]; simp [hp]
      rw [e]
      rw [Bool.not_eq_true] at hp
      rcases nxt_fold p r o h with h1 | ⟨m, h1, h2, h3, h4, h5⟩
      · refine .inl ⟨h1.1, h1.2.1, fun x hx => ?_⟩
        rcases List.mem_cons.1 hx with rfl | hx
        · exact hp
        · exact h1.2.2 x hx
      · refine .inr ⟨m, h1, h2, ?_, ?_, h5⟩
        · rcases h3 with h3 | h3
          · exact .inl (by simp [h3])
          · exact .inr h3
        · intro x hx px
          rcases List.mem_cons.1 hx with rfl | hx
          · rw [hp] at px; cases px
          · exact h4 x hx px
theorem gt_bLess (a b : Str) : (!(binA.bLess a b || a == b)) = binA.bLess b a := by
  rcases bLess_tri a b with h | h | h
  · rw [h]
    cases hb : binA.bLess b a
    · rfl
    · have := bLess_trans _ _ _ h hb; rw [bLess_irrefl] at this; cases this
  · subst h; rw [bLess_irrefl]; simp
  · rw [h]
    cases hb : binA.bLess a b
    · have : ¬ a = b := fun e => by rw [e, bLess_irrefl] at h; cases h
      simp [this]
    · have := bLess_trans _ _ _ h hb; rw [bLess_irrefl] at this; cases this
theorem asc_at {M : List Fld} (h : AscF M) {i j : Nat} {f g : Fld} (hi : M[i]? = some f) (hj : M[j]? = some g) (hl : i < j) : binA.bLess f.1 g.1 = true := by
  have li := (List.getElem?_eq_some_iff.1 hi)
  have lj := (List.getElem?_eq_some_iff.1 hj)
  obtain ⟨a, ha⟩ := li
  obtain ⟨b, hb⟩ := lj
  have := List.pairwise_iff_getElem.1 h i j a b hl
  rw [ha, hb] at this; exact this
theorem asc_iff {M : List Fld} (h : AscF M) {i j : Nat} {f g : Fld} (hi : M[i]? = some f) (hj : M[j]? = some g) : binA.bLess f.1 g.1 = true ↔ i < j := by
  refine ⟨fun hb => ?_, asc_at h hi hj⟩
  by_cases h1 : i < j
  · exact h1
  · exfalso
    by_cases h2 : i = j
    · subst h2
      rw [hi] at hj; cases hj
      rw [bLess_irrefl] at hb; cases hb
    · have := bLess_trans _ _ _ hb (asc_at h hj hi (by omega))
      rw [bLess_irrefl] at this; cases this
theorem nxt_at {M : List Fld} {keys : List Str} (h : AscF M) (hk : ∀ k, k ∈ keys ↔ k ∈ M.map (·.1)) {q : Str → Bool} {j : Nat} (hq : ∀ i f, M[i]? = some f → (q f.1 = true ↔ j ≤ i)) : nxt q keys = (M[j]?).map (·.1) := by
  rcases nxt_fold q keys none (by simp) with ⟨h1, -, h2⟩ | ⟨m, h1, h2, h3, h4, -⟩
  · rw [nxt, h1]
    cases hj : M[j]? with
    | none => rfl
    | some f =>
      have := h2 f.1 ((hk f.1).2 (List.mem_map.2 ⟨f, List.mem_of_getElem? hj, rfl⟩))
      rw [(hq j f hj).2 (Nat.le_refl j)] at this; cases this
  · rw [nxt, h1]
    have hm : m ∈ keys := h3.resolve_right (by simp)
    obtain ⟨f, hf, rfl⟩ := List.mem_map.1 ((hk m).1 hm)
    obtain ⟨i, hi⟩ := List.mem_iff_getElem?.1 hf
    have hji := (hq i f hi).1 h2
    have hlt := (List.getElem?_eq_some_iff.1 hi).1
    have hj : M[j]? = some M[j] := List.getElem?_eq_getElem (by omega)
    have := h4 _ ((hk _).2 (List.mem_map.2 ⟨M[j], List.mem_of_getElem? hj, rfl⟩)) ((hq j _ hj).2 (Nat.le_refl j))
    have he : i = j := by
      by_cases hl : j < i
      · rw [asc_at h hj hi hl] at this; cases this
      · omega
    subst he
    rw [hi]; rfl
theorem lookF_asc {M : List Fld} (h : AscF M) {j : Nat} {f : Fld} (hj : M[j]? = some f) : lookF M f.1 = some f.2 := by
  induction M generalizing j with
  | nil => simp at hj
  | cons g r ih =>
    obtain ⟨h1, h2⟩ := List.pairwise_cons.1 h
    rw [lookF]
    cases j with
    | zero => simp at hj; subst hj; rw [if_pos rfl]
    | succ j =>
      have hj' : r[j]? = some f := by simpa using hj
      have hne : ¬ g.1 = f.1 := fun e => by
        have := h1 f (List.mem_of_getElem? hj')
        rw [e, bLess_irrefl] at this; cases this
      rw [if_neg hne]; exact ih h2 hj'
theorem lookF_none_iff (k : Str) : ∀ m : List Fld, lookF m k = none ↔ k ∉ m.map (·.1)
  | [] => by simp [lookF]
  | f :: r => by
    rw [lookF]
    by_cases e : f.1 = k
    · simp [e]
    · rw [if_neg e, lookF_none_iff k r]; simp [Ne.symm e]
theorem lookLast_none_iff (k : Str) : ∀ m : List Fld, lookLast m k = none ↔ k ∉ m.map (·.1)
  | [] => by simp [lookLast]
  | f :: r => by
    rw [lookLast, Option.or_eq_none_iff, lookLast_none_iff k r]
    by_cases e : f.1 = k
    · simp [e]
    · simp [e, Ne.symm e]
theorem merge_keys (z : List Fld) (k : Str) : k ∈ z.map (·.1) ↔ k ∈ (mergeF [] z).map (·.1) := by
  have h1 := lookF_none_iff k (mergeF [] z)
  have h2 := lookLast_none_iff k z
  have h3 := look_merge (b := z) [] k
  have h4 : lookF [] k = none := rfl
  rw [h4, Option.or_none] at h3
  rw [h3] at h1
  constructor
  · intro h
    by_cases hc : k ∈ (mergeF [] z).map (·.1)
    · exact hc
    · exact absurd h (h2.1 (h1.2 hc))
  · intro h
    by_cases hc : k ∈ z.map (·.1)
    · exact hc
    · exact absurd h (h1.1 (h2.2 hc))
theorem lookLast_idx (k : Str) : ∀ {ks : List Str} {l : List V} {i : Nat}, ks.length = l.length → ks[i]? = some k → (∀ j, i < j → ks[j]? ≠ some k) → lookLast (ks.zip l) k = l[i]?
  | [], l, i, _, h, _ => by simp at h
  | s :: r, [], i, hl, _, _ => by simp at hl
  | s :: r, x :: l, 0, hl, h, hj => by
    simp at h; subst h
    have : lookLast (r.zip l) s = none := (lookLast_none_iff s _).2 fun hm => by
      rw [List.map_fst_zip (by simp at hl; omega)] at hm
      obtain ⟨j, hj'⟩ := List.mem_iff_getElem?.1 hm
      exact hj (j + 1) (by omega) (by simpa using hj')
    rw [List.zip_cons_cons, lookLast, this]
    simp
  | s :: r, x :: l, i + 1, hl, h, hj => by
    have hr : r[i]? = some k := by simpa using h
    have hl' : r.length = l.length := by simpa using hl
    have ih := lookLast_idx k (ks := r) (l := l) (i := i) hl' hr (fun j hlt => by have := hj (j + 1) (by omega); simpa using this)
    have hi : i < l.length := by have := (List.getElem?_eq_some_iff.1 hr).1; omega
    rw [List.zip_cons_cons, lookLast, ih, List.getElem?_eq_getElem hi]
    simp
theorem filter_del (k : Str) : ∀ {m : List Fld}, AscF m → m.filter (fun f => !(f.1 == k)) = delA m k
  | [], _ => rfl
  | f :: r, h => by
    obtain ⟨h1, h2⟩ := List.pairwise_cons.1 h
    rw [delA, List.filter_cons]
    by_cases hl : binA.bLess f.1 k = true
    · have hne : ¬ f.1 = k := fun e => by rw [e, bLess_irrefl] at hl; cases hl
      rw [if_pos hl, if_pos (by simp [hne]), filter_del k h2]
    · rw [if_neg hl]
      have hall : ∀ g ∈ r, ¬ g.1 = k := fun g hg e => by
        have := h1 g hg
        rw [e] at this; exact hl this
      have hfr : r.filter (fun f => !(f.1 == k)) = r := List.filter_eq_self.2 fun g hg => by simp [hall g hg]
      by_cases he : f.1 = k
      · rw [if_pos he, if_neg (by simp [he]), hfr]
      · rw [if_neg he, if_pos (by simp [he]), hfr]
end Hm

/- Objects gathered key by key, in the reference. Conditions: see each theorem. NORMX NORMY -/
namespace Hm
open Go (IntKind)
set_option maxHeartbeats 4000000
set_option maxRecDepth 4000
theorem next_ret {T : Tab} (h : Fn T F.hallmarkref03_next hallmarkref03_next.fn) (l : List Str) (hl : l.length ≤ 1073741824) (a : Str) (first : Bool) :
    Ret T F.hallmarkref03_next [.val (.lst 1 (srow l)), .val (.str a), .val (.bool first)] (two (.str ((nxt (fun k => first || !(binA.bLess k a || k == a)) l).getD [])) (.bool (nxt (fun k => first || !(binA.bLess k a || k == a)) l).isSome)) := by
  have e1 := srow_len l
  refine Ret.mk h rfl ?_
  repeat' (first | refine zA ?_ | refine zB ?_ | (refine zC ?_ ?_ <;> intro hc; all_goals first | (cases hc; done) | ((try simp only [hc]); (try simp only [bm] at hc))) | refine zE ?_ | refine zNV ?_ | fail)
  refine W.listP l (fun i (o : Option Str) s => ((s.put 8 (.av (.bool o.isSome))).put 9 (.av (.str (o.getD [])))).put 10 (.av (.int .i64 (i : Int)))) (fun i o => o = nxt (fun k => first || !(binA.bLess k a || k == a)) (l.take i)) none rfl rfl ?_ ?_
  · intro i x o hx hi hp
    have hn := nxt_take_succ (p := fun k => first || !(binA.bLess k a || k == a)) hx
    rw [← hp] at hn
    clear hp
    generalize nxt (fun k => first || !(binA.bLess k a || k == a)) (l.take (i + 1)) = o' at *
    rw [nxtF] at hn
    rcases first with _ | _
    all_goals rcases o with _ | m
    all_goals simp only [Option.isSome_none, Option.isSome_some, Option.getD_none, Option.getD_some, Bool.true_or, Bool.false_or, Bool.not_true, Bool.not_false, Bool.true_and, Bool.and_true] at *
    all_goals skip
    repeat' (first | refine zA ?_ | refine zB ?_ | (refine zC ?_ ?_ <;> intro hc; all_goals first | (cases hc; done) | ((try simp only [hc]); (try simp only [bm] at hc))) | refine zE ?_ | refine zNV ?_ | fail)
    all_goals first
      | (refine ⟨some x, ?_, rfl⟩; rw [hn]; simp_all; done)
      | (refine ⟨none, ?_, rfl⟩; rw [hn]; simp_all; done)
      | (refine ⟨some m, ?_, rfl⟩; rw [hn]; simp_all; done)
      | (refine ⟨none, ?_, rfl⟩; rw [hn, hc]; rfl)
      | (refine ⟨some m, ?_, rfl⟩; rw [hn, hc]; rfl)
      | (exfalso; simp_all; done)
      | trace_state
  · intro o hp
    rw [List.take_length] at hp
    subst hp
    repeat' (first | refine zA ?_ | refine zB ?_ | (refine zC ?_ ?_ <;> intro hc; all_goals first | (cases hc; done) | ((try simp only [hc]); (try simp only [bm] at hc))) | refine zE ?_ | refine zNV ?_ | fail)
    exact Qend.two rfl rfl rfl rfl
theorem last_ret {T : Tab} (h : Fn T F.hallmarkref03_last hallmarkref03_last.fn) (l : List Str) (hl : l.length ≤ 1073741824) (k : Str) (hk : k ∈ l) :
    ∃ i : Nat, (l[i]? = some k ∧ ∀ j, i < j → l[j]? ≠ some k) ∧ Ret T F.hallmarkref03_last [.val (.lst 1 (srow l)), .val (.str k)] (one (.int .i64 (i : Int))) := by
  have e1 := srow_len l
  refine Ret.ex1 (g := fun i : Nat => AV.int .i64 (i : Int)) (R := fun i => l[i]? = some k ∧ ∀ j, i < j → l[j]? ≠ some k) h rfl ?_
  repeat' (first | refine zA ?_ | refine zB ?_ | (refine zC ?_ ?_ <;> intro hc; all_goals first | (cases hc; done) | ((try simp only [hc]); (try simp only [bm] at hc))) | refine zE ?_ | refine zNV ?_ | fail)
  refine W.iterP (fun (m : Nat) s => s.put 5 (.av (.int .i64 ((m : Int) - 1)))) (fun m => m ≤ l.length ∧ ∀ j, m ≤ j → l[j]? ≠ some k) (fun m => m) l.length ⟨Nat.le_refl _, fun j hj => by rw [List.getElem?_eq_none hj]; simp⟩ rfl ?_
  intro m hm
  obtain ⟨hm, hj⟩ := hm
  cases m with
  | zero =>
    exfalso
    obtain ⟨j, hj'⟩ := List.mem_iff_getElem?.1 hk
    exact hj j (Nat.zero_le _) hj'
  | succ m =>
    have hx : l[m]? = some l[m] := List.getElem?_eq_getElem (by omega)
    have en : ((m + 1 : Nat) : Int) - 1 = (m : Int) := by omega
    rw [en]
    generalize l[m] = x at hx
    repeat' (first | refine zA ?_ | refine zB ?_ | (refine zC ?_ ?_ <;> intro hc; all_goals first | (cases hc; done) | ((try simp only [hc]); (try simp only [bm] at hc))) | refine zE ?_ | refine zNV ?_ | fail)
    · exact ⟨m, ⟨by subst hc; exact hx, fun j hlt => hj j (by omega)⟩, Qend.num rfl rfl rfl⟩
    · refine ⟨m, ⟨by omega, fun j hle => ?_⟩, by omega, rfl⟩
      by_cases e : j = m
      · subst e; rw [hx]; simpa using hc
      · exact hj j (by omega)
end Hm

/- Objects in the reference: gather, twins, texts, Get. Conditions: see each theorem. NORMX NORMY -/
namespace Hm
open Go (IntKind)
set_option maxHeartbeats 40000000
set_option maxRecDepth 4000
/-- What the reference's objects reach. -/
structure RfFns (T : Tab) : Prop where
  a1 : Fn T F.hallmarkref03_gather hallmarkref03_gather.fn
  a2 : Fn T F.hallmarkref03_next hallmarkref03_next.fn
  a3 : Fn T F.hallmarkref03_last hallmarkref03_last.fn
  a4 : Fn T F.hallmarkref03_Twin hallmarkref03_Twin.fn
  a5 : Fn T F.hallmarkref03_Twins hallmarkref03_Twins.fn
  a6 : Fn T F.hallmarkref03_texts hallmarkref03_texts.fn
  a7 : Fn T F.hallmarkref03_Get hallmarkref03_Get.fn
  a8 : Fn T F.hallmarkref03_object hallmarkref03_object.fn
theorem len_ins (k : Str) (x : V) : ∀ m : List Fld, (insA m k x).length ≤ m.length + 1
  | [] => by simp [insA]
  | f :: r => by
    simp only [insA]
    split
    · have := len_ins k x r
      simp only [List.length_cons]; omega
    · split <;> simp only [List.length_cons] <;> omega
theorem len_merge (b : List Fld) : ∀ a : List Fld, (mergeF a b).length ≤ a.length + b.length := by
  induction b with
  | nil => intro a; exact Nat.le_refl _
  | cons f r ih =>
    intro a
    have h1 := ih (insA a f.1 f.2)
    have h2 := len_ins f.1 f.2 a
    have h3 : mergeF a (f :: r) = mergeF (insA a f.1 f.2) r := rfl
    rw [h3]; simp only [List.length_cons]; omega
theorem crow_snoc {α : Type} {l : List α} {i : Nat} {x : α} (f : α → List AV) (h : l[i]? = some x) : crow ((l.take (i + 1)).map f) = crow ((l.take i).map f) ++ [(f x).map .av] := by
  rw [List.take_add_one, h]; simp [crow]
section
variable {T : Tab}
/-- Something is appended to a list that lies in a variable. -/
theorem W1.appQ {st st1 st2 : St} {K : St → Prop} {dst : Option Nat} {g : Option (Nat × Bool)} {bytes k k0 : Nat} {x y : Opd} {p : Place} {v0 : List (List AV)} {base rows : List (List Cell)} {r : List Cell} (hg : wanted st g = some true) (hn : appNew st k y = some (rows, st1)) (hr : rows = [r])
    (hx : st1.opd x = .ali (.lst k0 v0) (some p)) (hc : st1.cells p 1 = some [.own k base]) (hw : st1.write p [.dead] = some st2) (hl : base.length + 1 ≤ 4294967296) (hk : K (putD dst (.own [.own k (base ++ [r])] false) st2.hush)) : W1 T ⟨dst, .append bytes k x y, g⟩ st K := by
  subst hr
  refine W1.go hg (WS.op (v := .own [.own k (base ++ [r])] false) (st' := st2.hush) rfl ?_ hk)
  have hl' : base.length + [r].length ≤ limit := hl
  simp only [stepOp, hn, hx, hc, hw]
  rw [if_pos ⟨trivial, hl'⟩]
theorem exC {f : Nat} {fn : AFun} {as : List Arg} {row : List AV} (h : Fn T f fn) (hfit : fits fn.params as = true) (hw : W T fn.body ⟨lstE (entry 0 as).1, lstB (entry 0 as).2⟩ (fun e st => ∃ C, sealRow C = row ∧ Qend fn as ⟨[(C, true)], []⟩ e st)) : ∃ C, sealRow C = row ∧ Ret T f as ⟨[(C, true)], []⟩ := by
  have main : ∃ r : CR, (∃ C, sealRow C = row ∧ r = ⟨[(C, true)], []⟩) ∧ Ret T f as r := by
    refine Ret.ex h hfit (hw.mono fun e st hq => ?_)
    obtain ⟨C, hC, hq⟩ := hq
    exact ⟨_, ⟨C, hC, rfl⟩, hq⟩
  obtain ⟨r, ⟨C, hC, rfl⟩, hr⟩ := main
  exact ⟨C, hC, hr⟩
theorem exD {f : Nat} {fn : AFun} {as : List Arg} {row : List AV} {v : AV} (h : Fn T f fn) (hfit : fits fn.params as = true) (hw : W T fn.body ⟨lstE (entry 0 as).1, lstB (entry 0 as).2⟩ (fun x st => ∃ C, sealRow C = row ∧ Qend fn as ⟨[(C, true), ([.av v], false)], []⟩ x st)) : ∃ C, sealRow C = row ∧ Ret T f as ⟨[(C, true), ([.av v], false)], []⟩ := by
  have main : ∃ r : CR, (∃ C, sealRow C = row ∧ r = ⟨[(C, true), ([.av v], false)], []⟩) ∧ Ret T f as r := by
    refine Ret.ex h hfit (hw.mono fun e st hq => ?_)
    obtain ⟨C, hC, hq⟩ := hq
    exact ⟨_, ⟨C, hC, rfl⟩, hq⟩
  obtain ⟨r, ⟨C, hC, rfl⟩, hr⟩ := main
  exact ⟨C, hC, hr⟩
theorem gather_ret (f : RfFns T) (ks : List Str) (is : List V) (hl : ks.length = is.length) (hb : ks.length ≤ 1073741823) :
    Ret T F.hallmarkref03_gather [.val (.lst 1 (srow ks)), .val (.lst 5 (is.map V.row))] ⟨[([.av (.int .i64 6), .av (.str []), .av (.str []), .own 5 (crow ((mergeF [] (ks.zip is)).map fun f => f.2.row)), .own 1 (crow ((mergeF [] (ks.zip is)).map fun f => [.str f.1]))], true)], []⟩ := by
  have hz1 : (ks.zip is).map (·.1) = ks := List.map_fst_zip (by omega)
  have hzl : (ks.zip is).length = ks.length := by rw [List.length_zip]; omega
  have hM : AscF (mergeF [] (ks.zip is)) := asc_merge List.Pairwise.nil
  have hkk : ∀ k, k ∈ ks ↔ k ∈ (mergeF [] (ks.zip is)).map (·.1) := fun k => by
    have := merge_keys (ks.zip is) k
    rw [hz1] at this; exact this
  have hlen := len_merge (ks.zip is) []
  rw [hzl, List.length_nil] at hlen
  have hlook : ∀ k, lookLast (ks.zip is) k = lookF (mergeF [] (ks.zip is)) k := fun k => by
    have h3 := look_merge (b := ks.zip is) [] k
    have h4 : lookF [] k = none := rfl
    rw [h4, Option.or_none] at h3
    exact h3.symm
  have e1 := srow_len ks
  have e2 : (is.map V.row).length = is.length := List.length_map ..
  generalize mergeF [] (ks.zip is) = M at *
  have rn0 := next_ret f.a2 ks (by omega) [] true
  have n0 : nxt (fun k => true || !(binA.bLess k [] || k == [])) ks = (M[0]?).map (·.1) := nxt_at hM hkk (j := 0) (fun i g hi => by simp)
  rw [n0] at rn0
  refine Ret.mk f.a1 rfl ?_
  repeat' (first | refine zA ?_ | (refine W1.bC ?_) | refine WQ.cl f.a2.modes ?_ | refine W1.cl f.a2.modes (rn0) ?_ | refine zB ?_ | (refine zC ?_ ?_ <;> intro hc; all_goals first | (cases hc; done) | ((try simp only [hc]); (try simp only [bm] at hc))) | refine zE ?_ | refine zNV ?_ | fail)
  refine W.list M (fun i (_ : Unit) => ⟨lstE [(0, .av (.lst 1 (srow ks))), (1, .av (.lst 5 (is.map V.row))), (4, .plc ⟨.box 4, [], 0⟩), (5, .plc ⟨.box 5, [], 0⟩), (6, .av (.str (((M[i]?).map (·.1)).getD []))), (7, .av (.bool ((M[i]?).map (·.1)).isSome))],
    lstB [(0, none), (1, none), (4, some [.av (.int .i64 0), .av (.str []), .av (.str []), .own 5 [], .own 1 []]), (5, some [.av (.int .i64 6), .av (.str []), .av (.str []), .own 5 (crow ((M.take i).map fun f => f.2.row)), .own 1 (crow ((M.take i).map fun f => [.str f.1]))]), (6, none), (7, none)]⟩) (fun _ _ => True) () rfl trivial ?_ ?_
  · intro i g u hx hi _
    have hgk : g.1 ∈ ks := (hkk g.1).2 (List.mem_map.2 ⟨g, List.mem_of_getElem? hx, rfl⟩)
    obtain ⟨p, ⟨hp1, hp2⟩, rl⟩ := last_ret f.a3 ks (by omega) g.1 hgk
    have hit : is[p]? = some g.2 := by
      rw [← lookLast_idx g.1 hl hp1 hp2, hlook, lookF_asc hM hx]
    have hpl := (List.getElem?_eq_some_iff.1 hit).1
    have rn := next_ret f.a2 ks (by omega) g.1 false
    have n1 : nxt (fun k => false || !(binA.bLess k g.1 || k == g.1)) ks = (M[i + 1]?).map (·.1) := nxt_at hM hkk (j := i + 1) (fun j g' hj => by
      rw [Bool.false_or, gt_bLess, asc_iff hM hx hj]; omega)
    rw [n1] at rn
    have c1 := crow_snoc (fun f : Fld => [AV.str f.1]) hx
    have c2 := crow_snoc (fun f : Fld => f.2.row) hx
    have l1 := crow_len ((M.take i).map fun f : Fld => [AV.str f.1])
    have l2 := crow_len ((M.take i).map fun f : Fld => f.2.row)
    rw [List.length_map, List.length_take] at l1 l2
    have hg := V.get_row hit
    simp only [V.row_eq g.2] at c2
    simp only [hx, Option.map_some, Option.getD_some, Option.isSome_some]
    generalize crow ((M.take i).map fun f : Fld => [AV.str f.1]) = K0 at *
    generalize crow ((M.take i).map fun f : Fld => f.2.row) = I0 at *
    clear rn0 n0 n1
    repeat' (first | refine zA ?_ | ((apply W1.iadr; (iterate 3 exact rfl); omega; exact hg)) | (refine W1.bL ?_) | ((apply W1.appQ; exact rfl; exact rfl; exact rfl; exact rfl; exact rfl; exact rfl; omega)) | refine WQ.cl f.a3.modes ?_ | refine W1.cl f.a3.modes (rl) ?_ | refine WQ.cl f.a2.modes ?_ | refine W1.cl f.a2.modes (rn) ?_ | refine zB ?_ | (refine zC ?_ ?_ <;> intro hc; all_goals first | (cases hc; done) | ((try simp only [hc]); (try simp only [bm] at hc))) | refine zE ?_ | refine zNV ?_ | fail)
    refine ⟨(), trivial, ?_⟩
    rw [c1, c2]
    rfl
  · intro u _
    have hn : M[M.length]? = none := List.getElem?_eq_none (Nat.le_refl _)
    rw [hn, List.take_length]
    repeat' (first | refine zA ?_ | refine zB ?_ | (refine zC ?_ ?_ <;> intro hc; all_goals first | (cases hc; done) | ((try simp only [hc]); (try simp only [bm] at hc))) | refine zE ?_ | refine zNV ?_ | fail)
    exact ⟨.inr rfl, rfl, rfl⟩
theorem texts3_ret (f : RfFns T) (l : List Str) (hb : l.length ≤ 1073741824) : Ret T F.hallmarkref03_texts [.val (.lst 1 (srow l))] ⟨[([.own 1 (crow (srow l))], false)], []⟩ := by
  have e1 := srow_len l
  refine Ret.mk f.a6 rfl ?_
  repeat' (first | refine zA ?_ | refine zB ?_ | (refine zC ?_ ?_ <;> intro hc; all_goals first | (cases hc; done) | ((try simp only [hc]); (try simp only [bm] at hc))) | refine zE ?_ | refine zNV ?_ | fail)
  refine W.list l (fun i (_ : Unit) => ⟨lstE [(0, .av (.lst 1 (srow l))), (3, .own [.own 1 (crow ((l.take i).map fun s => [AV.str s]))] false), (4, .av (.int .i64 (i : Int)))], lstB [(0, none), (3, none), (4, none)]⟩) (fun _ _ => True) () rfl trivial ?_ ?_
  · intro i x u hx hi _
    have e := crow_snoc (fun s => [AV.str s]) hx
    have el := crow_len ((l.take i).map fun s => [AV.str s])
    rw [List.length_map, List.length_take] at el
    generalize crow ((l.take i).map fun s => [AV.str s]) = K0 at *
    repeat' (first | refine zA ?_ | ((apply W1.append1; (iterate 4 exact rfl); omega)) | refine zB ?_ | (refine zC ?_ ?_ <;> intro hc; all_goals first | (cases hc; done) | ((try simp only [hc]); (try simp only [bm] at hc))) | refine zE ?_ | refine zNV ?_ | fail)
    refine ⟨(), trivial, ?_⟩
    rw [e]
    rfl
  · intro u _
    repeat' (first | refine zA ?_ | refine zB ?_ | (refine zC ?_ ?_ <;> intro hc; all_goals first | (cases hc; done) | ((try simp only [hc]); (try simp only [bm] at hc))) | refine zE ?_ | refine zNV ?_ | fail)
    refine ⟨.inr rfl, ?_, rfl⟩
    rw [List.take_length]; rfl
/-- Twin answers the value. -/
def RTwin (T : Tab) (v : V) : Prop := ∃ C, sealRow C = v.row ∧ Ret T F.hallmarkref03_Twin [.val v.av] ⟨[(C, true)], []⟩
theorem twins_of (f : RfFns T) (l : List V) (hb : l.length ≤ 1073741824) (ih : ∀ x ∈ l, RTwin T x) : Ret T F.hallmarkref03_Twins [.val (.lst 5 (l.map V.row))] ⟨[([.own 5 (crow (l.map V.row))], false)], []⟩ := by
  have e1 : (l.map V.row).length = l.length := List.length_map ..
  refine Ret.mk f.a5 rfl ?_
  repeat' (first | refine zA ?_ | ((apply W1.bS0; exact rfl)) | refine zB ?_ | (refine zC ?_ ?_ <;> intro hc; all_goals first | (cases hc; done) | ((try simp only [hc]); (try simp only [bm] at hc))) | refine zE ?_ | refine zNV ?_ | fail)
  refine W.list l (fun i (_ : Unit) => ⟨lstE [(0, .av (.lst 5 (l.map V.row))), (3, .own [.own 5 (crow ((l.take i).map V.row))] false), (4, .av (.int .i64 (i : Int)))], lstB [(0, none), (3, none), (4, none)]⟩) (fun _ _ => True) () rfl trivial ?_ ?_
  · intro i x u hx hi _
    obtain ⟨C, hC, r⟩ := ih x (List.mem_of_getElem? hx)
    have e := crow_snoc V.row hx
    have el := crow_len ((l.take i).map V.row)
    rw [List.length_map, List.length_take] at el
    rw [V.row_eq x] at e
    rw [V.row_eq] at hC
    rw [V.av_eq] at r
    generalize crow ((l.take i).map V.row) = K0 at *
    repeat' (first | refine zA ?_ | (refine W1.bL ?_) | (refine W1.cd1 f.a4.modes hC r ?_) | ((apply W1.append1; (iterate 4 exact rfl); omega)) | refine zB ?_ | (refine zC ?_ ?_ <;> intro hc; all_goals first | (cases hc; done) | ((try simp only [hc]); (try simp only [bm] at hc))) | refine zE ?_ | refine zNV ?_ | fail)
    refine ⟨(), trivial, ?_⟩
    rw [e]
    rfl
  · intro u _
    repeat' (first | refine zA ?_ | refine zB ?_ | (refine zC ?_ ?_ <;> intro hc; all_goals first | (cases hc; done) | ((try simp only [hc]); (try simp only [bm] at hc))) | refine zE ?_ | refine zNV ?_ | fail)
    refine ⟨.inr rfl, ?_, rfl⟩
    rw [List.take_length]; rfl
theorem rtwin_ret (f : RfFns T) : ∀ v : V, v.bk ≤ 1073741824 → RTwin T v := by
  intro v
  induction v using V.ind with
  | h v ih =>
  intro hb
  have hbk := V.bk_eq v
  have hlk := len_sbk v.keys
  have hl := V.len_bks v.items
  have e1 := srow_len v.keys
  have e2 : (v.items.map V.row).length = v.items.length := List.length_map ..
  have rt := twins_of f v.items (by omega) fun x hx => ih x hx (by have := V.bk_item hx; omega)
  rw [RTwin]
  refine exC f.a4 rfl ?_
  rw [V.av_eq, V.row_eq]
  repeat' (first | refine zA ?_ | (refine W1.bC ?_) | refine zB ?_ | (refine zC ?_ ?_ <;> intro hc; all_goals first | (cases hc; done) | ((try simp only [hc]); (try simp only [bm] at hc))) | refine zE ?_ | refine zNV ?_ | fail)
  refine W.list v.keys (fun i (_ : Unit) => ⟨lstE [(1, .plc ⟨.box 1, [], 0⟩), (2, .plc ⟨.box 2, [], 0⟩), (3, .plc ⟨.box 3, [], 0⟩), (4, .av (.int .i64 (i : Int)))],
    lstB [(1, some [.av (.int .i64 v.kind), .av (.str v.num), .av (.str v.text), .av (.lst 5 (v.items.map V.row)), .av (.lst 1 (srow v.keys))]), (2, some [.av (.int .i64 0), .av (.str []), .av (.str []), .own 5 [], .own 1 []]), (3, some [.av (.int .i64 v.kind), .av (.str v.num), .av (.str v.text), .own 5 [], .own 1 (crow ((v.keys.take i).map fun s => [AV.str s]))]), (4, none)]⟩) (fun _ _ => True) () rfl trivial ?_ ?_
  · intro i x u hx hi _
    have e := crow_snoc (fun s => [AV.str s]) hx
    have el := crow_len ((v.keys.take i).map fun s => [AV.str s])
    rw [List.length_map, List.length_take] at el
    generalize crow ((v.keys.take i).map fun s => [AV.str s]) = K0 at *
    repeat' (first | refine zA ?_ | (refine W1.bL ?_) | ((apply W1.appQ; exact rfl; exact rfl; exact rfl; exact rfl; exact rfl; exact rfl; omega)) | refine zB ?_ | (refine zC ?_ ?_ <;> intro hc; all_goals first | (cases hc; done) | ((try simp only [hc]); (try simp only [bm] at hc))) | refine zE ?_ | refine zNV ?_ | fail)
    refine ⟨(), trivial, ?_⟩
    rw [e]
    rfl
  · intro u _
    rw [List.take_length]
    repeat' (first | refine zA ?_ | refine WQ.cl f.a5.modes ?_ | refine W1.cl f.a5.modes (rt) ?_ | refine zB ?_ | (refine zC ?_ ?_ <;> intro hc; all_goals first | (cases hc; done) | ((try simp only [hc]); (try simp only [bm] at hc))) | refine zE ?_ | refine zNV ?_ | fail)
    refine ⟨_, ?_, .inr rfl, rfl, rfl⟩
    simp only [sealRow, Cell.shut, seal_crow]
    rfl
theorem twins_ret (f : RfFns T) (l : List V) (hb : V.bks l ≤ 1073741824) : Ret T F.hallmarkref03_Twins [.val (.lst 5 (l.map V.row))] ⟨[([.own 5 (crow (l.map V.row))], false)], []⟩ :=
  twins_of f l (by have := V.len_bks l; omega) fun x hx => rtwin_ret f x (by have := V.bk_mem hx; omega)
theorem rget_ret (f : RfFns T) (v : V) (hb : v.bk ≤ 1073741824) (k : Str) :
    ∃ C, sealRow C = ((getV v k).getD zeroV).row ∧ Ret T F.hallmarkref03_Get [.val v.av, .val (.str k)] ⟨[(C, true), ([.av (.bool (getV v k).isSome)], false)], []⟩ := by
  have hbk := V.bk_eq v
  have hlk := len_sbk v.keys
  have hln := V.len_bks v.items
  have e1 := srow_len v.keys
  have e2 : (v.items.map V.row).length = v.items.length := List.length_map ..
  refine exD f.a7 rfl ?_
  rw [V.av_eq]
  by_cases hk : v.kind = 6
  rotate_left
  · rw [getV, if_neg hk]
    repeat' (first | refine zA ?_ | (refine W1.bC ?_) | refine zB ?_ | (refine zC ?_ ?_ <;> intro hc; all_goals first | (cases hc; done) | ((try simp only [hc]); (try simp only [bm] at hc))) | refine zE ?_ | refine zNV ?_ | fail)
    all_goals first | exact ⟨_, rfl, .inr rfl, rfl, rfl⟩ | (exfalso; simp_all; done)
  rw [getV, if_pos hk, hk]
  repeat' (first | refine zA ?_ | refine zB ?_ | (refine zC ?_ ?_ <;> intro hc; all_goals first | (cases hc; done) | ((try simp only [hc]); (try simp only [bm] at hc))) | refine zE ?_ | refine zNV ?_ | fail)
  all_goals first | (exfalso; simp_all; done) | skip
  refine W.listP v.keys (fun i (_ : Unit) s => s.put 6 (.av (.int .i64 (i : Int)))) (fun i _ => ∀ j, j < i → v.keys[j]? ≠ some k) () (by intro j hj; omega) rfl ?_ ?_
  · intro i s u hx hi hp
    by_cases he : s = k
    · subst he
      have hlk := lookL_at (l := v.items) s hx hp
      by_cases hlt : i < v.items.length
      · obtain ⟨x, hxi⟩ : ∃ x, v.items[i]? = some x := ⟨v.items[i]'(by omega), List.getElem?_eq_getElem (by omega)⟩
        rw [hxi] at hlk
        rw [hlk]
        repeat' (first | refine zA ?_ | refine zB ?_ | (refine zC ?_ ?_ <;> intro hc; all_goals first | (cases hc; done) | ((try simp only [hc]); (try simp only [bm] at hc))) | refine zE ?_ | refine zNV ?_ | fail)
        all_goals first | (exfalso; omega) | (exfalso; simp_all; done) | skip
        refine ⟨_, ?_, .inr rfl, rfl, rfl⟩
        rw [Option.getD_some, V.row_eq]; rfl
      · rw [List.getElem?_eq_none (by omega)] at hlk
        rw [hlk]
        repeat' (first | refine zA ?_ | (refine W1.bC ?_) | refine zB ?_ | (refine zC ?_ ?_ <;> intro hc; all_goals first | (cases hc; done) | ((try simp only [hc]); (try simp only [bm] at hc))) | refine zE ?_ | refine zNV ?_ | fail)
        all_goals first | exact ⟨_, rfl, .inr rfl, rfl, rfl⟩ | (exfalso; omega) | (exfalso; simp_all; done)
    · skip
      repeat' (first | refine zA ?_ | refine zB ?_ | (refine zC ?_ ?_ <;> intro hc; all_goals first | (cases hc; done) | ((try simp only [hc]); (try simp only [bm] at hc))) | refine zE ?_ | refine zNV ?_ | fail)
      refine ⟨(), fun j hj => ?_, rfl⟩
      by_cases e : j = i
      · subst e; rw [hx]; simpa using he
      · exact hp j (by omega)
  · intro u hp
    have hlk : lookL v.keys v.items k = none := lookL_none k fun hm => by
      obtain ⟨j, hj⟩ := List.mem_iff_getElem?.1 hm
      exact hp j (List.getElem?_eq_some_iff.1 hj).1 hj
    rw [hlk]
    repeat' (first | refine zA ?_ | (refine W1.bC ?_) | refine zB ?_ | (refine zC ?_ ?_ <;> intro hc; all_goals first | (cases hc; done) | ((try simp only [hc]); (try simp only [bm] at hc))) | refine zE ?_ | refine zNV ?_ | fail)
    exact ⟨_, rfl, .inr rfl, rfl, rfl⟩
theorem robject_ret (f : RfFns T) (p8 : Fn T F.hallmarkref03_Formed hallmarkref03_Formed.fn) (v : V) (r : Ret T F.hallmarkref03_Formed [.val v.av] (one (.bool (formed v)))) : Ret T F.hallmarkref03_object [.val v.av] (one (.bool (decide (v.kind = 6) && formed v))) := by
  refine Ret.mk f.a8 rfl ?_
  generalize formed v = b at *
  rw [V.av_eq] at *
  repeat' (first | refine zA ?_ | refine WQ.cl p8.modes ?_ | refine W1.cl p8.modes (r) ?_ | refine zB ?_ | (refine zC ?_ ?_ <;> intro hc; all_goals first | (cases hc; done) | ((try simp only [hc]); (try simp only [bm] at hc))) | refine zE ?_ | refine zNV ?_ | fail)
  all_goals clear r
  all_goals refine Qend.boo rfl rfl ?_
  all_goals first | (simp_all; done) | (rw [Bool.eq_iff_iff]; simp_all; done)
end
end Hm

/- Make, With, Without, Merge in the reference. Conditions: see each theorem. NORMX NORMY -/
namespace Hm
open Go (IntKind)
set_option maxHeartbeats 40000000
set_option maxRecDepth 4000
/-- What the reference's calls on objects reach. -/
structure RoF (T : Tab) : Prop where
  f : RfFns T
  a1 : Fn T F.hallmarkref03_Make hallmarkref03_Make.fn
  a2 : Fn T F.hallmarkref03_With hallmarkref03_With.fn
  a3 : Fn T F.hallmarkref03_Without hallmarkref03_Without.fn
  a4 : Fn T F.hallmarkref03_Merge hallmarkref03_Merge.fn
  p1 : Fn T F.hallmarkref03_Formed hallmarkref03_Formed.fn
  p2 : Fn T F.hallmarkref03_All hallmarkref03_All.fn
  p3 : Fn T F.hallmarkref03_Number hallmarkref03_Number.fn
  p4 : Fn T F.hallmarkref03_Rise hallmarkref03_Rise.fn
  p5 : Fn T F.hallmarkref03_UTF hallmarkref03_UTF.fn
  p6 : Fn T F.hallmarkref03_width hallmarkref03_width.fn
  p7 : Fn T F.hallmarkref03_trail hallmarkref03_trail.fn
/-- A value and an error's number. -/
def Ans (T : Tab) (g : Nat) (as : List Arg) (w : V) (e : Int) : Prop := ∃ C, sealRow C = w.row ∧ Ret T g as ⟨[(C, true), ([.av (.int .i64 e)], false)], []⟩
def objOk (v : V) : Bool := decide (v.kind = 6) && formed v
def mkOk (ks : List Str) (is : List V) : Bool := decide (ks.length = is.length) && (is.all formed && ks.all utf)
def ansV (b : Bool) (w : V) : V := if b then w else zeroV
def ansE (b : Bool) : Int := if b then 0 else 1
theorem ansV_row (b : Bool) (w : V) : (ansV b w).row = if b then w.row else [.int .i64 0, .str [], .str [], .lst 5 [], .lst 1 []] := by cases b <;> rfl
theorem objOk_of {v : V} (h : objOk v = true) : ∃ m, v = objF m ∧ Obj m := by
  simp only [objOk, Bool.and_eq_true, decide_eq_true_eq] at h
  obtain ⟨m, rfl, u1, u2, u3⟩ := obj_of h.2 h.1
  exact ⟨m, rfl, u1, u2, u3⟩
theorem zip_flds (m : List Fld) : (m.map (·.1)).zip (m.map (·.2)) = m := by
  induction m with
  | nil => rfl
  | cons f r ih => simp only [List.map_cons, List.zip_cons_cons, ih]
theorem seal_obR (m : List Fld) : sealRow [.av (.int .i64 6), .av (.str []), .av (.str []), .own 5 (crow (m.map fun f => f.2.row)), .own 1 (crow (m.map fun f => [.str f.1]))] = (objF m).row := by
  rw [objF_row]
  simp only [sealRow, Cell.shut, seal_crow, srow, List.map_map]
  rfl
section
variable {T : Tab}
theorem rform_ret (f : RoF T) (v : V) (hb : v.bk ≤ 1073741824) : Ret T F.hallmarkref03_Formed [.val v.av] (one (.bool (formed v))) := refFormed_ret f.p1 f.p2 f.p3 f.p4 f.p5 f.p6 f.p7 v hb
theorem rall_ret (f : RoF T) (l : List V) (hb : V.bks l ≤ 1073741824) : Ret T F.hallmarkref03_All [.val (.lst 5 (l.map V.row))] (one (.bool (l.all formed))) := by
  rw [← formedAll_eq]
  exact refAll_of f.p2 f.p1 l hb fun x hx => rform_ret f x (by have := V.bk_mem hx; omega)
theorem rmake_ret (f : RoF T) (ks : List Str) (is : List V) (hk : sbk ks ≤ 1000000000) (hi : V.bks is ≤ 1000000000) :
    Ans T F.hallmarkref03_Make [.val (.lst 1 (srow ks)), .val (.lst 5 (is.map V.row))] (ansV (mkOk ks is) (objF (mergeF [] (ks.zip is)))) (ansE (mkOk ks is)) := by
  have l1 := len_sbk ks
  have l2 := V.len_bks is
  have e1 := srow_len ks
  have e2 : (is.map V.row).length = is.length := List.length_map ..
  have r1 := rall_ret f is (by omega)
  refine exD f.a1 rfl ?_
  rw [ansV_row, ansE]
  by_cases hl : ks.length = is.length
  rotate_left
  · have h0 : mkOk ks is = false := by rw [mkOk, decide_eq_false hl]; rfl
    rw [h0]
    repeat' (first | refine zA ?_ | (refine W1.bC ?_) | refine WQ.cl f.p2.modes ?_ | refine W1.cl f.p2.modes (r1) ?_ | refine zB ?_ | (refine zC ?_ ?_ <;> intro hc; all_goals first | (cases hc; done) | ((try simp only [hc]); (try simp only [bm] at hc))) | refine zE ?_ | refine zNV ?_ | fail)
    all_goals first | exact ⟨_, rfl, .inr rfl, rfl, rfl⟩ | (exfalso; omega)
  have h0 : mkOk ks is = (is.all formed && ks.all utf) := by rw [mkOk, decide_eq_true hl]; rfl
  cases hf : is.all formed
  · rw [hf] at r1 h0
    rw [h0, Bool.false_and]
    repeat' (first | refine zA ?_ | (refine W1.bC ?_) | refine WQ.cl f.p2.modes ?_ | refine W1.cl f.p2.modes (r1) ?_ | refine zB ?_ | (refine zC ?_ ?_ <;> intro hc; all_goals first | (cases hc; done) | ((try simp only [hc]); (try simp only [bm] at hc))) | refine zE ?_ | refine zNV ?_ | fail)
    all_goals first | exact ⟨_, rfl, .inr rfl, rfl, rfl⟩ | (exfalso; omega) | (exfalso; simp_all; done)
  rw [hf] at r1 h0
  rw [h0, Bool.true_and]
  repeat' (first | refine zA ?_ | refine WQ.cl f.p2.modes ?_ | refine W1.cl f.p2.modes (r1) ?_ | refine zB ?_ | (refine zC ?_ ?_ <;> intro hc; all_goals first | (cases hc; done) | ((try simp only [hc]); (try simp only [bm] at hc))) | refine zE ?_ | refine zNV ?_ | fail)
  all_goals first | (exfalso; omega) | (exfalso; simp_all; done) | skip
  refine W.listP ks (fun i (_ : Unit) s => s.put 6 (.av (.int .i64 (i : Int)))) (fun i _ => (ks.take i).all utf = true) () rfl rfl ?_ ?_
  · intro i s u hx hi' hp
    have hs := sbk_mem (List.mem_of_getElem? hx)
    have r2 := refUTF_ret f.p5 f.p6 f.p7 s (by omega)
    have hst := all_take_succ (p := utf) hx
    have hfl : utf s = false → ks.all utf = false := fun e => all_false hx e
    generalize utf s = b at *
    cases b
    · rw [hfl rfl]
      repeat' (first | refine zA ?_ | (refine W1.bC ?_) | refine WQ.cl f.p5.modes ?_ | refine W1.cl f.p5.modes (r2) ?_ | refine zB ?_ | (refine zC ?_ ?_ <;> intro hc; all_goals first | (cases hc; done) | ((try simp only [hc]); (try simp only [bm] at hc))) | refine zE ?_ | refine zNV ?_ | fail)
      exact ⟨_, rfl, .inr rfl, rfl, rfl⟩
    · skip
      repeat' (first | refine zA ?_ | refine WQ.cl f.p5.modes ?_ | refine W1.cl f.p5.modes (r2) ?_ | refine zB ?_ | (refine zC ?_ ?_ <;> intro hc; all_goals first | (cases hc; done) | ((try simp only [hc]); (try simp only [bm] at hc))) | refine zE ?_ | refine zNV ?_ | fail)
      exact ⟨(), by rw [hst, hp]; rfl, rfl⟩
  · intro u hp
    rw [List.take_length] at hp
    rw [hp]
    have rg := gather_ret f.f ks is hl (by omega)
    have hs := seal_obR (mergeF [] (ks.zip is))
    rw [objF_row] at hs
    rw [objF_row]
    repeat' (first | refine zA ?_ | (refine W1.cd1 f.f.a1.modes hs rg ?_) | refine zB ?_ | (refine zC ?_ ?_ <;> intro hc; all_goals first | (cases hc; done) | ((try simp only [hc]); (try simp only [bm] at hc))) | refine zE ?_ | refine zNV ?_ | fail)
    exact ⟨_, rfl, .inr rfl, rfl, rfl⟩
theorem rwith_ret (f : RoF T) (v : V) (k : Str) (x : V) (hb : v.bk + (k.length + 1) + x.bk ≤ 1000000000) :
    Ans T F.hallmarkref03_With [.val v.av, .val (.str k), .val x.av] (ansV (objOk v && (utf k && formed x)) (objF (insA (v.keys.zip v.items) k x))) (ansE (objOk v && (utf k && formed x))) := by
  have r1 := robject_ret f.f f.p1 v (rform_ret f v (by omega))
  have r2 := refUTF_ret f.p5 f.p6 f.p7 k (by omega)
  have r3 := rform_ret f x (by omega)
  refine exD f.a2 rfl ?_
  rw [ansV_row, ansE]
  by_cases hg : objOk v && (utf k && formed x)
  rotate_left
  · rw [Bool.not_eq_true] at hg
    rw [hg]
    change Ret T F.hallmarkref03_object [.val v.av] (one (.bool (objOk v))) at r1
    generalize objOk v = b1 at *
    generalize utf k = b2 at *
    generalize formed x = b3 at *
    rw [V.av_eq, V.av_eq] at *
    repeat' (first | refine zA ?_ | (refine W1.bC ?_) | refine WQ.cl f.f.a8.modes ?_ | refine W1.cl f.f.a8.modes (r1) ?_ | refine WQ.cl f.p5.modes ?_ | refine W1.cl f.p5.modes (r2) ?_ | refine WQ.cl f.p1.modes ?_ | refine W1.cl f.p1.modes (r3) ?_ | refine zB ?_ | (refine zC ?_ ?_ <;> intro hc; all_goals first | (cases hc; done) | ((try simp only [hc]); (try simp only [bm] at hc))) | refine zE ?_ | refine zNV ?_ | fail)
    all_goals clear r1 r2 r3
    all_goals first | exact ⟨_, rfl, .inr rfl, rfl, rfl⟩ | (exfalso; simp_all; done)
  have hg' := hg
  simp only [Bool.and_eq_true] at hg'
  obtain ⟨g1, g2, g3⟩ := hg'
  rw [hg]
  obtain ⟨m, rfl, hm⟩ := objOk_of g1
  change Ret T F.hallmarkref03_object [.val (objF m).av] (one (.bool (objOk (objF m)))) at r1
  rw [g1] at r1
  rw [g2] at r2
  rw [g3] at r3
  rw [objF_bk] at hb
  have sz := sz_eq m
  have lm := len_sz m
  have rt := texts3_ret f.f (m.map (·.1)) (by rw [List.length_map]; omega)
  have rw' := twins_ret f.f (m.map (·.2)) (by omega)
  have rg := gather_ret f.f (m.map (·.1) ++ [k]) (m.map (·.2) ++ [x]) (by simp) (by simp; omega)
  have hzip : (m.map (·.1) ++ [k]).zip (m.map (·.2) ++ [x]) = m ++ [(k, x)] := by
    rw [List.zip_append (by simp), zip_flds]; rfl
  have hmm : mergeF [] (m ++ [(k, x)]) = insA m k x := by rw [merge_append, nil_merge hm.asc]; rfl
  have hs := seal_obR (insA m k x)
  have hz2 : (objF m).keys.zip (objF m).items = m := zip_flds m
  rw [hzip, hmm] at rg
  rw [hz2]
  have k1 : srow (m.map (·.1) ++ [k]) = sealRows (crow (srow (m.map (·.1))) ++ [[.av (.str k)]]) := by
    rw [sealRows_append, seal_crow]; simp [srow, sealRows, sealRow, Cell.shut]
  have k2 : (m.map (·.2) ++ [x]).map V.row = sealRows (crow ((m.map (·.2)).map V.row) ++ [[.av (.int .i64 x.kind), .av (.str x.num), .av (.str x.text), .av (.lst 5 (x.items.map V.row)), .av (.lst 1 (srow x.keys))]]) := by
    rw [sealRows_append, seal_crow, List.map_append]; simp [V.row_eq x, sealRows, sealRow, Cell.shut]
  rw [k1, k2] at rg
  have c1 : (crow (srow (m.map (·.1)))).length = m.length := by rw [crow_len, srow_len, List.length_map]
  have c2 : (crow ((m.map (·.2)).map V.row)).length = m.length := by rw [crow_len, List.length_map, List.length_map]
  rw [objF_row] at hs
  rw [objF_row]
  rw [objF_av] at *
  rw [V.av_eq] at *
  clear k1 k2 hzip hmm hz2 sz
  generalize crow (srow (m.map (·.1))) = K0 at *
  generalize crow ((m.map (·.2)).map V.row) = I0 at *
  repeat' (first | refine zA ?_ | (refine WP.bagH rfl ?_) | (refine WB.consH ?_) | (refine ⟨rfl, ?_⟩) | refine WQ.cl f.f.a8.modes ?_ | refine W1.cl f.f.a8.modes (r1) ?_ | refine WQ.cl f.p5.modes ?_ | refine W1.cl f.p5.modes (r2) ?_ | refine WQ.cl f.p1.modes ?_ | refine W1.cl f.p1.modes (r3) ?_ | refine WQ.cl f.f.a6.modes ?_ | refine W1.cl f.f.a6.modes (rt) ?_ | refine WQ.cl f.f.a5.modes ?_ | refine W1.cl f.f.a5.modes (rw') ?_ | (refine W1.bL ?_) | ((apply W1.append1; (iterate 4 exact rfl); omega)) | (refine WQ.cl f.f.a1.modes ?_) | (refine W1.cd1 f.f.a1.modes hs rg ?_) | refine zB ?_ | (refine zC ?_ ?_ <;> intro hc; all_goals first | (cases hc; done) | ((try simp only [hc]); (try simp only [bm] at hc))) | refine zE ?_ | refine zNV ?_ | fail)
  all_goals first | exact ⟨_, rfl, .inr rfl, rfl, rfl⟩ | (exfalso; clear r1 r2 r3 rt rw' rg; simp_all; done) | trace_state
theorem rwithout_ret (f : RoF T) (v : V) (k : Str) (hb : v.bk ≤ 1000000000) :
    Ans T F.hallmarkref03_Without [.val v.av, .val (.str k)] (ansV (objOk v) (objF (delA (v.keys.zip v.items) k))) (ansE (objOk v)) := by
  have r1 := robject_ret f.f f.p1 v (rform_ret f v (by omega))
  change Ret T F.hallmarkref03_object [.val v.av] (one (.bool (objOk v))) at r1
  refine exD f.a3 rfl ?_
  rw [ansV_row, ansE]
  cases hg : objOk v
  · rw [hg] at r1
    rw [V.av_eq] at *
    repeat' (first | refine zA ?_ | (refine W1.bC ?_) | refine WQ.cl f.f.a8.modes ?_ | refine W1.cl f.f.a8.modes (r1) ?_ | refine zB ?_ | (refine zC ?_ ?_ <;> intro hc; all_goals first | (cases hc; done) | ((try simp only [hc]); (try simp only [bm] at hc))) | refine zE ?_ | refine zNV ?_ | fail)
    all_goals first | exact ⟨_, rfl, .inr rfl, rfl, rfl⟩ | (exfalso; simp_all; done)
  rw [hg] at r1
  obtain ⟨m, rfl, hm⟩ := objOk_of hg
  rw [objF_bk] at hb
  have lm := len_sz m
  have hz2 : (objF m).keys.zip (objF m).items = m := zip_flds m
  rw [hz2, ← filter_del k hm.asc]
  have el : (srow (m.map (·.1))).length = m.length := by rw [srow_len, List.length_map]
  rw [objF_row]
  rw [objF_av] at *
  repeat' (first | refine zA ?_ | (refine W1.bC ?_) | refine WQ.cl f.f.a8.modes ?_ | refine W1.cl f.f.a8.modes (r1) ?_ | refine zB ?_ | (refine zC ?_ ?_ <;> intro hc; all_goals first | (cases hc; done) | ((try simp only [hc]); (try simp only [bm] at hc))) | refine zE ?_ | refine zNV ?_ | fail)
  all_goals first | (exfalso; simp_all; done) | skip
  refine W.list m (fun i (_ : Unit) => ⟨lstE [(1, .av (.str k)), (2, .plc ⟨.box 2, [], 0⟩), (4, .plc ⟨.box 4, [], 0⟩), (6, .plc ⟨.box 6, [], 0⟩), (7, .av (.int .i64 (i : Int)))],
    lstB [(1, none), (2, some [.av (.int .i64 6), .av (.str []), .av (.str []), .av (.lst 5 ((m.map fun x : Fld => x.2).map V.row)), .av (.lst 1 (srow (m.map fun x : Fld => x.1)))]), (4, some [.av (.int .i64 0), .av (.str []), .av (.str []), .own 5 [], .own 1 []]), (6, some [.av (.int .i64 6), .av (.str []), .av (.str []), .own 5 (crow (((m.take i).filter fun f => !(f.1 == k)).map fun f => f.2.row)), .own 1 (crow (((m.take i).filter fun f => !(f.1 == k)).map fun f => [.str f.1]))]), (7, none)]⟩) (fun _ _ => True) () rfl trivial ?_ ?_
  · intro i g u hx hi _
    have g1 := get_fst hx
    have g2 := get_snd hx
    rw [V.row_eq] at g2
    have hft : (m.take (i + 1)).filter (fun f => !(f.1 == k)) = (m.take i).filter (fun f => !(f.1 == k)) ++ [g].filter (fun f => !(f.1 == k)) := by
      rw [List.take_add_one, hx, List.filter_append]; rfl
    have l0 : ((m.take i).filter fun f => !(f.1 == k)).length ≤ i := by
      have := List.length_filter_le (fun f : Fld => !(f.1 == k)) (m.take i)
      rw [List.length_take] at this; omega
    by_cases he : g.1 = k
    · have h1 : [g].filter (fun f => !(f.1 == k)) = [] := by simp [he]
      rw [h1, List.append_nil] at hft
      rw [he] at g1
      repeat' (first | refine zA ?_ | ((apply W1.iadr; (iterate 3 exact rfl); omega; exact g1)) | refine zB ?_ | (refine zC ?_ ?_ <;> intro hc; all_goals first | (cases hc; done) | ((try simp only [hc]); (try simp only [bm] at hc))) | refine zE ?_ | refine zNV ?_ | fail)
      all_goals first | (refine ⟨(), trivial, ?_⟩; rw [hft]; rfl) | (exfalso; simp_all; done)
    · have h1 : [g].filter (fun f => !(f.1 == k)) = [g] := by simp [he]
      rw [h1] at hft
      have q1 : crow (((m.take i).filter (fun f => !(f.1 == k)) ++ [g]).map fun f => [AV.str f.1]) = crow (((m.take i).filter fun f => !(f.1 == k)).map fun f => [AV.str f.1]) ++ [[.av (.str g.1)]] := by simp [crow]
      have q2 : crow (((m.take i).filter (fun f => !(f.1 == k)) ++ [g]).map fun f => f.2.row) = crow (((m.take i).filter fun f => !(f.1 == k)).map fun f => f.2.row) ++ [[.av (.int .i64 g.2.kind), .av (.str g.2.num), .av (.str g.2.text), .av (.lst 5 (g.2.items.map V.row)), .av (.lst 1 (srow g.2.keys))]] := by
        simp [crow, V.row_eq g.2]
      rw [← hft] at q1 q2
      have c1 := crow_len (((m.take i).filter fun f => !(f.1 == k)).map fun f => [AV.str f.1])
      have c2 := crow_len (((m.take i).filter fun f => !(f.1 == k)).map fun f => f.2.row)
      rw [List.length_map] at c1 c2
      generalize crow (((m.take i).filter fun f => !(f.1 == k)).map fun f => [AV.str f.1]) = K0 at *
      generalize crow (((m.take i).filter fun f => !(f.1 == k)).map fun f => f.2.row) = I0 at *
      repeat' (first | refine zA ?_ | ((apply W1.iadr; (iterate 3 exact rfl); omega; first | exact g1 | exact g2)) | (refine W1.bL ?_) | ((apply W1.appQ; exact rfl; exact rfl; exact rfl; exact rfl; exact rfl; exact rfl; omega)) | refine zB ?_ | (refine zC ?_ ?_ <;> intro hc; all_goals first | (cases hc; done) | ((try simp only [hc]); (try simp only [bm] at hc))) | refine zE ?_ | refine zNV ?_ | fail)
      all_goals first | (refine ⟨(), trivial, ?_⟩; rw [q1, q2]; rfl) | (exfalso; simp_all; done)
  · intro u _
    rw [List.take_length]
    repeat' (first | refine zA ?_ | refine zB ?_ | (refine zC ?_ ?_ <;> intro hc; all_goals first | (cases hc; done) | ((try simp only [hc]); (try simp only [bm] at hc))) | refine zE ?_ | refine zNV ?_ | fail)
    all_goals first | (exfalso; omega) | skip
    refine ⟨_, ?_, .inr rfl, rfl, rfl⟩
    rw [seal_obR, objF_row]
end
end Hm

/- Objects put together deep: plain laws. Conditions: see each theorem. -/
namespace Hm
def flds (v : V) : List Fld := v.keys.zip v.items
theorem flds_obj (m : List Fld) : flds (objF m) = m := zip_flds m
def dpv (o : Option V) (y : V) (g : List Fld → List Fld) : V :=
  match o with
  | some x => if x.kind = 6 ∧ y.kind = 6 then objF (g (flds x)) else y
  | none => y
mutual
def deepB : V → List Fld → List Fld
  | .mk _ _ _ is ks => fun a => (ks.zip (deepIs is)).foldl (fun acc f => insA acc f.1 (dpv (lookF acc f.1) f.2.1 f.2.2)) a
def deepIs : List V → List (V × (List Fld → List Fld))
  | [] => []
  | v :: r => (v, deepB v) :: deepIs r
end
def dstep (acc : List Fld) (f : Fld) : List Fld := insA acc f.1 (dpv (lookF acc f.1) f.2 (deepB f.2))
theorem deepIs_zip : ∀ m : List Fld, (m.map (·.1)).zip (deepIs (m.map (·.2))) = m.map fun f => (f.1, (f.2, deepB f.2))
  | [] => rfl
  | f :: r => by simp only [List.map_cons, deepIs, List.zip_cons_cons, deepIs_zip r]
theorem deepB_obj (m a : List Fld) : deepB (objF m) a = m.foldl dstep a := by
  rw [objF, deepB, deepIs_zip]
  show List.foldl _ a _ = _
  rw [List.foldl_map]; rfl
theorem deep_asc : ∀ (b : List Fld) {a : List Fld}, AscF a → AscF (b.foldl dstep a)
  | [], a, h => h
  | f :: r, a, h => deep_asc r (asc_ins _ _ h)
theorem look_deep : ∀ {b : List Fld} (a : List Fld) (k : Str), AscF b → lookF (b.foldl dstep a) k = match lookF b k with | some y => some (dpv (lookF a k) y (deepB y)) | none => lookF a k
  | [], a, k, _ => rfl
  | f :: r, a, k, h => by
    obtain ⟨h1, h2⟩ := List.pairwise_cons.1 h
    rw [List.foldl_cons, look_deep (b := r) _ k h2, dstep, look_ins, lookF]
    by_cases hk : k = f.1
    · subst hk
      rw [if_pos rfl, if_pos rfl, look_none h1]
    · rw [if_neg hk, if_neg (Ne.symm hk)]
theorem sz_put {k : Str} {x x0 : V} : ∀ {m : List Fld}, AscF m → lookF m k = some x0 → szF (insA m k x) + x0.bk = szF m + x.bk
  | [], _, h => by simp [lookF] at h
  | f :: r, ha, h => by
    obtain ⟨h1, h2⟩ := List.pairwise_cons.1 ha
    rw [lookF] at h
    rw [insA]
    by_cases hk : f.1 = k
    · rw [if_pos hk] at h
      cases h
      have : ¬ binA.bLess f.1 k = true := by rw [hk, bLess_irrefl]; simp
      rw [if_neg this, if_pos hk]
      simp only [szF, hk]; omega
    · rw [if_neg hk] at h
      have hl : binA.bLess f.1 k = true := by
        obtain ⟨g, hg, hgk⟩ : ∃ g ∈ r, g.1 = k := by
          by_cases hn : k ∈ r.map (·.1)
          · obtain ⟨g, hg, e⟩ := List.mem_map.1 hn; exact ⟨g, hg, e⟩
          · rw [(lookF_none_iff k r).2 hn] at h; cases h
        rw [← hgk]; exact h1 g hg
      rw [if_pos hl]
      have := sz_put (x := x) h2 h
      simp only [szF]; omega
theorem obj_look {m : List Fld} (h : Obj m) {k : Str} {x : V} (hl : lookF m k = some x) : formed x = true ∧ ∃ f ∈ m, f.1 = k ∧ f.2 = x := by
  have : ∀ {m : List Fld}, lookF m k = some x → ∃ f ∈ m, f.1 = k ∧ f.2 = x := by
    intro m
    induction m with
    | nil => intro h; simp [lookF] at h
    | cons f r ih =>
      intro h
      rw [lookF] at h
      by_cases e : f.1 = k
      · rw [if_pos e] at h; cases h; exact ⟨f, by simp, e, rfl⟩
      · rw [if_neg e] at h
        obtain ⟨g, hg, e1, e2⟩ := ih h
        exact ⟨g, by simp [hg], e1, e2⟩
  obtain ⟨f, hf, e1, e2⟩ := this hl
  exact ⟨by rw [← e2]; exact h.val f hf, f, hf, e1, e2⟩
/-- Well shaped objects put together are one, and no bigger. -/
theorem deep_obj (y : V) : formed y = true → y.kind = 6 → ∀ a, Obj a → Obj (deepB y a) ∧ szF (deepB y a) ≤ szF a + szF (flds y) := by
  induction y using V.ind with
  | h y ih =>
  intro hf hk a ha
  obtain ⟨b, rfl, hb⟩ := objOk_of (v := y) (by simp [objOk, hf, hk])
  rw [flds_obj, deepB_obj]
  have ih' : ∀ f ∈ b, f.2.kind = 6 → ∀ a, Obj a → Obj (deepB f.2 a) ∧ szF (deepB f.2 a) ≤ szF a + szF (flds f.2) := fun f hfm h6 => ih f.2 (List.mem_map.2 ⟨f, hfm, rfl⟩) (hb.val f hfm) h6
  have key : ∀ (r : List Fld) (acc : List Fld), (∀ f ∈ r, f ∈ b) → Obj acc → Obj (r.foldl dstep acc) ∧ szF (r.foldl dstep acc) ≤ szF acc + szF r := by
    intro r
    induction r with
    | nil => intro acc _ h; exact ⟨h, Nat.le_add_right _ _⟩
    | cons f r ih2 =>
      intro acc hr hacc
      have hfb := hr f (by simp)
      have hfv := hb.val f hfb
      have step : Obj (dstep acc f) ∧ szF (dstep acc f) ≤ szF acc + (f.1.length + 1 + f.2.bk) := by
        rw [dstep]
        have plain : Obj (insA acc f.1 f.2) ∧ szF (insA acc f.1 f.2) ≤ szF acc + (f.1.length + 1 + f.2.bk) := by
          refine ⟨⟨asc_ins _ _ hacc.asc, fun x hx => ?_, fun x hx => ?_⟩, sz_ins _ _ _⟩
          · rcases mem_ins hx with rfl | hx
            · exact hb.key f hfb
            · exact hacc.key x hx
          · rcases mem_ins hx with rfl | hx
            · exact hfv
            · exact hacc.val x hx
        cases hl : lookF acc f.1 with
        | none => exact plain
        | some x =>
          rw [dpv]
          by_cases hc : x.kind = 6 ∧ f.2.kind = 6
          · rw [if_pos hc]
            obtain ⟨hxf, -⟩ := obj_look hacc hl
            obtain ⟨mx, rfl, hmx⟩ := objOk_of (v := x) (by simp [objOk, hxf, hc.1])
            obtain ⟨my, hmy, -⟩ := objOk_of (v := f.2) (by simp [objOk, hfv, hc.2])
            rw [flds_obj]
            obtain ⟨q1, q2⟩ := ih' f hfb hc.2 mx hmx
            have hs := sz_put (x := objF (deepB f.2 mx)) hacc.asc hl
            rw [objF_bk, objF_bk] at hs
            have hfb' : f.2.bk = 5 + szF (flds f.2) := by rw [hmy, objF_bk, flds_obj]
            refine ⟨⟨asc_ins _ _ hacc.asc, fun x hx => ?_, fun x hx => ?_⟩, by omega⟩
            · rcases mem_ins hx with rfl | hx
              · exact hb.key f hfb
              · exact hacc.key x hx
            · rcases mem_ins hx with rfl | hx
              · exact q1.formed
              · exact hacc.val x hx
          · rw [if_neg hc]; exact plain
      rw [List.foldl_cons]
      obtain ⟨p1, p2⟩ := ih2 (dstep acc f) (fun g hg => hr g (by simp [hg])) step.1
      refine ⟨p1, ?_⟩
      have := step.2
      simp only [szF] at *
      omega
  exact key b a (fun f h => h) ha
/-- The reference's way: first merged, then field by field. -/
def rdp (a b : List Fld) (f : Fld) : V :=
  match lookF a f.1, lookF b f.1 with
  | some x, some y => if x.kind = 6 ∧ y.kind = 6 then objF (deepB y (flds x)) else f.2
  | _, _ => f.2
theorem lookF_map (h : Str → V → V) (k : Str) : ∀ m : List Fld, lookF (m.map fun f => (f.1, h f.1 f.2)) k = (lookF m k).map (h k)
  | [] => rfl
  | f :: r => by
    simp only [List.map_cons, lookF]
    by_cases e : f.1 = k
    · rw [if_pos e, if_pos e, e]; rfl
    · rw [if_neg e, if_neg e, lookF_map h k r]
theorem asc_map {m : List Fld} (h : Str → V → V) (ha : AscF m) : AscF (m.map fun f => (f.1, h f.1 f.2)) := List.pairwise_map.2 ha
theorem deep_ref {a b : List Fld} (ha : AscF a) (hb : AscF b) : b.foldl dstep a = (mergeF a b).map fun f => (f.1, rdp a b f) := by
  have e : (fun f : Fld => (f.1, rdp a b f)) = fun f : Fld => (f.1, (fun k z => rdp a b (k, z)) f.1 f.2) := rfl
  rw [e]
  refine asc_ext (deep_asc b ha) (asc_map (fun k z => rdp a b (k, z)) (asc_merge ha)) fun k => ?_
  rw [look_deep a k hb, lookF_map (fun k z => rdp a b (k, z)), look_merge, lookLast_asc hb]
  simp only [rdp]
  cases h1 : lookF b k with
  | none =>
    cases h2 : lookF a k with
    | none => rfl
    | some x => rfl
  | some y =>
    cases h2 : lookF a k with
    | none => rfl
    | some x => rfl
end Hm

/- Objects put together deep, as the program does it. Conditions: see each theorem. NORMX NORMY -/
namespace Hm
open Go (IntKind)
set_option maxHeartbeats 40000000
set_option maxRecDepth 4000
section
variable {T : Tab} {st st' : St} {K : St → Prop}
theorem getRow_at {cs row : List Cell} {o i k : Nat} {R : List (List Cell)} (hc : cs[o]? = some (.own k R)) (hr : R[i]? = some row) : getRow cs [(o, i)] = some row := by
  simp only [getRow, hc, hr]
theorem W1.fadrP {dst : Option Nat} {g : Option (Nat × Bool)} {k b o i off : Nat} {x : Opd} {cs row : List Cell} {R : List (List Cell)} (hg : wanted st g = some true) (hx : st.opd x = .plc ⟨.box b, [(o, i)], 0⟩)
    (hb : getB st.boxes b = some cs) (hc : cs[o]? = some (.own k R)) (hr : R[i]? = some row) (hl : off ≤ row.length) (hk : K (putD dst (.plc ⟨.box b, [(o, i)], 0 + off⟩) st)) : W1 T ⟨dst, .fadr off x, g⟩ st K := by
  refine W1.go hg (WS.op (v := .plc ⟨.box b, [(o, i)], 0 + off⟩) rfl ?_ hk)
  simp only [stepOp, hx, St.cells, St.root, hb, getRow_at hc hr, Nat.zero_add, if_pos hl]
  rfl
theorem W1.loadQ {dst : Option Nat} {g : Option (Nat × Bool)} {k b o i off : Nat} {x : Opd} {v : AV} {cs row : List Cell} {R : List (List Cell)} (hg : wanted st g = some true) (hx : st.opd x = .plc ⟨.box b, [(o, i)], off⟩)
    (hb : getB st.boxes b = some cs) (hc : cs[o]? = some (.own k R)) (hr : R[i]? = some row) (hv : row[off]? = some (.av v)) (hk : K (putD dst (.av v) st)) : W1 T ⟨dst, .load 1 false x, g⟩ st K := by
  obtain ⟨h1, h2⟩ := drop_take1 hv
  refine W1.go hg (WS.op (v := .av v) rfl ?_ hk)
  simp only [stepOp, hx, St.cells, St.root, hb, getRow_at hc hr, if_pos h1, h2]
  rfl
theorem W1.loadCP {dst : Option Nat} {g : Option (Nat × Bool)} {k b o i n : Nat} {x : Opd} {cs row : List Cell} {R : List (List Cell)} (hg : wanted st g = some true) (hx : st.opd x = .plc ⟨.box b, [(o, i)], 0⟩)
    (hb : getB st.boxes b = some cs) (hc : cs[o]? = some (.own k R)) (hr : R[i]? = some row) (hl : row.length = n) (ha : allAv row = none) (hk : K (putD dst (.ali (.agg (sealRow row)) (some ⟨.box b, [(o, i)], 0⟩)) st)) : W1 T ⟨dst, .loadC n x, g⟩ st K := by
  refine W1.go hg (WS.op (v := .ali (.agg (sealRow row)) (some ⟨.box b, [(o, i)], 0⟩)) rfl ?_ hk)
  have h1 : (row.drop 0).take n = row := by rw [List.drop_zero, List.take_of_length_le (by omega)]
  simp only [stepOp, hx, St.cells, St.root, hb, getRow_at hc hr, Nat.zero_add, hl, Nat.le_refl, if_true, h1, ha]
  rfl
/-- A row is handed over, and a value beside it. -/
theorem W1.callMD {dst : Option Nat} {gd : Option (Nat × Bool)} {f x y : Opd} {g : Nat} {k b o i n : Nat} {cs row C : List Cell} {R : List (List Cell)} {w : AV} {vs res : List AV} (hC : sealRow C = res)
    (hg : wanted st gd = some true) (hf : (st.opd f).fn = some (g, [], [], false)) (hm : T.modes g = [.mv, .val]) (hx : st.opd x = .ali (.agg vs) (some ⟨.box b, [(o, i)], 0⟩)) (hb : getB st.boxes b = some cs) (hc : cs[o]? = some (.own k R))
    (hr : R[i]? = some row) (hl : row.length = n) (hv : vs.length = n) (hy : (⟨clrE ⟨.box b, [(o, i)], 0⟩ n st.env, upd st.boxes b (some (cs.set o (.own k (R.set i (row.map fun _ => .dead)))))⟩ : St).opd y = .av w)
    (hR : Ret T g [.mv row true, .val w] ⟨[(C, true)], []⟩)
    (hk : K (putD dst (.av (.agg res)) (⟨clrE ⟨.box b, [(o, i)], 0⟩ n st.env, upd st.boxes b (some (cs.set o (.own k (R.set i (row.map fun _ => .dead)))))⟩ : St).hush)) : W1 T ⟨dst, .callM .deep f [x, y], gd⟩ st K := by
  subst hC
  have h1 : (row.drop 0).take n = row := by rw [List.drop_zero, List.take_of_length_le (by omega)]
  have hsp : splice 0 (row.map fun _ => Cell.dead) row = some (row.map fun _ => Cell.dead) := by
    rw [splice, if_pos (by simp)]; simp
  have hcell : st.cells ⟨.box b, [(o, i)], 0⟩ (cellsOf (.agg vs)).length = some row := by
    simp only [St.cells, St.root, hb, getRow_at hc hr, cellsOf, List.length_map, hv, hl, Nat.zero_add, Nat.le_refl, if_true, h1]
  have hw : st.write ⟨.box b, [(o, i)], 0⟩ (row.map fun _ => .dead) = some ⟨clrE ⟨.box b, [(o, i)], 0⟩ n st.env, upd st.boxes b (some (cs.set o (.own k (R.set i (row.map fun _ => .dead)))))⟩ := by
    simp only [St.write, St.root, hb, setRow, hc, hr, hsp, St.setRoot, List.length_map, hl]
  have ha : args st ((T.modes g).drop ([] : List AV).length) [x, y] = some ([.mv row true, .val w], false, [], ⟨clrE ⟨.box b, [(o, i)], 0⟩ n st.env, upd st.boxes b (some (cs.set o (.own k (R.set i (row.map fun _ => .dead)))))⟩) := by
    rw [hm, List.length_nil, List.drop_zero]
    simp only [args, hx, hcell, hw, hy, AV.isAgg]
  exact W1.callM0 hg hf rfl ha hR rfl hk
end
theorem pos_ne {m : List Fld} {k : Str} (h : AscF m) (hn : ¬ (m.map (·.1))[posF m k]? = some k) : ∀ g ∈ m, g.1 ≠ k := by
  intro g hg e
  obtain ⟨i, hi⟩ := List.mem_iff_getElem?.1 hg
  have hi1 : (m.map (·.1))[i]? = some k := by rw [List.getElem?_map, hi, ← e]; rfl
  have h1 := posF_spec k h i k hi1
  rw [bLess_irrefl] at h1
  have h2 : ¬ i < posF m k := fun hl => by have := h1.2 hl; cases this
  by_cases he : i = posF m k
  · rw [he] at hi1; exact hn hi1
  · have hlt : posF m k < m.length := by have := (List.getElem?_eq_some_iff.1 hi).1; omega
    have hp : m[posF m k]? = some m[posF m k] := List.getElem?_eq_getElem hlt
    have h3 := asc_at h hp hi (by omega)
    have h4 := (posF_spec k h (posF m k) m[posF m k].1 (by rw [List.getElem?_map, hp]; rfl)).1 (by rw [e] at h3; exact h3)
    omega
theorem asc_key {m : List Fld} (h : AscF m) {i j : Nat} {f g : Fld} (hi : m[i]? = some f) (hj : m[j]? = some g) (e : f.1 = g.1) : i = j := by
  by_cases h1 : i < j
  · have := asc_at h hi hj h1
    rw [e, bLess_irrefl] at this; cases this
  · by_cases h2 : j < i
    · have := asc_at h hj hi h2
      rw [e, bLess_irrefl] at this; cases this
    · omega
theorem putC_ret {T : Tab} (f : PutFns T) {m : List Fld} {c : Fld → List Cell} {R : List (List Cell)} {k : Str} (hlen : R.length = m.length) (h5 : ∀ r ∈ R, r.length = 5) (hrc : ∀ (i : Nat) g, m[i]? = some g → g.1 ≠ k → R[i]? = some (c g)) (ha : AscF m) (hb : m.length ≤ 1073741824) (x : V) :
    Ret T F.value_put [.io (obC m R), .val (.str k), .val x.av] ⟨[], [obC (insA m k x) ((insA m k x).map fun g => if g.1 = k then x.row.map .av else c g)]⟩ := by
  have r := valuePut_ret f 6 [] [] R (m.map (·.1)) (by rw [hlen, List.length_map]) h5 (by rw [List.length_map]; exact hb) k x (posF m k) (by rw [List.length_map]; exact posF_le m k) (posF_spec k ha)
  simp only [obC]
  by_cases hk : (m.map (·.1))[posF m k]? = some k
  · rw [if_pos hk] at r
    have e1 : insA m k x = m.set (posF m k) (k, x) := by rw [insA_eq, if_pos hk]
    rw [e1, set_keys x hk]
    have e2 : (m.set (posF m k) (k, x)).map (fun g => if g.1 = k then x.row.map Cell.av else c g) = R.set (posF m k) (x.row.map .av) := by
      apply List.ext_getElem?
      intro i
      rw [List.getElem?_map, List.getElem?_set, List.getElem?_set]
      by_cases hi : posF m k = i
      · rw [if_pos hi, if_pos hi]
        have hlt : posF m k < m.length := by have := (List.getElem?_eq_some_iff.1 hk).1; simpa using this
        rw [if_pos (by omega), if_pos (by omega)]
        simp
      · rw [if_neg hi, if_neg hi]
        cases hg : m[i]? with
        | none => rw [Option.map_none, List.getElem?_eq_none]; have := List.getElem?_eq_none_iff.1 hg; omega
        | some g =>
          have hne : g.1 ≠ k := fun e => by
            obtain ⟨p, hp, hpk⟩ : ∃ p, m[posF m k]? = some p ∧ p.1 = k := by
              rw [List.getElem?_map, Option.map_eq_some_iff] at hk
              obtain ⟨p, hp, e⟩ := hk; exact ⟨p, hp, e⟩
            exact hi (asc_key ha hp hg (by rw [e, hpk]))
          rw [hrc i g hg hne, Option.map_some, if_neg hne]
    rw [e2]; exact r
  · rw [if_neg hk] at r
    have hne := pos_ne ha hk
    have eR : R = m.map c := by
      apply List.ext_getElem?
      intro i
      rw [List.getElem?_map]
      cases hg : m[i]? with
      | none => rw [Option.map_none, List.getElem?_eq_none]; have := List.getElem?_eq_none_iff.1 hg; omega
      | some g => rw [hrc i g hg (hne g (List.mem_of_getElem? hg))]; rfl
    have e1 : insA m k x = m.take (posF m k) ++ (k, x) :: m.drop (posF m k) := by rw [insA_eq, if_neg hk]
    have e3 : ∀ l : List Fld, (∀ g ∈ l, g ∈ m) → l.map (fun g => if g.1 = k then x.row.map Cell.av else c g) = l.map c := fun l hl => List.map_congr_left fun g hg => if_neg (hne g (hl g hg))
    rw [e1, List.map_append, List.map_cons, List.map_append, List.map_cons, e3 _ (fun g hg => List.mem_of_mem_take hg), e3 _ (fun g hg => List.mem_of_mem_drop hg)]
    rw [eR] at r ⊢
    simp only [← List.map_take, ← List.map_drop, if_true] at *
    exact r
/-- A row of an object that is being put together: the item's own, or one that was put there. -/
def cI (b : List Fld) (i : Nat) (g : Fld) : List Cell := if g.1 ∈ (b.take i).map (·.1) then g.2.row.map .av else twC g.2
theorem cI_len (b : List Fld) (i : Nat) (g : Fld) : (cI b i g).length = 5 := by
  unfold cI
  split
  · rw [V.row_eq]; rfl
  · rw [twC_eq]; rfl
theorem cI_seal (b : List Fld) (i : Nat) (g : Fld) : sealRow (cI b i g) = g.2.row := by
  unfold cI
  split
  · exact sealRow_av _
  · exact seal_twC _
theorem seal_cI (b : List Fld) (i : Nat) (m : List Fld) : sealRows (m.map (cI b i)) = (m.map (·.2)).map V.row := by
  induction m with
  | nil => rfl
  | cons g r ih => simp only [List.map_cons, sealRows, cI_seal, ih]
theorem look_mem2 {m : List Fld} (h : AscF m) {g : Fld} (hg : g ∈ m) : lookF m g.1 = some g.2 := by
  obtain ⟨i, hi⟩ := List.mem_iff_getElem?.1 hg
  exact lookF_asc h hi
structure DpFns (T : Tab) : Prop where
  o : ObFns T
  a1 : Fn T F.value_deep value_deep.fn
  a2 : Fn T F.value_Deep value_Deep.fn
def DeepS (T : Tab) (y : V) : Prop := ∀ m, Obj m → szF m + szF (flds y) ≤ 1000000000 → ∃ C, sealRow C = (objF (deepB y m)).row ∧ Ret T F.value_deep [.mv (obC m ((m.map (·.2)).map twC)) true, .val y.av] ⟨[(C, true)], []⟩
theorem deepS_ret {T : Tab} (f : DpFns T) (y : V) : formed y = true → y.kind = 6 → DeepS T y := by
  induction y using V.ind with
  | h y ih =>
  intro hf hk m hm hsz
  obtain ⟨b, rfl, hb⟩ := objOk_of (v := y) (by simp [objOk, hf, hk])
  rw [flds_obj] at hsz
  rw [deepB_obj]
  have ih' : ∀ g ∈ b, g.2.kind = 6 → DeepS T g.2 := fun g hg h6 => ih g.2 (List.mem_map.2 ⟨g, hg, rfl⟩) (hb.val g hg) h6
  clear ih
  have lb := len_sz b
  have el : (srow (b.map (·.1))).length = b.length := by rw [srow_len, List.length_map]
  refine exC f.a1 rfl ?_
  rw [objF_row, objF_av, obC]
  have e0 : (m.map (·.2)).map twC = m.map (cI b 0) := by
    rw [List.map_map]
    exact List.map_congr_left fun g hg => by simp [cI]
  rw [e0]
  repeat' (first | refine zA ?_ | refine zB ?_ | (refine zC ?_ ?_ <;> intro hc; all_goals first | (cases hc; done) | ((try simp only [hc]); (try simp only [bm] at hc))) | refine zE ?_ | refine zNV ?_ | fail)
  refine W.list b (fun i (_ : Unit) => ⟨lstE [(2, .plc ⟨.box 2, [], 0⟩), (3, .plc ⟨.box 3, [], 0⟩), (4, .plc ⟨.box 4, [], 0⟩), (11, .av (.lst 1 (srow (b.map fun x : Fld => x.1)))), (12, .av (.int .i64 (b.length : Nat))), (13, .av (.int .i64 (i : Int)))],
    lstB [(2, some [.av (.int .i64 6), .av (.str []), .av (.str []), .own 5 (((b.take i).foldl dstep m).map (cI b i)), .own 1 (crow (srow (((b.take i).foldl dstep m).map fun x : Fld => x.1)))]), (3, some [.av (.int .i64 6), .av (.str []), .av (.str []), .av (.lst 5 ((b.map fun x : Fld => x.2).map V.row)), .av (.lst 1 (srow (b.map fun x : Fld => x.1)))]), (4, some [.av (.int .i64 0), .av (.str []), .av (.str []), .own 5 [], .own 1 []]), (11, none), (12, none), (13, none)]⟩)
    (fun _ _ => True) () rfl trivial ?_ ?_
  · intro i g u hx hi _
    have hgb := List.mem_of_getElem? hx
    have hasc : AscF ((b.take i).foldl dstep m) := deep_asc _ hm.asc
    have hobj : Obj ((b.take i).foldl dstep m) ∧ szF ((b.take i).foldl dstep m) ≤ szF m + szF (b.take i) := by
      have hbt : Obj (b.take i) := ⟨List.Pairwise.sublist (List.take_sublist i b) hb.asc, fun x hx => hb.key x (List.mem_of_mem_take hx), fun x hx => hb.val x (List.mem_of_mem_take hx)⟩
      have := deep_obj (objF (b.take i)) hbt.formed rfl m hm
      rw [deepB_obj, flds_obj] at this; exact this
    have hst := szF_take b i
    have hsucc : (b.take (i + 1)).foldl dstep m = dstep ((b.take i).foldl dstep m) g := by
      rw [List.take_add_one, hx, List.foldl_append]; rfl
    have hnk : g.1 ∉ (b.take i).map (·.1) := fun hm' => by
      obtain ⟨h', hh', e⟩ := List.mem_map.1 hm'
      obtain ⟨j, hj⟩ := List.mem_iff_getElem?.1 hh'
      have hjl : j < i := by have := (List.getElem?_eq_some_iff.1 hj).1; rw [List.length_take] at this; omega
      rw [List.getElem?_take, if_pos hjl] at hj
      have := asc_key hb.asc hj hx e
      omega
    have hcI : ∀ h' : Fld, h'.1 ≠ g.1 → cI b (i + 1) h' = cI b i h' := fun h' hne => by
      have : h'.1 ∈ (b.take (i + 1)).map (·.1) ↔ h'.1 ∈ (b.take i).map (·.1) := by
        rw [List.take_add_one, hx]
        simp [hne]
      unfold cI
      by_cases hc : h'.1 ∈ (b.take i).map (·.1)
      · rw [if_pos hc, if_pos (this.2 hc)]
      · rw [if_neg hc, if_neg (fun e => hc (this.1 e))]
    have hcK : g.1 ∈ (b.take (i + 1)).map (·.1) := by
      rw [List.take_add_one, hx]; simp
    rw [hsucc]
    have hfin : ∀ x : V, dpv (lookF ((b.take i).foldl dstep m) g.1) g.2 (deepB g.2) = x → (dstep ((b.take i).foldl dstep m) g).map (cI b (i + 1)) = (insA ((b.take i).foldl dstep m) g.1 x).map fun h' => if h'.1 = g.1 then x.row.map .av else cI b i h' := fun x hxx => by
      have e9 : dstep ((b.take i).foldl dstep m) g = insA ((b.take i).foldl dstep m) g.1 x := by rw [dstep, hxx]
      rw [e9]
      refine List.map_congr_left fun h' hh' => ?_
      by_cases e : h'.1 = g.1
      · rw [if_pos e]
        have := look_mem2 (asc_ins g.1 x hasc) hh'
        rw [look_ins, if_pos e] at this
        cases this
        unfold cI
        rw [e, if_pos hcK]
      · rw [if_neg e, hcI h' e]
    have hdst : ∀ x : V, dpv (lookF ((b.take i).foldl dstep m) g.1) g.2 (deepB g.2) = x → dstep ((b.take i).foldl dstep m) g = insA ((b.take i).foldl dstep m) g.1 x := fun x hxx => by rw [dstep, hxx]
    have g1 := get_fst hx
    have g2 := get_snd hx
    rw [V.row_eq] at g2
    generalize hacc : (b.take i).foldl dstep m = acc at *
    have lacc := len_sz acc
    have r0 := binSearch_ret f.o.pt.a2 f.o.pt.a3 f.o.pt.a4 f.o.pt.a5 (acc.map (·.1)) (by rw [List.length_map]; omega) g.1 (posF acc g.1) (by rw [List.length_map]; exact posF_le acc g.1) (posF_spec g.1 hasc)
    rw [← seal_crow (srow (acc.map (·.1)))] at r0
    have hR5 : ∀ r ∈ acc.map (cI b i), r.length = 5 := fun r hr => by
      obtain ⟨h', _, rfl⟩ := List.mem_map.1 hr
      exact cI_len b i h'
    have hRl : (acc.map (cI b i)).length = acc.length := List.length_map ..
    have hRc : ∀ (j : Nat) h', acc[j]? = some h' → (acc.map (cI b i))[j]? = some (cI b i h') := fun j h' hj => by rw [List.getElem?_map, hj]; rfl
    by_cases hthere : (acc.map (·.1))[posF acc g.1]? = some g.1
    · rw [decide_eq_true hthere] at r0
      obtain ⟨h', hh', hk'⟩ : ∃ h', acc[posF acc g.1]? = some h' ∧ h'.1 = g.1 := by
        rw [List.getElem?_map, Option.map_eq_some_iff] at hthere
        obtain ⟨p, hp, e⟩ := hthere; exact ⟨p, hp, e⟩
      have hlook : lookF acc g.1 = some h'.2 := by rw [← hk']; exact lookF_asc hasc hh'
      have hrow : (acc.map (cI b i))[posF acc g.1]? = some (twC h'.2) := by
        rw [hRc _ _ hh', cI, if_neg (by rw [hk']; exact hnk)]
      have hpl : posF acc g.1 < (acc.map (cI b i)).length := (List.getElem?_eq_some_iff.1 hrow).1
      have hkv : (twC h'.2)[0]? = some (.av (.int .i64 h'.2.kind)) := by rw [twC_eq]; rfl
      have h5v : (twC h'.2).length = 5 := by rw [twC_eq]; rfl
      by_cases h66 : h'.2.kind = 6 ∧ g.2.kind = 6
      · obtain ⟨hxf, -⟩ := obj_look hobj.1 hlook
        obtain ⟨mx, hmx, hmo⟩ := objOk_of (v := h'.2) (by simp [objOk, hxf, h66.1])
        have hsx : szF mx + 5 ≤ szF acc := by
          have := szF_mem (List.mem_of_getElem? hh')
          rw [hmx, objF_bk] at this; omega
        have hsy : szF (flds g.2) + 5 ≤ szF b := by
          have := szF_mem hgb
          obtain ⟨my, hmy, -⟩ := objOk_of (v := g.2) (by simp [objOk, hb.val g hgb, h66.2])
          rw [hmy, objF_bk] at this; rw [hmy, flds_obj]; omega
        have hsum : szF mx + szF (flds g.2) ≤ 1000000000 := by
          have h1 := hobj.2
          have h2 : szF (b.take i) + (g.1.length + 1 + g.2.bk) ≤ szF b := by
            have := szF_append (b.take i) (b.drop i)
            rw [List.take_append_drop] at this
            have hd : b.drop i = g :: b.drop (i + 1) := by
              have hlt := (List.getElem?_eq_some_iff.1 hx).1
              have he := (List.getElem?_eq_some_iff.1 hx).2
              rw [List.drop_eq_getElem_cons hlt, he]
            rw [hd] at this
            simp only [szF] at this; omega
          have h3 : szF (flds g.2) + 5 ≤ g.2.bk := by
            obtain ⟨my, hmy, -⟩ := objOk_of (v := g.2) (by simp [objOk, hb.val g hgb, h66.2])
            rw [hmy, objF_bk, flds_obj]; omega
          omega
        obtain ⟨C, hC, rd⟩ := ih' g hgb h66.2 mx hmo hsum
        have etw : twC h'.2 = obC mx ((mx.map (·.2)).map twC) := by rw [hmx, twC_eq]; rfl
        rw [← etw] at rd
        have hdp : dpv (lookF acc g.1) g.2 (deepB g.2) = objF (deepB g.2 mx) := by
          rw [hlook, dpv, if_pos h66, hmx, flds_obj]
        have hall : allAv (twC h'.2) = none := by rw [twC_eq]; rfl
        have hsl : (sealRow (twC h'.2)).length = 5 := by rw [seal_twC, V.row_eq]; rfl
        have rp := putC_ret f.o.pt (c := cI b i) (R := (acc.map (cI b i)).set (posF acc g.1) ((twC h'.2).map fun _ => .dead)) (k := g.1) (by rw [List.length_set, hRl]) (fun r hr => by
            rcases List.mem_or_eq_of_mem_set hr with hr | rfl
            · exact hR5 r hr
            · rw [List.length_map]; exact h5v) (fun j p hj hne => by
            rw [List.getElem?_set, if_neg (fun e => by subst e; rw [hh'] at hj; cases hj; exact hne hk')]; exact hRc j p hj) hasc (by omega) (objF (deepB g.2 mx))
        rw [← hfin _ hdp, ← hdst _ hdp] at rp
        rw [objF_row] at hC
        rw [objF_av] at rp
        rw [V.av_eq] at rd
        have e6 : h'.2.kind = 6 := h66.1
        have e7 : g.2.kind = 6 := h66.2
        rw [e6] at hkv
        rw [e7] at g2 rd
        generalize (dstep acc g).map (cI b (i + 1)) = R2 at *
        generalize acc.map (cI b i) = R1 at *
        repeat' (first | refine zA ?_ | refine WQ.cl f.o.pt.a2.modes ?_ | refine W1.cl f.o.pt.a2.modes (r0) ?_ | ((apply W1.iadrO; exact rfl; exact rfl; exact rfl; exact rfl; exact rfl; omega; omega)) | ((apply W1.fadrP; exact rfl; exact rfl; exact rfl; exact rfl; exact hrow; omega)) | ((apply W1.loadQ; exact rfl; exact rfl; exact rfl; exact rfl; exact hrow; exact hkv)) | ((apply W1.loadCP; exact rfl; exact rfl; exact rfl; exact rfl; exact hrow; exact h5v; exact hall)) | ((apply W1.callMD hC; exact rfl; exact rfl; exact f.a1.modes; exact rfl; exact rfl; exact rfl; exact hrow; exact h5v; exact hsl; exact rfl; exact rd)) | ((apply W1.callM1 (hm := f.o.pt.a1.modes); exact rfl; exact rfl; exact rfl; exact rp; exact rfl)) | refine zB ?_ | (refine zC ?_ ?_ <;> intro hc; all_goals first | (cases hc; done) | ((try simp only [hc]); (try simp only [bm] at hc))) | refine zE ?_ | refine zNV ?_ | fail)
        all_goals first | exact ⟨(), trivial, rfl⟩ | (exfalso; clear r0 rp rd; simp_all; done) | trace_state
      · have hdp : dpv (lookF acc g.1) g.2 (deepB g.2) = g.2 := by rw [hlook, dpv, if_neg h66]
        have rp := putC_ret f.o.pt (c := cI b i) (R := acc.map (cI b i)) (k := g.1) hRl hR5 (fun j p hj _ => hRc j p hj) hasc (by omega) g.2
        rw [← hfin _ hdp, ← hdst _ hdp] at rp
        rw [V.av_eq] at rp
        generalize (dstep acc g).map (cI b (i + 1)) = R2 at *
        generalize acc.map (cI b i) = R1 at *
        by_cases e6 : h'.2.kind = 6
        · have e7 : ¬ g.2.kind = 6 := fun e => h66 ⟨e6, e⟩
          repeat' (first | refine zA ?_ | refine WQ.cl f.o.pt.a2.modes ?_ | refine W1.cl f.o.pt.a2.modes (r0) ?_ | ((apply W1.iadrO; exact rfl; exact rfl; exact rfl; exact rfl; exact rfl; omega; omega)) | ((apply W1.fadrP; exact rfl; exact rfl; exact rfl; exact rfl; exact hrow; omega)) | ((apply W1.loadQ; exact rfl; exact rfl; exact rfl; exact rfl; exact hrow; exact hkv)) | ((apply W1.callM1 (hm := f.o.pt.a1.modes); exact rfl; exact rfl; exact rfl; exact rp; exact rfl)) | refine zB ?_ | (refine zC ?_ ?_ <;> intro hc; all_goals first | (cases hc; done) | ((try simp only [hc]); (try simp only [bm] at hc))) | refine zE ?_ | refine zNV ?_ | fail)
          all_goals first | exact ⟨(), trivial, rfl⟩ | (exfalso; clear r0 rp; simp_all; done) | trace_state
        · skip
          repeat' (first | refine zA ?_ | refine WQ.cl f.o.pt.a2.modes ?_ | refine W1.cl f.o.pt.a2.modes (r0) ?_ | ((apply W1.iadrO; exact rfl; exact rfl; exact rfl; exact rfl; exact rfl; omega; omega)) | ((apply W1.fadrP; exact rfl; exact rfl; exact rfl; exact rfl; exact hrow; omega)) | ((apply W1.loadQ; exact rfl; exact rfl; exact rfl; exact rfl; exact hrow; exact hkv)) | ((apply W1.callM1 (hm := f.o.pt.a1.modes); exact rfl; exact rfl; exact rfl; exact rp; exact rfl)) | refine zB ?_ | (refine zC ?_ ?_ <;> intro hc; all_goals first | (cases hc; done) | ((try simp only [hc]); (try simp only [bm] at hc))) | refine zE ?_ | refine zNV ?_ | fail)
          all_goals first | exact ⟨(), trivial, rfl⟩ | (exfalso; clear r0 rp; simp_all; done) | trace_state
    · rw [decide_eq_false hthere] at r0
      have hlook : lookF acc g.1 = none := (lookF_none_iff g.1 acc).2 fun hm' => by
        obtain ⟨p, hp, e⟩ := List.mem_map.1 hm'
        exact pos_ne hasc hthere p hp e
      have hdp : dpv (lookF acc g.1) g.2 (deepB g.2) = g.2 := by rw [hlook]; rfl
      have rp := putC_ret f.o.pt (c := cI b i) (R := acc.map (cI b i)) (k := g.1) hRl hR5 (fun j p hj _ => hRc j p hj) hasc (by omega) g.2
      rw [← hfin _ hdp, ← hdst _ hdp] at rp
      rw [V.av_eq] at rp
      generalize (dstep acc g).map (cI b (i + 1)) = R2 at *
      generalize acc.map (cI b i) = R1 at *
      repeat' (first | refine zA ?_ | refine WQ.cl f.o.pt.a2.modes ?_ | refine W1.cl f.o.pt.a2.modes (r0) ?_ | ((apply W1.callM1 (hm := f.o.pt.a1.modes); exact rfl; exact rfl; exact rfl; exact rp; exact rfl)) | refine zB ?_ | (refine zC ?_ ?_ <;> intro hc; all_goals first | (cases hc; done) | ((try simp only [hc]); (try simp only [bm] at hc))) | refine zE ?_ | refine zNV ?_ | fail)
      all_goals first | exact ⟨(), trivial, rfl⟩ | (exfalso; clear r0 rp; simp_all; done) | trace_state
  · intro u _
    rw [List.take_length]
    repeat' (first | refine zA ?_ | refine zB ?_ | (refine zC ?_ ?_ <;> intro hc; all_goals first | (cases hc; done) | ((try simp only [hc]); (try simp only [bm] at hc))) | refine zE ?_ | refine zNV ?_ | fail)
    all_goals first | (exfalso; omega) | skip
    refine ⟨_, ?_, .inr rfl, rfl, rfl⟩
    simp only [sealRow, Cell.shut, seal_crow, seal_cI]
end Hm

/- Merge and Deep in the reference; Deep in the program. Conditions: see each theorem. NORMX NORMY -/
namespace Hm
open Go (IntKind)
set_option maxHeartbeats 40000000
set_option maxRecDepth 4000
def obR (M : List Fld) : List Cell := [.av (.int .i64 6), .av (.str []), .av (.str []), .own 5 (crow (M.map fun f => f.2.row)), .own 1 (crow (M.map fun f => [.str f.1]))]
def zeroC : List Cell := [.av (.int .i64 0), .av (.str []), .av (.str []), .own 5 [], .own 1 []]
structure RdF (T : Tab) : Prop where
  r : RoF T
  a1 : Fn T F.hallmarkref03_Deep hallmarkref03_Deep.fn
theorem crow_appx {α : Type} {l a : List α} {i : Nat} {x : α} (f : α → List AV) (h : l[i]? = some x) : crow ((a ++ l.take (i + 1)).map f) = crow ((a ++ l.take i).map f) ++ [(f x).map .av] := by
  rw [List.take_add_one, h]; simp [crow]
section
variable {T : Tab}
theorem rmerge_ok (f : RoF T) {a b : List Fld} (ha : Obj a) (hb : Obj b) (hs : szF a + szF b ≤ 1000000000) :
    Ret T F.hallmarkref03_Merge [.val (objF a).av, .val (objF b).av] ⟨[(obR (mergeF a b), true), ([.av (.int .i64 0)], false)], []⟩ := by
  have ba := objF_bk a
  have bb := objF_bk b
  have la := len_sz a
  have lb := len_sz b
  have r1 := robject_ret f.f f.p1 (objF a) (rform_ret f (objF a) (by omega))
  have r2 := robject_ret f.f f.p1 (objF b) (rform_ret f (objF b) (by omega))
  rw [ha.formed] at r1
  rw [hb.formed] at r2
  change Ret T F.hallmarkref03_object [.val (objF a).av] (one (.bool true)) at r1
  change Ret T F.hallmarkref03_object [.val (objF b).av] (one (.bool true)) at r2
  have rt := texts3_ret f.f (a.map (·.1)) (by rw [List.length_map]; omega)
  have rw' := twins_ret f.f (a.map (·.2)) (by have := sz_eq a; omega)
  have rg := gather_ret f.f ((a ++ b).map (·.1)) ((a ++ b).map (·.2)) (by simp) (by simp; omega)
  rw [zip_flds, merge_append, nil_merge ha.asc] at rg
  have k1 : srow ((a ++ b).map (·.1)) = sealRows (crow ((a ++ b).map fun f : Fld => [AV.str f.1])) := by rw [seal_crow, srow, List.map_map]; rfl
  have k2 : ((a ++ b).map (·.2)).map V.row = sealRows (crow ((a ++ b).map fun f : Fld => f.2.row)) := by rw [seal_crow, List.map_map]; rfl
  rw [k1, k2] at rg
  have el : (srow (b.map (·.1))).length = b.length := by rw [srow_len, List.length_map]
  have ea : crow (srow (a.map (·.1))) = crow (a.map fun f : Fld => [AV.str f.1]) := by rw [srow, List.map_map]; rfl
  have ei : crow ((a.map (·.2)).map V.row) = crow (a.map fun f : Fld => f.2.row) := by rw [List.map_map]; rfl
  rw [ea] at rt
  rw [ei] at rw'
  refine Ret.mk f.a4 rfl ?_
  rw [objF_av, objF_av] at *
  repeat' (first | refine zA ?_ | refine WQ.cl f.f.a8.modes ?_ | refine W1.cl f.f.a8.modes (r1) ?_ | refine WQ.cl f.f.a8.modes ?_ | refine W1.cl f.f.a8.modes (r2) ?_ | refine WQ.cl f.f.a6.modes ?_ | refine W1.cl f.f.a6.modes (rt) ?_ | refine WQ.cl f.f.a5.modes ?_ | refine W1.cl f.f.a5.modes (rw') ?_ | refine zB ?_ | (refine zC ?_ ?_ <;> intro hc; all_goals first | (cases hc; done) | ((try simp only [hc]); (try simp only [bm] at hc))) | refine zE ?_ | refine zNV ?_ | fail)
  all_goals first | (exfalso; clear r1 r2 rt rw' rg; simp_all; done) | skip
  refine W.list b (fun i (_ : Unit) => ⟨lstE [(3, .plc ⟨.box 3, [], 0⟩), (4, .plc ⟨.box 4, [], 0⟩), (6, .own [.own 1 (crow ((a ++ b.take i).map fun f : Fld => [AV.str f.1]))] false), (7, .own [.own 5 (crow ((a ++ b.take i).map fun f : Fld => f.2.row))] false), (8, .av (.int .i64 (i : Int)))],
    lstB [(3, some [.av (.int .i64 6), .av (.str []), .av (.str []), .av (.lst 5 ((b.map fun x : Fld => x.2).map V.row)), .av (.lst 1 (srow (b.map fun x : Fld => x.1)))]), (4, some [.av (.int .i64 0), .av (.str []), .av (.str []), .own 5 [], .own 1 []]), (6, none), (7, none), (8, none)]⟩) (fun _ _ => True) () (by rw [List.take_zero, List.append_nil]; rfl) trivial ?_ ?_
  · intro i g u hx hi _
    have g1 := get_fst hx
    have g2 := get_snd hx
    have c1 := crow_appx (a := a) (fun f : Fld => [AV.str f.1]) hx
    have c2 := crow_appx (a := a) (fun f : Fld => f.2.row) hx
    have l1 := crow_len ((a ++ b.take i).map fun f : Fld => [AV.str f.1])
    have l2 := crow_len ((a ++ b.take i).map fun f : Fld => f.2.row)
    rw [List.length_map, List.length_append, List.length_take] at l1 l2
    rw [V.row_eq] at g2
    simp only [V.row_eq g.2] at c2
    generalize crow ((a ++ b.take i).map fun f : Fld => [AV.str f.1]) = K0 at *
    generalize crow ((a ++ b.take i).map fun f : Fld => f.2.row) = I0 at *
    clear rg rt rw' r1 r2
    repeat' (first | refine zA ?_ | ((apply W1.iadr; (iterate 3 exact rfl); omega; first | exact g1 | exact g2)) | (refine W1.bL ?_) | ((apply W1.append1; (iterate 4 exact rfl); omega)) | refine zB ?_ | (refine zC ?_ ?_ <;> intro hc; all_goals first | (cases hc; done) | ((try simp only [hc]); (try simp only [bm] at hc))) | refine zE ?_ | refine zNV ?_ | fail)
    refine ⟨(), trivial, ?_⟩
    rw [c1, c2]
    rfl
  · intro u _
    rw [List.take_length]
    repeat' (first | refine zA ?_ | refine WQ.cl f.f.a1.modes ?_ | refine W1.cl f.f.a1.modes (rg) ?_ | refine zB ?_ | (refine zC ?_ ?_ <;> intro hc; all_goals first | (cases hc; done) | ((try simp only [hc]); (try simp only [bm] at hc))) | refine zE ?_ | refine zNV ?_ | fail)
    all_goals first | (exfalso; omega) | skip
    exact ⟨.inr rfl, rfl, rfl⟩
theorem rmerge_bad (f : RoF T) (a b : V) (ha : a.bk + b.bk ≤ 1000000000) (hn : (objOk a && objOk b) = false) :
    Ret T F.hallmarkref03_Merge [.val a.av, .val b.av] ⟨[(zeroC, true), ([.av (.int .i64 1)], false)], []⟩ := by
  have r1 := robject_ret f.f f.p1 a (rform_ret f a (by omega))
  have r2 := robject_ret f.f f.p1 b (rform_ret f b (by omega))
  change Ret T F.hallmarkref03_object [.val a.av] (one (.bool (objOk a))) at r1
  change Ret T F.hallmarkref03_object [.val b.av] (one (.bool (objOk b))) at r2
  refine Ret.mk f.a4 rfl ?_
  generalize objOk a = x at *
  generalize objOk b = y at *
  rw [V.av_eq, V.av_eq] at *
  repeat' (first | refine zA ?_ | (refine W1.bC ?_) | refine WQ.cl f.f.a8.modes ?_ | refine W1.cl f.f.a8.modes (r1) ?_ | refine WQ.cl f.f.a8.modes ?_ | refine W1.cl f.f.a8.modes (r2) ?_ | refine zB ?_ | (refine zC ?_ ?_ <;> intro hc; all_goals first | (cases hc; done) | ((try simp only [hc]); (try simp only [bm] at hc))) | refine zE ?_ | refine zNV ?_ | fail)
  all_goals clear r1 r2
  all_goals first | exact ⟨.inr rfl, rfl, rfl⟩ | (exfalso; simp_all; done)
theorem rmerge_ret (f : RoF T) (a b : V) (ha : a.bk + b.bk ≤ 1000000000) :
    Ans T F.hallmarkref03_Merge [.val a.av, .val b.av] (ansV (objOk a && objOk b) (objF (mergeF (flds a) (flds b)))) (ansE (objOk a && objOk b)) := by
  cases h : (objOk a && objOk b)
  · exact ⟨_, rfl, rmerge_bad f a b ha h⟩
  · simp only [Bool.and_eq_true] at h
    obtain ⟨ma, rfl, hma⟩ := objOk_of h.1
    obtain ⟨mb, rfl, hmb⟩ := objOk_of h.2
    rw [objF_bk, objF_bk] at ha
    rw [flds_obj, flds_obj]
    exact ⟨_, seal_obR _, rmerge_ok f hma hmb (by omega)⟩
def RDeep (T : Tab) (y : V) : Prop := ∀ a, Obj a → szF a + szF (flds y) ≤ 1000000000 → ∃ C, sealRow C = (objF (deepB y a)).row ∧ Ret T F.hallmarkref03_Deep [.val (objF a).av, .val y.av] ⟨[(C, true), ([.av (.int .i64 0)], false)], []⟩
def rdR (a b M : List Fld) (i : Nat) : List (List Cell) := crow (((M.take i).map fun f => (rdp a b f).row) ++ (M.drop i).map fun f => f.2.row)
theorem rdR_len (a b M : List Fld) (i : Nat) : (rdR a b M i).length = M.length := by
  rw [rdR, crow_len, List.length_append, List.length_map, List.length_map, List.length_take, List.length_drop]; omega
theorem rdR_get {a b M : List Fld} {i : Nat} {f : Fld} (h : M[i]? = some f) : (rdR a b M i)[i]? = some (f.2.row.map .av) := by
  have hl := (List.getElem?_eq_some_iff.1 h).1
  rw [rdR, crow, List.getElem?_map, List.getElem?_append_right (by simp; omega), List.length_map, List.length_take, Nat.min_eq_left (by omega), Nat.sub_self, List.getElem?_map, List.getElem?_drop, Nat.add_zero, h]
  rfl
theorem rdR_set {a b M : List Fld} {i : Nat} {f : Fld} (h : M[i]? = some f) : (rdR a b M i).set i ((rdp a b f).row.map .av) = rdR a b M (i + 1) := by
  have hl := (List.getElem?_eq_some_iff.1 h).1
  have hv := (List.getElem?_eq_some_iff.1 h).2
  have e1 : ((M.take i).map fun f => (rdp a b f).row.map Cell.av).length = i := by rw [List.length_map, List.length_take]; omega
  simp only [rdR, crow, List.map_append, List.map_map]
  rw [List.set_append_right _ _ (by rw [List.length_map, List.length_take]; omega), List.length_map, List.length_take, Nat.min_eq_left (by omega), Nat.sub_self, List.drop_eq_getElem_cons hl, hv, List.map_cons, List.set_cons_zero, List.take_succ_eq_append_getElem hl, hv, List.map_append, List.append_assoc]
  rfl
theorem rdR_keep {a b M : List Fld} {i : Nat} {f : Fld} (h : M[i]? = some f) (e : rdp a b f = f.2) : rdR a b M (i + 1) = rdR a b M i := by
  rw [← rdR_set h, e]
  have hg := rdR_get (a := a) (b := b) h
  apply List.ext_getElem?
  intro j
  rw [List.getElem?_set]
  by_cases hj : i = j
  · subst hj
    rw [if_pos rfl, if_pos (List.getElem?_eq_some_iff.1 hg).1, hg]
  · rw [if_neg hj]
theorem get_key {M : List Fld} {i : Nat} {f : Fld} (h : M[i]? = some f) : (crow (M.map fun f => [AV.str f.1]))[i]? = some [.av (.str f.1)] := by
  rw [crow, List.getElem?_map, List.getElem?_map, h]; rfl
theorem rdeep_obj (f : RdF T) (y : V) : formed y = true → y.kind = 6 → RDeep T y := by
  induction y using V.ind with
  | h y ih =>
  intro hf hk a ha hsz
  obtain ⟨b, rfl, hb⟩ := objOk_of (v := y) (by simp [objOk, hf, hk])
  rw [flds_obj] at hsz
  rw [deepB_obj, deep_ref ha.asc hb.asc]
  have rm := rmerge_ok f.r ha hb hsz
  have hMo : Obj (mergeF a b) := ha.merge hb
  have hMs := sz_merge b a
  have lM := len_sz (mergeF a b)
  refine exD f.a1 rfl ?_
  have bka := objF_bk a
  have bkb := objF_bk b
  have rga := fun k => rget_ret f.r.f (objF a) (by omega) k
  have rgb := fun k => rget_ret f.r.f (objF b) (by omega) k
  simp only [getV_obj] at rga rgb
  rw [objF_row, objF_av, objF_av] at *
  have hkeys : ((mergeF a b).map fun f => (f.1, rdp a b f)).map (fun x : Fld => x.1) = (mergeF a b).map (fun x : Fld => x.1) := by rw [List.map_map]; rfl
  have hcl : (sealRows (crow ((mergeF a b).map fun f => [AV.str f.1]))).length = (mergeF a b).length := by rw [seal_crow, List.length_map]
  have hcl2 : (crow ((mergeF a b).map fun f => [AV.str f.1])).length = (mergeF a b).length := by rw [crow_len, List.length_map]
  have hR0 : crow ((mergeF a b).map fun f => f.2.row) = rdR a b (mergeF a b) 0 := by simp [rdR]
  rw [obR, hR0] at rm
  repeat' (first | refine zA ?_ | refine WQ.cl f.r.a4.modes ?_ | refine W1.cl f.r.a4.modes (rm) ?_ | refine zB ?_ | (refine zC ?_ ?_ <;> intro hc; all_goals first | (cases hc; done) | ((try simp only [hc]); (try simp only [bm] at hc))) | refine zE ?_ | refine zNV ?_ | fail)
  all_goals first | (exfalso; clear rm rga rgb; simp_all; done) | skip
  refine W.list (mergeF a b) (fun i (_ : Unit) => ⟨lstE [(2, .plc ⟨.box 2, [], 0⟩), (3, .plc ⟨.box 3, [], 0⟩), (4, .plc ⟨.box 4, [], 0⟩), (6, .plc ⟨.box 6, [], 0⟩), (8, .av (.int .i64 (i : Int)))],
    lstB [(2, some [.av (.int .i64 6), .av (.str []), .av (.str []), .av (.lst 5 ((a.map fun x : Fld => x.2).map V.row)), .av (.lst 1 (srow (a.map fun x : Fld => x.1)))]), (3, some [.av (.int .i64 6), .av (.str []), .av (.str []), .av (.lst 5 ((b.map fun x : Fld => x.2).map V.row)), .av (.lst 1 (srow (b.map fun x : Fld => x.1)))]), (4, some [.av (.int .i64 0), .av (.str []), .av (.str []), .own 5 [], .own 1 []]), (6, some [.av (.int .i64 6), .av (.str []), .av (.str []), .own 5 (rdR a b (mergeF a b) i), .own 1 (crow ((mergeF a b).map fun f => [AV.str f.1]))]), (8, none)]⟩) (fun _ _ => True) () rfl trivial ?_ ?_
  · intro i g u hx hi _
    clear rm hR0
    have hkk := get_key hx
    obtain ⟨Ca, hCa, ra⟩ := rga g.1
    obtain ⟨Cb, hCb, rb⟩ := rgb g.1
    have hg := rdR_get (a := a) (b := b) hx
    have hs := rdR_set (a := a) (b := b) hx
    have hkp := rdR_keep (a := a) (b := b) hx
    have hrl := rdR_len a b (mergeF a b) i
    have h5 : (g.2.row.map Cell.av).length = 5 := by rw [V.row_eq]; rfl
    have hrd : rdp a b g = match lookF a g.1, lookF b g.1 with | some x, some y => if x.kind = 6 ∧ y.kind = 6 then objF (deepB y (flds x)) else g.2 | _, _ => g.2 := rfl
    have hla : ∀ x, lookF a g.1 = some x → formed x = true ∧ x.bk ≤ szF a := fun x h => by
      obtain ⟨p1, p, hp, e1, e2⟩ := obj_look ha h
      have := szF_mem hp
      exact ⟨p1, by rw [← e2]; omega⟩
    have hlb : ∀ y, lookF b g.1 = some y → formed y = true ∧ y.bk ≤ szF b ∧ ∃ p ∈ b, p.2 = y := fun y h => by
      obtain ⟨p1, p, hp, e1, e2⟩ := obj_look hb h
      have := szF_mem hp
      exact ⟨p1, by rw [← e2]; omega, p, hp, e2⟩
    have ih2 : ∀ y, (∃ p ∈ b, p.2 = y) → formed y = true → y.kind = 6 → RDeep T y := fun y hy h1 h2 => by
      obtain ⟨p, hp, rfl⟩ := hy
      exact ih p.2 (List.mem_map.2 ⟨p, hp, rfl⟩) h1 h2
    clear rga rgb ih
    generalize hK : crow ((mergeF a b).map fun f => [AV.str f.1]) = K0 at *
    generalize hR1 : rdR a b (mergeF a b) i = R1 at *
    generalize hR2 : rdR a b (mergeF a b) (i + 1) = R2 at *
    cases h1 : lookF a g.1 with
    | none =>
      rw [h1] at ra hCa hrd
      have := hkp hrd
      subst this
      rw [Option.getD_none] at hCa
      have hCa : sealRow Ca = [.int .i64 0, .str [], .str [], .lst 5 [], .lst 1 []] := hCa
      rw [V.row_eq] at hCb
      generalize (lookF b g.1).isSome = bb at *
      generalize (lookF b g.1).getD zeroV = yb at *
      repeat' (first | refine zA ?_ | ((apply W1.iadrO; exact rfl; exact rfl; exact rfl; exact rfl; exact rfl; omega; omega)) | ((apply W1.loadQ; exact rfl; exact rfl; exact rfl; exact rfl; exact hkk; exact rfl)) | (refine WQ.cl f.r.f.a7.modes ?_) | (refine W1.cd2 f.r.f.a7.modes hCa ra ?_) | (refine W1.cd2 f.r.f.a7.modes hCb rb ?_) | refine zB ?_ | (refine zC ?_ ?_ <;> intro hc; all_goals first | (cases hc; done) | ((try simp only [hc]); (try simp only [bm] at hc))) | refine zE ?_ | refine zNV ?_ | fail)
      all_goals first | exact ⟨(), trivial, rfl⟩ | (exfalso; clear ra rb; simp_all; done) | trace_state
    | some x =>
      obtain ⟨hxf, hxs⟩ := hla x h1
      rw [h1] at ra hCa
      rw [Option.getD_some, V.row_eq] at hCa
      cases h2 : lookF b g.1 with
      | none =>
        rw [h1, h2] at hrd
        rw [h2] at rb hCb
        have := hkp hrd
        subst this
        rw [Option.getD_none] at hCb
        have hCb : sealRow Cb = [.int .i64 0, .str [], .str [], .lst 5 [], .lst 1 []] := hCb
        repeat' (first | refine zA ?_ | ((apply W1.iadrO; exact rfl; exact rfl; exact rfl; exact rfl; exact rfl; omega; omega)) | ((apply W1.loadQ; exact rfl; exact rfl; exact rfl; exact rfl; exact hkk; exact rfl)) | (refine WQ.cl f.r.f.a7.modes ?_) | (refine W1.cd2 f.r.f.a7.modes hCa ra ?_) | (refine W1.cd2 f.r.f.a7.modes hCb rb ?_) | refine zB ?_ | (refine zC ?_ ?_ <;> intro hc; all_goals first | (cases hc; done) | ((try simp only [hc]); (try simp only [bm] at hc))) | refine zE ?_ | refine zNV ?_ | fail)
        all_goals first | exact ⟨(), trivial, rfl⟩ | (exfalso; clear ra rb; simp_all; done) | trace_state
      | some y =>
        obtain ⟨hyf, hys, hyb⟩ := hlb y h2
        rw [h1, h2] at hrd
        rw [h2] at rb hCb
        rw [Option.getD_some, V.row_eq] at hCb
        by_cases h66 : x.kind = 6 ∧ y.kind = 6
        · have hrd : rdp a b g = if x.kind = 6 ∧ y.kind = 6 then objF (deepB y (flds x)) else g.2 := hrd
          rw [if_pos h66] at hrd
          obtain ⟨mx, hmx, hmo⟩ := objOk_of (v := x) (by simp [objOk, hxf, h66.1])
          obtain ⟨my, hmy, hmy2⟩ := objOk_of (v := y) (by simp [objOk, hyf, h66.2])
          have hsum : szF mx + szF (flds y) ≤ 1000000000 := by
            rw [hmx, objF_bk] at hxs
            rw [hmy, objF_bk] at hys
            rw [hmy, flds_obj]; omega
          obtain ⟨C, hC, rd⟩ := ih2 y hyb hyf h66.2 mx hmo hsum
          rw [hmx, flds_obj] at hrd
          rw [← hmx, V.av_eq, V.av_eq] at rd
          have hs' : R1.set i ([.av (.int .i64 6), .av (.str []), .av (.str []), .av (.lst 5 (((deepB y mx).map fun x : Fld => x.2).map V.row)), .av (.lst 1 (srow ((deepB y mx).map fun x : Fld => x.1)))]) = R2 := by
            rw [← hs, hrd, objF_row]; rfl
          rw [objF_row] at hC
          have e6 : x.kind = 6 := h66.1
          have e7 : y.kind = 6 := h66.2
          rw [e6] at hCa rd
          rw [e7] at hCb rd
          clear hrd hs hkp ih2
          repeat' (first | refine zA ?_ | ((apply W1.iadrO; exact rfl; exact rfl; exact rfl; exact rfl; exact rfl; omega; omega)) | ((apply W1.loadQ; exact rfl; exact rfl; exact rfl; exact rfl; exact hkk; exact rfl)) | (refine WQ.cl f.r.f.a7.modes ?_) | (refine W1.cd2 f.r.f.a7.modes hCa ra ?_) | (refine W1.cd2 f.r.f.a7.modes hCb rb ?_) | (refine W1.cd2 f.a1.modes hC rd ?_) | ((apply W1.storeP; exact rfl; exact rfl; exact rfl; exact rfl; exact rfl; exact hg; exact rfl; exact h5; exact rfl)) | refine zB ?_ | (refine zC ?_ ?_ <;> intro hc; all_goals first | (cases hc; done) | ((try simp only [hc]); (try simp only [bm] at hc))) | refine zE ?_ | refine zNV ?_ | fail)
          all_goals first | (refine ⟨(), trivial, ?_⟩; rw [← hs']; rfl) | (exfalso; clear ra rb rd; simp_all; done) | trace_state
        · have hrd : rdp a b g = if x.kind = 6 ∧ y.kind = 6 then objF (deepB y (flds x)) else g.2 := hrd
          rw [if_neg h66] at hrd
          have := hkp hrd
          subst this
          by_cases e6 : x.kind = 6
          · have e7 : ¬ y.kind = 6 := fun e => h66 ⟨e6, e⟩
            repeat' (first | refine zA ?_ | ((apply W1.iadrO; exact rfl; exact rfl; exact rfl; exact rfl; exact rfl; omega; omega)) | ((apply W1.loadQ; exact rfl; exact rfl; exact rfl; exact rfl; exact hkk; exact rfl)) | (refine WQ.cl f.r.f.a7.modes ?_) | (refine W1.cd2 f.r.f.a7.modes hCa ra ?_) | (refine W1.cd2 f.r.f.a7.modes hCb rb ?_) | refine zB ?_ | (refine zC ?_ ?_ <;> intro hc; all_goals first | (cases hc; done) | ((try simp only [hc]); (try simp only [bm] at hc))) | refine zE ?_ | refine zNV ?_ | fail)
            all_goals first | exact ⟨(), trivial, rfl⟩ | (exfalso; clear ra rb; simp_all; done) | trace_state
          · skip
            repeat' (first | refine zA ?_ | ((apply W1.iadrO; exact rfl; exact rfl; exact rfl; exact rfl; exact rfl; omega; omega)) | ((apply W1.loadQ; exact rfl; exact rfl; exact rfl; exact rfl; exact hkk; exact rfl)) | (refine WQ.cl f.r.f.a7.modes ?_) | (refine W1.cd2 f.r.f.a7.modes hCa ra ?_) | (refine W1.cd2 f.r.f.a7.modes hCb rb ?_) | refine zB ?_ | (refine zC ?_ ?_ <;> intro hc; all_goals first | (cases hc; done) | ((try simp only [hc]); (try simp only [bm] at hc))) | refine zE ?_ | refine zNV ?_ | fail)
            all_goals first | exact ⟨(), trivial, rfl⟩ | (exfalso; clear ra rb; simp_all; done) | trace_state
  · intro u _
    repeat' (first | refine zA ?_ | refine zB ?_ | (refine zC ?_ ?_ <;> intro hc; all_goals first | (cases hc; done) | ((try simp only [hc]); (try simp only [bm] at hc))) | refine zE ?_ | refine zNV ?_ | fail)
    all_goals first | (exfalso; omega) | skip
    refine ⟨_, ?_, .inr rfl, rfl, rfl⟩
    simp only [sealRow, Cell.shut, rdR, seal_crow, List.take_length, List.drop_length, List.map_nil, List.append_nil, hkeys]
    simp only [srow, List.map_map]
    rfl
theorem rdeep_ret (f : RdF T) (a b : V) (ha : a.bk + b.bk ≤ 1000000000) :
    Ans T F.hallmarkref03_Deep [.val a.av, .val b.av] (ansV (objOk a && objOk b) (objF (deepB b (flds a)))) (ansE (objOk a && objOk b)) := by
  cases h : (objOk a && objOk b)
  · have rm := rmerge_bad f.r a b ha h
    refine exD f.a1 rfl ?_
    rw [ansV_row, zeroC] at *
    rw [V.av_eq, V.av_eq] at *
    repeat' (first | refine zA ?_ | refine WQ.cl f.r.a4.modes ?_ | refine W1.cl f.r.a4.modes (rm) ?_ | refine zB ?_ | (refine zC ?_ ?_ <;> intro hc; all_goals first | (cases hc; done) | ((try simp only [hc]); (try simp only [bm] at hc))) | refine zE ?_ | refine zNV ?_ | fail)
    all_goals first | exact ⟨_, rfl, .inr rfl, rfl, rfl⟩ | (exfalso; simp_all; done)
  · simp only [Bool.and_eq_true] at h
    have hb := h.2
    simp only [objOk, Bool.and_eq_true, decide_eq_true_eq] at hb
    obtain ⟨ma, rfl, hma⟩ := objOk_of h.1
    obtain ⟨mb, rfl, hmb⟩ := objOk_of h.2
    rw [objF_bk, objF_bk] at ha
    rw [flds_obj]
    exact rdeep_obj f (objF mb) hb.2 hb.1 ma hma (by rw [flds_obj]; omega)
end
end Hm

/- What the program's calls on objects answer, of any arguments. Conditions: see each theorem. NORMX NORMY -/
namespace Hm
open Go (IntKind)
set_option maxHeartbeats 40000000
set_option maxRecDepth 4000
structure PoF (T : Tab) : Prop where
  d : DpFns T
  g : GwFns T
  m : MkFns T
  hv : ValidOk T
section
variable {T : Tab}
/-- A call that takes what it is given, and whose one result is sealed. -/
theorem W1.callMX {st st' : St} {K : St → Prop} {dst : Option Nat} {gd : Option (Nat × Bool)} {f : Opd} {xs : List Opd} {g : Nat} {first cs : List AV} {ms : List PMode} {l : List Arg} {C : List Cell} {row : List AV} (hC : sealRow C = row)
    (hg : wanted st gd = some true) (hf : (st.opd f).fn = some (g, first, cs, false)) (hm : T.modes g = ms) (ha : args st (ms.drop first.length) xs = some (l, false, [], st'))
    (hr : Ret T g (first.map .val ++ l ++ cs.map .val) ⟨[(C, true)], []⟩) (hk : K (putD dst (.av (.agg row)) st'.hush)) : W1 T ⟨dst, .callM .deep f xs, gd⟩ st K := by
  subst hC
  exact W1.callM0 hg hf hm ha hr rfl hk
theorem pobj_ret (f : PoF T) (v : V) (hb : v.bk ≤ 1073741824) : Ret T F.value_isObject [.val v.av] (one (.bool (objOk v))) := isObject_ret f.d.o f.hv v hb
theorem pmake_ret (f : PoF T) (ks : List Str) (is : List V) (hk : sbk ks + V.bks is ≤ 1000000000) :
    Ans T F.value_Make [.val (.lst 1 (srow ks)), .val (.lst 5 (is.map V.row))] (ansV (mkOk ks is) (objF (mergeF [] (ks.zip is)))) (ansE (mkOk ks is)) := by
  have l1 := len_sbk ks
  have l2 := V.len_bks is
  have e1 := srow_len ks
  have e2 : (is.map V.row).length = is.length := List.length_map ..
  cases h : mkOk ks is
  · have r1 := valueAll_ret f.d.o.fm f.hv is (by omega)
    have r2 := anyBad_ret f.m f.d.o.fm.a6 f.hv ks (by omega)
    have e : ks.all utf = !(ks.any fun s => !utf s) := by
      rw [Bool.eq_iff_iff]; simp
    rw [mkOk, e] at h
    refine exD f.m.a1 rfl ?_
    rw [ansV_row, ansE]
    generalize is.all formed = x at *
    generalize (ks.any fun s => !utf s) = y at *
    by_cases hl : ks.length = is.length
    · rw [decide_eq_true hl] at h
      repeat' (first | refine zA ?_ | (refine W1.bC ?_) | refine WQ.cl f.d.o.fm.a2.modes ?_ | refine W1.cl f.d.o.fm.a2.modes (r1) ?_ | refine WQ.cl f.m.a3.modes ?_ | refine W1.cl f.m.a3.modes (r2) ?_ | refine zB ?_ | (refine zC ?_ ?_ <;> intro hc; all_goals first | (cases hc; done) | ((try simp only [hc]); (try simp only [bm] at hc))) | refine zE ?_ | refine zNV ?_ | fail)
      all_goals clear r1 r2
      all_goals first | exact ⟨_, rfl, .inr rfl, rfl, rfl⟩ | (exfalso; simp_all; done) | (exfalso; omega)
    · skip
      repeat' (first | refine zA ?_ | (refine W1.bC ?_) | refine WQ.cl f.d.o.fm.a2.modes ?_ | refine W1.cl f.d.o.fm.a2.modes (r1) ?_ | refine WQ.cl f.m.a3.modes ?_ | refine W1.cl f.m.a3.modes (r2) ?_ | refine zB ?_ | (refine zC ?_ ?_ <;> intro hc; all_goals first | (cases hc; done) | ((try simp only [hc]); (try simp only [bm] at hc))) | refine zE ?_ | refine zNV ?_ | fail)
      all_goals clear r1 r2
      all_goals first | exact ⟨_, rfl, .inr rfl, rfl, rfl⟩ | (exfalso; omega) | (exfalso; simp_all; done)
  · simp only [mkOk, Bool.and_eq_true, decide_eq_true_eq, List.all_eq_true] at h
    obtain ⟨h1, h2, h3⟩ := h
    have z1 : (ks.zip is).map (·.1) = ks := List.map_fst_zip (by omega)
    have z2 : (ks.zip is).map (·.2) = is := List.map_snd_zip (by omega)
    have := valueMake_ret f.d.o f.m f.hv (ks.zip is) (fun x hx => h3 x.1 (by rw [← z1]; exact List.mem_map.2 ⟨x, hx, rfl⟩)) (fun x hx => h2 x.2 (by rw [← z2]; exact List.mem_map.2 ⟨x, hx, rfl⟩)) (by rw [sz_eq, z1, z2]; omega)
    rw [z1, z2] at this
    exact this
theorem pwith_ret (f : PoF T) (v : V) (k : Str) (x : V) (hb : v.bk + (k.length + 1) + x.bk ≤ 1000000000) :
    Ans T F.value_With [.val v.av, .val (.str k), .val x.av] (ansV (objOk v && (utf k && formed x)) (objF (insA (flds v) k x))) (ansE (objOk v && (utf k && formed x))) := by
  cases h : (objOk v && (utf k && formed x))
  · have r1 := pobj_ret f v (by omega)
    have r2 := f.hv k (by omega)
    have r3 := valueFormed_ret f.d.o.fm f.hv x (by omega)
    refine exD f.g.a2 rfl ?_
    rw [ansV_row, ansE]
    generalize objOk v = b1 at *
    generalize utf k = b2 at *
    generalize formed x = b3 at *
    rw [V.av_eq, V.av_eq] at *
    repeat' (first | refine zA ?_ | (refine W1.bC ?_) | refine WQ.cl f.d.o.a2.modes ?_ | refine W1.cl f.d.o.a2.modes (r1) ?_ | refine WQ.cl f.d.o.fm.a6.modes ?_ | refine W1.cl f.d.o.fm.a6.modes (r2) ?_ | refine WQ.cl f.d.o.fm.a1.modes ?_ | refine W1.cl f.d.o.fm.a1.modes (r3) ?_ | refine zB ?_ | (refine zC ?_ ?_ <;> intro hc; all_goals first | (cases hc; done) | ((try simp only [hc]); (try simp only [bm] at hc))) | refine zE ?_ | refine zNV ?_ | fail)
    all_goals clear r1 r2 r3
    all_goals first | exact ⟨_, rfl, .inr rfl, rfl, rfl⟩ | (exfalso; simp_all; done)
  · simp only [Bool.and_eq_true] at h
    obtain ⟨m, rfl, hm⟩ := objOk_of h.1
    rw [objF_bk] at hb
    rw [flds_obj]
    exact valueWith_ret f.g f.d.o f.hv hm k h.2.1 x h.2.2 (by omega)
theorem pwithout_ret (f : PoF T) (v : V) (k : Str) (hb : v.bk ≤ 1000000000) :
    Ans T F.value_Without [.val v.av, .val (.str k)] (ansV (objOk v) (objF (delA (flds v) k))) (ansE (objOk v)) := by
  cases h : objOk v
  · have r1 := pobj_ret f v (by omega)
    rw [h] at r1
    refine exD f.g.a3 rfl ?_
    rw [ansV_row, ansE]
    rw [V.av_eq] at *
    repeat' (first | refine zA ?_ | (refine W1.bC ?_) | refine WQ.cl f.d.o.a2.modes ?_ | refine W1.cl f.d.o.a2.modes (r1) ?_ | refine zB ?_ | (refine zC ?_ ?_ <;> intro hc; all_goals first | (cases hc; done) | ((try simp only [hc]); (try simp only [bm] at hc))) | refine zE ?_ | refine zNV ?_ | fail)
    all_goals clear r1
    all_goals first | exact ⟨_, rfl, .inr rfl, rfl, rfl⟩ | (exfalso; simp_all; done)
  · obtain ⟨m, rfl, hm⟩ := objOk_of h
    rw [objF_bk] at hb
    rw [flds_obj]
    exact valueWithout_ret f.g f.d.o f.hv hm k (by omega)
theorem pmerge_ret (f : PoF T) (a b : V) (ha : a.bk + b.bk ≤ 1000000000) :
    Ans T F.value_Merge [.val a.av, .val b.av] (ansV (objOk a && objOk b) (objF (mergeF (flds a) (flds b)))) (ansE (objOk a && objOk b)) := by
  cases h : (objOk a && objOk b)
  · have r1 := pobj_ret f a (by omega)
    have r2 := pobj_ret f b (by omega)
    refine exD f.d.o.a1 rfl ?_
    rw [ansV_row, ansE]
    generalize objOk a = b1 at *
    generalize objOk b = b2 at *
    rw [V.av_eq, V.av_eq] at *
    repeat' (first | refine zA ?_ | (refine W1.bC ?_) | refine WQ.cl f.d.o.a2.modes ?_ | refine W1.cl f.d.o.a2.modes (r1) ?_ | refine WQ.cl f.d.o.a2.modes ?_ | refine W1.cl f.d.o.a2.modes (r2) ?_ | refine zB ?_ | (refine zC ?_ ?_ <;> intro hc; all_goals first | (cases hc; done) | ((try simp only [hc]); (try simp only [bm] at hc))) | refine zE ?_ | refine zNV ?_ | fail)
    all_goals clear r1 r2
    all_goals first | exact ⟨_, rfl, .inr rfl, rfl, rfl⟩ | (exfalso; simp_all; done)
  · simp only [Bool.and_eq_true] at h
    obtain ⟨ma, rfl, hma⟩ := objOk_of h.1
    obtain ⟨mb, rfl, hmb⟩ := objOk_of h.2
    rw [objF_bk, objF_bk] at ha
    rw [flds_obj, flds_obj]
    exact valueMerge_ret f.d.o f.hv ma mb hma.formed hmb.formed hma.asc (by omega)
theorem pdeep_ret (f : PoF T) (a b : V) (ha : a.bk + b.bk ≤ 1000000000) :
    Ans T F.value_Deep [.val a.av, .val b.av] (ansV (objOk a && objOk b) (objF (deepB b (flds a)))) (ansE (objOk a && objOk b)) := by
  have r1 := pobj_ret f a (by omega)
  have r2 := pobj_ret f b (by omega)
  cases h : (objOk a && objOk b)
  · refine exD f.d.a2 rfl ?_
    rw [ansV_row, ansE]
    generalize objOk a = b1 at *
    generalize objOk b = b2 at *
    rw [V.av_eq, V.av_eq] at *
    repeat' (first | refine zA ?_ | (refine W1.bC ?_) | refine WQ.cl f.d.o.a2.modes ?_ | refine W1.cl f.d.o.a2.modes (r1) ?_ | refine WQ.cl f.d.o.a2.modes ?_ | refine W1.cl f.d.o.a2.modes (r2) ?_ | refine zB ?_ | (refine zC ?_ ?_ <;> intro hc; all_goals first | (cases hc; done) | ((try simp only [hc]); (try simp only [bm] at hc))) | refine zE ?_ | refine zNV ?_ | fail)
    all_goals clear r1 r2
    all_goals first | exact ⟨_, rfl, .inr rfl, rfl, rfl⟩ | (exfalso; simp_all; done)
  · simp only [Bool.and_eq_true] at h
    rw [h.1] at r1
    rw [h.2] at r2
    have hb := h.2
    simp only [objOk, Bool.and_eq_true, decide_eq_true_eq] at hb
    obtain ⟨ma, rfl, hma⟩ := objOk_of h.1
    obtain ⟨mb, rfl, hmb⟩ := objOk_of h.2
    rw [objF_bk, objF_bk] at ha
    rw [flds_obj]
    have ba := objF_bk ma
    have bb := objF_bk mb
    obtain ⟨C, hC, rd⟩ := deepS_ret f.d (objF mb) hb.2 hb.1 ma hma (by rw [flds_obj]; omega)
    have r3 := valueTwin_ret f.d.o.tw (objF ma) (by omega)
    have r4 := valueTwin_ret f.d.o.tw (objF mb) (by omega)
    have e3 : twC (objF ma) = obC ma ((ma.map (·.2)).map twC) := by rw [twC_eq]; rfl
    have e4 : twC (objF mb) = obC mb ((mb.map (·.2)).map twC) := by rw [twC_eq]; rfl
    have e5 : (objF mb).av = .agg [.int .i64 6, .str [], .str [], .lst 5 (sealRows ((mb.map (·.2)).map twC)), .lst 1 (sealRows (crow (srow (mb.map (·.1)))))] := by rw [seal_twCs, seal_crow, objF_av]
    rw [e3, obC] at r3
    rw [e4, obC] at r4
    rw [e5, obC] at rd
    refine exD f.d.a2 rfl ?_
    show W T _ _ fun x st => ∃ C, sealRow C = (objF (deepB (objF mb) ma)).row ∧ Qend _ _ _ x st
    rw [objF_row] at hC ⊢
    rw [objF_av, objF_av] at *
    repeat' (first | refine zA ?_ | refine WQ.cl f.d.o.a2.modes ?_ | refine W1.cl f.d.o.a2.modes (r1) ?_ | refine WQ.cl f.d.o.a2.modes ?_ | refine W1.cl f.d.o.a2.modes (r2) ?_ | (refine WQ.cl f.d.o.tw.a1.modes ?_) | refine WQ.cl f.d.o.tw.a1.modes ?_ | refine W1.cl f.d.o.tw.a1.modes (r3) ?_ | refine WQ.cl f.d.o.tw.a1.modes ?_ | refine W1.cl f.d.o.tw.a1.modes (r4) ?_ | ((apply W1.callMX hC; exact rfl; exact rfl; exact f.d.a1.modes; exact rfl; exact rd)) | refine zB ?_ | (refine zC ?_ ?_ <;> intro hc; all_goals first | (cases hc; done) | ((try simp only [hc]); (try simp only [bm] at hc))) | refine zE ?_ | refine zNV ?_ | fail)
    all_goals first | exact ⟨_, rfl, .inr rfl, rfl, rfl⟩ | (exfalso; clear r1 r2 r3 r4 rd; simp_all; done) | trace_state
end
end Hm

/- Calls on objects, as trees. Conditions: none (definitions). -/
namespace Hm
open Go (IntKind)
structure OpV where
  call : Int
  a : V
  b : V
  key : Str
  keys : List Str
  items : List V
def OpV.row (o : OpV) : List AV := .int .i64 o.call :: (o.a.row ++ (o.b.row ++ [.str o.key, .lst 1 (srow o.keys), .lst 5 (o.items.map V.row)]))
def OpV.bk (o : OpV) : Nat := o.a.bk + o.b.bk + (o.key.length + 1) + sbk o.keys + V.bks o.items + 1
def opBks : List OpV → Nat
  | [] => 0
  | o :: r => o.bk + opBks r
theorem opBk_mem {o : OpV} {l : List OpV} (h : o ∈ l) : o.bk ≤ opBks l := by
  induction l with
  | nil => cases h
  | cons y l ih =>
    simp only [opBks]
    rcases List.mem_cons.1 h with rfl | h
    · omega
    · have := ih h; omega
theorem len_opBks (l : List OpV) : l.length ≤ opBks l := by
  induction l with
  | nil => exact Nat.le_refl _
  | cons y l ih => simp only [opBks, List.length_cons, OpV.bk]; omega
theorem OpV.row_eq (o : OpV) : o.row = [.int .i64 o.call, .int .i64 o.a.kind, .str o.a.num, .str o.a.text, .lst 5 (o.a.items.map V.row), .lst 1 (srow o.a.keys), .int .i64 o.b.kind, .str o.b.num, .str o.b.text, .lst 5 (o.b.items.map V.row), .lst 1 (srow o.b.keys), .str o.key, .lst 1 (srow o.keys), .lst 5 (o.items.map V.row)] := by
  rw [OpV.row, V.row_eq, V.row_eq]; rfl
theorem get_op {l : List OpV} {i : Nat} {o : OpV} (h : l[i]? = some o) : (l.map OpV.row)[i]? = some [.int .i64 o.call, .int .i64 o.a.kind, .str o.a.num, .str o.a.text, .lst 5 (o.a.items.map V.row), .lst 1 (srow o.a.keys), .int .i64 o.b.kind, .str o.b.num, .str o.b.text, .lst 5 (o.b.items.map V.row), .lst 1 (srow o.b.keys), .str o.key, .lst 1 (srow o.keys), .lst 5 (o.items.map V.row)] := by
  rw [List.getElem?_map, h, Option.map_some, OpV.row_eq]
end Hm

/- The law of calls on objects. Conditions: see each theorem. NORMX NORMY -/
namespace Hm
open Go (IntKind)
set_option maxHeartbeats 40000000
set_option maxRecDepth 4000
def opV (o : OpV) : V :=
  if o.call = 0 then ansV (mkOk o.keys o.items) (objF (mergeF [] (o.keys.zip o.items))) else
  if o.call = 1 then (getV o.a o.key).getD zeroV else
  if o.call = 2 then ansV (objOk o.a && (utf o.key && formed o.b)) (objF (insA (flds o.a) o.key o.b)) else
  if o.call = 3 then ansV (objOk o.a) (objF (delA (flds o.a) o.key)) else
  if o.call = 4 then ansV (objOk o.a && objOk o.b) (objF (mergeF (flds o.a) (flds o.b))) else
  if o.call = 5 then ansV (objOk o.a && objOk o.b) (objF (deepB o.b (flds o.a))) else o.a
def opE (o : OpV) : Int :=
  if o.call = 0 then ansE (mkOk o.keys o.items) else if o.call = 1 then 0 else if o.call = 2 then ansE (objOk o.a && (utf o.key && formed o.b)) else
  if o.call = 3 then ansE (objOk o.a) else if o.call = 4 then ansE (objOk o.a && objOk o.b) else if o.call = 5 then ansE (objOk o.a && objOk o.b) else 0
def opT (o : OpV) : Bool := if o.call = 1 then (getV o.a o.key).isSome else true
theorem ansV_bk (b : Bool) (w : V) (n : Nat) (h : b = true → w.bk ≤ n) : (ansV b w).bk ≤ n + 5 := by
  cases b
  · show zeroV.bk ≤ _
    have : zeroV.bk = 5 := rfl
    omega
  · have := h rfl
    show w.bk ≤ _
    omega
theorem flds_sz {v : V} (h : objOk v = true) : szF (flds v) + 5 = v.bk := by
  obtain ⟨m, rfl, -⟩ := objOk_of h
  rw [flds_obj, objF_bk]; omega
theorem opV_bk (o : OpV) : (opV o).bk ≤ o.bk + 100 := by
  have hb : o.bk = o.a.bk + o.b.bk + (o.key.length + 1) + sbk o.keys + V.bks o.items + 1 := rfl
  unfold opV
  split
  · have := ansV_bk (mkOk o.keys o.items) (objF (mergeF [] (o.keys.zip o.items))) (sbk o.keys + V.bks o.items + 5) (fun h => by
      simp only [mkOk, Bool.and_eq_true, decide_eq_true_eq] at h
      have h1 := sz_merge (o.keys.zip o.items) []
      have h2 := sz_eq (o.keys.zip o.items)
      rw [List.map_fst_zip (by omega), List.map_snd_zip (by omega)] at h2
      have h3 : szF [] = 0 := rfl
      rw [objF_bk]; omega)
    omega
  split
  · unfold getV
    split
    · rename_i hk
      have : ∀ (ks : List Str) (l : List V), ((lookL ks l o.key).getD zeroV).bk ≤ V.bks l + 5 := by
        intro ks
        induction ks with
        | nil => intro l; show zeroV.bk ≤ _; have : zeroV.bk = 5 := rfl; omega
        | cons s r ih =>
          intro l
          rw [lookL]
          split
          · cases l with
            | nil => show zeroV.bk ≤ _; have : zeroV.bk = 5 := rfl; omega
            | cons x l => show x.bk ≤ _; simp only [V.bks]; omega
          · have := ih l.tail
            cases l with
            | nil => exact this
            | cons x l => simp only [List.tail_cons, V.bks] at *; omega
      have h1 := this o.a.keys o.a.items
      have h2 := V.bk_eq o.a
      omega
    · show zeroV.bk ≤ _
      have : zeroV.bk = 5 := rfl
      omega
  split
  · have := ansV_bk (objOk o.a && (utf o.key && formed o.b)) (objF (insA (flds o.a) o.key o.b)) (o.a.bk + o.key.length + 1 + o.b.bk) (fun h => by
      simp only [Bool.and_eq_true] at h
      have h1 := flds_sz h.1
      have h2 := sz_ins o.key o.b (flds o.a)
      rw [objF_bk]; omega)
    omega
  split
  · have := ansV_bk (objOk o.a) (objF (delA (flds o.a) o.key)) o.a.bk (fun h => by
      have h1 := flds_sz h
      have h2 := szF_sub (sub_del o.key (flds o.a))
      rw [objF_bk]; omega)
    omega
  split
  · have := ansV_bk (objOk o.a && objOk o.b) (objF (mergeF (flds o.a) (flds o.b))) (o.a.bk + o.b.bk) (fun h => by
      simp only [Bool.and_eq_true] at h
      have h1 := flds_sz h.1
      have h2 := flds_sz h.2
      have h3 := sz_merge (flds o.b) (flds o.a)
      rw [objF_bk]; omega)
    omega
  split
  · have := ansV_bk (objOk o.a && objOk o.b) (objF (deepB o.b (flds o.a))) (o.a.bk + o.b.bk) (fun h => by
      simp only [Bool.and_eq_true] at h
      have h1 := flds_sz h.1
      have h2 := flds_sz h.2
      obtain ⟨ma, hma, hmo⟩ := objOk_of h.1
      have hb := h.2
      simp only [objOk, Bool.and_eq_true, decide_eq_true_eq] at hb
      have h3 := (deep_obj o.b hb.2 hb.1 (flds o.a) (by rw [hma, flds_obj]; exact hmo)).2
      rw [objF_bk]; omega)
    omega
  · omega
section
variable {T : Tab}
theorem exE {f : Nat} {fn : AFun} {as : List Arg} {row : List AV} {v w : AV} (h : Fn T f fn) (hfit : fits fn.params as = true) (hw : W T fn.body ⟨lstE (entry 0 as).1, lstB (entry 0 as).2⟩ (fun x st => ∃ C, sealRow C = row ∧ Qend fn as ⟨[(C, true), ([.av v], false), ([.av w], false)], []⟩ x st)) : ∃ C, sealRow C = row ∧ Ret T f as ⟨[(C, true), ([.av v], false), ([.av w], false)], []⟩ := by
  have main : ∃ r : CR, (∃ C, sealRow C = row ∧ r = ⟨[(C, true), ([.av v], false), ([.av w], false)], []⟩) ∧ Ret T f as r := by
    refine Ret.ex h hfit (hw.mono fun e st hq => ?_)
    obtain ⟨C, hC, hq⟩ := hq
    exact ⟨_, ⟨C, hC, rfl⟩, hq⟩
  obtain ⟨r, ⟨C, hC, rfl⟩, hr⟩ := main
  exact ⟨C, hC, hr⟩
/-- A call whose three results are sealed. -/
theorem W1.callD3 {st st' : St} {K : St → Prop} {dst : Option Nat} {gd : Option (Nat × Bool)} {f : Opd} {xs : List Opd} {g : Nat} {first cs : List AV} {t0 t : Bool} {ms : List PMode} {l : List Arg} {ks : List Nat} {C : List Cell} {v w : AV} {row : List AV} (hC : sealRow C = row)
    (hg : wanted st gd = some true) (hf : (st.opd f).fn = some (g, first, cs, t0)) (hm : T.modes g = ms) (ha : args st (ms.drop first.length) xs = some (l, t, ks, st')) (hio : hasIo l = false) (hmv : hasMv l = false)
    (hr : Ret T g (first.map .val ++ l ++ cs.map .val) ⟨[(C, true), ([.av v], false), ([.av w], false)], []⟩) (ht : (t0 || t) = false) (hk : K (putD dst (.tup [some (row.map .av, true), some ([.av v], false), some ([.av w], false)]) st')) : W1 T ⟨dst, .call .deep f xs, gd⟩ st K := by
  refine W1.callV hg hf hm ha hio hmv hr (by rw [ht]; rfl) ?_
  show K (putD dst (.tup [some ((sealRow C).map .av, true), some ([.av v], false), some ([.av w], false)]) st')
  rw [hC]; exact hk
/-- One of the two sides of a call. -/
structure Side (T : Tab) (f0 f1 f2 f3 f4 f5 f6 : Nat) (o : OpV) : Prop where
  m0 : T.modes f0 = [.val, .val]
  m1 : T.modes f1 = [.val, .val]
  m2 : T.modes f2 = [.val, .val, .val]
  m3 : T.modes f3 = [.val, .val]
  m4 : T.modes f4 = [.val, .val]
  m5 : T.modes f5 = [.val, .val]
  m6 : T.modes f6 = [.val]
  c0 : Ans T f0 [.val (.lst 1 (srow o.keys)), .val (.lst 5 (o.items.map V.row))] (ansV (mkOk o.keys o.items) (objF (mergeF [] (o.keys.zip o.items)))) (ansE (mkOk o.keys o.items))
  c1 : ∃ C, sealRow C = ((getV o.a o.key).getD zeroV).row ∧ Ret T f1 [.val o.a.av, .val (.str o.key)] ⟨[(C, true), ([.av (.bool (getV o.a o.key).isSome)], false)], []⟩
  c2 : Ans T f2 [.val o.a.av, .val (.str o.key), .val o.b.av] (ansV (objOk o.a && (utf o.key && formed o.b)) (objF (insA (flds o.a) o.key o.b))) (ansE (objOk o.a && (utf o.key && formed o.b)))
  c3 : Ans T f3 [.val o.a.av, .val (.str o.key)] (ansV (objOk o.a) (objF (delA (flds o.a) o.key))) (ansE (objOk o.a))
  c4 : Ans T f4 [.val o.a.av, .val o.b.av] (ansV (objOk o.a && objOk o.b) (objF (mergeF (flds o.a) (flds o.b)))) (ansE (objOk o.a && objOk o.b))
  c5 : Ans T f5 [.val o.a.av, .val o.b.av] (ansV (objOk o.a && objOk o.b) (objF (deepB o.b (flds o.a)))) (ansE (objOk o.a && objOk o.b))
  c6 : ∃ C, sealRow C = o.a.row ∧ Ret T f6 [.val o.a.av] ⟨[(C, true)], []⟩
def Three (T : Tab) (f : Nat) (o : OpV) : Prop := ∃ C, sealRow C = (opV o).row ∧ Ret T f [.val (.agg o.row)] ⟨[(C, true), ([.av (.int .i64 (opE o))], false), ([.av (.bool (opT o))], false)], []⟩
theorem does_ret (h : Fn T F.hallmarklaw03_does hallmarklaw03_does.fn) {o : OpV} (s : Side T F.value_Make F.value_Get F.value_With F.value_Without F.value_Merge F.value_Deep F.value_Twin o) : Three T F.hallmarklaw03_does o := by
  obtain ⟨C0, h0, r0⟩ := s.c0
  obtain ⟨C1, h1, r1⟩ := s.c1
  obtain ⟨C2, h2, r2⟩ := s.c2
  obtain ⟨C3, h3, r3⟩ := s.c3
  obtain ⟨C4, h4, r4⟩ := s.c4
  obtain ⟨C5, h5, r5⟩ := s.c5
  obtain ⟨C6, h6, r6⟩ := s.c6
  rw [V.row_eq] at h0 h1 h2 h3 h4 h5 h6
  refine exE h rfl ?_
  rw [OpV.row_eq]
  simp only [V.av_eq] at *
  unfold opV opE opT
  generalize ansV (mkOk o.keys o.items) (objF (mergeF [] (o.keys.zip o.items))) = w0 at *
  generalize ansE (mkOk o.keys o.items) = e0 at *
  generalize (getV o.a o.key).getD zeroV = w1 at *
  generalize (getV o.a o.key).isSome = b1 at *
  generalize ansV (objOk o.a && (utf o.key && formed o.b)) (objF (insA (flds o.a) o.key o.b)) = w2 at *
  generalize ansE (objOk o.a && (utf o.key && formed o.b)) = e2 at *
  generalize ansV (objOk o.a) (objF (delA (flds o.a) o.key)) = w3 at *
  generalize ansE (objOk o.a) = e3 at *
  generalize ansV (objOk o.a && objOk o.b) (objF (mergeF (flds o.a) (flds o.b))) = w4 at *
  generalize ansV (objOk o.a && objOk o.b) (objF (deepB o.b (flds o.a))) = w5 at *
  generalize ansE (objOk o.a && objOk o.b) = e4 at *
  repeat' (first | refine zA ?_ | (refine W1.cd2 s.m0 h0 r0 ?_) | (refine W1.cd2 s.m1 h1 r1 ?_) | (refine W1.cd2 s.m2 h2 r2 ?_) | (refine W1.cd2 s.m3 h3 r3 ?_) | (refine W1.cd2 s.m4 h4 r4 ?_) | (refine W1.cd2 s.m5 h5 r5 ?_) | (refine W1.cd1 s.m6 h6 r6 ?_) | refine zB ?_ | (refine zC ?_ ?_ <;> intro hc; all_goals first | (cases hc; done) | ((try simp only [hc]); (try simp only [bm] at hc))) | refine zE ?_ | refine zNV ?_ | fail)
  all_goals clear r0 r1 r2 r3 r4 r5 r6 h0 h1 h2 h3 h4 h5 h6 s
  all_goals simp only [if_true, if_false, *]
  all_goals simp only [V.row_eq]
  all_goals exact ⟨_, rfl, .inr rfl, rfl, rfl⟩
theorem asked_ret (h : Fn T F.hallmarklaw03_asked hallmarklaw03_asked.fn) {o : OpV} (s : Side T F.hallmarkref03_Make F.hallmarkref03_Get F.hallmarkref03_With F.hallmarkref03_Without F.hallmarkref03_Merge F.hallmarkref03_Deep F.hallmarkref03_Twin o) : Three T F.hallmarklaw03_asked o := by
  obtain ⟨C0, h0, r0⟩ := s.c0
  obtain ⟨C1, h1, r1⟩ := s.c1
  obtain ⟨C2, h2, r2⟩ := s.c2
  obtain ⟨C3, h3, r3⟩ := s.c3
  obtain ⟨C4, h4, r4⟩ := s.c4
  obtain ⟨C5, h5, r5⟩ := s.c5
  obtain ⟨C6, h6, r6⟩ := s.c6
  rw [V.row_eq] at h0 h1 h2 h3 h4 h5 h6
  refine exE h rfl ?_
  rw [OpV.row_eq]
  simp only [V.av_eq] at *
  unfold opV opE opT
  generalize ansV (mkOk o.keys o.items) (objF (mergeF [] (o.keys.zip o.items))) = w0 at *
  generalize ansE (mkOk o.keys o.items) = e0 at *
  generalize (getV o.a o.key).getD zeroV = w1 at *
  generalize (getV o.a o.key).isSome = b1 at *
  generalize ansV (objOk o.a && (utf o.key && formed o.b)) (objF (insA (flds o.a) o.key o.b)) = w2 at *
  generalize ansE (objOk o.a && (utf o.key && formed o.b)) = e2 at *
  generalize ansV (objOk o.a) (objF (delA (flds o.a) o.key)) = w3 at *
  generalize ansE (objOk o.a) = e3 at *
  generalize ansV (objOk o.a && objOk o.b) (objF (mergeF (flds o.a) (flds o.b))) = w4 at *
  generalize ansV (objOk o.a && objOk o.b) (objF (deepB o.b (flds o.a))) = w5 at *
  generalize ansE (objOk o.a && objOk o.b) = e4 at *
  repeat' (first | refine zA ?_ | (refine W1.cd2 s.m0 h0 r0 ?_) | (refine W1.cd2 s.m1 h1 r1 ?_) | (refine W1.cd2 s.m2 h2 r2 ?_) | (refine W1.cd2 s.m3 h3 r3 ?_) | (refine W1.cd2 s.m4 h4 r4 ?_) | (refine W1.cd2 s.m5 h5 r5 ?_) | (refine W1.cd1 s.m6 h6 r6 ?_) | refine zB ?_ | (refine zC ?_ ?_ <;> intro hc; all_goals first | (cases hc; done) | ((try simp only [hc]); (try simp only [bm] at hc))) | refine zE ?_ | refine zNV ?_ | fail)
  all_goals clear r0 r1 r2 r3 r4 r5 r6 h0 h1 h2 h3 h4 h5 h6 s
  all_goals simp only [if_true, if_false, *]
  all_goals simp only [V.row_eq]
  all_goals exact ⟨_, rfl, .inr rfl, rfl, rfl⟩
theorem right_ret (h : Fn T F.hallmarklaw03_right hallmarklaw03_right.fn) (h1 : Fn T F.hallmarklaw03_does hallmarklaw03_does.fn) (h2 : Fn T F.hallmarklaw03_asked hallmarklaw03_asked.fn) (h3 : Fn T F.hallmarkref03_Like hallmarkref03_Like.fn) {o : OpV} (d : Three T F.hallmarklaw03_does o) (a : Three T F.hallmarklaw03_asked o) (hb : o.bk ≤ 1000000000) :
    Ret T F.hallmarklaw03_right [.val (.agg o.row)] (one (.bool true)) := by
  obtain ⟨C1, c1, r1⟩ := d
  obtain ⟨C2, c2, r2⟩ := a
  have hob := opV_bk o
  have r3 := likeE_ret h3 (opV o) (by omega) (opV o) (by omega)
  rw [sameV_self] at r3
  generalize opV o = w at *
  generalize opE o = e at *
  generalize opT o = b at *
  rw [V.row_eq] at c1 c2
  rw [V.av_eq] at r3
  refine Ret.mk h rfl ?_
  rw [OpV.row_eq] at *
  repeat' (first | refine zA ?_ | ((apply W1.callD3 (hm := h1.modes) c1; (iterate 5 exact rfl); exact r1; exact rfl)) | ((apply W1.callD3 (hm := h2.modes) c2; (iterate 5 exact rfl); exact r2; exact rfl)) | refine WQ.cl h3.modes ?_ | refine W1.cl h3.modes (r3) ?_ | refine zB ?_ | (refine zC ?_ ?_ <;> intro hc; all_goals first | (cases hc; done) | ((try simp only [hc]); (try simp only [bm] at hc))) | refine zE ?_ | refine zNV ?_ | fail)
  all_goals clear r1 r2 r3
  all_goals first | refine Qend.boo rfl rfl ?_ | skip
  all_goals first | rfl | (simp_all; done) | (exfalso; simp_all; done)
theorem smallAll_ret (h : Fn T F.hallmarklaw03_smallAll hallmarklaw03_smallAll.fn) (h1 : Fn T F.hallmarkref03_Parts hallmarkref03_Parts.fn) (l : List V) (hb : V.bks l ≤ 1000000000) : ∃ b : Bool, True ∧ Ret T F.hallmarklaw03_smallAll [.val (.lst 5 (l.map V.row))] (one (.bool b)) := by
  have hl := V.len_bks l
  have e2 : (l.map V.row).length = l.length := List.length_map ..
  refine Ret.ex1 (g := AV.bool) (R := fun _ => True) h rfl ?_
  repeat' (first | refine zA ?_ | refine zB ?_ | (refine zC ?_ ?_ <;> intro hc; all_goals first | (cases hc; done) | ((try simp only [hc]); (try simp only [bm] at hc))) | refine zE ?_ | refine zNV ?_ | fail)
  refine W.listP l (fun i (n : Int) s => (s.put 3 (.av (.int .i64 n))).put 4 (.av (.int .i64 (i : Int)))) (fun i n => 0 ≤ n ∧ n ≤ (l.length + V.bks (l.take i) : Nat)) (l.length : Int) (by simp [V.bks]) rfl ?_ ?_
  · intro i x n hx hi hp
    have hm := List.mem_of_getElem? hx
    have hxb := V.bk_mem hm
    obtain ⟨p, hp1, r⟩ := refParts_ret h1 x (by omega) 10000 (by omega) (by omega)
    have e3 := V.bks_take_succ hx
    have e4 := V.bks_take_le l (i + 1)
    rw [V.av_eq] at r
    by_cases hn : n ≤ 10000
    · skip
      repeat' (first | refine zA ?_ | refine WQ.cl h1.modes ?_ | refine W1.cl h1.modes (r) ?_ | refine zB ?_ | (refine zC ?_ ?_ <;> intro hc; all_goals first | (cases hc; done) | ((try simp only [hc]); (try simp only [bm] at hc))) | refine zE ?_ | refine zNV ?_ | fail)
      all_goals first | exact ⟨_, by omega, rfl⟩ | (exfalso; omega) | (exfalso; simp_all; omega)
    · skip
      repeat' (first | refine zA ?_ | refine zB ?_ | (refine zC ?_ ?_ <;> intro hc; all_goals first | (cases hc; done) | ((try simp only [hc]); (try simp only [bm] at hc))) | refine zE ?_ | refine zNV ?_ | fail)
      all_goals first | exact ⟨_, trivial, Qend.boo rfl rfl rfl⟩ | (exfalso; omega) | (exfalso; simp_all; omega)
  · intro n hp
    repeat' (first | refine zA ?_ | refine zB ?_ | (refine zC ?_ ?_ <;> intro hc; all_goals first | (cases hc; done) | ((try simp only [hc]); (try simp only [bm] at hc))) | refine zE ?_ | refine zNV ?_ | fail)
    all_goals first | exact ⟨_, trivial, Qend.boo rfl rfl rfl⟩ | (exfalso; omega)
theorem fits_ret (h : Fn T F.hallmarklaw03_fits hallmarklaw03_fits.fn) (h0 : Fn T F.hallmarklaw03_small hallmarklaw03_small.fn) (h1 : Fn T F.hallmarklaw03_smallAll hallmarklaw03_smallAll.fn) (h2 : Fn T F.hallmarkref03_Parts hallmarkref03_Parts.fn) (o : OpV) (hb : o.bk ≤ 1000000000) :
    ∃ b : Bool, True ∧ Ret T F.hallmarklaw03_fits [.val (.agg o.row)] (one (.bool b)) := by
  have hob : o.bk = o.a.bk + o.b.bk + (o.key.length + 1) + sbk o.keys + V.bks o.items + 1 := rfl
  obtain ⟨x1, -, r1⟩ := small03_ret h0 h2 o.a (by omega)
  obtain ⟨x2, -, r2⟩ := small03_ret h0 h2 o.b (by omega)
  obtain ⟨x3, -, r3⟩ := smallAll_ret h1 h2 o.items (by omega)
  have e1 := srow_len o.keys
  refine Ret.ex1 (g := AV.bool) (R := fun _ => True) h rfl ?_
  rw [OpV.row_eq]
  rw [V.av_eq] at r1 r2
  cases x1 <;> cases x2 <;> cases x3
  all_goals skip
  repeat' (first | refine zA ?_ | refine WQ.cl h0.modes ?_ | refine W1.cl h0.modes (r1) ?_ | refine WQ.cl h0.modes ?_ | refine W1.cl h0.modes (r2) ?_ | refine WQ.cl h1.modes ?_ | refine W1.cl h1.modes (r3) ?_ | refine zB ?_ | (refine zC ?_ ?_ <;> intro hc; all_goals first | (cases hc; done) | ((try simp only [hc]); (try simp only [bm] at hc))) | refine zE ?_ | refine zNV ?_ | fail)
  all_goals exact ⟨_, trivial, Qend.boo rfl rfl rfl⟩
theorem ValueObjects_ret (h : Fn T F.hallmarklaw03_ValueObjects hallmarklaw03_ValueObjects.fn) (hl : Fn T F.hallmarklaw03_lives hallmarklaw03_lives.fn) (rl : Ret T F.hallmarklaw03_lives [] (one (.bool true)))
    (g1 : Fn T F.hallmarklaw03_right hallmarklaw03_right.fn) (g2 : Fn T F.hallmarklaw03_does hallmarklaw03_does.fn) (g3 : Fn T F.hallmarklaw03_asked hallmarklaw03_asked.fn) (g4 : Fn T F.hallmarkref03_Like hallmarkref03_Like.fn) (g5 : Fn T F.hallmarklaw03_fits hallmarklaw03_fits.fn)
    (g6 : Fn T F.hallmarklaw03_small hallmarklaw03_small.fn) (g7 : Fn T F.hallmarklaw03_smallAll hallmarklaw03_smallAll.fn) (g8 : Fn T F.hallmarkref03_Parts hallmarkref03_Parts.fn) (p : PoF T) (r : RdF T) (l : List OpV) (hb : opBks l ≤ 100000000) :
    Ret T F.hallmarklaw03_ValueObjects [.val (.lst 14 (l.map OpV.row))] (one (.bool true)) := by
  have hll := len_opBks l
  have e2 : (l.map OpV.row).length = l.length := List.length_map ..
  have key : ∀ o ∈ l, (∃ b : Bool, True ∧ Ret T F.hallmarklaw03_fits [.val (.agg o.row)] (one (.bool b))) ∧ Ret T F.hallmarklaw03_right [.val (.agg o.row)] (one (.bool true)) := fun o ho => by
    have hob := opBk_mem ho
    have hob2 : o.bk = o.a.bk + o.b.bk + (o.key.length + 1) + sbk o.keys + V.bks o.items + 1 := rfl
    refine ⟨fits_ret g5 g6 g7 g8 o (by omega), right_ret g1 g2 g3 g4 (does_ret g2 ⟨p.m.a1.modes, p.g.a1.modes, p.g.a2.modes, p.g.a3.modes, p.d.o.a1.modes, p.d.a2.modes, p.d.o.tw.a1.modes, pmake_ret p _ _ (by omega), valueGet_ret p.g p.d.o.tw o.a (by omega) o.key, pwith_ret p _ _ _ (by omega), pwithout_ret p _ _ (by omega), pmerge_ret p _ _ (by omega), pdeep_ret p _ _ (by omega), ⟨_, seal_twC o.a, valueTwin_ret p.d.o.tw o.a (by omega)⟩⟩)
      (asked_ret g3 ⟨r.r.a1.modes, r.r.f.a7.modes, r.r.a2.modes, r.r.a3.modes, r.r.a4.modes, r.a1.modes, r.r.f.a4.modes, rmake_ret r.r _ _ (by omega) (by omega), rget_ret r.r.f o.a (by omega) o.key, rwith_ret r.r _ _ _ (by omega), rwithout_ret r.r _ _ (by omega), rmerge_ret r.r _ _ (by omega), rdeep_ret r _ _ (by omega), rtwin_ret r.r.f o.a (by omega)⟩) (by omega)⟩
  refine Ret.mk h rfl ?_
  repeat' (first | refine zA ?_ | refine WQ.cl hl.modes ?_ | refine W1.cl hl.modes (rl) ?_ | refine zB ?_ | (refine zC ?_ ?_ <;> intro hc; all_goals first | (cases hc; done) | ((try simp only [hc]); (try simp only [bm] at hc))) | refine zE ?_ | refine zNV ?_ | fail)
  all_goals first | (exfalso; simp_all; done) | skip
  refine W.listP l (fun i (_ : Unit) s => s.put 3 (.av (.int .i64 (i : Int)))) (fun _ _ => True) () trivial rfl ?_ ?_
  · intro i o u hx hi _
    obtain ⟨⟨b, -, r1⟩, r2⟩ := key o (List.mem_of_getElem? hx)
    have hg := get_op hx
    rw [OpV.row_eq] at r1 r2
    clear key
    cases b
    · skip
      repeat' (first | refine zA ?_ | ((apply W1.iadr; (iterate 3 exact rfl); omega; exact hg)) | refine WQ.cl g5.modes ?_ | refine W1.cl g5.modes (r1) ?_ | refine zB ?_ | (refine zC ?_ ?_ <;> intro hc; all_goals first | (cases hc; done) | ((try simp only [hc]); (try simp only [bm] at hc))) | refine zE ?_ | refine zNV ?_ | fail)
      all_goals first | exact ⟨(), trivial, rfl⟩ | (exfalso; simp_all; done)
    · skip
      repeat' (first | refine zA ?_ | ((apply W1.iadr; (iterate 3 exact rfl); omega; exact hg)) | refine WQ.cl g5.modes ?_ | refine W1.cl g5.modes (r1) ?_ | refine WQ.cl g1.modes ?_ | refine W1.cl g1.modes (r2) ?_ | refine zB ?_ | (refine zC ?_ ?_ <;> intro hc; all_goals first | (cases hc; done) | ((try simp only [hc]); (try simp only [bm] at hc))) | refine zE ?_ | refine zNV ?_ | fail)
      all_goals first | exact ⟨(), trivial, rfl⟩ | (exfalso; simp_all; done)
  · intro u _
    repeat' (first | refine zA ?_ | refine zB ?_ | (refine zC ?_ ?_ <;> intro hc; all_goals first | (cases hc; done) | ((try simp only [hc]); (try simp only [bm] at hc))) | refine zE ?_ | refine zNV ?_ | fail)
    exact Qend.boo rfl rfl rfl
end
end Hm
