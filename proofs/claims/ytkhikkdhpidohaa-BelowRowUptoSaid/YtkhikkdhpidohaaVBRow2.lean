/- What the law answers on the abstract machine. Conditions: see each theorem. -/
import Derived.Test.YtkhikkdhpidohaaVBRow1
set_option linter.unusedVariables false
set_option linter.unusedSimpArgs false
/- Near types are well shaped, and no higher than asked; the value is of its near type, and no other one. Conditions: see each theorem. -/
namespace Hm
open Go (IntKind)
set_option maxRecDepth 4000
theorem near_never {v : V} (hf : formed v = true) (h : Nat) : never (nearT v h) = false := by
  rcases kinds7 hf with hk | hk | hk | hk
  · rw [near_lo hk]
    rcases hk with e | e | e <;> rw [e] <;> decide
  · rw [near_num hk]; rfl
  · rw [near_txt hk]; rfl
  · cases h with
    | zero => rw [near_top hk]; rfl
    | succ h =>
      rcases hk with hk | hk
      · rw [near_arr hk]; rfl
      · by_cases hm : 12 < v.keys.length
        · rw [near_many hk hm]; rfl
        · rw [near_obj hk hm]; rfl
theorem items_formed {v : V} (hf : formed v = true) : ∀ x ∈ v.items, formed x = true := (formed_inv hf).2.2.2.2.2.2.2.2
theorem num_formed {n : Str} (hn : number n = true) : tformed (numT n) = true := by
  have hz : zcmp n n = 0 := zcmp_good.refl n hn
  have h1 : spanOk (n, n) = true := by simp [spanOk, boundOk, hn, hz]
  rw [tformed_eq]
  simp only [numT, Ty.all, Ty.texts, Ty.anyText, Ty.nums, Ty.arrays, Ty.objects, spansOk, List.all_cons, List.all_nil, h1]
  rfl
theorem txt_formed {t : Str} (ht : utf t = true) : tformed (txtT t) = true := by
  have h1 : rise [t] = true := rise_true fun j hj => by
    have : j = 0 := by simpa using hj
    subst this
    simp [riseAt, ht]
  rw [tformed_eq]
  simp only [txtT, Ty.all, Ty.texts, Ty.anyText, Ty.nums, Ty.arrays, Ty.objects, h1]
  rfl
theorem arr_formed {a : Ar} (h : arOk a = true) : tformed (arrT a) = true := by
  rw [tformed_eq]
  simp only [arrT, Ty.all, Ty.texts, Ty.anyText, Ty.nums, Ty.arrays, Ty.objects, List.all_cons, List.all_nil, h]
  rfl
theorem obj_formed {o : Ob} (h : obOk o = true) : tformed (objT o) = true := by
  rw [tformed_eq]
  simp only [objT, Ty.all, Ty.texts, Ty.anyText, Ty.nums, Ty.arrays, Ty.objects, List.all_cons, List.all_nil, h]
  rfl
theorem arOk_mk {i : Ty} {n : Nat} (h1 : tformed i = true) (h2 : never i = decide (n = 0)) : arOk (.mk i n n) = true := by
  show (!(decide ((n : Int) < 0) || decide ((n : Int) < -1) || (decide ((n : Int) ≥ 0) && decide ((n : Int) < n))) && (tformed i && never i == decide ((n : Int) = 0))) = true
  have a1 : decide ((n : Int) < 0) = false := decide_eq_false (by omega)
  have a2 : decide ((n : Int) < -1) = false := decide_eq_false (by omega)
  have a3 : decide ((n : Int) < n) = false := decide_eq_false (by omega)
  have a4 : decide ((n : Int) = 0) = decide (n = 0) := by rw [Bool.eq_iff_iff]; simp
  rw [h1, h2, a1, a2, a3, a4]; simp
theorem fieldsOk_all : ∀ {l : List Ty} {ms : List Bool}, (∀ x ∈ l, tformed x = true ∧ never x = false) → fieldsOk l ms = true
  | [], ms, _ => rfl
  | x :: r, ms, h => by
    simp only [fieldsOk]
    rw [(h x (by simp)).1, (h x (by simp)).2, fieldsOk_all fun y hy => h y (by simp [hy])]
    simp
open Classical in
theorem near_formed (v : V) : formed v = true → ∀ h, tformed (nearT v h) = true := by
  induction v using V.ind with
  | h v ih =>
  intro hf h
  have hi := items_formed hf
  obtain ⟨-, f2, f3, f4, f5, f6, f7, f8, -⟩ := formed_inv hf
  rcases kinds7 hf with hk | hk | hk | hk
  · rw [near_lo hk]
    rcases hk with e | e | e <;> rw [e] <;> rfl
  · rw [near_num hk]; exact num_formed (f2 hk)
  · rw [near_txt hk]; exact txt_formed (f4 hk)
  · cases h with
    | zero => rw [near_top hk]; rfl
    | succ h =>
      rcases hk with hk | hk
      · rw [near_arr hk]
        refine arr_formed ?_
        cases hl : v.items with
        | nil => rfl
        | cons x r =>
          rw [hl] at hi ih
          refine arOk_mk ?_ ?_
          · rw [nearItemT_cons]
            split
            · exact ih x (by simp) (hi x (by simp)) _
            · exact ofKd_formed _ _
          · have h0 : decide ((x :: r).length = 0) = false := by simp
            rw [h0, nearItemT_cons]
            split
            · exact near_never (hi x (by simp)) _
            · exact ofKd_never hi (by simp) _
      · by_cases hm : 12 < v.keys.length
        · rw [near_many hk hm]
          refine obj_formed ?_
          rw [obOk_eq]
          simp only [Ob.names, Ob.fields, Ob.must, Ob.rest]
          rw [ofKd_formed]; rfl
        · rw [near_obj hk hm]
          refine obj_formed ?_
          rw [obOk_eq]
          simp only [Ob.names, Ob.fields, Ob.must, Ob.rest, List.length_map]
          rw [neverT_formed, (f8 hk).2, fieldsOk_all fun x hx => ?_]
          · simp [(f8 hk).1]
          · obtain ⟨y, hy, rfl⟩ := List.mem_map.1 hx
            exact ⟨ih y hy (hi y hy) h, near_never (hi y hy) h⟩
theorem hTys_all {l : List Ty} {n : Nat} (h : ∀ x ∈ l, ht x + 1 ≤ n) : hTys l ≤ n := by
  induction l with
  | nil => exact Nat.zero_le _
  | cons x l ih =>
    have := ih fun y hy => h y (by simp [hy])
    have := h x (by simp)
    simp only [hTys]; omega
theorem near_ht (v : V) : formed v = true → ∀ h, ht (nearT v h) ≤ h := by
  induction v using V.ind with
  | h v ih =>
  intro hf h
  have hi := items_formed hf
  rcases kinds7 hf with hk | hk | hk | hk
  · rw [near_lo hk]
    exact Nat.zero_le _
  · rw [near_num hk]; exact Nat.zero_le _
  · rw [near_txt hk]; exact Nat.zero_le _
  · cases h with
    | zero => rw [near_top hk]; exact Nat.zero_le _
    | succ h =>
      rcases hk with hk | hk
      · rw [near_arr hk, ht_eq]
        simp only [arrT, Ty.arrays, Ty.objects, hArs, hObs, hAr_eq, Ar.item]
        have q : ht (nearItemT v.items (h + 1)) ≤ h := by
          cases hl : v.items with
          | nil => exact Nat.zero_le _
          | cons x r =>
            rw [hl] at hi ih
            rw [nearItemT_cons]
            split
            · exact ih x (by simp) (hi x (by simp)) h
            · exact ofKd_ht _ _
        omega
      · by_cases hm : 12 < v.keys.length
        · rw [near_many hk hm, ht_eq]
          simp only [objT, Ty.arrays, Ty.objects, hArs, hObs, hOb_eq, Ob.rest, Ob.fields, hTys]
          have := ofKd_ht (kindsN (v.items.map V.kind)) h
          omega
        · rw [near_obj hk hm, ht_eq]
          simp only [objT, Ty.arrays, Ty.objects, hArs, hObs, hOb_eq, Ob.rest, Ob.fields]
          have q : hTys (v.items.map fun x => nearT x h) ≤ h + 1 := hTys_all fun x hx => by
            obtain ⟨y, hy, rfl⟩ := List.mem_map.1 hx
            have := ih y hy (hi y hy) h; omega
          have : ht neverT = 0 := rfl
          omega
theorem tyBks_map {l : List V} {f : V → Ty} (h : ∀ x ∈ l, (f x).bk ≤ 20 * x.bk) : tyBks (l.map f) ≤ 20 * V.bks l := by
  induction l with
  | nil => exact Nat.zero_le _
  | cons x l ih =>
    have := ih fun y hy => h y (by simp [hy])
    have := h x (by simp)
    simp only [List.map_cons, tyBks, V.bks]; omega
theorem near_bk (v : V) : formed v = true → ∀ h, (nearT v h).bk ≤ 20 * v.bk := by
  induction v using V.ind with
  | h v ih =>
  intro hf h
  have hi := items_formed hf
  have hb := V.bk_eq v
  rcases kinds7 hf with hk | hk | hk | hk
  · rw [near_lo hk, Ty.bk_eq]
    simp only [wrdT, Ty.nums, Ty.texts, Ty.arrays, Ty.objects, spbk, sbk, arBks, obBks]; omega
  · rw [near_num hk, Ty.bk_eq]
    simp only [numT, Ty.nums, Ty.texts, Ty.arrays, Ty.objects, spbk, sbk, arBks, obBks]; omega
  · rw [near_txt hk, Ty.bk_eq]
    simp only [txtT, Ty.nums, Ty.texts, Ty.arrays, Ty.objects, spbk, sbk, arBks, obBks]; omega
  · cases h with
    | zero =>
      rw [near_top hk]
      have : everyT.bk = 9 := rfl
      omega
    | succ h =>
      rcases hk with hk | hk
      · rw [near_arr hk, Ty.bk_eq]
        simp only [arrT, Ty.nums, Ty.texts, Ty.arrays, Ty.objects, spbk, sbk, arBks, obBks, Ar.bk_eq, Ar.item]
        have q : (nearItemT v.items (h + 1)).bk ≤ 20 * V.bks v.items + 9 := by
          cases hl : v.items with
          | nil =>
            have : (nearItemT [] (h + 1)).bk = 9 := rfl
            omega
          | cons x r =>
            rw [hl] at hi ih
            rw [nearItemT_cons]
            have := V.bk_eq x
            simp only [V.bks]
            split
            · have := ih x (by simp) (hi x (by simp)) h
              show (nearT x h).bk ≤ _
              omega
            · have := ofKd_bk (kindsN ((x :: r).map V.kind)) (h + 1)
              omega
        omega
      · by_cases hm : 12 < v.keys.length
        · rw [near_many hk hm, Ty.bk_eq]
          simp only [objT, Ty.nums, Ty.texts, Ty.arrays, Ty.objects, spbk, sbk, arBks, obBks, Ob.bk_eq, Ob.names, Ob.fields, Ob.must, Ob.rest, tyBks, List.length_nil]
          have := ofKd_bk (kindsN (v.items.map V.kind)) (h + 1)
          have := len_sbk v.keys
          omega
        · rw [near_obj hk hm, Ty.bk_eq]
          simp only [objT, Ty.nums, Ty.texts, Ty.arrays, Ty.objects, spbk, sbk, arBks, obBks, Ob.bk_eq, Ob.names, Ob.fields, Ob.must, Ob.rest, List.length_map]
          have q : tyBks (v.items.map fun x => nearT x h) ≤ 20 * V.bks v.items := tyBks_map fun x hx => ih x hx (hi x hx) h
          have : neverT.bk = 9 := rfl
          have := len_sbk v.keys
          have := ((formed_inv hf).2.2.2.2.2.2.2.1 hk).1
          omega
theorem lkA_at {α : Type} : ∀ {ks : List Str} {xs : List α} {i : Nat} {k : Str}, (ks.Pairwise fun a b => binA.bLess a b = true) → ks[i]? = some k → lkA ks xs k = xs[i]?
  | [], xs, i, k, _, h => by simp at h
  | s :: r, [], i, k, _, h => by simp [lkA]
  | s :: r, x :: xs, 0, k, _, h => by
    simp at h; subst h; simp [lkA]
  | s :: r, x :: xs, i + 1, k, ha, h => by
    obtain ⟨h1, h2⟩ := List.pairwise_cons.1 ha
    have hr : r[i]? = some k := by simpa using h
    have hne : ¬ s = k := fun e => by
      have := h1 k (List.mem_of_getElem? hr)
      rw [e, bLess_irrefl] at this; cases this
    rw [lkA, if_neg hne, lkA_at h2 hr]
    simp
theorem in_num {n : Str} (hn : number n = true) : inSpanB n (n, n) = true := by
  have hz : zcmp n n = 0 := zcmp_good.refl n hn
  simp [inSpanB, hz]
theorem near_in (v : V) : formed v = true → ∀ h, inT v (nearT v h) = true := by
  induction v using V.ind with
  | h v ih =>
  intro hf h
  have hi := items_formed hf
  obtain ⟨-, f2, f3, f4, f5, f6, f7, f8, -⟩ := formed_inv hf
  rcases kinds7 hf with hk | hk | hk | hk
  · rw [near_lo hk, inT_eq]
    rcases hk with e | e | e <;> rw [e] <;> rfl
  · rw [near_num hk, inT_eq, hk]
    show inSpanB v.num (v.num, v.num) = true
    exact in_num (f2 hk)
  · rw [near_txt hk, inT_eq, hk]
    show ([v.text].contains v.text) = true
    simp
  · cases h with
    | zero => rw [near_top hk]; exact inT_every v
    | succ h =>
      rcases hk with hk | hk
      · rw [near_arr hk, inT_eq, hk]
        show inArB (v.items.map inT) _ = true
        simp only [inArB, Ar.min, Ar.max, Ar.item, List.length_map, List.all_map]
        have q : (v.items.all ((fun g => g (nearItemT v.items (h + 1))) ∘ inT)) = true := by
          refine List.all_eq_true.2 fun x hx => ?_
          show inT x _ = true
          cases hl : v.items with
          | nil => rw [hl] at hx; cases hx
          | cons y r =>
            rw [hl] at hi ih hx
            rw [nearItemT_cons]
            split
            · rename_i hs
              have : nearT y (h + 1 - 1) = nearT x (h + 1 - 1) := by
                rcases List.mem_cons.1 hx with rfl | hx'
                · rfl
                · exact hs x hx'
              rw [this]
              exact ih x hx (hi x hx) _
            · exact inT_ofKd hi _ hx
        rw [q]; simp
      · obtain ⟨hl, hr⟩ := f8 hk
        have ha := asc_of_rise hr
        by_cases hm : 12 < v.keys.length
        · rw [near_many hk hm, inT_eq, hk]
          show [_].any (inObB (v.items.map inT) v.keys) = true
          simp only [List.any_cons, List.any_nil, Bool.or_false, inObB, Ob.names, List.length_nil, List.range_zero, List.all_nil, Bool.true_and]
          refine List.all_eq_true.2 fun i hir => ?_
          have hir := List.mem_range.1 hir
          simp only [inObK, Ob.names, Ob.rest, Bool.or_eq_true]
          right
          rw [List.getD, List.getElem?_map, List.getElem?_eq_getElem (by omega)]
          exact inT_ofKd hi _ (List.getElem_mem _)
        · rw [near_obj hk hm, inT_eq, hk]
          show [_].any (inObB (v.items.map inT) v.keys) = true
          simp only [List.any_cons, List.any_nil, Bool.or_false, inObB, Ob.names, Bool.and_eq_true]
          refine ⟨List.all_eq_true.2 fun i hir => ?_, List.all_eq_true.2 fun i hir => ?_⟩
          · have hir := List.mem_range.1 hir
            have e1 : v.keys[i]? = some v.keys[i] := List.getElem?_eq_getElem hir
            have e2 : v.items[i]? = some (v.items[i]'(by omega)) := List.getElem?_eq_getElem (by omega)
            simp only [inObN, Ob.names, Ob.fields, Ob.must]
            rw [List.getD, e1, Option.getD_some, lkA_at ha e1, List.getElem?_map, e2]
            simp only [Option.map_some, List.getD, List.getElem?_map, e2, Option.getD_some]
            exact ih _ (List.getElem_mem _) (hi _ (List.getElem_mem _)) h
          · have hir := List.mem_range.1 hir
            simp only [inObK, Ob.names, Bool.or_eq_true]
            left
            rw [List.getD, List.getElem?_eq_getElem hir, Option.getD_some]
            simp
end Hm

/- Which values are of a type, in the reference. Conditions: see each theorem. NORMX NORMY -/
namespace Hm
open Go (IntKind)
set_option maxHeartbeats 40000000
set_option maxRecDepth 4000
theorem lkA_first {α : Type} : ∀ {ks : List Str} {xs : List α} {i : Nat} {k : Str}, ks.length = xs.length → ks[i]? = some k → (∀ j, j < i → ks[j]? ≠ some k) → lkA ks xs k = xs[i]?
  | [], xs, i, k, _, h, _ => by simp at h
  | s :: r, [], i, k, hl, _, _ => by simp at hl
  | s :: r, x :: xs, 0, k, _, h, _ => by simp at h; subst h; simp [lkA]
  | s :: r, x :: xs, i + 1, k, hl, h, hj => by
    have hne : ¬ s = k := fun e => hj 0 (by omega) (by simp [e])
    rw [lkA, if_neg hne, lkA_first (ks := r) (i := i) (by simpa using hl) (by simpa using h) (fun j hlt => by have := hj (j + 1) (by omega); simpa using this)]
    simp
theorem lkA_none {α : Type} : ∀ {ks : List Str} {xs : List α} {k : Str}, (∀ j : Nat, ks[j]? ≠ some k) → lkA ks xs k = none
  | [], xs, k, _ => by cases xs <;> rfl
  | s :: r, [], k, _ => rfl
  | s :: r, x :: xs, k, hj => by
    have hne : ¬ s = k := fun e => hj 0 (by simp [e])
    rw [lkA, if_neg hne, lkA_none fun j => by have := hj (j + 1); simpa using this]
theorem lkA_mem {α : Type} : ∀ {ks : List Str} {xs : List α} {k : Str} {y : α}, lkA ks xs k = some y → y ∈ xs
  | [], xs, k, y, h => by cases xs <;> simp [lkA] at h
  | a :: r, [], k, y, h => by simp [lkA] at h
  | a :: r, b :: xs, k, y, h => by
    rw [lkA] at h
    split at h
    · cases h; simp
    · exact List.mem_cons_of_mem _ (lkA_mem h)
section
variable {T : Tab}
theorem has9_ret (h : Fn T F.hallmarkref09_Has hallmarkref09_Has.fn) (l : List Str) (hl : l.length ≤ 1073741824) (k : Str) : Ret T F.hallmarkref09_Has [.val (.lst 1 (srow l)), .val (.str k)] (one (.bool (l.contains k))) := by
  have e1 := srow_len l
  refine Ret.mk h rfl ?_
  repeat' (first | refine zA ?_ | refine zB ?_ | (refine zC ?_ ?_ <;> intro hc; all_goals first | (cases hc; done) | ((try simp only [hc]); (try simp only [bm] at hc))) | refine zE ?_ | refine zNV ?_ | fail)
  refine W.listP l (fun i (_ : Unit) s => s.put 5 (.av (.int .i64 (i : Int)))) (fun i _ => ∀ j, j < i → l[j]? ≠ some k) () (by intro j hj; omega) rfl ?_ ?_
  · intro i x u hx hi hp
    repeat' (first | refine zA ?_ | refine zB ?_ | (refine zC ?_ ?_ <;> intro hc; all_goals first | (cases hc; done) | ((try simp only [hc]); (try simp only [bm] at hc))) | refine zE ?_ | refine zNV ?_ | fail)
    · refine Qend.boo rfl rfl ?_
      subst hc
      exact (List.contains_iff_mem.2 (List.mem_of_getElem? hx)).symm
    · refine ⟨(), fun j hj => ?_, rfl⟩
      by_cases e : j = i
      · subst e; rw [hx]; simpa using hc
      · exact hp j (by omega)
  · intro u hp
    repeat' (first | refine zA ?_ | refine zB ?_ | (refine zC ?_ ?_ <;> intro hc; all_goals first | (cases hc; done) | ((try simp only [hc]); (try simp only [bm] at hc))) | refine zE ?_ | refine zNV ?_ | fail)
    refine Qend.boo rfl rfl ?_
    cases hcn : l.contains k
    · rfl
    · exfalso
      obtain ⟨j, hj⟩ := List.mem_iff_getElem?.1 (List.contains_iff_mem.1 hcn)
      exact hp j (List.getElem?_eq_some_iff.1 hj).1 hj
theorem get3_ret (h : Fn T F.hallmarkref03_Get hallmarkref03_Get.fn) (v : V) (hb : v.bk ≤ 1073741824) (hk : v.kind = 6) (hl : v.keys.length = v.items.length) (k : Str) :
    ∃ C, sealRow C = ((lkA v.keys v.items k).getD zeroV).row ∧ Ret T F.hallmarkref03_Get [.val v.av, .val (.str k)] ⟨[(C, true), ([.av (.bool (lkA v.keys v.items k).isSome)], false)], []⟩ := by
  have main : ∃ r : CR, (∃ C, sealRow C = ((lkA v.keys v.items k).getD zeroV).row ∧ r = ⟨[(C, true), ([.av (.bool (lkA v.keys v.items k).isSome)], false)], []⟩) ∧ Ret T F.hallmarkref03_Get [.val v.av, .val (.str k)] r := by
    refine Ret.ex h rfl ?_
    have hbk := V.bk_eq v
    have hlk := len_sbk v.keys
    have e1 := srow_len v.keys
    have e2 : (v.items.map V.row).length = v.items.length := List.length_map ..
    rw [V.av_eq, hk]
    repeat' (first | refine zA ?_ | refine zB ?_ | (refine zC ?_ ?_ <;> intro hc; all_goals first | (cases hc; done) | ((try simp only [hc]); (try simp only [bm] at hc))) | refine zE ?_ | refine zNV ?_ | fail)
    refine W.listP v.keys (fun i (_ : Unit) s => s.put 6 (.av (.int .i64 (i : Int)))) (fun i _ => ∀ j, j < i → v.keys[j]? ≠ some k) () (by intro j hj; omega) rfl ?_ ?_
    · intro i s u hx hi hp
      obtain ⟨x, hxi⟩ : ∃ x, v.items[i]? = some x := ⟨v.items[i]'(by omega), List.getElem?_eq_getElem (by omega)⟩
      by_cases he : s = k
      · subst he
        have hlk := lkA_first hl hx hp
        rw [hxi] at hlk
        rw [hlk]
        repeat' (first | refine zA ?_ | refine zB ?_ | (refine zC ?_ ?_ <;> intro hc; all_goals first | (cases hc; done) | ((try simp only [hc]); (try simp only [bm] at hc))) | refine zE ?_ | refine zNV ?_ | fail)
        all_goals first | (exfalso; omega) | (exfalso; simp_all; done) | skip
        refine ⟨_, ⟨_, ?_, rfl⟩, .inr rfl, rfl, rfl⟩
        rw [Option.getD_some, V.row_eq]; rfl
      · skip
        repeat' (first | refine zA ?_ | refine zB ?_ | (refine zC ?_ ?_ <;> intro hc; all_goals first | (cases hc; done) | ((try simp only [hc]); (try simp only [bm] at hc))) | refine zE ?_ | refine zNV ?_ | fail)
        refine ⟨(), fun j hj => ?_, rfl⟩
        by_cases e : j = i
        · subst e; rw [hx]; simpa using he
        · exact hp j (by omega)
    · intro u hp
      have hlk : lkA v.keys v.items k = none := lkA_none fun j hj => hp j (List.getElem?_eq_some_iff.1 hj).1 hj
      rw [hlk]
      repeat' (first | refine zA ?_ | refine zB ?_ | (refine zC ?_ ?_ <;> intro hc; all_goals first | (cases hc; done) | ((try simp only [hc]); (try simp only [bm] at hc))) | refine zE ?_ | refine zNV ?_ | fail)
      exact ⟨_, ⟨_, rfl, rfl⟩, .inr rfl, rfl, rfl⟩
  obtain ⟨r, ⟨C, hC, rfl⟩, hr⟩ := main
  exact ⟨C, hC, hr⟩
/-- In answers, of a value and a type. -/
def InR (T : Tab) (v : V) (t : Ty) : Prop := Ret T F.hallmarkref09_In [.val v.av, .val t.av] (one (.bool (inT v t)))
theorem inArr_of (h : Fn T F.hallmarkref09_inArr hallmarkref09_inArr.fn) (h1 : Fn T F.hallmarkref09_In hallmarkref09_In.fn) (l : List V) (hl : l.length ≤ 1073741824) (a : Ar) (ih : ∀ x ∈ l, InR T x a.item) :
    Ret T F.hallmarkref09_inArr [.val (.lst 5 (l.map V.row)), .val (.agg a.row)] (one (.bool (inArB (l.map inT) a))) := by
  have e1 : (l.map V.row).length = l.length := List.length_map ..
  have e2 : (l.map inT).length = l.length := List.length_map ..
  refine Ret.mk h rfl ?_
  rw [Ar.row_eq]
  have hq : inArB (l.map inT) a = (!(decide ((l.length : Int) < a.min) || (decide (a.max ≥ 0) && decide ((l.length : Int) > a.max))) && l.all fun x => inT x a.item) := by
    rw [inArB, e2, List.all_map]; rfl
  rw [hq]
  by_cases hcc : (decide ((l.length : Int) < a.min) || (decide (a.max ≥ 0) && decide ((l.length : Int) > a.max))) = true
  · rw [hcc]
    repeat' (first | refine zA ?_ | refine zB ?_ | (refine zC ?_ ?_ <;> intro hc; all_goals first | (cases hc; done) | ((try simp only [hc]); (try simp only [bm] at hc))) | refine zE ?_ | refine zNV ?_ | fail)
    all_goals first | exact Qend.boo rfl rfl rfl | (exfalso; simp_all; done) | (exfalso; simp_all; omega)
  · rw [Bool.not_eq_true] at hcc
    rw [hcc]
    repeat' (first | refine zA ?_ | refine zB ?_ | (refine zC ?_ ?_ <;> intro hc; all_goals first | (cases hc; done) | ((try simp only [hc]); (try simp only [bm] at hc))) | refine zE ?_ | refine zNV ?_ | fail)
    all_goals first | (exfalso; simp_all; done) | (exfalso; simp_all; omega) | skip
    all_goals
    refine W.listP l (fun i (_ : Unit) s => s.put 5 (.av (.int .i64 (i : Int)))) (fun i _ => (l.take i).all (fun x => inT x a.item) = true) () (by simp) rfl ?_ ?_
    all_goals first
    | (intro i x u hx hi hp
       have r := ih x (List.mem_of_getElem? hx)
       rw [InR, V.av_eq, Ty.av_eq] at r
       repeat' (first | refine zA ?_ | refine WQ.cl h1.modes ?_ | refine W1.cl h1.modes (r) ?_ | refine zB ?_ | (refine zC ?_ ?_ <;> intro hc; all_goals first | (cases hc; done) | ((try simp only [hc]); (try simp only [bm] at hc))) | refine zE ?_ | refine zNV ?_ | fail)
       all_goals first
         | (refine ⟨(), ?_, rfl⟩; rw [all_take_succ hx, hp]; clear r ih; simp_all; done)
         | (refine Qend.boo rfl rfl ?_; rw [all_false hx (by clear r ih; simp_all; done)]; rfl))
    | (intro u hp
       rw [List.take_length] at hp
       repeat' (first | refine zA ?_ | refine zB ?_ | (refine zC ?_ ?_ <;> intro hc; all_goals first | (cases hc; done) | ((try simp only [hc]); (try simp only [bm] at hc))) | refine zE ?_ | refine zNV ?_ | fail)
       refine Qend.boo rfl rfl ?_
       rw [hp]; rfl)
theorem range_all_false {p : Nat → Bool} {n i : Nat} (hi : i < n) (h : p i = false) : (List.range n).all p = false := by
  rw [List.all_eq_false]
  exact ⟨i, List.mem_range.2 hi, by rw [h]; simp⟩
theorem inObj_of (h : Fn T F.hallmarkref09_InObj hallmarkref09_InObj.fn) (h1 : Fn T F.hallmarkref09_In hallmarkref09_In.fn) (h2 : Fn T F.hallmarkref09_Has hallmarkref09_Has.fn) (h3 : Fn T F.hallmarkref03_Get hallmarkref03_Get.fn)
    (v : V) (hb : v.bk ≤ 1073741824) (hk : v.kind = 6) (hl : v.keys.length = v.items.length) (o : Ob) (hbo : o.bk ≤ 1073741824) (n1 : o.names.length = o.fields.length) (n2 : o.names.length = o.must.length)
    (ih : ∀ x ∈ v.items, ∀ t ∈ o.fields, InR T x t) (ihr : ∀ x ∈ v.items, InR T x o.rest) :
    Ret T F.hallmarkref09_InObj [.val v.av, .val (.agg o.row)] (one (.bool (inObB (v.items.map inT) v.keys o))) := by
  have hbk := V.bk_eq v
  have hlk := len_sbk v.keys
  have hob := Ob.bk_eq o
  have hln := len_sbk o.names
  have e1 := srow_len v.keys
  have e2 : (v.items.map V.row).length = v.items.length := List.length_map ..
  have e3 := srow_len o.names
  have e4 : (o.fields.map Ty.row).length = o.fields.length := List.length_map ..
  have e5 := brow_len o.must
  refine Ret.mk h rfl ?_
  rw [V.av_eq, Ob.row_eq, hk]
  have key : (List.range o.names.length).all (inObN (v.items.map inT) v.keys o) = true → W T (.loop [2, 3, 8] hallmarkref09_InObj.l2) ⟨lstE [(2, .plc ⟨.box 2, [], 0⟩), (3, .plc ⟨.box 3, [], 0⟩), (8, .av (.int .i64 0))], lstB [(2, some [.av (.int .i64 6), .av (.str v.num), .av (.str v.text), .av (.lst 5 (v.items.map V.row)), .av (.lst 1 (srow v.keys))]), (3, some [.av (.lst 1 (srow o.names)), .av (.lst 9 (o.fields.map Ty.row)), .av (.lst 1 (brow o.must)), .av (.bool o.rest.all), .av (.bool o.rest.nul), .av (.bool o.rest.fls), .av (.bool o.rest.tru), .av (.lst 2 (sprow o.rest.nums)), .av (.bool o.rest.anyText), .av (.lst 1 (srow o.rest.texts)), .av (.lst 11 (o.rest.arrays.map Ar.row)), .av (.lst 12 (o.rest.objects.map Ob.row))]), (8, none)]⟩
      (Qblk 2 (Qseq T (.seq (.reg hallmarkref09_InObj.r12 [4]) .ret) (Qend hallmarkref09_InObj.fn [.val (.agg [.int .i64 6, .str v.num, .str v.text, .lst 5 (v.items.map V.row), .lst 1 (srow v.keys)]), .val (.agg [.lst 1 (srow o.names), .lst 9 (o.fields.map Ty.row), .lst 1 (brow o.must), .bool o.rest.all, .bool o.rest.nul, .bool o.rest.fls, .bool o.rest.tru, .lst 2 (sprow o.rest.nums), .bool o.rest.anyText, .lst 1 (srow o.rest.texts), .lst 11 (o.rest.arrays.map Ar.row), .lst 12 (o.rest.objects.map Ob.row)])] (one (.bool (inObB (v.items.map inT) v.keys o)))))) := by
    intro hN
    have hq : inObB (v.items.map inT) v.keys o = (List.range v.keys.length).all (inObK (v.items.map inT) v.keys o) := by rw [inObB, hN, Bool.true_and]
    rw [hq]
    refine W.listP v.keys (fun i (_ : Unit) s => s.put 8 (.av (.int .i64 (i : Int)))) (fun i _ => (List.range i).all (inObK (v.items.map inT) v.keys o) = true) () rfl rfl ?_ ?_
    · intro i s u hx hi hp
      obtain ⟨x, hxi⟩ : ∃ x, v.items[i]? = some x := ⟨v.items[i]'(by omega), List.getElem?_eq_getElem (by omega)⟩
      have r := ihr x (List.mem_of_getElem? hxi)
      have r2 := has9_ret h2 o.names (by omega) s
      rw [InR, V.av_eq, Ty.av_eq] at r
      have hqi : inObK (v.items.map inT) v.keys o i = (o.names.contains s || inT x o.rest) := by
        simp only [inObK, List.getD, hx, List.getElem?_map, hxi, Option.map_some, Option.getD_some]
      generalize o.names.contains s = c1 at *
      generalize inT x o.rest = c2 at *
      cases c1 <;> cases c2
      all_goals skip
      repeat' (first | refine zA ?_ | refine WQ.cl h1.modes ?_ | refine W1.cl h1.modes (r) ?_ | refine WQ.cl h2.modes ?_ | refine W1.cl h2.modes (r2) ?_ | refine zB ?_ | (refine zC ?_ ?_ <;> intro hc; all_goals first | (cases hc; done) | ((try simp only [hc]); (try simp only [bm] at hc))) | refine zE ?_ | refine zNV ?_ | fail)
      all_goals first
        | (refine ⟨(), ?_, rfl⟩; rw [range_all_succ, hp, hqi]; rfl)
        | (refine Qend.boo rfl rfl ?_; rw [range_all_false hi hqi])
    · intro u hp
      repeat' (first | refine zA ?_ | refine zB ?_ | (refine zC ?_ ?_ <;> intro hc; all_goals first | (cases hc; done) | ((try simp only [hc]); (try simp only [bm] at hc))) | refine zE ?_ | refine zNV ?_ | fail)
      refine Qend.boo rfl rfl ?_
      rw [hp]
  repeat' (first | refine zA ?_ | refine zB ?_ | (refine zC ?_ ?_ <;> intro hc; all_goals first | (cases hc; done) | ((try simp only [hc]); (try simp only [bm] at hc))) | refine zE ?_ | refine zNV ?_ | fail)
  refine W.listP o.names (fun i (_ : Unit) s => s.put 5 (.av (.int .i64 (i : Int)))) (fun i _ => (List.range i).all (inObN (v.items.map inT) v.keys o) = true) () rfl rfl ?_ ?_
  · intro i s u hx hi hp
    obtain ⟨f, hfi⟩ : ∃ f, o.fields[i]? = some f := ⟨o.fields[i]'(by omega), List.getElem?_eq_getElem (by omega)⟩
    obtain ⟨m, hmi⟩ : ∃ m, o.must[i]? = some m := ⟨o.must[i]'(by omega), List.getElem?_eq_getElem (by omega)⟩
    obtain ⟨C, hC, r3⟩ := get3_ret h3 v hb hk hl s
    have hqi : inObN (v.items.map inT) v.keys o i = (match (lkA v.keys v.items s).map inT with | some g => g f | none => !m) := by
      simp only [inObN, List.getD, hx, hfi, hmi, Option.getD_some, lkA_map]
      rfl
    have hmm : ∀ y, lkA v.keys v.items s = some y → y ∈ v.items := fun y e => lkA_mem e
    rw [V.av_eq, hk] at r3
    clear key
    cases hy : lkA v.keys v.items s with
    | none =>
      rw [hy] at hqi hC r3
      rw [Option.getD_none] at hC
      simp only [Option.map_none] at hqi
      cases m
      all_goals skip
      repeat' (first | refine zA ?_ | ((apply W1.callD2 (hm := h3.modes) (row := [.int .i64 0, .str [], .str [], .lst 5 [], .lst 1 []]) hC; (iterate 5 exact rfl); exact r3; exact rfl)) | (refine WQ.cl h3.modes ?_) | refine zB ?_ | (refine zC ?_ ?_ <;> intro hc; all_goals first | (cases hc; done) | ((try simp only [hc]); (try simp only [bm] at hc))) | refine zE ?_ | refine zNV ?_ | fail)
      all_goals first
        | (refine ⟨(), ?_, rfl⟩; rw [range_all_succ, hp, hqi]; rfl)
        | (refine Qend.boo rfl rfl ?_; rw [inObB, range_all_false hi hqi]; rfl)
        | trace_state
    | some y =>
      rw [hy] at hqi hC r3
      rw [Option.getD_some, V.row_eq] at hC
      simp only [Option.map_some] at hqi
      have r := ih y (hmm y hy) f (List.mem_of_getElem? hfi)
      rw [InR, V.av_eq, Ty.av_eq] at r
      generalize inT y f = c2 at *
      cases c2
      all_goals skip
      repeat' (first | refine zA ?_ | (refine W1.cd2 h3.modes hC r3 ?_) | (refine WQ.cl h3.modes ?_) | refine WQ.cl h1.modes ?_ | refine W1.cl h1.modes (r) ?_ | refine zB ?_ | (refine zC ?_ ?_ <;> intro hc; all_goals first | (cases hc; done) | ((try simp only [hc]); (try simp only [bm] at hc))) | refine zE ?_ | refine zNV ?_ | fail)
      all_goals first
        | (refine ⟨(), ?_, rfl⟩; rw [range_all_succ, hp, hqi]; rfl)
        | (refine Qend.boo rfl rfl ?_; rw [inObB, range_all_false hi hqi]; rfl)
        | trace_state
  · intro u hp
    have key := key hp
    repeat' (first | refine zA ?_ | (exact key) | refine zB ?_ | (refine zC ?_ ?_ <;> intro hc; all_goals first | (cases hc; done) | ((try simp only [hc]); (try simp only [bm] at hc))) | refine zE ?_ | refine zNV ?_ | fail)
end
end Hm

/- In of the reference, of any value and type. Conditions: both well shaped. NORMX NORMY -/
namespace Hm
open Go (IntKind)
set_option maxHeartbeats 40000000
set_option maxRecDepth 4000
/-- What In reaches. -/
structure IgFns (T : Tab) : Prop where
  a1 : Fn T F.hallmarkref09_In hallmarkref09_In.fn
  a2 : Fn T F.hallmarkref09_inArr hallmarkref09_inArr.fn
  a3 : Fn T F.hallmarkref09_InObj hallmarkref09_InObj.fn
  a4 : Fn T F.hallmarkref09_InSpan hallmarkref09_InSpan.fn
  a5 : Fn T F.hallmarkref09_Has hallmarkref09_Has.fn
  a6 : Fn T F.hallmarkref03_Get hallmarkref03_Get.fn
  a7 : Fn T F.hallmarkref03_Numbers hallmarkref03_Numbers.fn
  a8 : Fn T F.hallmarkref03_Texts hallmarkref03_Texts.fn
theorem tformed_parts {t : Ty} (h : tformed t = true) : (∀ s ∈ t.nums, spanOk s = true) ∧ (∀ a ∈ t.arrays, tformed a.item = true) ∧ (∀ o ∈ t.objects, o.names.length = o.fields.length ∧ o.names.length = o.must.length ∧ tformed o.rest = true ∧ fieldsOk o.fields o.must = true) := by
  rw [tformed_eq] at h
  simp only [Bool.and_eq_true, spansOk, List.all_eq_true] at h
  obtain ⟨-, ⟨-, h1⟩, ⟨-, h2⟩, h3⟩ := h
  refine ⟨h1, fun a ha => ?_, fun o ho => ?_⟩
  · have := h2 a ha
    rw [arOk_eq] at this
    simp only [Bool.and_eq_true] at this
    exact this.2.1
  · have := h3 o ho
    rw [obOk_eq] at this
    simp only [Bool.and_eq_true, decide_eq_true_eq] at this
    exact ⟨this.1.1.1.1, this.1.1.1.2, this.1.2, this.2⟩
theorem fieldsOk_mem : ∀ {l : List Ty} {ms : List Bool}, fieldsOk l ms = true → ∀ x ∈ l, tformed x = true
  | [], _, _, x, hx => by cases hx
  | y :: l, ms, h, x, hx => by
    simp only [fieldsOk, Bool.and_eq_true] at h
    rcases List.mem_cons.1 hx with rfl | hx
    · exact h.1.1
    · exact fieldsOk_mem h.2 x hx
theorem bounds_span {s : Sp} (h : spanOk s = true) (l1 : s.1.length ≤ 1073741824) (l2 : s.2.length ≤ 1073741824) : Bounds s := by
  simp only [spanOk, Bool.and_eq_true, boundOk, Bool.or_eq_true, beq_iff_eq] at h
  exact ⟨fun hn => h.1.1.resolve_left hn, fun hn => h.1.2.resolve_left hn, l1, l2⟩
theorem any_take_succ {α : Type} {p : α → Bool} {l : List α} {i : Nat} {x : α} (h : l[i]? = some x) : (l.take (i + 1)).any p = ((l.take i).any p || p x) := by
  rw [List.take_add_one, h, List.any_append]; simp
theorem any_true {α : Type} {p : α → Bool} {l : List α} {i : Nat} {x : α} (h : l[i]? = some x) (hp : p x = true) : l.any p = true :=
  List.any_eq_true.2 ⟨x, List.mem_of_getElem? h, hp⟩
section
variable {T : Tab}
theorem in_ret (f : IgFns T) : ∀ v : V, v.bk ≤ 1073741824 → formed v = true → ∀ t : Ty, t.bk ≤ 1073741824 → tformed t = true → InR T v t := by
  intro v
  induction v using V.ind with
  | h v ih =>
  intro hb hf t hbt hft
  obtain ⟨p1, p2, p3⟩ := tformed_parts hft
  have hbk := V.bk_eq v
  have hl := V.len_bks v.items
  have htk := Ty.bk_eq t
  have l1 := len_sbk t.texts
  have l2 := len_obBks t.objects
  have e1 := srow_len t.texts
  have e2 : (t.objects.map Ob.row).length = t.objects.length := List.length_map ..
  have ih' : ∀ x ∈ v.items, ∀ u : Ty, u.bk ≤ 1073741824 → tformed u = true → InR T x u := fun x hx u hu hu2 => ih x hx (by have := V.bk_item hx; omega) ((formed_inv hf).2.2.2.2.2.2.2.2 x hx) u hu hu2
  have hfi := formed_inv hf
  rw [InR, inT_eq]
  unfold inBody
  cases hA : t.all
  rotate_left
  · refine Ret.mk f.a1 rfl ?_
    rw [V.av_eq, Ty.av_eq, hA]
    repeat' (first | refine zA ?_ | refine zB ?_ | (refine zC ?_ ?_ <;> intro hc; all_goals first | (cases hc; done) | ((try simp only [hc]); (try simp only [bm] at hc))) | refine zE ?_ | refine zNV ?_ | fail)
    all_goals first | exact Qend.boo rfl rfl rfl | (exfalso; simp_all; done)
  rw [Bool.false_or]
  rcases kinds7 hf with (hk | hk | hk) | hk | hk | hk | hk
  · refine Ret.mk f.a1 rfl ?_
    rw [V.av_eq, Ty.av_eq, hA, hk]
    repeat' (first | refine zA ?_ | refine zB ?_ | (refine zC ?_ ?_ <;> intro hc; all_goals first | (cases hc; done) | ((try simp only [hc]); (try simp only [bm] at hc))) | refine zE ?_ | refine zNV ?_ | fail)
    all_goals first | exact Qend.boo rfl rfl rfl | (exfalso; simp_all; done)
  · refine Ret.mk f.a1 rfl ?_
    rw [V.av_eq, Ty.av_eq, hA, hk]
    repeat' (first | refine zA ?_ | refine zB ?_ | (refine zC ?_ ?_ <;> intro hc; all_goals first | (cases hc; done) | ((try simp only [hc]); (try simp only [bm] at hc))) | refine zE ?_ | refine zNV ?_ | fail)
    all_goals first | exact Qend.boo rfl rfl rfl | (exfalso; simp_all; done)
  · refine Ret.mk f.a1 rfl ?_
    rw [V.av_eq, Ty.av_eq, hA, hk]
    repeat' (first | refine zA ?_ | refine zB ?_ | (refine zC ?_ ?_ <;> intro hc; all_goals first | (cases hc; done) | ((try simp only [hc]); (try simp only [bm] at hc))) | refine zE ?_ | refine zNV ?_ | fail)
    all_goals first | exact Qend.boo rfl rfl rfl | (exfalso; simp_all; done)
  · cases hN : t.nums with
    | nil =>
      refine Ret.mk f.a1 rfl ?_
      rw [V.av_eq, Ty.av_eq, hA, hk, hN]
      repeat' (first | refine zA ?_ | refine zB ?_ | (refine zC ?_ ?_ <;> intro hc; all_goals first | (cases hc; done) | ((try simp only [hc]); (try simp only [bm] at hc))) | refine zE ?_ | refine zNV ?_ | fail)
      all_goals first | exact Qend.boo rfl rfl rfl | (exfalso; simp_all; done) | (exfalso; omega)
    | cons s r =>
      have hsb := spbk_mem (show s ∈ t.nums by rw [hN]; simp)
      have r1 := refInSpan_ret f.a4 f.a7 f.a8 v.num s (hfi.2.1 hk) (by omega) (bounds_span (p1 s (by rw [hN]; simp)) (by omega) (by omega))
      rw [Sp.av] at r1
      refine Ret.mk f.a1 rfl ?_
      rw [V.av_eq, Ty.av_eq, hA, hk, hN]
      repeat' (first | refine zA ?_ | ((apply W1.iadr; (iterate 3 exact rfl); omega; exact rfl)) | refine WQ.cl f.a4.modes ?_ | refine W1.cl f.a4.modes (r1) ?_ | refine zB ?_ | (refine zC ?_ ?_ <;> intro hc; all_goals first | (cases hc; done) | ((try simp only [hc]); (try simp only [bm] at hc))) | refine zE ?_ | refine zNV ?_ | fail)
      all_goals first | exact Qend.boo rfl rfl rfl | (exfalso; simp_all; done) | (exfalso; omega) | (exfalso; simp only [sprow, List.map_cons, List.length_cons] at *; omega)
  · refine Ret.mk f.a1 rfl ?_
    rw [V.av_eq, Ty.av_eq, hA, hk]
    cases hT : t.anyText
    rotate_left
    · skip
      repeat' (first | refine zA ?_ | refine zB ?_ | (refine zC ?_ ?_ <;> intro hc; all_goals first | (cases hc; done) | ((try simp only [hc]); (try simp only [bm] at hc))) | refine zE ?_ | refine zNV ?_ | fail)
      all_goals first | exact Qend.boo rfl rfl rfl | (exfalso; simp_all; done)
    · skip
      repeat' (first | refine zA ?_ | refine zB ?_ | (refine zC ?_ ?_ <;> intro hc; all_goals first | (cases hc; done) | ((try simp only [hc]); (try simp only [bm] at hc))) | refine zE ?_ | refine zNV ?_ | fail)
      all_goals first | (exfalso; simp_all; done) | skip
      refine W.listP t.texts (fun i (_ : Unit) s => s.put 5 (.av (.int .i64 (i : Int)))) (fun i _ => ∀ j, j < i → t.texts[j]? ≠ some v.text) () (by intro j hj; omega) rfl ?_ ?_
      · intro i x u hx hi hp
        repeat' (first | refine zA ?_ | refine zB ?_ | (refine zC ?_ ?_ <;> intro hc; all_goals first | (cases hc; done) | ((try simp only [hc]); (try simp only [bm] at hc))) | refine zE ?_ | refine zNV ?_ | fail)
        · refine Qend.boo rfl rfl ?_
          show _ = ([] ++ t.texts).contains v.text
          subst hc
          exact (List.contains_iff_mem.2 (List.mem_of_getElem? hx)).symm
        · refine ⟨(), fun j hj => ?_, rfl⟩
          by_cases e : j = i
          · subst e; rw [hx]; simpa using hc
          · exact hp j (by omega)
      · intro u hp
        repeat' (first | refine zA ?_ | refine zB ?_ | (refine zC ?_ ?_ <;> intro hc; all_goals first | (cases hc; done) | ((try simp only [hc]); (try simp only [bm] at hc))) | refine zE ?_ | refine zNV ?_ | fail)
        refine Qend.boo rfl rfl ?_
        show false = t.texts.contains v.text
        cases hcn : t.texts.contains v.text
        · rfl
        · exfalso
          obtain ⟨j, hj⟩ := List.mem_iff_getElem?.1 (List.contains_iff_mem.1 hcn)
          exact hp j (List.getElem?_eq_some_iff.1 hj).1 hj
  · cases hN : t.arrays with
    | nil =>
      refine Ret.mk f.a1 rfl ?_
      rw [V.av_eq, Ty.av_eq, hA, hk, hN]
      repeat' (first | refine zA ?_ | refine zB ?_ | (refine zC ?_ ?_ <;> intro hc; all_goals first | (cases hc; done) | ((try simp only [hc]); (try simp only [bm] at hc))) | refine zE ?_ | refine zNV ?_ | fail)
      all_goals first | exact Qend.boo rfl rfl rfl | (exfalso; simp_all; done) | (exfalso; omega)
    | cons a r =>
      have ham : a ∈ t.arrays := by rw [hN]; simp
      have hab := arBk_mem ham
      have hak := Ar.bk_eq a
      have r1 := inArr_of f.a2 f.a1 v.items (by omega) a (fun x hx => ih' x hx a.item (by omega) (p2 a ham))
      rw [Ar.row_eq] at r1
      refine Ret.mk f.a1 rfl ?_
      rw [V.av_eq, Ty.av_eq, hA, hk, hN, List.map_cons, Ar.row_eq a]
      repeat' (first | refine zA ?_ | ((apply W1.iadr; (iterate 3 exact rfl); omega; exact rfl)) | refine WQ.cl f.a2.modes ?_ | refine W1.cl f.a2.modes (r1) ?_ | refine zB ?_ | (refine zC ?_ ?_ <;> intro hc; all_goals first | (cases hc; done) | ((try simp only [hc]); (try simp only [bm] at hc))) | refine zE ?_ | refine zNV ?_ | fail)
      all_goals first | exact Qend.boo rfl rfl rfl | (exfalso; simp_all; done) | (exfalso; omega) | (exfalso; simp only [List.map_cons, List.length_cons] at *; omega)
  · refine Ret.mk f.a1 rfl ?_
    have hlk := (hfi.2.2.2.2.2.2.2.1 hk).1
    rw [V.av_eq, Ty.av_eq, hA, hk]
    repeat' (first | refine zA ?_ | refine zB ?_ | (refine zC ?_ ?_ <;> intro hc; all_goals first | (cases hc; done) | ((try simp only [hc]); (try simp only [bm] at hc))) | refine zE ?_ | refine zNV ?_ | fail)
    refine W.listP t.objects (fun i (_ : Unit) s => s.put 6 (.av (.int .i64 (i : Int)))) (fun i _ => (t.objects.take i).any (inObB (v.items.map inT) v.keys) = false) () rfl rfl ?_ ?_
    · intro i o u hx hi hp
      have hom := List.mem_of_getElem? hx
      have hob := obBk_mem hom
      have hok := Ob.bk_eq o
      obtain ⟨q1, q2, q3, q4⟩ := p3 o hom
      have r1 := inObj_of f.a3 f.a1 f.a5 f.a6 v hb hk hlk o (by omega) q1 q2 (fun x hx u hu => ih' x hx u (by have := tyBk_mem hu; omega) (fieldsOk_mem q4 u hu)) (fun x hx => ih' x hx o.rest (by omega) q3)
      rw [V.av_eq, Ob.row_eq, hk] at r1
      have hst := any_take_succ (p := inObB (v.items.map inT) v.keys) hx
      have htr : inObB (v.items.map inT) v.keys o = true → t.objects.any (inObB (v.items.map inT) v.keys) = true := any_true hx
      generalize inObB (v.items.map inT) v.keys o = c at *
      cases c
      all_goals skip
      repeat' (first | refine zA ?_ | refine WQ.cl f.a3.modes ?_ | refine W1.cl f.a3.modes (r1) ?_ | refine zB ?_ | (refine zC ?_ ?_ <;> intro hc; all_goals first | (cases hc; done) | ((try simp only [hc]); (try simp only [bm] at hc))) | refine zE ?_ | refine zNV ?_ | fail)
      · exact ⟨(), by rw [hst, hp]; rfl, rfl⟩
      · refine Qend.boo rfl rfl ?_
        exact (htr rfl).symm
    · intro u hp
      rw [List.take_length] at hp
      repeat' (first | refine zA ?_ | refine zB ?_ | (refine zC ?_ ?_ <;> intro hc; all_goals first | (cases hc; done) | ((try simp only [hc]); (try simp only [bm] at hc))) | refine zE ?_ | refine zNV ?_ | fail)
      refine Qend.boo rfl rfl ?_
      exact hp.symm
end
end Hm

/- Whole numbers in tens, as the program has them. Conditions: see each theorem. -/
namespace Hm
open Go (IntKind)
set_option maxHeartbeats 4000000
set_option maxRecDepth 4000
def two (v w : AV) : CR := ⟨[([.av v], false), ([.av w], false)], []⟩
theorem Qend.two {fn : AFun} {as : List Arg} {v w v' w' : AV} {st : St} (hr : results st fn.results = some [([.av v], false), ([.av w], false)]) (ho : outs st 0 as = some []) (h : v = v') (h' : w = w') : Qend fn as (Hm.two v' w') .ret st := by
  subst h h'; exact ⟨.inr rfl, hr, ho⟩
theorem tensFormed_ret {T : Tab} (h : Fn T F.tens_Formed tens_Formed.fn) (s : Str) (hb : s.length ≤ 1073741824) : Ret T F.tens_Formed [.val (.str s)] (one (.bool (number s))) := by
  refine Ret.mk h rfl ?_
  by_cases hs : s = [48]
  · subst hs
    repeat' (first | refine zA ?_ | refine zB ?_ | (refine zC ?_ ?_ <;> intro hc; all_goals first | (cases hc; done) | ((try simp only [hc]); (try simp only [bm] at hc))) | refine zE ?_ | refine zNT ?_ | fail)
    exact Qend.boo rfl rfl rfl
  have hs' : (s == [48]) = false := beq_eq_false_iff_ne.2 hs
  have hnum : number s = ((digs s).all isDig && decide (0 < (digs s).length) && !(bAt (digs s) 0 == 48)) := by simp only [number, hs', Bool.not_false, Bool.and_true]
  have fin : ∀ d : Str, d = digs s → 0 < d.length → ¬ ((bAt d 0).toNat : Int) = 48 → d.length ≤ 1073741824 → W T (AC.loop [0, 23, 24] tens_Formed.l1) ⟨lstE [(0, .av (.str d)), (23, .av (.int .i64 (d.length : Nat))), (24, .av (.int .i64 0))], lstB [(0, none), (23, none), (24, none)]⟩
      (Qblk 0 (Qseq T ((AC.reg tens_Formed.r13 [2]).seq AC.ret) (Qend tens_Formed.fn [.val (.str s)] (one (.bool (number s)))))) := by
    intro d hd hl h48 hlb
    refine W.listP d (fun i (_ : Unit) s => s.put 24 (.av (.int .i64 (i : Int)))) (fun i _ => (d.take i).all isDig = true) () (by simp) rfl ?_ ?_
    · intro i x u hx hi hp
      have e := bAt_get hx
      have e' : bAt d ((i : Int)).toNat = x := e
      repeat' (first | refine zA ?_ | refine zB ?_ | (refine zC ?_ ?_ <;> intro hc; all_goals first | (cases hc; done) | ((try simp only [hc]); (try simp only [bm] at hc))) | refine zE ?_ | refine zNT ?_ | fail)
      all_goals first
        | (refine Qend.boo rfl rfl ?_; rw [hnum, ← hd, all_false hx (by rw [← e]; simp only [isDig, Bool.and_eq_false_iff, decide_eq_false_iff_not]; simp only [Int.toNat_natCast] at *; omega)]; rfl)
        | (refine ⟨(), ?_, rfl⟩; rw [all_take_succ hx, hp, ← e]; simp only [isDig, Bool.true_and, Bool.and_eq_true, decide_eq_true_eq]; simp only [Int.toNat_natCast] at *; omega)
        | skip
    · intro u hp
      rw [List.take_length] at hp
      repeat' (first | refine zA ?_ | refine zB ?_ | (refine zC ?_ ?_ <;> intro hc; all_goals first | (cases hc; done) | ((try simp only [hc]); (try simp only [bm] at hc))) | refine zE ?_ | refine zNT ?_ | fail)
      refine Qend.boo rfl rfl ?_
      have : ¬ bAt d 0 = 48 := fun h => h48 ((u8_eq _ 48 (by omega)).2 h)
      have : (bAt d 0 == 48) = false := beq_eq_false_iff_ne.2 this
      rw [hnum, ← hd, hp, decide_eq_true hl, this]; rfl
  by_cases hm : 0 < s.length ∧ ((bAt s 0).toNat : Int) = 45
  · have hd : digs s = s.drop 1 := by rw [digs, if_pos ⟨hm.1, (u8_eq _ 45 (by omega)).1 hm.2⟩]
    have ed : List.drop (Int.toNat 1) (List.take s.length s) = s.drop 1 := by rw [List.take_length]; rfl
    have hne : ¬ s = [] := (fun h => by rw [h] at hm; simp at hm)
    have hm' : ((bAt s (Int.toNat 0)).toNat : Int) = 45 := hm.2
    by_cases hl : 0 < (s.drop 1).length
    · have hne2 : ¬ List.drop (Int.toNat 1) (List.take s.length s) = [] := by rw [ed]; exact (fun h => by rw [h] at hl; simp at hl)
      have hl2 : 0 < (List.drop (Int.toNat 1) (List.take s.length s)).length := by rw [ed]; exact hl
      by_cases h48 : ((bAt (s.drop 1) 0).toNat : Int) = 48
      · have h48' : ((bAt (List.drop (Int.toNat 1) (List.take s.length s)) (Int.toNat 0)).toNat : Int) = 48 := by rw [ed]; exact h48
        repeat' (first | refine zA ?_ | refine zB ?_ | (refine zC ?_ ?_ <;> intro hc; all_goals first | (cases hc; done) | ((try simp only [hc]); (try simp only [bm] at hc))) | refine zE ?_ | refine zNT ?_ | fail)
        refine Qend.boo rfl rfl ?_
        have : (bAt (s.drop 1) 0) = 48 := (u8_eq _ 48 (by omega)).1 h48
        rw [hnum, hd, this]; simp
      · have h48' : ¬ ((bAt (List.drop (Int.toNat 1) (List.take s.length s)) (Int.toNat 0)).toNat : Int) = 48 := by rw [ed]; exact h48
        repeat' (first | refine zA ?_ | (exact fin _ (ed.trans hd.symm) (by rw [ed]; exact hl) h48' (by rw [ed]; simp; omega)) | refine zB ?_ | (refine zC ?_ ?_ <;> intro hc; all_goals first | (cases hc; done) | ((try simp only [hc]); (try simp only [bm] at hc))) | refine zE ?_ | refine zNT ?_ | fail)
    · have e0 : s.drop 1 = [] := List.eq_nil_of_length_eq_zero (by omega)
      have hne2 : List.drop (Int.toNat 1) (List.take s.length s) = [] := by rw [ed, e0]
      repeat' (first | refine zA ?_ | refine zB ?_ | (refine zC ?_ ?_ <;> intro hc; all_goals first | (cases hc; done) | ((try simp only [hc]); (try simp only [bm] at hc))) | refine zE ?_ | refine zNT ?_ | fail)
      refine Qend.boo rfl rfl ?_
      rw [hnum, hd, e0]; rfl
  · have hd : digs s = s := by rw [digs, if_neg (fun h => hm ⟨h.1, (u8_eq _ 45 (by omega)).2 h.2⟩)]
    by_cases hl : 0 < s.length
    · have hne : ¬ s = [] := (fun h => by rw [h] at hl; simp at hl)
      have hm' : ¬ ((bAt s (Int.toNat 0)).toNat : Int) = 45 := fun h => hm ⟨hl, h⟩
      by_cases h48 : ((bAt s 0).toNat : Int) = 48
      · have h48' : ((bAt s (Int.toNat 0)).toNat : Int) = 48 := h48
        repeat' (first | refine zA ?_ | refine zB ?_ | (refine zC ?_ ?_ <;> intro hc; all_goals first | (cases hc; done) | ((try simp only [hc]); (try simp only [bm] at hc))) | refine zE ?_ | refine zNT ?_ | fail)
        refine Qend.boo rfl rfl ?_
        have : (bAt s 0) = 48 := (u8_eq _ 48 (by omega)).1 h48
        rw [hnum, hd, this]; simp
      · have h48' : ¬ ((bAt s (Int.toNat 0)).toNat : Int) = 48 := h48
        repeat' (first | refine zA ?_ | (exact fin s hd.symm hl h48 hb) | refine zB ?_ | (refine zC ?_ ?_ <;> intro hc; all_goals first | (cases hc; done) | ((try simp only [hc]); (try simp only [bm] at hc))) | refine zE ?_ | refine zNT ?_ | fail)
    · have e0 : s = [] := List.eq_nil_of_length_eq_zero (by omega)
      subst e0
      repeat' (first | refine zA ?_ | refine zB ?_ | (refine zC ?_ ?_ <;> intro hc; all_goals first | (cases hc; done) | ((try simp only [hc]); (try simp only [bm] at hc))) | refine zE ?_ | refine zNT ?_ | fail)
      exact Qend.boo rfl rfl rfl
end Hm

/- Whole numbers in tens in order, as the program has them. Conditions: see each theorem. -/
namespace Hm
open Go (IntKind)
set_option maxHeartbeats 4000000
set_option maxRecDepth 4000
theorem tensSize_ret {T : Tab} (h : Fn T F.tens_size tens_size.fn) (a b : Str) (hl : a.length ≤ 1073741824) (hl' : b.length ≤ 1073741824) : Ret T F.tens_size [.val (.str a), .val (.str b)] (one (.int .i64 (ncmp a b))) := by
  refine Ret.mk h rfl ?_
  repeat' (first | refine zA ?_ | refine zB ?_ | (refine zC ?_ ?_ <;> intro hc; all_goals first | (cases hc; done) | ((try simp only [hc]); (try simp only [bm] at hc))) | refine zE ?_ | refine zN ?_ | fail)
  all_goals refine Qend.num rfl rfl ?_
  all_goals simp only [ncmp, tcmp]
  · have hne : ¬ a.length = b.length := by omega
    simp only [hne, if_false]
    by_cases h1 : a.length < b.length
    · simp only [h1, if_true]
      by_cases h2 : (-1 : Int) > (a.length : Int) - b.length
      · simp [h2]
      · have : (a.length : Int) - b.length = -1 := by omega
        simp [this]
    · simp only [h1, if_false]
      have h2 : ¬ (-1 : Int) > (a.length : Int) - b.length := by omega
      simp only [h2, if_false]
      by_cases h3 : (1 : Int) < (a.length : Int) - b.length
      · simp [h3]
      · have : (a.length : Int) - b.length = 1 := by omega
        simp [this]
  · rw [if_pos (by omega)]; simp_all
  · rw [if_pos (by omega)]; simp_all
  · rw [if_pos (by omega)]; simp_all
theorem tensSplit_ret {T : Tab} (h : Fn T F.tens_split tens_split.fn) (a : Str) (ha : 0 < a.length) (hl : a.length ≤ 1073741824) : Ret T F.tens_split [.val (.str a)] (two (.bool (minus a)) (.str (if minus a then a.drop 1 else a))) := by
  have ed : List.drop (Int.toNat 1) (List.take a.length a) = a.drop 1 := by rw [List.take_length]; rfl
  by_cases hm : ((bAt a 0).toNat : Int) = 45
  · have hm' : ((bAt a (Int.toNat 0)).toNat : Int) = 45 := hm
    have hmm : minus a = true := by simp [minus, hm]
    rw [hmm]
    refine Ret.mk h rfl ?_
    repeat' (first | refine zA ?_ | refine zB ?_ | (refine zC ?_ ?_ <;> intro hc; all_goals first | (cases hc; done) | ((try simp only [hc]); (try simp only [bm] at hc))) | refine zE ?_ | refine zN ?_ | fail)
    refine Qend.two rfl rfl rfl ?_
    rw [ed]
  · have hm' : ¬ ((bAt a (Int.toNat 0)).toNat : Int) = 45 := hm
    have hmm : minus a = false := by simp [minus, hm]
    rw [hmm]
    refine Ret.mk h rfl ?_
    repeat' (first | refine zA ?_ | refine zB ?_ | (refine zC ?_ ?_ <;> intro hc; all_goals first | (cases hc; done) | ((try simp only [hc]); (try simp only [bm] at hc))) | refine zE ?_ | refine zN ?_ | fail)
    exact Qend.two rfl rfl rfl rfl
theorem tensCmp_ret {T : Tab} (h : Fn T F.tens_Cmp tens_Cmp.fn) (h1 : Fn T F.tens_size tens_size.fn) (h2 : Fn T F.tens_split tens_split.fn) (h3 : Fn T F.tens_Formed tens_Formed.fn) (a b : Str) (ha : number a = true) (hb : number b = true) (hl : a.length ≤ 1073741824) (hl' : b.length ≤ 1073741824) :
    Ret T F.tens_Cmp [.val (.str a), .val (.str b)] (two (.int .i64 (zcmp a b)) (.int .i64 0)) := by
  have f1 := tensFormed_ret h3 a hl
  have f2 := tensFormed_ret h3 b hl'
  rw [ha] at f1
  rw [hb] at f2
  have s1 := tensSplit_ret h2 a (number_len ha) hl
  have s2 := tensSplit_ret h2 b (number_len hb) hl'
  have z1 := tensSize_ret h1 a b hl hl'
  have z2 := tensSize_ret h1 (b.drop 1) (a.drop 1) (by simp; omega) (by simp; omega)
  refine Ret.mk h rfl ?_
  cases ma : minus a <;> cases mb : minus b <;> simp only [ma, mb, Bool.false_eq_true, if_false, if_true] at s1 s2
  repeat' (first | refine zA ?_ | refine WQ.cl h3.modes ?_ | refine W1.cl h3.modes (f1) ?_ | refine WQ.cl h3.modes ?_ | refine W1.cl h3.modes (f2) ?_ | refine WQ.cl h2.modes ?_ | refine W1.cl h2.modes (s1) ?_ | refine WQ.cl h2.modes ?_ | refine W1.cl h2.modes (s2) ?_ | refine WQ.cl h1.modes ?_ | refine W1.cl h1.modes (z1) ?_ | refine WQ.cl h1.modes ?_ | refine W1.cl h1.modes (z2) ?_ | refine zB ?_ | (refine zC ?_ ?_ <;> intro hc; all_goals first | (cases hc; done) | ((try simp only [hc]); (try simp only [bm] at hc))) | refine zE ?_ | refine zN ?_ | fail)
  all_goals refine Qend.two rfl rfl ?_ rfl
  all_goals first | (simp [zcmp, ma, mb]; done) | (simp [zcmp, ma, mb]; rfl)
end Hm

/- Spans in spans. Conditions: see each theorem. -/
namespace Hm
open Go (IntKind)
set_option maxHeartbeats 4000000
set_option maxRecDepth 4000
def hollowB (s : Sp) : Bool := !(s.1 == []) && !(s.2 == []) && decide (zcmp s.1 s.2 > 0)
def spanIn (a b : Sp) : Bool := hollowB a || (((b.1 == []) || (!(a.1 == []) && decide (zcmp b.1 a.1 ≤ 0))) && ((b.2 == []) || (!(a.2 == []) && decide (zcmp a.2 b.2 ≤ 0))))
theorem worth_ret {T : Tab} (h : Fn T F.below_worth below_worth.fn) (h0 : Fn T F.tens_Cmp tens_Cmp.fn) (h1 : Fn T F.tens_size tens_size.fn) (h2 : Fn T F.tens_split tens_split.fn) (h3 : Fn T F.tens_Formed tens_Formed.fn) (a b : Str) (ha : number a = true) (hb : number b = true) (hl : a.length ≤ 1073741824) (hl' : b.length ≤ 1073741824) :
    Ret T F.below_worth [.val (.str a), .val (.str b)] (one (.int .i64 (zcmp a b))) := by
  have r := tensCmp_ret h0 h1 h2 h3 a b ha hb hl hl'
  refine Ret.mk h rfl ?_
  repeat' (first | refine zA ?_ | refine WQ.cl h0.modes ?_ | refine W1.cl h0.modes (r) ?_ | refine zB ?_ | (refine zC ?_ ?_ <;> intro hc; all_goals first | (cases hc; done) | ((try simp only [hc]); (try simp only [bm] at hc))) | refine zE ?_ | refine zNT ?_ | fail)
  exact Qend.num rfl rfl rfl
theorem hollow_ret {T : Tab} (h : Fn T F.below_hollow below_hollow.fn) (hw : Fn T F.below_worth below_worth.fn) (h0 : Fn T F.tens_Cmp tens_Cmp.fn) (h1 : Fn T F.tens_size tens_size.fn) (h2 : Fn T F.tens_split tens_split.fn) (h3 : Fn T F.tens_Formed tens_Formed.fn) (a : Sp) (ba : Bounds a) :
    Ret T F.below_hollow [.val a.av] (one (.bool (hollowB a))) := by
  have w := fun (p : ¬ a.1 = []) (q : ¬ a.2 = []) => worth_ret hw h0 h1 h2 h3 a.1 a.2 (ba.lo p) (ba.hi q) ba.l1 ba.l2
  refine Ret.mk h rfl ?_
  rw [Sp.av]
  repeat' (first | refine zA ?_ | refine WQ.cl hw.modes ?_ | refine W1.cl hw.modes (w (by first | assumption | simp_all) (by first | assumption | simp_all)) ?_ | refine zB ?_ | (refine zC ?_ ?_ <;> intro hc; all_goals first | (cases hc; done) | ((try simp only [hc]); (try simp only [bm] at hc))) | refine zE ?_ | refine zNT ?_ | fail)
  all_goals refine Qend.boo rfl rfl ?_
  all_goals clear w
  all_goals first | (simp_all [hollowB]; done) | (simp_all [hollowB]; omega) | (rw [Bool.eq_iff_iff]; simp_all [hollowB]; done) | (rw [Bool.eq_iff_iff]; simp_all [hollowB]; omega)
theorem span_ret {T : Tab} (h : Fn T F.below_Span below_Span.fn) (hh : Fn T F.below_hollow below_hollow.fn) (hw : Fn T F.below_worth below_worth.fn) (h0 : Fn T F.tens_Cmp tens_Cmp.fn) (h1 : Fn T F.tens_size tens_size.fn) (h2 : Fn T F.tens_split tens_split.fn) (h3 : Fn T F.tens_Formed tens_Formed.fn) (a b : Sp) (ba : Bounds a) (bb : Bounds b) :
    Ret T F.below_Span [.val a.av, .val b.av] (one (.bool (spanIn a b))) := by
  have r := hollow_ret hh hw h0 h1 h2 h3 a ba
  have w1 := fun (p : ¬ b.1 = []) (q : ¬ a.1 = []) => worth_ret hw h0 h1 h2 h3 b.1 a.1 (bb.lo p) (ba.lo q) bb.l1 ba.l1
  have w2 := fun (p : ¬ b.2 = []) (q : ¬ a.2 = []) => worth_ret hw h0 h1 h2 h3 a.2 b.2 (ba.hi q) (bb.hi p) ba.l2 bb.l2
  refine Ret.mk h rfl ?_
  simp only [Sp.av] at *
  repeat' (first | refine zA ?_ | refine WQ.cl hh.modes ?_ | refine W1.cl hh.modes (r) ?_ | refine WQ.cl hw.modes ?_ | refine W1.cl hw.modes (w1 (by first | assumption | (clear r w1 w2; simp_all)) (by first | assumption | (clear r w1 w2; simp_all))) ?_ | refine WQ.cl hw.modes ?_ | refine W1.cl hw.modes (w2 (by first | assumption | (clear r w1 w2; simp_all)) (by first | assumption | (clear r w1 w2; simp_all))) ?_ | refine zB ?_ | (refine zC ?_ ?_ <;> intro hc; all_goals first | (cases hc; done) | ((try simp only [hc]); (try simp only [bm] at hc))) | refine zE ?_ | refine zNT ?_ | fail)
  all_goals refine Qend.boo rfl rfl ?_
  all_goals clear r w1 w2
  all_goals first | (simp_all [spanIn]; done) | (simp_all [spanIn]; omega) | (rw [Bool.eq_iff_iff]; simp_all [spanIn]; done) | (rw [Bool.eq_iff_iff]; simp_all [spanIn]; omega)
theorem refHollow_ret {T : Tab} (h : Fn T F.hallmarkref12_Hollow hallmarkref12_Hollow.fn) (h1 : Fn T F.hallmarkref03_Numbers hallmarkref03_Numbers.fn) (h2 : Fn T F.hallmarkref03_Texts hallmarkref03_Texts.fn) (a : Sp) (ba : Bounds a) :
    Ret T F.hallmarkref12_Hollow [.val a.av] (one (.bool (hollowB a))) := by
  have w := fun (p : ¬ a.1 = []) (q : ¬ a.2 = []) => refNumbers_ret h1 h2 a.1 a.2 (ba.lo p) (ba.hi q) ba.l1 ba.l2
  refine Ret.mk h rfl ?_
  rw [Sp.av]
  repeat' (first | refine zA ?_ | refine WQ.cl h1.modes ?_ | refine W1.cl h1.modes (w (by first | assumption | simp_all) (by first | assumption | simp_all)) ?_ | refine zB ?_ | (refine zC ?_ ?_ <;> intro hc; all_goals first | (cases hc; done) | ((try simp only [hc]); (try simp only [bm] at hc))) | refine zE ?_ | refine zNT ?_ | fail)
  all_goals refine Qend.boo rfl rfl ?_
  all_goals clear w
  all_goals first | (simp_all [hollowB]; done) | (simp_all [hollowB]; omega) | (rw [Bool.eq_iff_iff]; simp_all [hollowB]; done) | (rw [Bool.eq_iff_iff]; simp_all [hollowB]; omega)
theorem refSpan_ret {T : Tab} (h : Fn T F.hallmarkref12_Span hallmarkref12_Span.fn) (hh : Fn T F.hallmarkref12_Hollow hallmarkref12_Hollow.fn) (h1 : Fn T F.hallmarkref03_Numbers hallmarkref03_Numbers.fn) (h2 : Fn T F.hallmarkref03_Texts hallmarkref03_Texts.fn) (a b : Sp) (ba : Bounds a) (bb : Bounds b) :
    ∃ x : Bool, x = (hollowB a || (!(!(b.1 == []) && ((a.1 == []) || decide (zcmp a.1 b.1 < 0))) && ((b.2 == []) || (!(a.2 == []) && decide (zcmp a.2 b.2 ≤ 0))))) ∧ Ret T F.hallmarkref12_Span [.val a.av, .val b.av] (one (.bool x)) := by
  refine ⟨_, rfl, ?_⟩
  have r := refHollow_ret hh h1 h2 a ba
  have w1 := fun (p : ¬ b.1 = []) (q : ¬ a.1 = []) => refNumbers_ret h1 h2 a.1 b.1 (ba.lo q) (bb.lo p) ba.l1 bb.l1
  have w2 := fun (p : ¬ b.2 = []) (q : ¬ a.2 = []) => refNumbers_ret h1 h2 a.2 b.2 (ba.hi q) (bb.hi p) ba.l2 bb.l2
  refine Ret.mk h rfl ?_
  simp only [Sp.av] at *
  repeat' (first | refine zA ?_ | refine WQ.cl hh.modes ?_ | refine W1.cl hh.modes (r) ?_ | refine WQ.cl h1.modes ?_ | refine W1.cl h1.modes (w1 (by first | assumption | (clear r w1 w2; simp_all)) (by first | assumption | (clear r w1 w2; simp_all))) ?_ | refine WQ.cl h1.modes ?_ | refine W1.cl h1.modes (w2 (by first | assumption | (clear r w1 w2; simp_all)) (by first | assumption | (clear r w1 w2; simp_all))) ?_ | refine zB ?_ | (refine zC ?_ ?_ <;> intro hc; all_goals first | (cases hc; done) | ((try simp only [hc]); (try simp only [bm] at hc))) | refine zE ?_ | refine zNT ?_ | fail)
  all_goals refine Qend.boo rfl rfl ?_
  all_goals clear r w1 w2
  all_goals first | (simp_all; done) | (simp_all; omega) | (rw [Bool.eq_iff_iff]; simp_all; done) | (rw [Bool.eq_iff_iff]; simp_all; omega)
def boundsB (s : Sp) : Bool := ((s.1 == []) || number s.1) && ((s.2 == []) || number s.2)
theorem bounds12_ret {T : Tab} (h : Fn T F.hallmarklaw12_bounds hallmarklaw12_bounds.fn) (h1 : Fn T F.hallmarkref03_Number hallmarkref03_Number.fn) (s : Sp) (l1 : s.1.length ≤ 1073741824) (l2 : s.2.length ≤ 1073741824) : Ret T F.hallmarklaw12_bounds [.val s.av] (one (.bool (boundsB s))) := by
  have w1 := refNumber_ret h1 s.1 l1
  have w2 := refNumber_ret h1 s.2 l2
  refine Ret.mk h rfl ?_
  rw [Sp.av]
  repeat' (first | refine zA ?_ | refine WQ.cl h1.modes ?_ | refine W1.cl h1.modes (w1) ?_ | refine WQ.cl h1.modes ?_ | refine W1.cl h1.modes (w2) ?_ | refine zB ?_ | (refine zC ?_ ?_ <;> intro hc; all_goals first | (cases hc; done) | ((try simp only [hc]); (try simp only [bm] at hc))) | refine zE ?_ | refine zNT ?_ | fail)
  all_goals refine Qend.boo rfl rfl ?_
  all_goals clear w1 w2
  all_goals first | (simp_all [boundsB]; done) | (simp_all [boundsB]; omega) | (rw [Bool.eq_iff_iff]; simp_all [boundsB]; done) | (rw [Bool.eq_iff_iff]; simp_all [boundsB]; omega)
end Hm

/- Comparisons part by part, and of lists. Conditions: none (definitions and plain lemmas). -/
namespace Hm
/-- A comparison that sets things in a row, up to what it does not look at. -/
structure Pre {α : Type} (P : α → Prop) (c : α → α → Int) : Prop where
  rng : ∀ a b, P a → P b → -1 ≤ c a b ∧ c a b ≤ 1
  anti : ∀ a b, P a → P b → c a b = - c b a
  trans : ∀ a b d, P a → P b → P d → c a b ≤ 0 → c b d ≤ 0 → c a d ≤ 0
def orI (x y : Int) : Int := if x = 0 then y else x
theorem orI0 (y : Int) : orI 0 y = y := rfl
theorem orI_ne {x y : Int} (h : x ≠ 0) : orI x y = x := by simp [orI, h]
theorem orI_zero {x y : Int} (h : orI x y = 0) : x = 0 ∧ y = 0 := by
  unfold orI at h
  split at h
  · exact ⟨by assumption, h⟩
  · exact absurd h (by assumption)
section
variable {α β : Type} {P : α → Prop} {Q : β → Prop} {c c1 c2 : α → α → Int}
theorem Good.pre (h : Good P c) : Pre P c := ⟨h.rng, h.anti, h.trans⟩
theorem Pre.refl (h : Pre P c) {a : α} (ha : P a) : c a a = 0 := by have := h.anti a a ha ha; omega
theorem Pre.eq0 (h : Pre P c) {a b d : α} (ha : P a) (hb : P b) (hd : P d) (h1 : c a b = 0) (h2 : c b d = 0) : c a d = 0 := by
  have k1 := h.anti a b ha hb
  have k2 := h.anti b d hb hd
  have k3 := h.anti a d ha hd
  have := h.trans a b d ha hb hd (by omega) (by omega)
  have := h.trans d b a hd hb ha (by omega) (by omega)
  omega
theorem Pre.lt (h : Pre P c) {a b d : α} (ha : P a) (hb : P b) (hd : P d) (h1 : c a b < 0) (h2 : c b d ≤ 0) : c a d < 0 := by
  have k1 := h.anti a b ha hb
  have k3 := h.anti a d ha hd
  have := h.trans a b d ha hb hd (by omega) (by omega)
  by_cases h0 : c a d = 0
  · have := h.trans b d a hb hd ha h2 (by omega); omega
  · omega
theorem Pre.lt' (h : Pre P c) {a b d : α} (ha : P a) (hb : P b) (hd : P d) (h1 : c a b ≤ 0) (h2 : c b d < 0) : c a d < 0 := by
  have k1 := h.anti b d hb hd
  have k3 := h.anti a d ha hd
  have := h.trans a b d ha hb hd (by omega) (by omega)
  by_cases h0 : c a d = 0
  · have := h.trans d a b hd ha hb (by omega) h1; omega
  · omega
theorem Pre.or_trans (h : Pre P c) {a b d : α} (ha : P a) (hb : P b) (hd : P d) {x y z : Int} (h1 : orI (c a b) x ≤ 0) (h2 : orI (c b d) y ≤ 0) (h3 : x ≤ 0 → y ≤ 0 → z ≤ 0) : orI (c a d) z ≤ 0 := by
  by_cases e1 : c a b = 0
  · rw [e1, orI0] at h1
    by_cases e2 : c b d = 0
    · rw [e2, orI0] at h2
      rw [h.eq0 ha hb hd e1 e2, orI0]; exact h3 h1 h2
    · rw [orI_ne e2] at h2
      have := h.lt' ha hb hd (by omega) (by omega : c b d < 0)
      rw [orI_ne (by omega)]; omega
  · rw [orI_ne e1] at h1
    have hbd : c b d ≤ 0 := by
      by_cases e2 : c b d = 0
      · omega
      · rw [orI_ne e2] at h2; exact h2
    have := h.lt ha hb hd (by omega : c a b < 0) hbd
    rw [orI_ne (by omega)]; omega
theorem Pre.or_anti (h : Pre P c) {a b : α} (ha : P a) (hb : P b) {x y : Int} (h1 : x = - y) : orI (c a b) x = - orI (c b a) y := by
  have := h.anti a b ha hb
  by_cases e : c a b = 0
  · have : c b a = 0 := by omega
    rw [e, this, orI0, orI0]; exact h1
  · rw [orI_ne e, orI_ne (by omega)]; exact this
theorem Pre.or_rng (h : Pre P c) {a b : α} (ha : P a) (hb : P b) {x : Int} (h1 : -1 ≤ x ∧ x ≤ 1) : -1 ≤ orI (c a b) x ∧ orI (c a b) x ≤ 1 := by
  unfold orI; split
  · exact h1
  · exact h.rng a b ha hb
theorem Pre.or (h1 : Pre P c1) (h2 : Pre P c2) : Pre P fun a b => orI (c1 a b) (c2 a b) where
  rng a b ha hb := h1.or_rng ha hb (h2.rng a b ha hb)
  anti a b ha hb := h1.or_anti ha hb (h2.anti a b ha hb)
  trans a b d ha hb hd k1 k2 := h1.or_trans ha hb hd k1 k2 (h2.trans a b d ha hb hd)
theorem Pre.comap {f : α → β} {c : β → β → Int} (h : Pre Q c) (hp : ∀ a, P a → Q (f a)) : Pre P fun a b => c (f a) (f b) where
  rng a b ha hb := h.rng _ _ (hp a ha) (hp b hb)
  anti a b ha hb := h.anti _ _ (hp a ha) (hp b hb)
  trans a b d ha hb hd := h.trans _ _ _ (hp a ha) (hp b hb) (hp d hd)
theorem Pre.mono {P' : α → Prop} (h : Pre P c) (hp : ∀ a, P' a → P a) : Pre P' c where
  rng a b ha hb := h.rng _ _ (hp a ha) (hp b hb)
  anti a b ha hb := h.anti _ _ (hp a ha) (hp b hb)
  trans a b d ha hb hd := h.trans _ _ _ (hp a ha) (hp b hb) (hp d hd)
theorem Pre.congr {c' : α → α → Int} (h : Pre P c) (e : ∀ a b, c' a b = c a b) : Pre P c' where
  rng a b ha hb := by rw [e]; exact h.rng a b ha hb
  anti a b ha hb := by rw [e, e]; exact h.anti a b ha hb
  trans a b d ha hb hd := by rw [e, e, e]; exact h.trans a b d ha hb hd
def lcmp (c : α → α → Int) : List α → List α → Int
  | [], [] => 0
  | [], _ :: _ => -1
  | _ :: _, [] => 1
  | a :: l, b :: m => orI (c a b) (lcmp c l m)
theorem Pre.list (h : Pre P c) : Pre (fun l : List α => ∀ x ∈ l, P x) (lcmp c) where
  rng := by
    intro l
    induction l with
    | nil => intro m _ _; cases m <;> simp [lcmp]
    | cons a l ih =>
      intro m hl hm
      cases m with
      | nil => simp [lcmp]
      | cons b m => exact h.or_rng (hl a (by simp)) (hm b (by simp)) (ih m (fun x hx => hl x (by simp [hx])) (fun x hx => hm x (by simp [hx])))
  anti := by
    intro l
    induction l with
    | nil => intro m _ _; cases m <;> simp [lcmp]
    | cons a l ih =>
      intro m hl hm
      cases m with
      | nil => simp [lcmp]
      | cons b m => exact h.or_anti (hl a (by simp)) (hm b (by simp)) (ih m (fun x hx => hl x (by simp [hx])) (fun x hx => hm x (by simp [hx])))
  trans := by
    intro l
    induction l with
    | nil => intro m n _ _ _ _ _; cases n <;> simp [lcmp]
    | cons a l ih =>
      intro m n hl hm hn h1 h2
      cases m with
      | nil => simp [lcmp] at h1
      | cons b m =>
        cases n with
        | nil => simp [lcmp] at h2
        | cons d n =>
          exact h.or_trans (hl a (by simp)) (hm b (by simp)) (hn d (by simp)) h1 h2 (ih m n (fun x hx => hl x (by simp [hx])) (fun x hx => hm x (by simp [hx])) (fun x hx => hn x (by simp [hx])))
theorem lcmp_eq (he : ∀ a b, P a → P b → c a b = 0 → a = b) : ∀ (l m : List α), (∀ x ∈ l, P x) → (∀ x ∈ m, P x) → lcmp c l m = 0 → l = m
  | [], [], _, _, _ => rfl
  | [], _ :: _, _, _, h => by simp [lcmp] at h
  | _ :: _, [], _, _, h => by simp [lcmp] at h
  | a :: l, b :: m, hl, hm, h => by
    obtain ⟨h1, h2⟩ := orI_zero (show orI (c a b) (lcmp c l m) = 0 from h)
    rw [he a b (hl a (by simp)) (hm b (by simp)) h1, lcmp_eq he l m (fun x hx => hl x (by simp [hx])) (fun x hx => hm x (by simp [hx])) h2]
end
def icmp (a b : Int) : Int := if a < b then -1 else if a > b then 1 else 0
theorem icmp_pre : Pre (fun _ => True) icmp where
  rng a b _ _ := by unfold icmp; split <;> (try split) <;> omega
  anti a b _ _ := by unfold icmp; split <;> split <;> (try split) <;> (try split) <;> omega
  trans a b d _ _ _ h1 h2 := by
    unfold icmp at *
    by_cases e1 : a < b
    · by_cases e2 : b < d
      · rw [if_pos (by omega)]; omega
      · rw [if_neg e2] at h2
        split at h2
        · omega
        · rw [if_pos (by omega)]; omega
    · rw [if_neg e1] at h1
      split at h1
      · omega
      · by_cases e2 : b < d
        · rw [if_pos (by omega)]; omega
        · rw [if_neg e2] at h2
          split at h2
          · omega
          · rw [if_neg (by omega), if_neg (by omega)]; omega
theorem icmp_eq {a b : Int} (h : icmp a b = 0) : a = b := by
  unfold icmp at h
  split at h
  · omega
  · split at h <;> omega
theorem zcmp_pre : Pre (fun _ => True) zcmp where
  rng a b _ _ := by
    have h1 := ncmp_good.rng (b.drop 1) (a.drop 1) trivial trivial
    have h2 := ncmp_good.rng a b trivial trivial
    simp only [List.drop_one] at h1
    simp only [zcmp]; cases minus a <;> cases minus b <;> simp <;> first | exact h1 | exact h2
  anti a b _ _ := by
    have h1 := ncmp_good.anti (b.drop 1) (a.drop 1) trivial trivial
    have h2 := ncmp_good.anti a b trivial trivial
    simp only [zcmp]; cases minus a <;> cases minus b <;> simp <;> first | exact h2 | simpa using h1
  trans a b d _ _ _ h1 h2 := by
    have t1 := ncmp_good.trans a b d trivial trivial trivial
    have t2 := ncmp_good.trans (d.drop 1) (b.drop 1) (a.drop 1) trivial trivial trivial
    simp only [zcmp] at *
    cases ma : minus a <;> cases mb : minus b <;> cases md : minus d <;> simp [ma, mb, md] at *
    all_goals first
      | exact t1 h1 h2
      | exact t2 h2 h1
      | omega
end Hm

/- Which types lie in others, and which have nothing in common: plain laws. Conditions: none (definitions and plain lemmas). -/
namespace Hm
open Go (IntKind)
set_option maxRecDepth 4000
def openT : Ty := kindT true true true true true true true
def laidT (t : Ty) : Ty := if t.all then openT else t
/-- An alternative's field of a name, and whether it must be there. -/
def fldO (o : Ob) (s : Str) : Ty := (lkA o.names o.fields s).getD o.rest
def mstO (o : Ob) (s : Str) : Bool := (lkA o.names o.must s).getD false
def blwA (F : Ty → Ty → Bool) (b a : Ar) : Bool := !(decide (b.min > a.min) || (decide (b.max ≥ 0) && (decide (a.max < 0) || decide (a.max > b.max)))) && (decide (a.max = 0) || F b.item a.item)
def blwS (F : Ty → Ty → Bool) (b a : Ob) (s : Str) : Bool := !(mstO b s && !mstO a s) && F (fldO b s) (fldO a s)
def blwO (F : Ty → Ty → Bool) (b a : Ob) : Bool := (a.names ++ b.names).all (blwS F b a) && F b.rest a.rest
def wordsB (b x : Ty) : Bool := (!x.nul || b.nul) && (!x.fls || b.fls) && (!x.tru || b.tru)
def numsB (b x : Ty) : Bool := match x.nums with | [] => true | s :: _ => match b.nums with | [] => false | t :: _ => spanIn s t
def textsB (b x : Ty) : Bool := if b.anyText || x.anyText then b.anyText else x.texts.all fun s => b.texts.contains s
def arrsB (F : Ty → Ty → Bool) (b x : Ty) : Bool := match x.arrays with | [] => true | p :: _ => match b.arrays with | [] => false | q :: _ => blwA F q p
def objsB (F : Ty → Ty → Bool) (b x : Ty) : Bool := x.objects.all fun o => b.objects.any fun q => blwO F q o
def bodyB (F : Ty → Ty → Bool) (b x : Ty) : Bool := wordsB b x && numsB b x && textsB b x && arrsB F b x && objsB F b x
/-- Is a second type known to lie in a first? (Number: how deep it is looked.) -/
def blwN : Nat → Ty → Ty → Bool
  | 0, b, a => never a || b.all
  | n + 1, b, a => never a || b.all || bodyB (blwN n) b (laidT a)
def lowS (a b : Str) : Str := if (a == []) || (!(b == []) && decide (zcmp a b < 0)) then b else a
def uppS (a b : Str) : Str := if (a == []) || (!(b == []) && decide (zcmp a b > 0)) then b else a
def aptW (x y : Ty) : Bool := (!x.nul || !y.nul) && (!x.fls || !y.fls) && (!x.tru || !y.tru)
def aptI (x y : Ty) : Bool := match x.nums with | [] => true | s :: _ => match y.nums with | [] => true | t :: _ => hollowB (lowS s.1 t.1, uppS s.2 t.2)
def aptX (x y : Ty) : Bool := if x.anyText || y.anyText then !(x.anyText && y.anyText) && decide (x.texts.length = 0) && decide (y.texts.length = 0) else !(x.texts.any fun s => y.texts.contains s)
def aptR (F : Ty → Ty → Bool) (p q : Ar) : Bool := (decide (p.max ≥ 0) && decide (p.max < max p.min q.min)) || (decide (q.max ≥ 0) && decide (q.max < max p.min q.min)) || (decide (max p.min q.min > 0) && F p.item q.item)
def aptA (F : Ty → Ty → Bool) (x y : Ty) : Bool := match x.arrays with | [] => true | p :: _ => match y.arrays with | [] => true | q :: _ => aptR F p q
def aptS (F : Ty → Ty → Bool) (a b : Ob) (s : Str) : Bool := (mstO a s || mstO b s) && F (fldO a s) (fldO b s)
def aptU (F : Ty → Ty → Bool) (a b : Ob) : Bool := (a.names ++ b.names).any (aptS F a b)
def aptO (F : Ty → Ty → Bool) (x y : Ty) : Bool := x.objects.all fun a => y.objects.all fun b => aptU F a b
def aptB (F : Ty → Ty → Bool) (x y : Ty) : Bool := aptW x y && aptI x y && aptX x y && aptA F x y && aptO F x y
/-- Are two types known to have nothing in common? -/
def aptN : Nat → Ty → Ty → Bool
  | 0, _, _ => false
  | n + 1, a, b => aptB (aptN n) (laidT a) (laidT b)
/-! ### What is of a type laid out -/
theorem laid_formed {t : Ty} (h : tformed t = true) : tformed (laidT t) = true := by
  unfold laidT
  split
  · decide
  · exact h
theorem inT_laid {v : V} (hv : formed v = true) (t : Ty) : inT v (laidT t) = inT v t := by
  unfold laidT
  split
  · next h =>
    have k0 := (formed_inv hv).1
    rw [openT, inT_kind hv, inT_eq, inBody, h]
    unfold selB
    simp
  · rfl
theorem laid_all (t : Ty) : (laidT t).all = false := by
  unfold laidT
  split
  · rfl
  · next h => simpa using h
theorem never_in {v : V} (hv : formed v = true) {t : Ty} (h : never t = true) : inT v t = false := by
  simp only [never, bare, Bool.and_eq_true, Bool.not_eq_true', Bool.or_eq_false_iff, decide_eq_true_eq] at h
  obtain ⟨ha, ⟨⟨⟨⟨⟨⟨h1, h2⟩, h3⟩, h4⟩, h5⟩, h6⟩, h7⟩, h8⟩ := h
  rw [inT_eq, inBody, ha, h1, h2, h3, h4, List.length_eq_zero_iff.1 h5, List.length_eq_zero_iff.1 h6, List.length_eq_zero_iff.1 h7, List.length_eq_zero_iff.1 h8]
  simp
/-! ### Alternatives as what they say of each name -/
theorem lkA_some_mem {α : Type} : ∀ {ks : List Str} {xs : List α} {k : Str} {y : α}, lkA ks xs k = some y → k ∈ ks
  | [], xs, k, y, h => by cases xs <;> simp [lkA] at h
  | a :: r, [], k, y, h => by simp [lkA] at h
  | a :: r, b :: xs, k, y, h => by
    rw [lkA] at h
    split at h
    · next e => simp [e]
    · exact List.mem_cons_of_mem _ (lkA_some_mem h)
theorem lkA_out {α : Type} {ks : List Str} {xs : List α} {k : Str} (h : k ∉ ks) : lkA ks xs k = none := by
  cases e : lkA ks xs k with
  | none => rfl
  | some y => exact absurd (lkA_some_mem e) h
theorem fldO_out {o : Ob} {s : Str} (h : s ∉ o.names) : fldO o s = o.rest := by rw [fldO, lkA_out h]; rfl
theorem mstO_out {o : Ob} {s : Str} (h : s ∉ o.names) : mstO o s = false := by rw [mstO, lkA_out h]; rfl
theorem fldO_mem (o : Ob) (s : Str) : fldO o s ∈ o.fields ∨ fldO o s = o.rest := by
  unfold fldO
  cases h : lkA o.names o.fields s with
  | none => exact .inr rfl
  | some x => exact .inl (lkA_mem h)
/-- A well shaped alternative. -/
structure ObOk (o : Ob) : Prop where
  l1 : o.names.length = o.fields.length
  l2 : o.names.length = o.must.length
  asc : o.names.Pairwise fun a b => binA.bLess a b = true
  rest : tformed o.rest = true
  flds : fieldsOk o.fields o.must = true
theorem ObOk.of {o : Ob} (h : obOk o = true) : ObOk o := by
  rw [obOk_eq] at h
  simp only [Bool.and_eq_true, decide_eq_true_eq] at h
  exact ⟨h.1.1.1.1, h.1.1.1.2, asc_of_rise h.1.1.2, h.1.2, h.2⟩
theorem ObOk.fld {o : Ob} (h : ObOk o) (s : Str) : tformed (fldO o s) = true := by
  rcases fldO_mem o s with hm | hm
  · exact fieldsOk_mem h.flds _ hm
  · rw [hm]; exact h.rest
theorem must_never : ∀ {ks : List Str} {fs : List Ty} {ms : List Bool} {s : Str} {t : Ty}, ks.length = ms.length → fieldsOk fs ms = true → lkA ks ms s = some true → lkA ks fs s = some t → never t = false
  | [], fs, ms, s, t, _, _, h, _ => by cases ms <;> simp [lkA] at h
  | k :: ks, [], ms, s, t, _, _, _, h => by simp [lkA] at h
  | k :: ks, f :: fs, [], s, t, _, _, h, _ => by simp [lkA] at h
  | k :: ks, f :: fs, m :: ms, s, t, hl, hf, hm, ht => by
    simp only [fieldsOk, List.headD_cons, List.tail_cons, Bool.and_eq_true, Bool.not_eq_true', Bool.and_eq_false_iff] at hf
    rw [lkA] at hm ht
    split at hm
    · next e =>
      rw [if_pos e] at ht
      cases hm; cases ht
      rcases hf.1.2 with h | h
      · cases h
      · exact h
    · next e =>
      rw [if_neg e] at ht
      exact must_never (by simpa using hl) hf.2 hm ht
theorem lkA_isSome {α β : Type} : ∀ {ks : List Str} {xs : List α} {ys : List β} {s : Str}, xs.length = ys.length → (lkA ks xs s).isSome = (lkA ks ys s).isSome
  | [], xs, ys, s, _ => by cases xs <;> cases ys <;> rfl
  | k :: ks, [], [], s, _ => rfl
  | k :: ks, [], y :: ys, s, h => by simp at h
  | k :: ks, x :: xs, [], s, h => by simp at h
  | k :: ks, x :: xs, y :: ys, s, h => by
    rw [lkA, lkA]
    split
    · rfl
    · exact lkA_isSome (by simpa using h)
theorem ObOk.must {o : Ob} (h : ObOk o) {s : Str} (hm : mstO o s = true) : never (fldO o s) = false := by
  have e := lkA_isSome (ks := o.names) (xs := o.fields) (ys := o.must) (s := s) (by have := h.l1; have := h.l2; omega)
  unfold mstO at hm
  unfold fldO
  cases h1 : lkA o.names o.must s with
  | none => rw [h1] at hm; cases hm
  | some m =>
    rw [h1] at hm e
    simp only [Option.getD_some] at hm
    subst hm
    cases h2 : lkA o.names o.fields s with
    | none => rw [h2] at e; cases e
    | some t => exact must_never h.l2 h.flds h1 h2
theorem tobj_ok {t : Ty} (h : tformed t = true) : ∀ o ∈ t.objects, ObOk o := by
  intro o ho
  rw [tformed_eq] at h
  simp only [Bool.and_eq_true, List.all_eq_true] at h
  exact ObOk.of (h.2.2.2 o ho)
/-- What an alternative asks of an object: for each name. -/
theorem inOb_iff {fs : List (Ty → Bool)} {ks : List Str} {o : Ob} (hk : ks.Pairwise fun a b => binA.bLess a b = true) (hl : ks.length = fs.length) (ho : ObOk o) :
    inObB fs ks o = true ↔ ∀ s, (∀ g, lkA ks fs s = some g → g (fldO o s) = true) ∧ (lkA ks fs s = none → mstO o s = false) := by
  rw [inObB, Bool.and_eq_true, List.all_eq_true, List.all_eq_true]
  have l1 := ho.l1
  have l2 := ho.l2
  constructor
  · rintro ⟨h1, h2⟩ s
    by_cases hs : s ∈ o.names
    · obtain ⟨i, hi⟩ := List.mem_iff_getElem?.1 hs
      have hil : i < o.names.length := (List.getElem?_eq_some_iff.1 hi).1
      have q := h1 i (List.mem_range.2 hil)
      have e1 : fldO o s = o.fields.getD i neverT := by
        rw [fldO, lkA_at ho.asc hi, List.getD]
        rw [List.getElem?_eq_getElem (by omega)]; rfl
      have e2 : mstO o s = o.must.getD i false := by
        rw [mstO, lkA_at ho.asc hi, List.getD]
      rw [inObN, List.getD, hi, Option.getD_some] at q
      rw [e1, e2]
      constructor
      · intro g hg; rw [hg] at q; exact q
      · intro hg; rw [hg] at q; simpa using q
    · rw [fldO_out hs, mstO_out hs]
      refine ⟨fun g hg => ?_, fun _ => rfl⟩
      obtain ⟨j, hj⟩ := List.mem_iff_getElem?.1 (lkA_some_mem hg)
      have hjl : j < ks.length := (List.getElem?_eq_some_iff.1 hj).1
      have q := h2 j (List.mem_range.2 hjl)
      rw [lkA_at hk hj] at hg
      rw [inObK, List.getD, hj, Option.getD_some, List.getD, hg, Option.getD_some, Bool.or_eq_true, List.contains_iff_mem] at q
      exact q.resolve_left hs
  · intro h
    constructor
    · intro i hi
      have hil := List.mem_range.1 hi
      have hi : o.names[i]? = some o.names[i] := List.getElem?_eq_getElem hil
      have q := h o.names[i]
      have e1 : fldO o o.names[i] = o.fields.getD i neverT := by
        rw [fldO, lkA_at ho.asc hi, List.getD]
        rw [List.getElem?_eq_getElem (by omega)]; rfl
      have e2 : mstO o o.names[i] = o.must.getD i false := by
        rw [mstO, lkA_at ho.asc hi, List.getD]
      rw [e1, e2] at q
      rw [inObN, List.getD, hi, Option.getD_some]
      cases hg : lkA ks fs o.names[i] with
      | none => simp only [q.2 hg, Bool.not_false]
      | some g => exact q.1 g hg
    · intro j hj
      have hjl := List.mem_range.1 hj
      have hj : ks[j]? = some ks[j] := List.getElem?_eq_getElem hjl
      have hf : fs[j]? = some (fs[j]'(by omega)) := List.getElem?_eq_getElem (by omega)
      rw [inObK, List.getD, hj, Option.getD_some, List.getD, hf, Option.getD_some, Bool.or_eq_true, List.contains_iff_mem]
      by_cases hs : ks[j] ∈ o.names
      · exact .inl hs
      · right
        have q := (h ks[j]).1 (fs[j]'(by omega)) (by rw [lkA_at hk hj, hf])
        rw [fldO_out hs] at q
        exact q
theorem blwO_names {F : Ty → Ty → Bool} {b a : Ob} (h : blwO F b a = true) (s : Str) : (mstO b s = true → mstO a s = true) ∧ F (fldO b s) (fldO a s) = true := by
  rw [blwO, Bool.and_eq_true, List.all_eq_true] at h
  by_cases hs : s ∈ a.names ++ b.names
  · have q := h.1 s hs
    rw [blwS, Bool.and_eq_true, Bool.not_eq_true', Bool.and_eq_false_iff, Bool.not_eq_false'] at q
    refine ⟨fun hm => ?_, q.2⟩
    rcases q.1 with q | q
    · rw [hm] at q; cases q
    · exact q
  · have h1 : s ∉ a.names := fun hm => hs (List.mem_append.2 (.inl hm))
    have h2 : s ∉ b.names := fun hm => hs (List.mem_append.2 (.inr hm))
    rw [mstO_out h2, fldO_out h1, fldO_out h2]
    exact ⟨(fun e => by cases e), h.2⟩
theorem blwO_of {F : Ty → Ty → Bool} {b a : Ob} (h : ∀ s, (mstO b s = true → mstO a s = true) ∧ F (fldO b s) (fldO a s) = true) (hr : F b.rest a.rest = true) : blwO F b a = true := by
  rw [blwO, Bool.and_eq_true, List.all_eq_true]
  refine ⟨fun s _ => ?_, hr⟩
  rw [blwS, (h s).2, Bool.and_true]
  cases hb : mstO b s
  · rfl
  · rw [(h s).1 hb]; rfl
theorem inSpan_mono' {n : Str} {a b : Sp} (h : spanIn a b = true) (hi : inSpanB n a = true) : inSpanB n b = true := by
  simp only [inSpanB, Bool.and_eq_true, Bool.not_eq_true', Bool.and_eq_false_iff, Bool.not_eq_false', Bool.or_eq_true, beq_iff_eq, decide_eq_true_eq, decide_eq_false_iff_not] at *
  simp only [spanIn, hollowB, Bool.and_eq_true, Bool.or_eq_true, Bool.not_eq_true', beq_eq_false_iff_ne, beq_iff_eq, decide_eq_true_eq] at h
  obtain ⟨i1, i2⟩ := hi
  rcases h with ⟨⟨h1, h2⟩, h3⟩ | ⟨h1, h2⟩
  · exfalso
    have j1 := i1.resolve_left h1
    have j2 := i2.resolve_left h2
    have k1 := zcmp_pre.anti a.1 n trivial trivial
    have := zcmp_pre.trans a.1 n a.2 trivial trivial trivial (by omega) j2
    omega
  · constructor
    · rcases h1 with h1 | ⟨h1, h3⟩
      · exact .inl h1
      · by_cases hb : b.1 = []
        · exact .inl hb
        · right
          have j1 := i1.resolve_left h1
          have k1 := zcmp_pre.anti a.1 n trivial trivial
          have k2 := zcmp_pre.trans b.1 a.1 n trivial trivial trivial h3 (by omega)
          have k3 := zcmp_pre.anti b.1 n trivial trivial
          omega
    · rcases h2 with h2 | ⟨h2, h3⟩
      · exact .inl h2
      · by_cases hb : b.2 = []
        · exact .inl hb
        · right
          have j2 := i2.resolve_left h2
          exact zcmp_pre.trans n a.2 b.2 trivial trivial trivial j2 h3
/-! ### Below is true -/
theorem blwN_sound (n : Nat) : ∀ (b a : Ty), tformed a = true → tformed b = true → blwN n b a = true → ∀ v, formed v = true → inT v a = true → inT v b = true := by
  induction n with
  | zero =>
    intro b a ha hb h v hv hi
    rw [blwN, Bool.or_eq_true] at h
    rcases h with h | h
    · rw [never_in hv h] at hi; cases hi
    · rw [inT_eq, inBody, h]; rfl
  | succ n ih =>
    intro b a ha hb h v hv hi
    rw [blwN, Bool.or_eq_true, Bool.or_eq_true] at h
    rcases h with (h | h) | h
    · rw [never_in hv h] at hi; cases hi
    · rw [inT_eq, inBody, h]; rfl
    · rw [← inT_laid hv a] at hi
      have hx := laid_formed ha
      have hxa := laid_all a
      generalize laidT a = x at *
      obtain ⟨p1, p2, p3⟩ := tformed_parts hx
      obtain ⟨q1, q2, q3⟩ := tformed_parts hb
      have fi := formed_inv hv
      simp only [bodyB, Bool.and_eq_true] at h
      obtain ⟨⟨⟨⟨hw, hn⟩, ht⟩, hr⟩, ho⟩ := h
      rw [inT_eq, inBody, hxa, Bool.false_or] at hi
      rw [inT_eq, inBody, Bool.or_eq_true]
      right
      simp only [wordsB, Bool.and_eq_true, Bool.or_eq_true, Bool.not_eq_true'] at hw
      rcases kinds7 hv with (hk | hk | hk) | hk | hk | hk | hk
      · rw [hk] at hi ⊢
        simp only [if_true] at hi ⊢
        rcases hw.1.1 with h | h
        · rw [hi] at h; cases h
        · exact h
      · rw [hk] at hi ⊢
        simp only [show ¬ ((1 : Int) = 0) by decide, if_true, if_false] at hi ⊢
        rcases hw.1.2 with h | h
        · rw [hi] at h; cases h
        · exact h
      · rw [hk] at hi ⊢
        simp only [show ¬ ((2 : Int) = 0) by decide, show ¬ ((2 : Int) = 1) by decide, if_true, if_false] at hi ⊢
        rcases hw.2 with h | h
        · rw [hi] at h; cases h
        · exact h
      · have hnum := fi.2.1 hk
        rw [hk] at hi ⊢
        simp only [show ¬ ((3 : Int) = 0) by decide, show ¬ ((3 : Int) = 1) by decide, show ¬ ((3 : Int) = 2) by decide, if_true, if_false] at hi ⊢
        rw [numsB] at hn
        cases e1 : x.nums with
        | nil => rw [e1] at hi; cases hi
        | cons s r =>
          rw [e1] at hi hn
          simp only at hi hn
          cases e2 : b.nums with
          | nil => rw [e2] at hn; cases hn
          | cons t r' =>
            rw [e2] at hn
            simp only at hn ⊢
            have b1 := p1 s (by rw [e1]; simp)
            have b2 := q1 t (by rw [e2]; simp)
            exact inSpan_mono' hn hi
      · rw [hk] at hi ⊢
        simp only [show ¬ ((4 : Int) = 0) by decide, show ¬ ((4 : Int) = 1) by decide, show ¬ ((4 : Int) = 2) by decide, show ¬ ((4 : Int) = 3) by decide, if_true, if_false] at hi ⊢
        rw [textsB] at ht
        rw [Bool.or_eq_true] at hi ⊢
        split at ht
        · exact .inl ht
        · next hc =>
          rw [Bool.or_eq_true, not_or] at hc
          exact .inr (List.all_eq_true.1 ht _ (List.contains_iff_mem.1 (hi.resolve_left hc.2)))
      · rw [hk] at hi ⊢
        simp only [show ¬ ((5 : Int) = 0) by decide, show ¬ ((5 : Int) = 1) by decide, show ¬ ((5 : Int) = 2) by decide, show ¬ ((5 : Int) = 3) by decide, show ¬ ((5 : Int) = 4) by decide, if_true, if_false] at hi ⊢
        rw [arrsB] at hr
        cases e1 : x.arrays with
        | nil => rw [e1] at hi; cases hi
        | cons p r =>
          rw [e1] at hi hr
          simp only at hi hr
          cases e2 : b.arrays with
          | nil => rw [e2] at hr; cases hr
          | cons q r' =>
            rw [e2] at hr
            simp only at hr ⊢
            have b1 := p2 p (by rw [e1]; simp)
            have b2 := q2 q (by rw [e2]; simp)
            simp only [blwA, inArB, Bool.and_eq_true, Bool.or_eq_true, Bool.not_eq_true', Bool.or_eq_false_iff, Bool.and_eq_false_iff, decide_eq_true_eq, decide_eq_false_iff_not, List.all_eq_true, List.length_map, List.mem_map, forall_exists_index, and_imp, forall_apply_eq_imp_iff₂] at hi hr ⊢
            obtain ⟨⟨i1, i2⟩, i3⟩ := hi
            obtain ⟨⟨r1, r2⟩, r3⟩ := hr
            refine ⟨⟨by omega, by omega⟩, fun y hy => ?_⟩
            rcases r3 with r3 | r3
            · have : v.items.length ≠ 0 := fun h0 => by rw [List.length_eq_zero_iff.1 h0] at hy; cases hy
              omega
            · exact ih q.item p.item b1 b2 r3 y (fi.2.2.2.2.2.2.2.2 y hy) (i3 y hy)
      · have hkl := (fi.2.2.2.2.2.2.2.1 hk)
        rw [hk] at hi ⊢
        simp only [show ¬ ((6 : Int) = 0) by decide, show ¬ ((6 : Int) = 1) by decide, show ¬ ((6 : Int) = 2) by decide, show ¬ ((6 : Int) = 3) by decide, show ¬ ((6 : Int) = 4) by decide, show ¬ ((6 : Int) = 5) by decide, if_false] at hi ⊢
        rw [List.any_eq_true] at hi ⊢
        obtain ⟨oa, hoa, hia⟩ := hi
        have q := List.all_eq_true.1 ho oa hoa
        rw [List.any_eq_true] at q
        obtain ⟨ob, hob, hlies⟩ := q
        refine ⟨ob, hob, ?_⟩
        have ka := tobj_ok hx oa hoa
        have kb := tobj_ok hb ob hob
        have asc := asc_of_rise hkl.2
        rw [inOb_iff asc (by rw [List.length_map]; exact hkl.1) ka] at hia
        rw [inOb_iff asc (by rw [List.length_map]; exact hkl.1) kb]
        intro s
        obtain ⟨m1, m2⟩ := blwO_names hlies s
        obtain ⟨n1, n2⟩ := hia s
        constructor
        · intro g hg
          have n1 := n1 g hg
          rw [lkA_map] at hg
          cases hy : lkA v.keys v.items s with
          | none => rw [hy] at hg; cases hg
          | some y =>
            rw [hy] at hg
            cases hg
            exact ih _ _ (ka.fld s) (kb.fld s) m2 y (fi.2.2.2.2.2.2.2.2 y (lkA_mem hy)) n1
        · intro hg
          have n2 := n2 hg
          cases hm : mstO ob s
          · rfl
          · rw [m1 hm] at n2; cases n2
end Hm

/- Types of kinds, kinds of types, in the reference. Conditions: see each theorem. NORMX NORMY -/
namespace Hm
open Go (IntKind)
set_option maxHeartbeats 40000000
set_option maxRecDepth 4000
/-- The number of a list of kinds. -/
def kst (acc : Int) (i : Nat) (b : Bool) : Int := if b then IntKind.wrap .u8 ((BitVec.ofInt (IntKind.bits .u8) acc ||| BitVec.ofInt (IntKind.bits .u8) (IntKind.wrap .u8 (1 * 2 ^ (min (Int.toNat (i : Int)) (IntKind.bits .u8))))).toNat : Int) else acc
def kfl : List Bool → Nat → Int → Int
  | [], _, acc => acc
  | b :: r, i, acc => kfl r (i + 1) (kst acc i b)
theorem kfl_snoc (b : Bool) : ∀ (l : List Bool) (i : Nat) (acc : Int), kfl (l ++ [b]) i acc = kst (kfl l i acc) (i + l.length) b
  | [], i, acc => rfl
  | c :: r, i, acc => by simp only [List.cons_append, kfl, kfl_snoc b r, List.length_cons]; congr 1; omega
def tKinds (t : Ty) : List Bool := [t.nul, t.fls, t.tru, decide ((t.nums.length : Int) > 0), t.anyText || decide ((t.texts.length : Int) > 0), decide ((t.arrays.length : Int) > 0), decide ((t.objects.length : Int) > 0)]
def tK (t : Ty) : Int := if t.all then 127 else kfl (tKinds t) 0 0
theorem kinds_ret {T : Tab} (h : Fn T F.shape_Kinds shape_Kinds.fn) (t : Ty) : Ret T F.shape_Kinds [.val t.av] (one (.int .u8 (tK t))) := by
  have key : ∀ l : List Bool, l.length = 7 → W T (.loop [3, 34, 35] shape_Kinds.l1) ⟨lstE [(3, .av (.int .u8 0)), (34, .av (.agg (l.map AV.bool))), (35, .av (.int .i64 0))], lstB [(3, none), (34, none), (35, none)]⟩
      (Qblk 0 (Qseq T (.seq (.reg shape_Kinds.r10 [2]) .ret) (Qend shape_Kinds.fn [.val t.av] (one (.int .u8 (kfl l 0 0)))))) := by
    intro l hl
    refine W.list l (fun i (_ : Unit) => ⟨lstE [(3, .av (.int .u8 (kfl (l.take i) 0 0))), (34, .av (.agg (l.map AV.bool))), (35, .av (.int .i64 (i : Int)))], lstB [(3, none), (34, none), (35, none)]⟩) (fun _ _ => True) () rfl trivial ?_ ?_
    · intro i b u hx hi _
      have hx' : (l.map AV.bool)[i]? = some (AV.bool b) := by rw [List.getElem?_map, hx]; rfl
      have e : kfl (l.take (i + 1)) 0 0 = kst (kfl (l.take i) 0 0) i b := by
        rw [List.take_add_one, hx, show (some b).toList = [b] from rfl, kfl_snoc, List.length_take, Nat.min_eq_left (by omega), Nat.zero_add]
      repeat' (first | refine zA ?_ | ((apply W1.idxA1; (iterate 3 exact rfl); omega; omega; exact hx')) | refine zB ?_ | (refine zC ?_ ?_ <;> intro hc; all_goals first | (cases hc; done) | ((try simp only [hc]); (try simp only [bm] at hc))) | refine zE ?_ | refine zNV ?_ | fail)
      all_goals refine ⟨(), trivial, ?_⟩
      all_goals rw [e]
      all_goals simp only [kst, if_true, if_false, Bool.false_eq_true, *]
      all_goals first | rfl | trace_state
    · intro u _
      repeat' (first | refine zA ?_ | refine zB ?_ | (refine zC ?_ ?_ <;> intro hc; all_goals first | (cases hc; done) | ((try simp only [hc]); (try simp only [bm] at hc))) | refine zE ?_ | refine zNV ?_ | fail)
      rw [List.take_length]
      exact Qend.num rfl rfl rfl
  refine Ret.mk h rfl ?_
  have hk := key (tKinds t) rfl
  clear key
  rw [Ty.av_eq] at *
  have ht : tK t = if t.all then 127 else kfl (tKinds t) 0 0 := rfl
  by_cases ha : t.all = true
  · rw [if_pos ha] at ht
    rw [ht]
    repeat' (first | refine zA ?_ | refine zB ?_ | (refine zC ?_ ?_ <;> intro hc; all_goals first | (cases hc; done) | ((try simp only [hc]); (try simp only [bm] at hc))) | refine zE ?_ | refine zNV ?_ | fail)
    all_goals first | exact Qend.num rfl rfl rfl | (exfalso; simp_all; done)
  · rw [if_neg ha] at ht
    rw [ht]
    rw [Bool.not_eq_true] at ha
    repeat' (first | refine zA ?_ | ((apply W1.buildC; exact rfl; exact rfl; (simp only [fillC, splice, cellsOf, mkV, resTV, tvOf, one, sealRow, sealRows, Cell.shut, List.map_cons, List.map_nil, List.length_cons, List.length_nil, Nat.reduceAdd, Nat.reduceLeDiff, ↓reduceIte, Bool.false_eq_true, List.take_succ_cons, List.take_zero, List.drop_succ_cons, List.drop_zero, List.nil_append, List.cons_append]; rfl))) | (exact hk) | refine zB ?_ | (refine zC ?_ ?_ <;> intro hc; all_goals first | (cases hc; done) | ((try simp only [hc]); (try simp only [bm] at hc))) | refine zE ?_ | refine zNV ?_ | fail)
    all_goals have hl : (tKinds t).map AV.bool = [.bool t.nul, .bool t.fls, .bool t.tru, .bool (decide (((sprow t.nums).length : Int) > 0)), .bool (t.anyText || decide ((t.texts.length : Int) > 0)), .bool (decide ((t.arrays.length : Int) > 0)), .bool (decide ((t.objects.length : Int) > 0))] := (by simp only [tKinds, sprow_len, List.map_cons, List.map_nil])
    all_goals rw [hl, hc] at hk
    all_goals exact hk
end Hm

/- The search in a sorted list. Conditions: see each theorem. -/
namespace Hm
open Go (IntKind)
set_option maxHeartbeats 4000000
set_option maxRecDepth 4000
theorem isNaNs_ret {T : Tab} (h : Fn T F.slices_isNaN_string slices_isNaN_string.fn) (a : Str) : Ret T F.slices_isNaN_string [.val (.str a)] (one (.bool false)) := by
  refine Ret.mk h rfl ?_
  repeat' (first | refine zA ?_ | refine zB ?_ | (refine zC ?_ ?_ <;> intro hc; all_goals first | (cases hc; done) | ((try simp only [hc]); (try simp only [bm] at hc))) | refine zE ?_ | refine zN ?_ | fail)
  exact Qend.boo rfl rfl (by simp)
theorem lessS_ret {T : Tab} (h : Fn T F.cmp_Less_string cmp_Less_string.fn) (h2 : Fn T F.cmp_isNaN_string cmp_isNaN_string.fn) (a b : Str) : Ret T F.cmp_Less_string [.val (.str a), .val (.str b)] (one (.bool (binA.bLess a b))) := by
  have r : ∀ a, Ret T F.cmp_isNaN_string [.val (.str a)] (one (.bool false)) := fun a => by
    refine Ret.mk h2 rfl ?_
    repeat' (first | refine zA ?_ | refine zB ?_ | (refine zC ?_ ?_ <;> intro hc; all_goals first | (cases hc; done) | ((try simp only [hc]); (try simp only [bm] at hc))) | refine zE ?_ | refine zN ?_ | fail)
    exact Qend.boo rfl rfl (by simp)
  refine Ret.mk h rfl ?_
  repeat' (first | refine zA ?_ | refine WQ.cl h2.modes ?_ | refine W1.cl h2.modes (r _) ?_ | refine zB ?_ | (refine zC ?_ ?_ <;> intro hc; all_goals first | (cases hc; done) | ((try simp only [hc]); (try simp only [bm] at hc))) | refine zE ?_ | refine zN ?_ | fail)
  all_goals first | (refine Qend.boo rfl rfl ?_; simp_all; done) | (exfalso; simp_all; done)
theorem binSearch_ret {T : Tab} (h : Fn T F.slices_BinarySearch_Lstring_string slices_BinarySearch_Lstring_string.fn) (hl : Fn T F.cmp_Less_string cmp_Less_string.fn) (h2 : Fn T F.cmp_isNaN_string cmp_isNaN_string.fn)
    (h3 : Fn T F.slices_isNaN_string slices_isNaN_string.fn) (l : List Str) (hb : l.length ≤ 1073741824) (k : Str) (p : Nat) (hp : p ≤ l.length) (hs : ∀ i x, l[i]? = some x → (binA.bLess x k = true ↔ i < p)) :
    Ret T F.slices_BinarySearch_Lstring_string [.val (.lst 1 (srow l)), .val (.str k)] (two (.int .i64 (p : Nat)) (.bool (decide (l[p]? = some k)))) := by
  have e1 := srow_len l
  refine Ret.mk h rfl ?_
  repeat' (first | refine zA ?_ | refine zB ?_ | (refine zC ?_ ?_ <;> intro hc; all_goals first | (cases hc; done) | ((try simp only [hc]); (try simp only [bm] at hc))) | refine zE ?_ | refine zN ?_ | fail)
  refine W.iterP (β := Nat × Nat) (fun b s => (s.put 7 (.av (.int .i64 (b.1 : Int)))).put 8 (.av (.int .i64 (b.2 : Int)))) (fun b => b.1 ≤ p ∧ p ≤ b.2 ∧ b.2 ≤ l.length) (fun b => b.2 - b.1) (0, l.length) ⟨by omega, hp, by omega⟩ ?_ ?_
  · rfl
  · rintro ⟨i, j⟩ ⟨q1, q2, q3⟩
    simp only at q1 q2 q3
    by_cases hij : i < j
    · obtain ⟨x, hx⟩ : ∃ x, l[(i + j) / 2]? = some x := ⟨l[(i + j) / 2]'(by omega), List.getElem?_eq_getElem (by omega)⟩
      have hh : (srow l)[(((i : Int) + (j : Int)) / 2).toNat]? = some [.str x] := by
        rw [show (((i : Int) + (j : Int)) / 2).toNat = (i + j) / 2 by omega]; exact get_srow hx
      have hc1 : (((i + j) / 2 + 1 : Nat) : Int) = ((i : Int) + (j : Int)) / 2 + 1 := by omega
      have hc2 : (((i + j) / 2 : Nat) : Int) = ((i : Int) + (j : Int)) / 2 := by omega
      have r := lessS_ret hl h2 x k
      have hsx := hs _ x hx
      repeat' (first | refine zA ?_ | ((apply W1.toU64; exact rfl; exact rfl; omega; omega)) | ((apply W1.half; exact rfl; exact rfl)) | ((apply W1.toI64; exact rfl; exact rfl; omega; omega)) | refine WQ.cl hl.modes ?_ | refine W1.cl hl.modes (r) ?_ | refine zB ?_ | (refine zC ?_ ?_ <;> intro hc; all_goals first | (cases hc; done) | ((try simp only [hc]); (try simp only [bm] at hc))) | refine zE ?_ | refine zN ?_ | fail)
      all_goals first
        | (refine ⟨((i + j) / 2 + 1, j), ⟨?_, ?_, ?_⟩, ?_, ?_⟩
           · show (i + j) / 2 + 1 ≤ p
             have := hsx.1 (by assumption); omega
           · exact q2
           · exact q3
           · show j - ((i + j) / 2 + 1) < j - i; omega
           · dsimp only; rw [hc1])
        | (refine ⟨(i, (i + j) / 2), ⟨?_, ?_, ?_⟩, ?_, ?_⟩
           · exact q1
           · show p ≤ (i + j) / 2
             have : ¬ (i + j) / 2 < p := fun hlt => by have := hsx.2 hlt; simp_all
             omega
           · show (i + j) / 2 ≤ l.length; omega
           · show (i + j) / 2 - i < j - i; omega
           · dsimp only; rw [hc2])
        | trace_state
    · obtain rfl : i = p := by omega
      obtain rfl : i = j := by omega
      by_cases hin : i < l.length
      · obtain ⟨x, hx⟩ : ∃ x, l[i]? = some x := ⟨l[i]'(by omega), List.getElem?_eq_getElem (by omega)⟩
        have r1 := isNaNs_ret h3 x
        have r2 := isNaNs_ret h3 k
        have hq : decide (l[i]? = some k) = (x == k) := by rw [hx, Bool.eq_iff_iff]; simp
        rw [hq]
        repeat' (first | refine zA ?_ | refine WQ.cl h3.modes ?_ | refine W1.cl h3.modes (r1) ?_ | refine WQ.cl h3.modes ?_ | refine W1.cl h3.modes (r2) ?_ | refine zB ?_ | (refine zC ?_ ?_ <;> intro hc; all_goals first | (cases hc; done) | ((try simp only [hc]); (try simp only [bm] at hc))) | refine zE ?_ | refine zN ?_ | fail)
        all_goals first
          | (refine Qend.two rfl rfl rfl ?_; simp_all; done)
          | (exfalso; simp_all; done)
          | trace_state
      · have hq : decide (l[i]? = some k) = false := by rw [List.getElem?_eq_none (by omega)]; simp
        rw [hq]
        repeat' (first | refine zA ?_ | refine zB ?_ | (refine zC ?_ ?_ <;> intro hc; all_goals first | (cases hc; done) | ((try simp only [hc]); (try simp only [bm] at hc))) | refine zE ?_ | refine zN ?_ | fail)
        all_goals first
          | (refine Qend.two rfl rfl rfl ?_; simp_all; done)
          | (exfalso; simp_all; done)
          | trace_state
end Hm

/- Rules that make states plain, in bags with stores. Conditions: see each theorem. -/
namespace Hm
open Go (IntKind)
theorem still_plc (n : Nat) (r : Root) (o : Nat) : (TV.plc ⟨r, [], o⟩).still n = true := by simp [TV.still]
theorem kc : (∀ (ss : List Nat) (st : St) (k : Nat), getE (st.calm ss).env k = if ss.all (fun n => (getE st.env k).still n) then getE st.env k else .und) ∧ (∀ (ss : List Nat) (st : St), (st.calm ss).boxes = st.boxes) ∧
    (∀ (n : Nat) (v : AV), (TV.av v).still n = true) ∧ (∀ (n : Nat) (cs : List Cell) (g : Bool), (TV.own cs g).still n = true) ∧ (∀ (n : Nat) (r : Root) (o : Nat), (TV.plc ⟨r, [], o⟩).still n = true) ∧
    (∀ n : Nat, TV.und.still n = true) ∧ (∀ n : Nat, TV.skp.still n = true) ∧ (∀ (n : Nat) (l : List (Option (List Cell × Bool))), (TV.tup l).still n = true) ∧ (∀ (n : Nat) (ss : List Nat) (p : Nat → Bool), (n :: ss).all p = (p n && ss.all p)) ∧ (∀ p : Nat → Bool, ([] : List Nat).all p = true) ∧ ((true && true) = true) :=
  ⟨fun _ _ _ => rfl, fun _ _ => rfl, fun _ _ => rfl, fun _ _ _ => rfl, still_plc, fun _ => rfl, fun _ => rfl, fun _ _ => rfl, fun _ _ _ => rfl, fun _ => rfl, rfl⟩
theorem zNZ {P Q : Prop} (q : Q) (k : Q → P := by intro q; simp only [kc, sprow_len, brow_len, srow_len, List.length_map, Qit, Int.toNat_natCast, entry, Opd.eat, cellsOf, TV.ofCells, allAv, Qseq, Qblk, List.map_cons, List.map_nil, putD, kp, Nat.reduceEqDiff, ↓reduceIte, beq_self_eq_true, Nat.reduceBEq, kr, sealRow, sealRows, Cell.shut, one, St.freeze, kq, List.drop_zero, List.drop_succ_cons, List.take_succ_cons, List.take_zero, List.cons_append, List.nil_append, Nat.zero_add, resTV, tvOf, List.length_cons, List.length_nil, Nat.reduceAdd]; exact q) : P := k q
end Hm

/- Types that are held against one another: bounds, words, numbers, texts, fields. NORMX NORMY NORMC Conditions: see each theorem. -/
namespace Hm
open Go (IntKind)
set_option maxHeartbeats 40000000
set_option maxRecDepth 4000
structure WoFns (T : Tab) : Prop where
  a1 : Fn T F.below_worth below_worth.fn
  a2 : Fn T F.tens_Cmp tens_Cmp.fn
  a3 : Fn T F.tens_size tens_size.fn
  a4 : Fn T F.tens_split tens_split.fn
  a5 : Fn T F.tens_Formed tens_Formed.fn
  a6 : Fn T F.below_hollow below_hollow.fn
  a7 : Fn T F.below_Span below_Span.fn
section
variable {T : Tab}
theorem lower_ret (h : Fn T F.below_lower below_lower.fn) (f : WoFns T) (a b : Str) (ha : ¬ a = [] → number a = true) (hb : ¬ b = [] → number b = true) (la : a.length ≤ 1073741824) (lb : b.length ≤ 1073741824) :
    Ret T F.below_lower [.val (.str a), .val (.str b)] (one (.str (lowS a b))) := by
  have w := fun (p : ¬ a = []) (q : ¬ b = []) => worth_ret f.a1 f.a2 f.a3 f.a4 f.a5 a b (ha p) (hb q) la lb
  refine Ret.mk h rfl ?_
  repeat' (first | refine zA ?_ | refine WQ.cl f.a1.modes ?_ | refine W1.cl f.a1.modes (w (by first | assumption | (clear w; simp_all)) (by first | assumption | (clear w; simp_all))) ?_ | refine zB ?_ | (refine zC ?_ ?_ <;> intro hc; all_goals first | (cases hc; done) | ((try simp only [hc]); (try simp only [bm] at hc))) | refine zE ?_ | refine zNZ ?_ | fail)
  all_goals refine Qend.one rfl rfl ?_
  all_goals clear w
  all_goals first | (simp_all [lowS]; done) | (simp_all [lowS]; omega)
theorem upper_ret (h : Fn T F.below_upper below_upper.fn) (f : WoFns T) (a b : Str) (ha : ¬ a = [] → number a = true) (hb : ¬ b = [] → number b = true) (la : a.length ≤ 1073741824) (lb : b.length ≤ 1073741824) :
    Ret T F.below_upper [.val (.str a), .val (.str b)] (one (.str (uppS a b))) := by
  have w := fun (p : ¬ a = []) (q : ¬ b = []) => worth_ret f.a1 f.a2 f.a3 f.a4 f.a5 a b (ha p) (hb q) la lb
  refine Ret.mk h rfl ?_
  repeat' (first | refine zA ?_ | refine WQ.cl f.a1.modes ?_ | refine W1.cl f.a1.modes (w (by first | assumption | (clear w; simp_all)) (by first | assumption | (clear w; simp_all))) ?_ | refine zB ?_ | (refine zC ?_ ?_ <;> intro hc; all_goals first | (cases hc; done) | ((try simp only [hc]); (try simp only [bm] at hc))) | refine zE ?_ | refine zNZ ?_ | fail)
  all_goals refine Qend.one rfl rfl ?_
  all_goals clear w
  all_goals first | (simp_all [uppS]; done) | (simp_all [uppS]; omega)
theorem kfl_zero : ∀ b0 b1 b2 b3 b4 b5 b6 : Bool, (kfl [b0, b1, b2, b3, b4, b5, b6] 0 0 == 0) = !(b0 || b1 || b2 || b3 || b4 || b5 || b6) := by decide
theorem tK_zero (t : Ty) : (tK t == 0) = never t := by
  unfold tK never bare
  cases t.all
  · rw [if_neg (by simp), tKinds, kfl_zero]
    rw [Bool.eq_iff_iff]
    cases t.nul <;> cases t.fls <;> cases t.tru <;> cases t.anyText <;> simp <;> omega
  · rfl
theorem bnever_ret (h : Fn T F.below_never below_never.fn) (h1 : Fn T F.shape_Kinds shape_Kinds.fn) (t : Ty) : Ret T F.below_never [.val t.av] (one (.bool (never t))) := by
  have r := kinds_ret h1 t
  refine Ret.mk h rfl ?_
  rw [Ty.av_eq] at *
  rw [← tK_zero]
  repeat' (first | refine zA ?_ | refine WQ.cl h1.modes ?_ | refine W1.cl h1.modes (r) ?_ | refine zB ?_ | (refine zC ?_ ?_ <;> intro hc; all_goals first | (cases hc; done) | ((try simp only [hc]); (try simp only [bm] at hc))) | refine zE ?_ | refine zNZ ?_ | fail)
  exact Qend.boo rfl rfl rfl
theorem words_ret (h : Fn T F.below_side_words below_side_words.fn) (x b : Ty) : Ret T F.below_side_words [.val x.av, .val b.av] (one (.bool (wordsB b x))) := by
  refine Ret.mk h rfl ?_
  rw [Ty.av_eq, Ty.av_eq, wordsB]
  generalize x.nul = x1, x.fls = x2, x.tru = x3, b.nul = y1, b.fls = y2, b.tru = y3
  repeat' (first | refine zA ?_ | refine zB ?_ | (refine zC ?_ ?_ <;> intro hc; all_goals first | (cases hc; done) | ((try simp only [hc]); (try simp only [bm] at hc))) | refine zE ?_ | refine zNZ ?_ | fail)
  all_goals refine Qend.boo rfl rfl ?_
  all_goals first | (simp_all; done) | trace_state
end
end Hm

/- Types that are held against one another: laid out, numbers, texts, fields, names. NORMX NORMY NORMC Conditions: see each theorem. -/
namespace Hm
open Go (IntKind)
set_option maxHeartbeats 40000000
set_option maxRecDepth 4000
section
variable {T : Tab}
theorem wide120 : wideT 120 = kindT false false false true true true true := by
  have e : ke 120 = false := by decide +kernel
  have e0 : kb 120 0 = false := by decide +kernel
  have e1 : kb 120 1 = false := by decide +kernel
  have e2 : kb 120 2 = false := by decide +kernel
  have e3 : kb 120 3 = true := by decide +kernel
  have e4 : kb 120 4 = true := by decide +kernel
  have e5 : kb 120 5 = true := by decide +kernel
  have e6 : kb 120 6 = true := by decide +kernel
  rw [wideT, e, e0, e1, e2, e3, e4, e5, e6]; rfl
theorem wide120_row : (wideT 120).row = [.bool false, .bool false, .bool false, .bool false, .lst 2 [[.str [], .str []]], .bool true, .lst 1 [], .lst 11 [[.bool true, .bool false, .bool false, .bool false, .lst 2 [], .bool false, .lst 1 [], .lst 11 [], .lst 12 [], .int .i64 0, .int .i64 (-1)]], .lst 12 [[.lst 1 [], .lst 9 [], .lst 1 [], .bool true, .bool false, .bool false, .bool false, .lst 2 [], .bool false, .lst 1 [], .lst 11 [], .lst 12 []]]] := by rw [wide120]; rfl
theorem laid_ret (h : Fn T F.below_laid below_laid.fn) (h0 : Fn T F.shape_OfKinds shape_OfKinds.fn) (h1 : Fn T F.shape_OfKinds_S1 shape_OfKinds_S1.fn) (h2 : Fn T F.shape_Every shape_Every.fn) (t : Ty) :
    ∃ C, sealRow C = (laidT t).row ∧ Ret T F.below_laid [.val t.av] ⟨[(C, true)], []⟩ := by
  obtain ⟨C0, c0, r⟩ := ofKinds_ret h0 h1 h2 120
  rw [wide120_row] at c0
  have main : ∃ r : CR, (∃ C, sealRow C = (laidT t).row ∧ r = ⟨[(C, true)], []⟩) ∧ Ret T F.below_laid [.val t.av] r := by
    refine Ret.ex h rfl ?_
    rw [Ty.av_eq]
    cases hA : t.all
    · have e : laidT t = t := by rw [laidT, hA]; rfl
      rw [e, Ty.row_eq, hA]
      repeat' (first | refine zA ?_ | refine zB ?_ | (refine zC ?_ ?_ <;> intro hc; all_goals first | (cases hc; done) | ((try simp only [hc]); (try simp only [bm] at hc))) | refine zE ?_ | refine zNZ ?_ | fail)
      all_goals first | (refine ⟨_, ⟨_, ?_, rfl⟩, .inr rfl, rfl, rfl⟩; first | rfl | trace_state) | (exfalso; simp_all; done) | trace_state
    · have e : laidT t = openT := by rw [laidT, hA]; rfl
      rw [e]
      repeat' (first | refine zA ?_ | (refine W1.cd1 h0.modes c0 r ?_) | refine zB ?_ | (refine zC ?_ ?_ <;> intro hc; all_goals first | (cases hc; done) | ((try simp only [hc]); (try simp only [bm] at hc))) | refine zE ?_ | refine zNZ ?_ | fail)
      all_goals first | (refine ⟨_, ⟨_, ?_, rfl⟩, .inr rfl, rfl, rfl⟩; first | rfl | trace_state) | (exfalso; simp_all; done) | trace_state
  obtain ⟨r, ⟨C, hC, rfl⟩, hr⟩ := main
  exact ⟨C, hC, hr⟩
theorem bnums_ret (h : Fn T F.below_side_nums below_side_nums.fn) (f : WoFns T) (x b : Ty) (hx : ∀ s ∈ x.nums, Bounds s) (hb : ∀ s ∈ b.nums, Bounds s) : Ret T F.below_side_nums [.val x.av, .val b.av] (one (.bool (numsB b x))) := by
  refine Ret.mk h rfl ?_
  rw [Ty.av_eq, Ty.av_eq, numsB]
  cases e1 : x.nums with
  | nil =>
    repeat' (first | refine zA ?_ | refine zB ?_ | (refine zC ?_ ?_ <;> intro hc; all_goals first | (cases hc; done) | ((try simp only [hc]); (try simp only [bm] at hc))) | refine zE ?_ | refine zNZ ?_ | fail)
    all_goals first | exact Qend.boo rfl rfl rfl | (exfalso; simp_all; done) | (exfalso; omega)
  | cons s r =>
    cases e2 : b.nums with
    | nil =>
      repeat' (first | refine zA ?_ | refine zB ?_ | (refine zC ?_ ?_ <;> intro hc; all_goals first | (cases hc; done) | ((try simp only [hc]); (try simp only [bm] at hc))) | refine zE ?_ | refine zNZ ?_ | fail)
      all_goals first | exact Qend.boo rfl rfl rfl | (exfalso; simp_all; done) | (exfalso; omega)
    | cons t r' =>
      have q := span_ret f.a7 f.a6 f.a1 f.a2 f.a3 f.a4 f.a5 s t (hx s (by rw [e1]; simp)) (hb t (by rw [e2]; simp))
      rw [Sp.av, Sp.av] at q
      have l1 : (0 : Int) < ((sprow (s :: r)).length : Nat) := by simp [sprow]
      have l2 : (0 : Int) < ((sprow (t :: r')).length : Nat) := by simp [sprow]
      repeat' (first | refine zA ?_ | ((apply W1.iadr; (iterate 3 exact rfl); omega; exact rfl)) | refine WQ.cl f.a7.modes ?_ | refine W1.cl f.a7.modes (q) ?_ | refine zB ?_ | (refine zC ?_ ?_ <;> intro hc; all_goals first | (cases hc; done) | ((try simp only [hc]); (try simp only [bm] at hc))) | refine zE ?_ | refine zNZ ?_ | fail)
      all_goals first | exact Qend.boo rfl rfl rfl | (exfalso; simp_all [sprow]; done) | (exfalso; omega) | trace_state
end
end Hm

/- Types that are held against one another: searches, fields, names. NORMX NORMY NORMC Conditions: see each theorem. -/
namespace Hm
open Go (IntKind)
set_option maxHeartbeats 40000000
set_option maxRecDepth 4000
def posS : List Str → Str → Nat
  | [], _ => 0
  | a :: r, k => if binA.bLess a k = true then posS r k + 1 else 0
theorem posS_le : ∀ (l : List Str) (k : Str), posS l k ≤ l.length
  | [], _ => Nat.le_refl _
  | a :: r, k => by have := posS_le r k; simp only [posS, List.length_cons]; split <;> omega
theorem posS_spec (k : Str) : ∀ {l : List Str}, (l.Pairwise fun a b => binA.bLess a b = true) → ∀ (i : Nat) (y : Str), l[i]? = some y → (binA.bLess y k = true ↔ i < posS l k)
  | [], _, i, y, h => by simp at h
  | f :: r, hm, i, y, h => by
    obtain ⟨h1, h2⟩ := List.pairwise_cons.1 hm
    simp only [posS]
    by_cases hf : binA.bLess f k = true
    · rw [if_pos hf]
      cases i with
      | zero => simp at h; subst h; simp [hf]
      | succ i =>
        simp only [List.getElem?_cons_succ] at h
        rw [posS_spec k h2 i y h]; omega
    · rw [if_neg hf]
      refine ⟨fun hy => ?_, fun h => by omega⟩
      cases i with
      | zero => simp at h; subst h; exact absurd hy hf
      | succ i =>
        simp only [List.getElem?_cons_succ] at h
        exact absurd (bLess_trans _ _ _ (h1 y (List.mem_of_getElem? h)) hy) hf
theorem posS_mem {l : List Str} {k : Str} (hl : l.Pairwise fun a b => binA.bLess a b = true) (h : k ∈ l) : l[posS l k]? = some k := by
  obtain ⟨i, hi⟩ := List.mem_iff_getElem?.1 h
  have h1 := posS_spec k hl i k hi
  rw [bLess_irrefl] at h1
  have hle : posS l k ≤ i := Nat.le_of_not_lt fun h => by simpa using h1.2 h
  rcases Nat.lt_or_ge (posS l k) i with hlt | hge
  · have hil := (List.getElem?_eq_some_iff.1 hi).1
    obtain ⟨y, hy⟩ : ∃ y, l[posS l k]? = some y := ⟨l[posS l k]'(by omega), List.getElem?_eq_getElem (by omega)⟩
    have h2 := posS_spec k hl (posS l k) y hy
    have h3 : binA.bLess y k = true := by
      obtain ⟨_, e1⟩ := List.getElem?_eq_some_iff.1 hy
      obtain ⟨_, e2⟩ := List.getElem?_eq_some_iff.1 hi
      have := List.pairwise_iff_getElem.1 hl (posS l k) i (by omega) hil hlt
      rw [e1, e2] at this
      exact this
    have := h2.1 h3
    omega
  · rw [show posS l k = i by omega]; exact hi
def crS (l : List Str) : List (List Cell) := (srow l).map fun r => r.map .av
theorem crS_append (a b : List Str) : crS (a ++ b) = crS a ++ crS b := by simp [crS, srow]
theorem sealRow_av : ∀ r : List AV, sealRow (r.map .av) = r
  | [] => rfl
  | x :: r => by simp only [List.map_cons, sealRow, Cell.shut, sealRow_av r]
theorem seal_mapav : ∀ l : List (List AV), sealRows (l.map fun r => r.map .av) = l
  | [] => rfl
  | x :: l => by simp only [List.map_cons, sealRows, sealRow_av, seal_mapav l]
theorem seal_crS (l : List Str) : sealRows (crS l) = srow l := seal_mapav _
/-- A call whose one result, a list, is sealed. -/
theorem W1.callDL {T : Tab} {st st' : St} {K : St → Prop} {dst : Option Nat} {gd : Option (Nat × Bool)} {f : Opd} {xs : List Opd} {g k : Nat} {first cs : List AV} {t0 t : Bool} {ms : List PMode} {l : List Arg} {ks : List Nat} {rows : List (List Cell)} {rs : List (List AV)} (hC : sealRows rows = rs)
    (hg : wanted st gd = some true) (hf : (st.opd f).fn = some (g, first, cs, t0)) (hm : T.modes g = ms) (ha : args st (ms.drop first.length) xs = some (l, t, ks, st')) (hio : hasIo l = false) (hmv : hasMv l = false)
    (hr : Ret T g (first.map .val ++ l ++ cs.map .val) ⟨[([.own k rows], false)], []⟩) (ht : (t0 || t) = false) (hk : K (putD dst (.av (.lst k rs)) st')) : W1 T ⟨dst, .call .deep f xs, gd⟩ st K := by
  refine W1.callV hg hf hm ha hio hmv hr (by rw [ht]; rfl) ?_
  show K (putD dst (.av (.lst k (sealRows rows))) st')
  rw [hC]; exact hk
section
variable {T : Tab}
structure FdFns (T : Tab) : Prop where
  a1 : Fn T F.below_field below_field.fn
  a2 : Fn T F.slices_BinarySearch_Lstring_string slices_BinarySearch_Lstring_string.fn
  a3 : Fn T F.cmp_Less_string cmp_Less_string.fn
  a4 : Fn T F.cmp_isNaN_string cmp_isNaN_string.fn
  a5 : Fn T F.slices_isNaN_string slices_isNaN_string.fn
  a6 : Fn T F.below_names below_names.fn
  m1 : T.modes F.slices_Clone_Lstring_string = [.val]
  p1 : T.prim F.slices_Clone_Lstring_string = some (pClone 1)
theorem field_ret (f : FdFns T) (o : Ob) (ho : ObOk o) (hb : o.bk ≤ 1073741824) (s : Str) : ∃ C, sealRow C = (fldO o s).row ∧ Ret T F.below_field [.val (.agg o.row), .val (.str s)] ⟨[(C, true), ([.av (.bool (mstO o s))], false)], []⟩ := by
  have hbk := Ob.bk_eq o
  have l1 := len_sbk o.names
  have q1 := ho.l1
  have q2 := ho.l2
  have e3 : (o.fields.map Ty.row).length = o.fields.length := List.length_map ..
  have e4 := brow_len o.must
  have r := binSearch_ret f.a2 f.a3 f.a4 f.a5 o.names (by omega) s (posS o.names s) (posS_le _ _) (posS_spec s ho.asc)
  have main : ∃ r : CR, (∃ C, sealRow C = (fldO o s).row ∧ r = ⟨[(C, true), ([.av (.bool (mstO o s))], false)], []⟩) ∧ Ret T F.below_field [.val (.agg o.row), .val (.str s)] r := by
    refine Ret.ex f.a1 rfl ?_
    rw [Ob.row_eq]
    by_cases hs : s ∈ o.names
    · have hp := posS_mem ho.asc hs
      have hpl := (List.getElem?_eq_some_iff.1 hp).1
      rw [hp] at r
      simp only [decide_true] at r
      generalize posS o.names s = p at *
      obtain ⟨t, ht⟩ : ∃ t, o.fields[p]? = some t := ⟨o.fields[p]'(by omega), List.getElem?_eq_getElem (by omega)⟩
      obtain ⟨m, hm⟩ : ∃ m, o.must[p]? = some m := ⟨o.must[p]'(by omega), List.getElem?_eq_getElem (by omega)⟩
      have g1 : fldO o s = t := by rw [fldO, lkA_at ho.asc hp, ht]; rfl
      have g2 : mstO o s = m := by rw [mstO, lkA_at ho.asc hp, hm]; rfl
      rw [g1, g2]
      repeat' (first | refine zA ?_ | refine WQ.cl f.a2.modes ?_ | refine W1.cl f.a2.modes (r) ?_ | ((refine WP.bagS rfl ?_)) | ((apply WBS.store; exact rfl)) | (refine WBS.cons ?_) | (refine WBS.nil ?_) | ((refine ⟨rfl, rfl, ?_⟩)) | refine zB ?_ | (refine zC ?_ ?_ <;> intro hc; all_goals first | (cases hc; done) | ((try simp only [hc]); (try simp only [bm] at hc))) | refine zE ?_ | refine zNZ ?_ | fail)
      all_goals first | (refine ⟨_, ⟨_, ?_, rfl⟩, .inr rfl, rfl, rfl⟩; rw [Ty.row_eq]; rfl) | (exfalso; simp_all; done) | trace_state
    · have hp : decide (o.names[posS o.names s]? = some s) = false := decide_eq_false fun h => hs (List.mem_of_getElem? h)
      rw [hp] at r
      rw [fldO_out hs, mstO_out hs]
      repeat' (first | refine zA ?_ | refine WQ.cl f.a2.modes ?_ | refine W1.cl f.a2.modes (r) ?_ | ((refine WP.bagS rfl ?_)) | ((apply WBS.store; exact rfl)) | (refine WBS.cons ?_) | (refine WBS.nil ?_) | ((refine ⟨rfl, rfl, ?_⟩)) | refine zB ?_ | (refine zC ?_ ?_ <;> intro hc; all_goals first | (cases hc; done) | ((try simp only [hc]); (try simp only [bm] at hc))) | refine zE ?_ | refine zNZ ?_ | fail)
      all_goals first | (refine ⟨_, ⟨_, ?_, rfl⟩, .inr rfl, rfl, rfl⟩; rw [Ty.row_eq]; rfl) | (exfalso; simp_all; done) | trace_state
  obtain ⟨r, ⟨C, hC, rfl⟩, hr⟩ := main
  exact ⟨C, hC, hr⟩
theorem names_ret (f : FdFns T) (a b : Ob) (ha : a.bk ≤ 1073741824) (hb : b.bk ≤ 1073741824) : Ret T F.below_names [.val (.agg a.row), .val (.agg b.row)] ⟨[([.own 1 (crS (a.names ++ b.names))], false)], []⟩ := by
  have l1 := len_sbk a.names
  have l2 := len_sbk b.names
  have q1 := Ob.bk_eq a
  have q2 := Ob.bk_eq b
  have e1 := srow_len a.names
  have e2 := srow_len b.names
  have e3 : (crS a.names).length = a.names.length := by simp [crS, srow]
  have r : Ret T F.slices_Clone_Lstring_string [.val (.lst 1 (srow a.names))] ⟨[([.own 1 (crS a.names)], false)], []⟩ :=
    Ret.prim f.p1 (by simp only [pClone]; rw [if_pos ⟨trivial, by rw [e1]; exact Nat.le_trans (show a.names.length ≤ 1073741824 by omega) (by decide)⟩]; rfl)
  have hlim : (crS a.names).length + (srow b.names).length ≤ limit := by
    rw [e3, e2]; exact Nat.le_trans (show a.names.length + b.names.length ≤ 2147483648 by omega) (by decide)
  have hcr : crS (a.names ++ b.names) = crS a.names ++ (srow b.names).map fun r => r.map .av := crS_append _ _
  rw [hcr]
  refine Ret.mk f.a6 rfl ?_
  rw [Ob.row_eq, Ob.row_eq]
  repeat' (first | refine zA ?_ | (refine WP.bagH rfl ?_) | (refine WB.consH ?_) | (refine ⟨rfl, ?_⟩) | refine WQ.cl f.m1 ?_ | refine W1.cl f.m1 (r) ?_ | ((apply W1.appA; exact rfl; exact rfl; exact rfl; exact hlim)) | refine zB ?_ | (refine zC ?_ ?_ <;> intro hc; all_goals first | (cases hc; done) | ((try simp only [hc]); (try simp only [bm] at hc))) | refine zE ?_ | refine zNZ ?_ | fail)
  all_goals first | exact ⟨.inr rfl, rfl, rfl⟩ | trace_state
structure CtFns (T : Tab) : Prop where
  a1 : Fn T F.slices_Contains_Lstring_string slices_Contains_Lstring_string.fn
  a2 : Fn T F.slices_Index_Lstring_string slices_Index_Lstring_string.fn
  a3 : Fn T F.slices_ContainsFunc_Lstring_string slices_ContainsFunc_Lstring_string.fn
  a4 : Fn T F.slices_IndexFunc_Lstring_string slices_IndexFunc_Lstring_string.fn
theorem cindex_ret (h : Fn T F.slices_Index_Lstring_string slices_Index_Lstring_string.fn) (l : List Str) (hl : l.length ≤ 1073741824) (k : Str) : ∃ n : Int, (0 ≤ n ↔ l.contains k = true) ∧ Ret T F.slices_Index_Lstring_string [.val (.lst 1 (srow l)), .val (.str k)] (one (.int .i64 n)) := by
  have e1 := srow_len l
  refine Ret.ex1 (g := fun n => AV.int .i64 n) (R := fun n => (0 ≤ n ↔ l.contains k = true)) h rfl ?_
  repeat' (first | refine zA ?_ | refine zB ?_ | (refine zC ?_ ?_ <;> intro hc; all_goals first | (cases hc; done) | ((try simp only [hc]); (try simp only [bm] at hc))) | refine zE ?_ | refine zNZ ?_ | fail)
  refine W.listP l (fun i (_ : Unit) s => s.put 8 (.av (.int .i64 (i : Int)))) (fun i _ => ∀ j, j < i → l[j]? ≠ some k) () (by intro j hj; omega) rfl ?_ ?_
  · intro i x u hx hi hp
    repeat' (first | refine zA ?_ | refine zB ?_ | (refine zC ?_ ?_ <;> intro hc; all_goals first | (cases hc; done) | ((try simp only [hc]); (try simp only [bm] at hc))) | refine zE ?_ | refine zNZ ?_ | fail)
    · refine ⟨_, ?_, Qend.num rfl rfl rfl⟩
      have : l.contains k = true := List.contains_iff_mem.2 (by rw [hc]; exact List.mem_of_getElem? hx)
      rw [this]; simp
    · refine ⟨(), fun j hj => ?_, rfl⟩
      by_cases e : j = i
      · subst e; rw [hx]; intro h; cases h; exact hc rfl
      · exact hp j (by omega)
  · intro u hp
    repeat' (first | refine zA ?_ | refine zB ?_ | (refine zC ?_ ?_ <;> intro hc; all_goals first | (cases hc; done) | ((try simp only [hc]); (try simp only [bm] at hc))) | refine zE ?_ | refine zNZ ?_ | fail)
    refine ⟨_, ?_, Qend.num rfl rfl rfl⟩
    have : l.contains k = false := by
      cases hcn : l.contains k
      · rfl
      · exfalso
        obtain ⟨j, hj⟩ := List.mem_iff_getElem?.1 (List.contains_iff_mem.1 hcn)
        exact hp j (List.getElem?_eq_some_iff.1 hj).1 hj
    rw [this]; simp
theorem ccontains_ret (f : CtFns T) (l : List Str) (hl : l.length ≤ 1073741824) (k : Str) : Ret T F.slices_Contains_Lstring_string [.val (.lst 1 (srow l)), .val (.str k)] (one (.bool (l.contains k))) := by
  obtain ⟨n, hn, r⟩ := cindex_ret f.a2 l hl k
  refine Ret.mk f.a1 rfl ?_
  repeat' (first | refine zA ?_ | refine WQ.cl f.a2.modes ?_ | refine W1.cl f.a2.modes (r) ?_ | refine zB ?_ | (refine zC ?_ ?_ <;> intro hc; all_goals first | (cases hc; done) | ((try simp only [hc]); (try simp only [bm] at hc))) | refine zE ?_ | refine zNZ ?_ | fail)
  refine Qend.boo rfl rfl ?_
  rw [Bool.eq_iff_iff, ← hn]; simp
theorem cindexF_ret (h : Fn T F.slices_IndexFunc_Lstring_string slices_IndexFunc_Lstring_string.fn) {p : Str → Bool} {g : Nat} {caps : List AV} {ms : List PMode} (hg : T.modes g = .val :: ms) (l : List Str) (hl : l.length ≤ 1073741824)
    (ih : ∀ x ∈ l, Ret T g (.val (.str x) :: caps.map .val) (one (.bool (p x)))) : ∃ n : Int, (0 ≤ n ↔ l.any p = true) ∧ Ret T F.slices_IndexFunc_Lstring_string [.val (.lst 1 (srow l)), .val (.clo g [] caps)] (one (.int .i64 n)) := by
  have e1 := srow_len l
  refine Ret.ex1 (g := fun n => AV.int .i64 n) (R := fun n => (0 ≤ n ↔ l.any p = true)) h rfl ?_
  repeat' (first | refine zA ?_ | refine zB ?_ | (refine zC ?_ ?_ <;> intro hc; all_goals first | (cases hc; done) | ((try simp only [hc]); (try simp only [bm] at hc))) | refine zE ?_ | refine zNZ ?_ | fail)
  refine W.listP l (fun i (_ : Unit) s => s.put 8 (.av (.int .i64 (i : Int)))) (fun i _ => (l.take i).any p = false) () (by simp) rfl ?_ ?_
  · intro i x u hx hi hp
    have r := ih x (List.mem_of_getElem? hx)
    cases ms
    all_goals skip
    repeat' (first | refine zA ?_ | refine WQ.cl hg ?_ | refine W1.cl hg (r) ?_ | refine zB ?_ | (refine zC ?_ ?_ <;> intro hc; all_goals first | (cases hc; done) | ((try simp only [hc]); (try simp only [bm] at hc))) | refine zE ?_ | refine zNZ ?_ | fail)
    all_goals clear r
    all_goals first
      | (refine ⟨_, ?_, Qend.num rfl rfl rfl⟩
         have : l.any p = true := List.any_eq_true.2 ⟨x, List.mem_of_getElem? hx, by assumption⟩
         simp [this]; done)
      | (refine ⟨(), ?_, rfl⟩
         rw [List.take_add_one, hx, List.any_append, hp]; simp_all; done)
  · intro u hp
    rw [List.take_length] at hp
    repeat' (first | refine zA ?_ | refine zB ?_ | (refine zC ?_ ?_ <;> intro hc; all_goals first | (cases hc; done) | ((try simp only [hc]); (try simp only [bm] at hc))) | refine zE ?_ | refine zNZ ?_ | fail)
    refine ⟨_, ?_, Qend.num rfl rfl rfl⟩
    rw [hp]; simp
theorem ccontainsF_ret (f : CtFns T) {p : Str → Bool} {g : Nat} {caps : List AV} {ms : List PMode} (hg : T.modes g = .val :: ms) (l : List Str) (hl : l.length ≤ 1073741824)
    (ih : ∀ x ∈ l, Ret T g (.val (.str x) :: caps.map .val) (one (.bool (p x)))) : Ret T F.slices_ContainsFunc_Lstring_string [.val (.lst 1 (srow l)), .val (.clo g [] caps)] (one (.bool (l.any p))) := by
  obtain ⟨n, hn, r⟩ := cindexF_ret f.a4 hg l hl ih
  refine Ret.mk f.a3 rfl ?_
  repeat' (first | refine zA ?_ | refine WQ.cl f.a4.modes ?_ | refine W1.cl f.a4.modes (r) ?_ | refine zB ?_ | (refine zC ?_ ?_ <;> intro hc; all_goals first | (cases hc; done) | ((try simp only [hc]); (try simp only [bm] at hc))) | refine zE ?_ | refine zNZ ?_ | fail)
  refine Qend.boo rfl rfl ?_
  rw [Bool.eq_iff_iff, ← hn]; simp
theorem btexts_ret (h : Fn T F.below_side_texts below_side_texts.fn) (h1 : Fn T F.below_side_texts_S1 below_side_texts_S1.fn) (f : CtFns T) (x b : Ty) (hx : x.bk ≤ 1073741824) (hb : b.bk ≤ 1073741824) :
    Ret T F.below_side_texts [.val x.av, .val b.av] (one (.bool (textsB b x))) := by
  have q1 := Ty.bk_eq x
  have q2 := Ty.bk_eq b
  have l1 := len_sbk x.texts
  have l2 := len_sbk b.texts
  have r1 : ∀ s : Str, Ret T F.below_side_texts_S1 [.val (.str s), .val (.vptr b.row)] (one (.bool (!b.texts.contains s))) := fun s => by
    have r := ccontains_ret f b.texts (by omega) s
    refine Ret.mk h1 rfl ?_
    rw [Ty.row_eq]
    repeat' (first | refine zA ?_ | refine WQ.cl f.a1.modes ?_ | refine W1.cl f.a1.modes (r) ?_ | refine zB ?_ | (refine zC ?_ ?_ <;> intro hc; all_goals first | (cases hc; done) | ((try simp only [hc]); (try simp only [bm] at hc))) | refine zE ?_ | refine zNZ ?_ | fail)
    exact Qend.boo rfl rfl rfl
  have r2 := ccontainsF_ret (g := F.below_side_texts_S1) (caps := [.vptr b.row]) (p := fun s => !b.texts.contains s) f h1.modes x.texts (by omega) (fun s _ => r1 s)
  have hT : textsB b x = if b.anyText || x.anyText then b.anyText else !(x.texts.any fun s => !b.texts.contains s) := by
    rw [textsB, List.not_any_eq_all_not]
    simp
  rw [hT]
  generalize (x.texts.any fun s => !b.texts.contains s) = c at *
  clear r1 hT
  refine Ret.mk h rfl ?_
  rw [Ty.row_eq] at r2
  rw [Ty.av_eq, Ty.av_eq]
  generalize b.anyText = ba at *
  generalize x.anyText = xa at *
  cases ba
  all_goals skip
  repeat' (first | refine zA ?_ | refine WQ.cl f.a3.modes ?_ | refine W1.cl f.a3.modes (r2) ?_ | refine zB ?_ | (refine zC ?_ ?_ <;> intro hc; all_goals first | (cases hc; done) | ((try simp only [hc]); (try simp only [bm] at hc))) | refine zE ?_ | refine zNZ ?_ | fail)
  all_goals first | refine Qend.boo rfl rfl ?_ | (exfalso; simp_all; done) | trace_state
  all_goals clear r2
  all_goals first | (simp_all; done) | trace_state
end
end Hm

/- Which types the program says lie in others. NORMX NORMY NORMC Conditions: see each theorem. -/
namespace Hm
open Go (IntKind)
set_option maxHeartbeats 40000000
set_option maxRecDepth 4000
section
variable {T : Tab}
theorem barrs_of (h : Fn T F.below_side_arrays below_side_arrays.fn) (hm : T.modes F.below_Below = [.val, .val]) (G : Ty → Ty → Bool) (x b : Ty)
    (ih : ∀ p ∈ x.arrays, ∀ q ∈ b.arrays, Ret T F.below_Below [.val p.item.av, .val q.item.av] (one (.bool (G q.item p.item)))) : Ret T F.below_side_arrays [.val x.av, .val b.av] (one (.bool (arrsB G b x))) := by
  refine Ret.mk h rfl ?_
  rw [Ty.av_eq, Ty.av_eq, arrsB]
  cases e1 : x.arrays with
  | nil =>
    repeat' (first | refine zA ?_ | ((refine WP.bagS rfl ?_)) | ((apply WBS.store; exact rfl)) | (refine WBS.cons ?_) | (refine WBS.nil ?_) | ((refine ⟨rfl, rfl, ?_⟩)) | refine zB ?_ | (refine zC ?_ ?_ <;> intro hc; all_goals first | (cases hc; done) | ((try simp only [hc]); (try simp only [bm] at hc))) | refine zE ?_ | refine zNZ ?_ | fail)
    all_goals first | exact Qend.boo rfl rfl rfl | (exfalso; simp_all; done) | (exfalso; omega) | trace_state
  | cons p r =>
    cases e2 : b.arrays with
    | nil =>
      repeat' (first | refine zA ?_ | ((refine WP.bagS rfl ?_)) | ((apply WBS.store; exact rfl)) | (refine WBS.cons ?_) | (refine WBS.nil ?_) | ((refine ⟨rfl, rfl, ?_⟩)) | refine zB ?_ | (refine zC ?_ ?_ <;> intro hc; all_goals first | (cases hc; done) | ((try simp only [hc]); (try simp only [bm] at hc))) | refine zE ?_ | refine zNZ ?_ | fail)
      all_goals first | exact Qend.boo rfl rfl rfl | (exfalso; simp_all; done) | (exfalso; omega) | trace_state
    | cons q r' =>
      have r1 := ih p (by rw [e1]; simp) q (by rw [e2]; simp)
      have hA : blwA G q p = (!(decide (q.min > p.min) || (decide (q.max ≥ 0) && (decide (p.max < 0) || decide (p.max > q.max)))) && (decide (p.max = 0) || G q.item p.item)) := rfl
      have l1 : (0 : Int) < (((p :: r).map Ar.row).length : Nat) := by simp
      have l2 : (0 : Int) < (((q :: r').map Ar.row).length : Nat) := by simp
      simp only []
      rw [hA]
      clear hA ih
      rw [Ty.av_eq, Ty.av_eq] at r1
      rw [List.map_cons, List.map_cons, Ar.row_eq p, Ar.row_eq q] at *
      generalize G q.item p.item = c at *
      repeat' (first | refine zA ?_ | ((apply W1.iadr; (iterate 3 exact rfl); omega; exact rfl)) | refine WQ.cl hm ?_ | refine W1.cl hm (r1) ?_ | ((refine WP.bagS rfl ?_)) | ((apply WBS.store; exact rfl)) | (refine WBS.cons ?_) | (refine WBS.nil ?_) | ((refine ⟨rfl, rfl, ?_⟩)) | refine zB ?_ | (refine zC ?_ ?_ <;> intro hc; all_goals first | (cases hc; done) | ((try simp only [hc]); (try simp only [bm] at hc))) | refine zE ?_ | refine zNZ ?_ | fail)
      all_goals first | refine Qend.boo rfl rfl ?_ | (exfalso; simp_all; done) | (exfalso; omega) | trace_state
      all_goals clear r1
      all_goals first | (simp_all; done) | (simp_all; omega) | (rw [Bool.eq_iff_iff]; simp_all; done) | (rw [Bool.eq_iff_iff]; simp_all; omega) | trace_state
theorem lies_of (f : FdFns T) (h : Fn T F.below_lies below_lies.fn) (hm : T.modes F.below_Below = [.val, .val]) (G : Ty → Ty → Bool) (a b : Ob) (ha : ObOk a) (hb : ObOk b) (la : a.bk ≤ 1073741824) (lb : b.bk ≤ 1073741824)
    (ih : ∀ s : Str, Ret T F.below_Below [.val (fldO a s).av, .val (fldO b s).av] (one (.bool (G (fldO b s) (fldO a s))))) (ihr : Ret T F.below_Below [.val a.rest.av, .val b.rest.av] (one (.bool (G b.rest a.rest)))) :
    Ret T F.below_lies [.val (.agg a.row), .val (.agg b.row)] (one (.bool (blwO G b a))) := by
  have l1 := len_sbk a.names
  have l2 := len_sbk b.names
  have q1 := Ob.bk_eq a
  have q2 := Ob.bk_eq b
  have hN := names_ret f a b la lb
  have hL : (a.names ++ b.names).length ≤ 2147483648 := by rw [List.length_append]; omega
  have fa := fun s => field_ret f a ha la s
  have fb := fun s => field_ret f b hb lb s
  have hO : blwO G b a = ((a.names ++ b.names).all (blwS G b a) && G b.rest a.rest) := rfl
  rw [hO]
  have hS : ∀ s, blwS G b a s = (!(mstO b s && !mstO a s) && G (fldO b s) (fldO a s)) := fun s => rfl
  clear hO
  generalize a.names ++ b.names = l at *
  have e1 := srow_len l
  have hse := seal_crS l
  generalize crS l = Z at *
  refine Ret.mk h rfl ?_
  rw [Ob.row_eq, Ob.row_eq] at *
  rw [Ty.av_eq, Ty.av_eq] at ihr
  repeat' (first | refine zA ?_ | ((apply W1.callDL (hm := f.a6.modes) hse; (iterate 5 exact rfl); exact hN; exact rfl)) | refine zB ?_ | (refine zC ?_ ?_ <;> intro hc; all_goals first | (cases hc; done) | ((try simp only [hc]); (try simp only [bm] at hc))) | refine zE ?_ | refine zNZ ?_ | fail)
  refine W.listP l (fun i (_ : Unit) s => s.put 15 (.av (.int .i64 (i : Int)))) (fun i _ => (l.take i).all (blwS G b a) = true) () (by simp) rfl ?_ ?_
  · intro i s u hx hi hp
    obtain ⟨Ca, ca, ra⟩ := fa s
    obtain ⟨Cb, cb, rb⟩ := fb s
    have r1 := ih s
    have hSs := hS s
    rw [Ty.av_eq, Ty.av_eq] at r1
    rw [Ty.row_eq] at ca cb
    clear fa fb ih ihr hN hS
    generalize G (fldO b s) (fldO a s) = c at *
    generalize mstO a s = ma at *
    generalize mstO b s = mb at *
    generalize fldO a s = ta at *
    generalize fldO b s = tb at *
    repeat' (first | refine zA ?_ | (refine W1.cd2 f.a1.modes ca ra ?_) | (refine W1.cd2 f.a1.modes cb rb ?_) | refine WQ.cl hm ?_ | refine W1.cl hm (r1) ?_ | refine zB ?_ | (refine zC ?_ ?_ <;> intro hc; all_goals first | (cases hc; done) | ((try simp only [hc]); (try simp only [bm] at hc))) | refine zE ?_ | refine zNZ ?_ | fail)
    all_goals clear r1 ra rb
    all_goals first
      | (refine ⟨(), ?_, rfl⟩; rw [all_take_succ hx, hp, hSs]; simp_all; done)
      | (refine Qend.boo rfl rfl ?_; rw [all_false hx (by rw [hSs]; simp_all)]; rfl)
      | (exfalso; simp_all; done)
      | trace_state
  · intro u hp
    rw [List.take_length] at hp
    rw [hp, Bool.true_and]
    repeat' (first | refine zA ?_ | refine WQ.cl hm ?_ | refine W1.cl hm (ihr) ?_ | refine zB ?_ | (refine zC ?_ ?_ <;> intro hc; all_goals first | (cases hc; done) | ((try simp only [hc]); (try simp only [bm] at hc))) | refine zE ?_ | refine zNZ ?_ | fail)
    exact Qend.boo rfl rfl rfl
end
end Hm

/- Which types the program says lie in others: objects, all of it. NORMX NORMY NORMC Conditions: see each theorem. -/
namespace Hm
open Go (IntKind)
set_option maxHeartbeats 40000000
set_option maxRecDepth 4000
section
variable {T : Tab}
theorem oindexF_ret (h : Fn T F.slices_IndexFunc_LObj_Obj slices_IndexFunc_LObj_Obj.fn) {p : Ob → Bool} {g : Nat} {cap : AV} (hg : T.modes g = [.val, .val]) (l : List Ob) (hl : l.length ≤ 1073741824)
    (ih : ∀ x ∈ l, Ret T g [.val (.agg x.row), .val cap] (one (.bool (p x)))) : ∃ n : Int, (0 ≤ n ↔ l.any p = true) ∧ Ret T F.slices_IndexFunc_LObj_Obj [.val (.lst 12 (l.map Ob.row)), .val (.clo g [] [cap])] (one (.int .i64 n)) := by
  have e1 : (l.map Ob.row).length = l.length := List.length_map ..
  refine Ret.ex1 (g := fun n => AV.int .i64 n) (R := fun n => (0 ≤ n ↔ l.any p = true)) h rfl ?_
  repeat' (first | refine zA ?_ | refine zB ?_ | (refine zC ?_ ?_ <;> intro hc; all_goals first | (cases hc; done) | ((try simp only [hc]); (try simp only [bm] at hc))) | refine zE ?_ | refine zNZ ?_ | fail)
  refine W.listP l (fun i (_ : Unit) s => s.put 8 (.av (.int .i64 (i : Int)))) (fun i _ => (l.take i).any p = false) () (by simp) rfl ?_ ?_
  · intro i x u hx hi hp
    have r := ih x (List.mem_of_getElem? hx)
    rw [Ob.row_eq] at r
    repeat' (first | refine zA ?_ | refine WQ.cl hg ?_ | refine W1.cl hg (r) ?_ | refine zB ?_ | (refine zC ?_ ?_ <;> intro hc; all_goals first | (cases hc; done) | ((try simp only [hc]); (try simp only [bm] at hc))) | refine zE ?_ | refine zNZ ?_ | fail)
    all_goals clear r
    all_goals first
      | (refine ⟨_, ?_, Qend.num rfl rfl rfl⟩
         have : l.any p = true := List.any_eq_true.2 ⟨x, List.mem_of_getElem? hx, by assumption⟩
         simp [this]; done)
      | (refine ⟨(), ?_, rfl⟩
         rw [List.take_add_one, hx, List.any_append, hp]; simp_all; done)
  · intro u hp
    rw [List.take_length] at hp
    repeat' (first | refine zA ?_ | refine zB ?_ | (refine zC ?_ ?_ <;> intro hc; all_goals first | (cases hc; done) | ((try simp only [hc]); (try simp only [bm] at hc))) | refine zE ?_ | refine zNZ ?_ | fail)
    refine ⟨_, ?_, Qend.num rfl rfl rfl⟩
    rw [hp]; simp
theorem ocontainsF_ret (h : Fn T F.slices_ContainsFunc_LObj_Obj slices_ContainsFunc_LObj_Obj.fn) (h1 : Fn T F.slices_IndexFunc_LObj_Obj slices_IndexFunc_LObj_Obj.fn) {p : Ob → Bool} {g : Nat} {cap : AV} (hg : T.modes g = [.val, .val]) (l : List Ob) (hl : l.length ≤ 1073741824)
    (ih : ∀ x ∈ l, Ret T g [.val (.agg x.row), .val cap] (one (.bool (p x)))) : Ret T F.slices_ContainsFunc_LObj_Obj [.val (.lst 12 (l.map Ob.row)), .val (.clo g [] [cap])] (one (.bool (l.any p))) := by
  obtain ⟨n, hn, r⟩ := oindexF_ret h1 hg l hl ih
  refine Ret.mk h rfl ?_
  repeat' (first | refine zA ?_ | refine WQ.cl h1.modes ?_ | refine W1.cl h1.modes (r) ?_ | refine zB ?_ | (refine zC ?_ ?_ <;> intro hc; all_goals first | (cases hc; done) | ((try simp only [hc]); (try simp only [bm] at hc))) | refine zE ?_ | refine zNZ ?_ | fail)
  refine Qend.boo rfl rfl ?_
  rw [Bool.eq_iff_iff, ← hn]; simp
theorem bobjs_of (h : Fn T F.below_side_objects below_side_objects.fn) (h1 : Fn T F.below_side_objects_S1 below_side_objects_S1.fn) (c1 : Fn T F.slices_ContainsFunc_LObj_Obj slices_ContainsFunc_LObj_Obj.fn) (c2 : Fn T F.slices_IndexFunc_LObj_Obj slices_IndexFunc_LObj_Obj.fn)
    (hm : T.modes F.below_lies = [.val, .val]) (G : Ty → Ty → Bool) (x b : Ty) (lx : x.bk ≤ 1073741824) (lb : b.bk ≤ 1073741824)
    (ih : ∀ o ∈ x.objects, ∀ q ∈ b.objects, Ret T F.below_lies [.val (.agg o.row), .val (.agg q.row)] (one (.bool (blwO G q o)))) : Ret T F.below_side_objects [.val x.av, .val b.av] (one (.bool (objsB G b x))) := by
  have q1 := Ty.bk_eq x
  have q2 := Ty.bk_eq b
  have l1 := len_obBks x.objects
  have l2 := len_obBks b.objects
  have e1 : (x.objects.map Ob.row).length = x.objects.length := List.length_map ..
  have key : ∀ o ∈ x.objects, Ret T F.slices_ContainsFunc_LObj_Obj [.val (.lst 12 (b.objects.map Ob.row)), .val (.clo F.below_side_objects_S1 [] [.vptr o.row])] (one (.bool (b.objects.any fun q => blwO G q o))) := fun o ho => by
    refine ocontainsF_ret c1 c2 h1.modes b.objects (by omega) fun q hq => ?_
    have r := ih o ho q hq
    refine Ret.mk h1 rfl ?_
    rw [Ob.row_eq, Ob.row_eq] at *
    repeat' (first | refine zA ?_ | refine WQ.cl hm ?_ | refine W1.cl hm (r) ?_ | refine zB ?_ | (refine zC ?_ ?_ <;> intro hc; all_goals first | (cases hc; done) | ((try simp only [hc]); (try simp only [bm] at hc))) | refine zE ?_ | refine zNZ ?_ | fail)
    exact Qend.boo rfl rfl rfl
  have hO : objsB G b x = x.objects.all fun o => b.objects.any fun q => blwO G q o := rfl
  rw [hO]
  clear ih hO
  refine Ret.mk h rfl ?_
  rw [Ty.av_eq, Ty.av_eq]
  repeat' (first | refine zA ?_ | refine zB ?_ | (refine zC ?_ ?_ <;> intro hc; all_goals first | (cases hc; done) | ((try simp only [hc]); (try simp only [bm] at hc))) | refine zE ?_ | refine zNZ ?_ | fail)
  refine W.listP x.objects (fun i (_ : Unit) s => s.put 10 (.av (.int .i64 (i : Int)))) (fun i _ => (x.objects.take i).all (fun o => b.objects.any fun q => blwO G q o) = true) () (by simp) rfl ?_ ?_
  · intro i o u hx hi hp
    have r := key o (List.mem_of_getElem? hx)
    have hat := all_take_succ (p := fun o => b.objects.any fun q => blwO G q o) hx
    have haf : (b.objects.any fun q => blwO G q o) = false → x.objects.all (fun o => b.objects.any fun q => blwO G q o) = false := fun e => all_false (p := fun o => b.objects.any fun q => blwO G q o) hx e
    rw [Ob.row_eq] at r
    clear key
    generalize (b.objects.any fun q => blwO G q o) = c at *
    repeat' (first | refine zA ?_ | refine WQ.cl c1.modes ?_ | refine W1.cl c1.modes (r) ?_ | refine zB ?_ | (refine zC ?_ ?_ <;> intro hc; all_goals first | (cases hc; done) | ((try simp only [hc]); (try simp only [bm] at hc))) | refine zE ?_ | refine zNZ ?_ | fail)
    all_goals clear r
    all_goals first
      | (refine ⟨(), ?_, rfl⟩; rw [hat, hp]; simp_all; done)
      | (refine Qend.boo rfl rfl ?_; rw [haf (by simp_all)]; done)
      | (exfalso; simp_all; done)
      | trace_state
  · intro u hp
    rw [List.take_length] at hp
    rw [hp]
    repeat' (first | refine zA ?_ | refine zB ?_ | (refine zC ?_ ?_ <;> intro hc; all_goals first | (cases hc; done) | ((try simp only [hc]); (try simp only [bm] at hc))) | refine zE ?_ | refine zNZ ?_ | fail)
    exact Qend.boo rfl rfl rfl
/-- What Below reaches. -/
structure BwFns (T : Tab) : Prop where
  w : WoFns T
  d : FdFns T
  c : CtFns T
  a1 : Fn T F.below_Below below_Below.fn
  a2 : Fn T F.below_lies below_lies.fn
  a3 : Fn T F.below_never below_never.fn
  a4 : Fn T F.below_laid below_laid.fn
  a5 : Fn T F.below_side_words below_side_words.fn
  a6 : Fn T F.below_side_nums below_side_nums.fn
  a7 : Fn T F.below_side_texts below_side_texts.fn
  a8 : Fn T F.below_side_texts_S1 below_side_texts_S1.fn
  a9 : Fn T F.below_side_arrays below_side_arrays.fn
  b1 : Fn T F.below_side_objects below_side_objects.fn
  b2 : Fn T F.below_side_objects_S1 below_side_objects_S1.fn
  b3 : Fn T F.slices_ContainsFunc_LObj_Obj slices_ContainsFunc_LObj_Obj.fn
  b4 : Fn T F.slices_IndexFunc_LObj_Obj slices_IndexFunc_LObj_Obj.fn
  b5 : Fn T F.shape_Kinds shape_Kinds.fn
  b6 : Fn T F.shape_OfKinds shape_OfKinds.fn
  b7 : Fn T F.shape_OfKinds_S1 shape_OfKinds_S1.fn
  b8 : Fn T F.shape_Every shape_Every.fn
theorem item_bk' {t : Ty} {a : Ar} (h : a ∈ t.arrays) : a.item.bk < t.bk := by
  have := arBk_mem h
  have := Ar.bk_eq a
  have := Ty.bk_eq t
  omega
theorem fld_bk' {t : Ty} {o : Ob} (h : o ∈ t.objects) (s : Str) : (fldO o s).bk < t.bk ∧ o.rest.bk < t.bk := by
  have := obBk_mem h
  have := Ob.bk_eq o
  have := Ty.bk_eq t
  rcases fldO_mem o s with hm | hm
  · have := tyBk_mem hm
    omega
  · rw [hm]; omega
theorem laid_bk (t : Ty) : (laidT t).bk ≤ t.bk + 100 := by
  unfold laidT
  split
  · have : openT.bk ≤ 100 := by decide
    omega
  · omega
theorem ty_bk9 (t : Ty) : 9 ≤ t.bk := by have := Ty.bk_eq t; omega
theorem spans_of {t : Ty} (h : tformed t = true) (hb : t.bk ≤ 1073741824) : ∀ s ∈ t.nums, Bounds s := fun s hs => by
  have := (tformed_parts h).1 s hs
  have l := spbk_mem hs
  have q := Ty.bk_eq t
  exact bounds_span this (by omega) (by omega)
theorem bloop {l : List (Nat × Bool)} (hl5 : l.length = 5) (f : BwFns T) {a b : Ty} {C : List Cell} (hC : sealRow C = (laidT a).row) (rl : Ret T F.below_laid [.val a.av] ⟨[(C, true)], []⟩) (hc : ∀ x ∈ l, T.modes x.1 = [.val, .val] ∧ Ret T x.1 [.val (laidT a).av, .val b.av] (one (.bool x.2))) :
    W T (.loop [2, 3, 13, 14] below_Below.l1) ⟨lstE [(2, .plc ⟨.box 2, [], 0⟩), (3, .plc ⟨.box 3, [], 0⟩), (13, .av (.agg (l.map fun x => AV.clo x.1 [] []))), (14, .av (.int .i64 0))], lstB [(2, some (a.row.map .av)), (3, some (b.row.map .av)), (13, none), (14, none)]⟩
      (Qblk 0 (Qseq T (.seq (.reg below_Below.r9 [4]) .ret) (Qend below_Below.fn [.val a.av, .val b.av] (one (.bool (l.all (·.2))))))) := by
  have e1 : (l.map fun x => AV.clo x.1 [] []).length = l.length := List.length_map ..
  rw [Ty.row_eq a, Ty.row_eq b]
  rw [Ty.av_eq] at rl
  rw [Ty.row_eq] at hC
  have hc : ∀ x ∈ l, T.modes x.1 = [.val, .val] ∧ Ret T x.1 [.val (.agg [.bool (laidT a).all, .bool (laidT a).nul, .bool (laidT a).fls, .bool (laidT a).tru, .lst 2 (sprow (laidT a).nums), .bool (laidT a).anyText, .lst 1 (srow (laidT a).texts), .lst 11 ((laidT a).arrays.map Ar.row), .lst 12 ((laidT a).objects.map Ob.row)]), .val (.agg [.bool b.all, .bool b.nul, .bool b.fls, .bool b.tru, .lst 2 (sprow b.nums), .bool b.anyText, .lst 1 (srow b.texts), .lst 11 (b.arrays.map Ar.row), .lst 12 (b.objects.map Ob.row)])] (one (.bool x.2)) := fun x hx => by
    have := hc x hx
    rwa [Ty.av_eq, Ty.av_eq] at this
  generalize laidT a = xa at *
  refine W.listP l (fun i (_ : Unit) s => s.put 14 (.av (.int .i64 (i : Int)))) (fun i _ => (l.take i).all (·.2) = true) () (by simp) rfl ?_ ?_
  · intro i x u hx hi hp
    obtain ⟨hm, r⟩ := hc x (List.mem_of_getElem? hx)
    have hx' : (l.map fun x => AV.clo x.1 [] [])[i]? = some (AV.clo x.1 [] []) := by rw [List.getElem?_map, hx]; rfl
    clear hc
    repeat' (first | refine zA ?_ | ((apply W1.idxA1; (iterate 3 exact rfl); omega; omega; exact hx')) | (refine WQ.cl f.a4.modes ?_) | (refine W1.cd1 f.a4.modes hC rl ?_) | refine WQ.cl hm ?_ | refine W1.cl hm (r) ?_ | refine zB ?_ | (refine zC ?_ ?_ <;> intro hc; all_goals first | (cases hc; done) | ((try simp only [hc]); (try simp only [bm] at hc))) | refine zE ?_ | refine zNZ ?_ | fail)
    all_goals clear r
    all_goals first
      | (refine ⟨(), ?_, rfl⟩; rw [all_take_succ hx, hp]; simp_all; done)
      | (refine Qend.boo rfl rfl ?_; rw [all_false hx (by simp_all)]; done)
      | trace_state
  · intro u hp
    rw [List.take_length] at hp
    repeat' (first | refine zA ?_ | refine zB ?_ | (refine zC ?_ ?_ <;> intro hc; all_goals first | (cases hc; done) | ((try simp only [hc]); (try simp only [bm] at hc))) | refine zE ?_ | refine zNZ ?_ | fail)
    refine Qend.boo rfl rfl ?_
    rw [hp]
theorem below_ret (f : BwFns T) (n : Nat) : ∀ (a b : Ty), a.bk ≤ 1000000000 → b.bk ≤ 1000000000 → tformed a = true → tformed b = true → b.bk < n → Ret T F.below_Below [.val a.av, .val b.av] (one (.bool (blwN n b a))) := by
  induction n with
  | zero => intro a b _ _ _ _ h; omega
  | succ n ih =>
    intro a b ha hb fa fb hn
    have r0 := bnever_ret f.a3 f.b5 a
    have hB : blwN (n + 1) b a = (never a || b.all || bodyB (blwN n) b (laidT a)) := rfl
    rw [hB]
    clear hB
    by_cases hg : never a = true ∨ b.all = true
    · have e : (never a || b.all || bodyB (blwN n) b (laidT a)) = true := by
        rcases hg with h | h <;> simp [h]
      rw [e]
      clear e ih
      refine Ret.mk f.a1 rfl ?_
      generalize never a = na at *
      rw [Ty.av_eq, Ty.av_eq] at *
      generalize b.all = ba at *
      cases na <;> cases ba
      all_goals skip
      repeat' (first | refine zA ?_ | refine WQ.cl f.a3.modes ?_ | refine W1.cl f.a3.modes (r0) ?_ | refine zB ?_ | (refine zC ?_ ?_ <;> intro hc; all_goals first | (cases hc; done) | ((try simp only [hc]); (try simp only [bm] at hc))) | refine zE ?_ | refine zNZ ?_ | fail)
      all_goals first | exact Qend.boo rfl rfl rfl | (exfalso; simp_all; done) | trace_state
    · rw [not_or, Bool.not_eq_true, Bool.not_eq_true] at hg
      obtain ⟨hna, hba⟩ := hg
      have lb := laid_bk a
      have fx := laid_formed fa
      obtain ⟨p1, p2, p3⟩ := tformed_parts fx
      obtain ⟨q1, q2, q3⟩ := tformed_parts fb
      obtain ⟨C, hC, rl⟩ := laid_ret f.a4 f.b6 f.b7 f.b8 a
      have s1 := words_ret f.a5 (laidT a) b
      have s2 := bnums_ret f.a6 f.w (laidT a) b (spans_of fx (by omega)) (spans_of fb (by omega))
      have s3 := btexts_ret f.a7 f.a8 f.c (laidT a) b (by omega) (by omega)
      have ibk : ∀ {x : Ty}, (∃ p ∈ (laidT a).arrays, x = p.item) ∨ (∃ o ∈ (laidT a).objects, (∃ s, x = fldO o s) ∨ x = o.rest) → x.bk ≤ 1000000000 := fun {x} h => by
        unfold laidT at h
        split at h
        · rcases h with ⟨p, hp, rfl⟩ | ⟨o, ho, h⟩
          · have hp : p ∈ [Ar.mk everyT 0 (-1)] := hp
            rw [List.mem_singleton.1 hp]; decide
          · have ho : o ∈ [Ob.mk [] [] [] everyT] := ho
            rw [List.mem_singleton.1 ho] at h
            rcases h with ⟨s, rfl⟩ | rfl
            · rw [fldO_out (by simp [Ob.names])]; decide
            · decide
        · rcases h with ⟨p, hp, rfl⟩ | ⟨o, ho, h⟩
          · have := item_bk' hp; omega
          · rcases h with ⟨s, rfl⟩ | rfl
            · have := (fld_bk' ho s).1; omega
            · have := (fld_bk' ho []).2; omega
      have s4 := barrs_of f.a9 f.a1.modes (blwN n) (laidT a) b fun p hp q hq => ih p.item q.item (ibk (.inl ⟨p, hp, rfl⟩)) (by have := item_bk' hq; omega) (p2 p hp) (q2 q hq) (by have := item_bk' hq; omega)
      have s5 := bobjs_of f.b1 f.b2 f.b3 f.b4 f.a2.modes (blwN n) (laidT a) b (by omega) (by omega) fun o ho q hq =>
        lies_of f.d f.a2 f.a1.modes (blwN n) o q (tobj_ok fx o ho) (tobj_ok fb q hq) (by have := obBk_mem ho; have := Ty.bk_eq (laidT a); omega) (by have := obBk_mem hq; have := Ty.bk_eq b; omega)
          (fun s => ih _ _ (ibk (.inr ⟨o, ho, .inl ⟨s, rfl⟩⟩)) (by have := (fld_bk' hq s).1; omega) ((tobj_ok fx o ho).fld s) ((tobj_ok fb q hq).fld s) (by have := (fld_bk' hq s).1; omega))
          (ih _ _ (ibk (.inr ⟨o, ho, .inr rfl⟩)) (by have := (fld_bk' hq []).2; omega) (tobj_ok fx o ho).rest (tobj_ok fb q hq).rest (by have := (fld_bk' hq []).2; omega))
      have key : (never a || b.all || bodyB (blwN n) b (laidT a)) = ([(F.below_side_words, wordsB b (laidT a)), (F.below_side_nums, numsB b (laidT a)), (F.below_side_texts, textsB b (laidT a)), (F.below_side_arrays, arrsB (blwN n) b (laidT a)), (F.below_side_objects, objsB (blwN n) b (laidT a))] : List (Nat × Bool)).all (·.2) := by
        rw [hna, hba]
        simp only [List.all_cons, List.all_nil, bodyB, Bool.false_or, Bool.and_true, Bool.and_assoc]
      have hcs : ∀ x ∈ ([(F.below_side_words, wordsB b (laidT a)), (F.below_side_nums, numsB b (laidT a)), (F.below_side_texts, textsB b (laidT a)), (F.below_side_arrays, arrsB (blwN n) b (laidT a)), (F.below_side_objects, objsB (blwN n) b (laidT a))] : List (Nat × Bool)), T.modes x.1 = [.val, .val] ∧ Ret T x.1 [.val (laidT a).av, .val b.av] (one (.bool x.2)) := by
        intro x hx
        simp only [List.mem_cons, List.not_mem_nil, or_false] at hx
        rcases hx with rfl | rfl | rfl | rfl | rfl
        · exact ⟨f.a5.modes, s1⟩
        · exact ⟨f.a6.modes, s2⟩
        · exact ⟨f.a7.modes, s3⟩
        · exact ⟨f.a9.modes, s4⟩
        · exact ⟨f.b1.modes, s5⟩
      have fin := bloop (l := [(F.below_side_words, wordsB b (laidT a)), (F.below_side_nums, numsB b (laidT a)), (F.below_side_texts, textsB b (laidT a)), (F.below_side_arrays, arrsB (blwN n) b (laidT a)), (F.below_side_objects, objsB (blwN n) b (laidT a))]) rfl f hC rl hcs
      rw [key]
      clear key hcs s1 s2 s3 s4 s5 ih
      refine Ret.mk f.a1 rfl ?_
      rw [hna] at r0
      generalize (([(F.below_side_words, wordsB b (laidT a)), (F.below_side_nums, numsB b (laidT a)), (F.below_side_texts, textsB b (laidT a)), (F.below_side_arrays, arrsB (blwN n) b (laidT a)), (F.below_side_objects, objsB (blwN n) b (laidT a))] : List (Nat × Bool)).all (·.2)) = c at *
      rw [Ty.row_eq, Ty.row_eq] at fin
      rw [Ty.av_eq, Ty.av_eq] at *
      rw [hba] at *
      repeat' (first | refine zA ?_ | refine WQ.cl f.a3.modes ?_ | refine W1.cl f.a3.modes (r0) ?_ | (exact fin) | refine zB ?_ | (refine zC ?_ ?_ <;> intro hc; all_goals first | (cases hc; done) | ((try simp only [hc]); (try simp only [bm] at hc))) | refine zE ?_ | refine zNZ ?_ | fail)
      all_goals first | (exfalso; simp_all; done) | trace_state
end
end Hm

/- What two types that are known to be apart have in common: nothing. Conditions: none (plain lemmas). -/
namespace Hm
open Go (IntKind)
set_option maxRecDepth 4000
theorem lowS_cases (a b : Str) : lowS a b = a ∨ lowS a b = b := by
  unfold lowS; split <;> simp
theorem uppS_cases (a b : Str) : uppS a b = a ∨ uppS a b = b := by
  unfold uppS; split <;> simp
def geB (n a : Str) : Prop := a = [] ∨ ¬ zcmp n a < 0
def leB (n a : Str) : Prop := a = [] ∨ zcmp n a ≤ 0
theorem inSpan_iff (n : Str) (s : Sp) : inSpanB n s = true ↔ geB n s.1 ∧ leB n s.2 := by
  simp only [inSpanB, geB, leB, Bool.and_eq_true, Bool.not_eq_true', Bool.and_eq_false_iff, Bool.not_eq_false', Bool.or_eq_true, beq_iff_eq, decide_eq_true_eq, decide_eq_false_iff_not]
theorem hollow_out {n : Str} {s : Sp} (h : hollowB s = true) (hi : inSpanB n s = true) : False := by
  rw [inSpan_iff] at hi
  simp only [hollowB, Bool.and_eq_true, Bool.not_eq_true', beq_eq_false_iff_ne, decide_eq_true_eq] at h
  obtain ⟨⟨h1, h2⟩, h3⟩ := h
  have j1 := hi.1.resolve_left h1
  have j2 := hi.2.resolve_left h2
  have k1 := zcmp_pre.anti s.1 n trivial trivial
  have := zcmp_pre.trans s.1 n s.2 trivial trivial trivial (by omega) j2
  omega
theorem aptI_in {n : Str} {s t : Sp} (hs : inSpanB n s = true) (ht : inSpanB n t = true) : hollowB (lowS s.1 t.1, uppS s.2 t.2) = false := by
  cases h : hollowB (lowS s.1 t.1, uppS s.2 t.2)
  · rfl
  · exfalso
    refine hollow_out (n := n) h ?_
    rw [inSpan_iff] at *
    constructor
    · show geB n (lowS s.1 t.1)
      rcases lowS_cases s.1 t.1 with e | e <;> rw [e]
      · exact hs.1
      · exact ht.1
    · show leB n (uppS s.2 t.2)
      rcases uppS_cases s.2 t.2 with e | e <;> rw [e]
      · exact hs.2
      · exact ht.2
theorem aptU_inv {F : Ty → Ty → Bool} {a b : Ob} (h : aptU F a b = true) : ∃ s, (mstO a s = true ∨ mstO b s = true) ∧ F (fldO a s) (fldO b s) = true := by
  rw [aptU, List.any_eq_true] at h
  obtain ⟨s, -, hs⟩ := h
  rw [aptS, Bool.and_eq_true, Bool.or_eq_true] at hs
  exact ⟨s, hs⟩
theorem mstO_mem {o : Ob} {s : Str} (h : mstO o s = true) : s ∈ o.names := by
  cases Classical.em (s ∈ o.names) with
  | inl h => exact h
  | inr h' => rw [mstO_out h'] at h; cases h
theorem aptU_of {F : Ty → Ty → Bool} {a b : Ob} {s : Str} (h : mstO a s = true ∨ mstO b s = true) (hf : F (fldO a s) (fldO b s) = true) : aptU F a b = true := by
  rw [aptU, List.any_eq_true]
  refine ⟨s, ?_, by rw [aptS, hf, Bool.and_true, Bool.or_eq_true]; exact h⟩
  rcases h with h | h
  · exact List.mem_append.2 (.inl (mstO_mem h))
  · exact List.mem_append.2 (.inr (mstO_mem h))
theorem aptN_sound (n : Nat) : ∀ (a b : Ty), tformed a = true → tformed b = true → aptN n a b = true → ∀ v, formed v = true → inT v a = true → inT v b = true → False := by
  induction n with
  | zero => intro a b _ _ h; cases h
  | succ n ih =>
    intro a b ha hb h v hv hi hj
    rw [aptN] at h
    rw [← inT_laid hv a] at hi
    rw [← inT_laid hv b] at hj
    have hx := laid_formed ha
    have hxa := laid_all a
    have hy := laid_formed hb
    have hya := laid_all b
    generalize laidT a = x at *
    generalize laidT b = y at *
    obtain ⟨p1, p2, p3⟩ := tformed_parts hx
    obtain ⟨q1, q2, q3⟩ := tformed_parts hy
    have fi := formed_inv hv
    simp only [aptB, Bool.and_eq_true] at h
    obtain ⟨⟨⟨⟨hw, hn⟩, ht⟩, hr⟩, ho⟩ := h
    rw [inT_eq, inBody, hxa, Bool.false_or] at hi
    rw [inT_eq, inBody, hya, Bool.false_or] at hj
    simp only [aptW, Bool.and_eq_true, Bool.or_eq_true, Bool.not_eq_true'] at hw
    rcases kinds7 hv with (hk | hk | hk) | hk | hk | hk | hk
    · rw [hk] at hi hj
      simp only [if_true] at hi hj
      rw [hi, hj] at hw; simp at hw
    · rw [hk] at hi hj
      simp only [show ¬ ((1 : Int) = 0) by decide, if_true, if_false] at hi hj
      rw [hi, hj] at hw; simp at hw
    · rw [hk] at hi hj
      simp only [show ¬ ((2 : Int) = 0) by decide, show ¬ ((2 : Int) = 1) by decide, if_true, if_false] at hi hj
      rw [hi, hj] at hw; simp at hw
    · rw [hk] at hi hj
      simp only [show ¬ ((3 : Int) = 0) by decide, show ¬ ((3 : Int) = 1) by decide, show ¬ ((3 : Int) = 2) by decide, if_true, if_false] at hi hj
      rw [aptI] at hn
      cases e1 : x.nums with
      | nil => rw [e1] at hi; cases hi
      | cons s r =>
        cases e2 : y.nums with
        | nil => rw [e2] at hj; cases hj
        | cons t r' =>
          rw [e1, e2] at hn
          rw [e1] at hi
          rw [e2] at hj
          simp only at hi hn hj
          rw [aptI_in hi hj] at hn; cases hn
    · rw [hk] at hi hj
      simp only [show ¬ ((4 : Int) = 0) by decide, show ¬ ((4 : Int) = 1) by decide, show ¬ ((4 : Int) = 2) by decide, show ¬ ((4 : Int) = 3) by decide, if_true, if_false] at hi hj
      rw [aptX] at ht
      rw [Bool.or_eq_true] at hi hj
      split at ht
      · next hc =>
        simp only [Bool.and_eq_true, Bool.not_eq_true', Bool.and_eq_false_iff, decide_eq_true_eq] at ht
        obtain ⟨⟨t1, t2⟩, t3⟩ := ht
        rw [List.length_eq_zero_iff] at t2 t3
        rw [t2] at hi
        rw [t3] at hj
        simp only [List.contains_nil, Bool.false_eq_true, or_false] at hi hj
        rw [hi, hj] at t1
        simp at t1
      · next hc =>
        rw [Bool.or_eq_true, not_or] at hc
        rw [Bool.not_eq_true', List.any_eq_false] at ht
        exact ht _ (List.contains_iff_mem.1 (hi.resolve_left hc.1)) (hj.resolve_left hc.2)
    · rw [hk] at hi hj
      simp only [show ¬ ((5 : Int) = 0) by decide, show ¬ ((5 : Int) = 1) by decide, show ¬ ((5 : Int) = 2) by decide, show ¬ ((5 : Int) = 3) by decide, show ¬ ((5 : Int) = 4) by decide, if_true, if_false] at hi hj
      rw [aptA] at hr
      cases e1 : x.arrays with
      | nil => rw [e1] at hi; cases hi
      | cons p r =>
        cases e2 : y.arrays with
        | nil => rw [e2] at hj; cases hj
        | cons q r' =>
          rw [e1, e2] at hr
          rw [e1] at hi
          rw [e2] at hj
          simp only at hi hr hj
          have b1 := p2 p (by rw [e1]; simp)
          have b2 := q2 q (by rw [e2]; simp)
          simp only [aptR, inArB, Bool.and_eq_true, Bool.or_eq_true, Bool.not_eq_true', Bool.or_eq_false_iff, Bool.and_eq_false_iff, decide_eq_true_eq, decide_eq_false_iff_not, List.all_eq_true, List.length_map, List.mem_map, forall_exists_index, and_imp, forall_apply_eq_imp_iff₂] at hi hr hj
          obtain ⟨⟨i1, i2⟩, i3⟩ := hi
          obtain ⟨⟨j1, j2⟩, j3⟩ := hj
          rcases hr with (hr | hr) | hr
          · omega
          · omega
          · have h0 : 0 < v.items.length := by omega
            have hm : v.items[0] ∈ v.items := List.getElem_mem h0
            exact ih _ _ b1 b2 hr.2 _ (fi.2.2.2.2.2.2.2.2 _ hm) (i3 _ hm) (j3 _ hm)
    · have hkl := (fi.2.2.2.2.2.2.2.1 hk)
      rw [hk] at hi hj
      simp only [show ¬ ((6 : Int) = 0) by decide, show ¬ ((6 : Int) = 1) by decide, show ¬ ((6 : Int) = 2) by decide, show ¬ ((6 : Int) = 3) by decide, show ¬ ((6 : Int) = 4) by decide, show ¬ ((6 : Int) = 5) by decide, if_false] at hi hj
      rw [List.any_eq_true] at hi hj
      obtain ⟨oa, hoa, hia⟩ := hi
      obtain ⟨ob, hob, hib⟩ := hj
      have q := List.all_eq_true.1 (List.all_eq_true.1 ho oa hoa) ob hob
      obtain ⟨s, m1, m2⟩ := aptU_inv q
      have ka := tobj_ok hx oa hoa
      have kb := tobj_ok hy ob hob
      have asc := asc_of_rise hkl.2
      rw [inOb_iff asc (by rw [List.length_map]; exact hkl.1) ka] at hia
      rw [inOb_iff asc (by rw [List.length_map]; exact hkl.1) kb] at hib
      obtain ⟨n1, n2⟩ := hia s
      obtain ⟨o1, o2⟩ := hib s
      have e := lkA_map inT v.keys v.items s
      cases hy' : lkA v.keys v.items s with
      | none =>
        rw [hy'] at e
        rw [n2 e, o2 e] at m1
        simp at m1
      | some y' =>
        rw [hy'] at e
        exact ih _ _ (ka.fld s) (kb.fld s) m2 y' (fi.2.2.2.2.2.2.2.2 y' (lkA_mem hy')) (n1 _ e) (o1 _ e)
end Hm

/- Which types the program says have nothing in common. NORMX NORMY NORMC Conditions: see each theorem. -/
namespace Hm
open Go (IntKind)
set_option maxHeartbeats 40000000
set_option maxRecDepth 4000
section
variable {T : Tab}
theorem awords_ret (h : Fn T F.below_side_apartWords below_side_apartWords.fn) (x y : Ty) : Ret T F.below_side_apartWords [.val x.av, .val y.av] (one (.bool (aptW x y))) := by
  refine Ret.mk h rfl ?_
  rw [Ty.av_eq, Ty.av_eq, aptW]
  generalize x.nul = x1, x.fls = x2, x.tru = x3, y.nul = y1, y.fls = y2, y.tru = y3
  repeat' (first | refine zA ?_ | refine zB ?_ | (refine zC ?_ ?_ <;> intro hc; all_goals first | (cases hc; done) | ((try simp only [hc]); (try simp only [bm] at hc))) | refine zE ?_ | refine zNZ ?_ | fail)
  all_goals refine Qend.boo rfl rfl ?_
  all_goals first | (simp_all; done) | trace_state
theorem lowS_bounds {s t : Sp} (hs : Bounds s) (ht : Bounds t) : Bounds (lowS s.1 t.1, uppS s.2 t.2) := by
  rcases lowS_cases s.1 t.1 with e | e <;> rcases uppS_cases s.2 t.2 with e' | e' <;> rw [e, e']
  · exact ⟨hs.lo, hs.hi, hs.l1, hs.l2⟩
  · exact ⟨hs.lo, ht.hi, hs.l1, ht.l2⟩
  · exact ⟨ht.lo, hs.hi, ht.l1, hs.l2⟩
  · exact ⟨ht.lo, ht.hi, ht.l1, ht.l2⟩
theorem anums_ret (h : Fn T F.below_side_apartNums below_side_apartNums.fn) (h1 : Fn T F.below_lower below_lower.fn) (h2 : Fn T F.below_upper below_upper.fn) (f : WoFns T) (x y : Ty) (hx : ∀ s ∈ x.nums, Bounds s) (hy : ∀ s ∈ y.nums, Bounds s) :
    Ret T F.below_side_apartNums [.val x.av, .val y.av] (one (.bool (aptI x y))) := by
  refine Ret.mk h rfl ?_
  rw [Ty.av_eq, Ty.av_eq, aptI]
  cases e1 : x.nums with
  | nil =>
    repeat' (first | refine zA ?_ | ((refine WP.bagS rfl ?_)) | ((apply WBS.store; exact rfl)) | (refine WBS.cons ?_) | (refine WBS.nil ?_) | ((refine ⟨rfl, rfl, ?_⟩)) | refine zB ?_ | (refine zC ?_ ?_ <;> intro hc; all_goals first | (cases hc; done) | ((try simp only [hc]); (try simp only [bm] at hc))) | refine zE ?_ | refine zNZ ?_ | fail)
    all_goals first | exact Qend.boo rfl rfl rfl | (exfalso; simp_all; done) | (exfalso; omega) | trace_state
  | cons s r =>
    cases e2 : y.nums with
    | nil =>
      repeat' (first | refine zA ?_ | ((refine WP.bagS rfl ?_)) | ((apply WBS.store; exact rfl)) | (refine WBS.cons ?_) | (refine WBS.nil ?_) | ((refine ⟨rfl, rfl, ?_⟩)) | refine zB ?_ | (refine zC ?_ ?_ <;> intro hc; all_goals first | (cases hc; done) | ((try simp only [hc]); (try simp only [bm] at hc))) | refine zE ?_ | refine zNZ ?_ | fail)
      all_goals first | exact Qend.boo rfl rfl rfl | (exfalso; simp_all; done) | (exfalso; omega) | trace_state
    | cons t r' =>
      have bs := hx s (by rw [e1]; simp)
      have bt := hy t (by rw [e2]; simp)
      have q1 := lower_ret h1 f s.1 t.1 bs.lo bt.lo bs.l1 bt.l1
      have q2 := upper_ret h2 f s.2 t.2 bs.hi bt.hi bs.l2 bt.l2
      have q3 := hollow_ret f.a6 f.a1 f.a2 f.a3 f.a4 f.a5 _ (lowS_bounds bs bt)
      rw [Sp.av] at q3
      simp only [] at q3 ⊢
      generalize hollowB (lowS s.1 t.1, uppS s.2 t.2) = c at *
      generalize lowS s.1 t.1 = lw at *
      generalize uppS s.2 t.2 = up at *
      have l1 : (0 : Int) < ((sprow (s :: r)).length : Nat) := by simp [sprow]
      have l2 : (0 : Int) < ((sprow (t :: r')).length : Nat) := by simp [sprow]
      repeat' (first | refine zA ?_ | ((apply W1.iadr; (iterate 3 exact rfl); omega; exact rfl)) | refine WQ.cl h1.modes ?_ | refine W1.cl h1.modes (q1) ?_ | refine WQ.cl h2.modes ?_ | refine W1.cl h2.modes (q2) ?_ | refine WQ.cl f.a6.modes ?_ | refine W1.cl f.a6.modes (q3) ?_ | (refine W1.bC ?_) | ((refine WP.bagS rfl ?_)) | ((apply WBS.store; exact rfl)) | (refine WBS.cons ?_) | (refine WBS.nil ?_) | ((refine ⟨rfl, rfl, ?_⟩)) | refine zB ?_ | (refine zC ?_ ?_ <;> intro hc; all_goals first | (cases hc; done) | ((try simp only [hc]); (try simp only [bm] at hc))) | refine zE ?_ | refine zNZ ?_ | fail)
      all_goals first | exact Qend.boo rfl rfl rfl | (exfalso; simp_all [sprow]; done) | (exfalso; omega) | trace_state
theorem atexts_ret (h : Fn T F.below_side_apartTexts below_side_apartTexts.fn) (h1 : Fn T F.below_side_apartTexts_S1 below_side_apartTexts_S1.fn) (f : CtFns T) (x y : Ty) (hx : x.bk ≤ 1073741824) (hy : y.bk ≤ 1073741824) :
    Ret T F.below_side_apartTexts [.val x.av, .val y.av] (one (.bool (aptX x y))) := by
  have q1 := Ty.bk_eq x
  have q2 := Ty.bk_eq y
  have l1 := len_sbk x.texts
  have l2 := len_sbk y.texts
  have e1 := srow_len x.texts
  have e2 := srow_len y.texts
  have r1 : ∀ s : Str, Ret T F.below_side_apartTexts_S1 [.val (.str s), .val (.vptr y.row)] (one (.bool (y.texts.contains s))) := fun s => by
    have r := ccontains_ret f y.texts (by omega) s
    refine Ret.mk h1 rfl ?_
    rw [Ty.row_eq]
    repeat' (first | refine zA ?_ | refine WQ.cl f.a1.modes ?_ | refine W1.cl f.a1.modes (r) ?_ | refine zB ?_ | (refine zC ?_ ?_ <;> intro hc; all_goals first | (cases hc; done) | ((try simp only [hc]); (try simp only [bm] at hc))) | refine zE ?_ | refine zNZ ?_ | fail)
    exact Qend.boo rfl rfl rfl
  have r2 := ccontainsF_ret (g := F.below_side_apartTexts_S1) (caps := [.vptr y.row]) (p := fun s => y.texts.contains s) f h1.modes x.texts (by omega) (fun s _ => r1 s)
  have hT : aptX x y = if x.anyText || y.anyText then !(x.anyText && y.anyText) && decide (x.texts.length = 0) && decide (y.texts.length = 0) else !(x.texts.any fun s => y.texts.contains s) := rfl
  rw [hT]
  generalize (x.texts.any fun s => y.texts.contains s) = c at *
  clear r1 hT
  have z : ∀ n : Nat, ((n : Int) == 0) = decide (n = 0) := fun n => by rw [Bool.eq_iff_iff]; simp
  refine Ret.mk h rfl ?_
  rw [Ty.row_eq] at r2
  rw [Ty.av_eq, Ty.av_eq]
  generalize y.anyText = ya at *
  generalize x.anyText = xa at *
  cases xa <;> cases ya
  all_goals skip
  repeat' (first | refine zA ?_ | refine WQ.cl f.a3.modes ?_ | refine W1.cl f.a3.modes (r2) ?_ | refine zB ?_ | (refine zC ?_ ?_ <;> intro hc; all_goals first | (cases hc; done) | ((try simp only [hc]); (try simp only [bm] at hc))) | refine zE ?_ | refine zNZ ?_ | fail)
  all_goals first | refine Qend.boo rfl rfl ?_ | (exfalso; simp_all; done) | trace_state
  all_goals clear r2
  all_goals first | rfl | (simp_all [z]; done) | trace_state
theorem W1.max2 {st : St} {K : St → Prop} {dst : Option Nat} {g : Option (Nat × Bool)} {x y : Opd} {a b : Int} (hg : wanted st g = some true) (hx : st.opd x = .av (.int .i64 a)) (hy : st.opd y = .av (.int .i64 b))
    (hk : K (putD dst (.av (.int .i64 (max a b))) st)) : W1 T ⟨dst, .mm true [x, y], g⟩ st K := by
  refine W1.go hg (WS.op (v := .av (.int .i64 (max a b))) (st' := st) rfl ?_ hk)
  have e : max a b = if b > a then b else a := by split <;> omega
  simp only [stepOp, avs, hx, hy, mmA, e]
  first | rfl | (split <;> simp_all)
theorem aarrs_of (h : Fn T F.below_side_apartArrays below_side_apartArrays.fn) (hm : T.modes F.below_Apart = [.val, .val]) (G : Ty → Ty → Bool) (x y : Ty)
    (ih : ∀ p ∈ x.arrays, ∀ q ∈ y.arrays, Ret T F.below_Apart [.val p.item.av, .val q.item.av] (one (.bool (G p.item q.item)))) : Ret T F.below_side_apartArrays [.val x.av, .val y.av] (one (.bool (aptA G x y))) := by
  refine Ret.mk h rfl ?_
  rw [Ty.av_eq, Ty.av_eq, aptA]
  cases e1 : x.arrays with
  | nil =>
    repeat' (first | refine zA ?_ | ((refine WP.bagS rfl ?_)) | ((apply WBS.store; exact rfl)) | (refine WBS.cons ?_) | (refine WBS.nil ?_) | ((refine ⟨rfl, rfl, ?_⟩)) | refine zB ?_ | (refine zC ?_ ?_ <;> intro hc; all_goals first | (cases hc; done) | ((try simp only [hc]); (try simp only [bm] at hc))) | refine zE ?_ | refine zNZ ?_ | fail)
    all_goals first | exact Qend.boo rfl rfl rfl | (exfalso; simp_all; done) | (exfalso; omega) | trace_state
  | cons p r =>
    cases e2 : y.arrays with
    | nil =>
      repeat' (first | refine zA ?_ | ((refine WP.bagS rfl ?_)) | ((apply WBS.store; exact rfl)) | (refine WBS.cons ?_) | (refine WBS.nil ?_) | ((refine ⟨rfl, rfl, ?_⟩)) | refine zB ?_ | (refine zC ?_ ?_ <;> intro hc; all_goals first | (cases hc; done) | ((try simp only [hc]); (try simp only [bm] at hc))) | refine zE ?_ | refine zNZ ?_ | fail)
      all_goals first | exact Qend.boo rfl rfl rfl | (exfalso; simp_all; done) | (exfalso; omega) | trace_state
    | cons q r' =>
      have r1 := ih p (by rw [e1]; simp) q (by rw [e2]; simp)
      have hA : aptR G p q = ((decide (p.max ≥ 0) && decide (p.max < max p.min q.min)) || (decide (q.max ≥ 0) && decide (q.max < max p.min q.min)) || (decide (max p.min q.min > 0) && G p.item q.item)) := rfl
      have l1 : (0 : Int) < (((p :: r).map Ar.row).length : Nat) := by simp
      have l2 : (0 : Int) < (((q :: r').map Ar.row).length : Nat) := by simp
      simp only []
      rw [hA]
      clear hA ih
      rw [Ty.av_eq, Ty.av_eq] at r1
      rw [List.map_cons, List.map_cons, Ar.row_eq p, Ar.row_eq q] at *
      generalize G p.item q.item = c at *
      repeat' (first | refine zA ?_ | ((apply W1.max2; (iterate 3 exact rfl))) | ((apply W1.iadr; (iterate 3 exact rfl); omega; exact rfl)) | refine WQ.cl hm ?_ | refine W1.cl hm (r1) ?_ | ((refine WP.bagS rfl ?_)) | ((apply WBS.store; exact rfl)) | (refine WBS.cons ?_) | (refine WBS.nil ?_) | ((refine ⟨rfl, rfl, ?_⟩)) | refine zB ?_ | (refine zC ?_ ?_ <;> intro hc; all_goals first | (cases hc; done) | ((try simp only [hc]); (try simp only [bm] at hc))) | refine zE ?_ | refine zNZ ?_ | fail)
      all_goals first | refine Qend.boo rfl rfl ?_ | (exfalso; simp_all; done) | (exfalso; omega) | trace_state
      all_goals clear r1
      all_goals first | (simp_all; done) | (simp_all; omega) | (rw [Bool.eq_iff_iff]; simp_all; done) | (rw [Bool.eq_iff_iff]; simp_all; omega) | trace_state
end
end Hm

/- Which types the program says have nothing in common: objects, all of it. NORMX NORMY NORMC Conditions: see each theorem. -/
namespace Hm
open Go (IntKind)
set_option maxHeartbeats 40000000
set_option maxRecDepth 4000
section
variable {T : Tab}
theorem unlike_of (f : FdFns T) (c : CtFns T) (h : Fn T F.below_unlike below_unlike.fn) (h1 : Fn T F.below_unlike_S1 below_unlike_S1.fn) (hm : T.modes F.below_Apart = [.val, .val]) (G : Ty → Ty → Bool) (a b : Ob) (ha : ObOk a) (hb : ObOk b) (la : a.bk ≤ 1073741824) (lb : b.bk ≤ 1073741824)
    (hl : (a.names ++ b.names).length ≤ 1073741824) (ih : ∀ s : Str, Ret T F.below_Apart [.val (fldO a s).av, .val (fldO b s).av] (one (.bool (G (fldO a s) (fldO b s))))) :
    Ret T F.below_unlike [.val (.agg a.row), .val (.agg b.row)] (one (.bool (aptU G a b))) := by
  have hN := names_ret f a b la lb
  have r1 : ∀ s : Str, Ret T F.below_unlike_S1 [.val (.str s), .val (.vptr a.row), .val (.vptr b.row)] (one (.bool (aptS G a b s))) := fun s => by
    obtain ⟨Ca, ca, ra⟩ := field_ret f a ha la s
    obtain ⟨Cb, cb, rb⟩ := field_ret f b hb lb s
    have r := ih s
    have hSs : aptS G a b s = ((mstO a s || mstO b s) && G (fldO a s) (fldO b s)) := rfl
    rw [hSs]
    clear hSs ih hN
    rw [Ty.av_eq, Ty.av_eq] at r
    rw [Ty.row_eq] at ca cb
    generalize G (fldO a s) (fldO b s) = c at *
    generalize mstO a s = ma at *
    generalize mstO b s = mb at *
    generalize fldO a s = ta at *
    generalize fldO b s = tb at *
    refine Ret.mk h1 rfl ?_
    rw [Ob.row_eq, Ob.row_eq] at *
    repeat' (first | refine zA ?_ | (refine W1.cd2 f.a1.modes ca ra ?_) | (refine W1.cd2 f.a1.modes cb rb ?_) | refine WQ.cl hm ?_ | refine W1.cl hm (r) ?_ | refine zB ?_ | (refine zC ?_ ?_ <;> intro hc; all_goals first | (cases hc; done) | ((try simp only [hc]); (try simp only [bm] at hc))) | refine zE ?_ | refine zNZ ?_ | fail)
    all_goals clear r ra rb
    all_goals first | refine Qend.boo rfl rfl ?_ | (exfalso; simp_all; done) | trace_state
    all_goals first | (simp_all; done) | trace_state
  have r2 := ccontainsF_ret (g := F.below_unlike_S1) (caps := [.vptr a.row, .vptr b.row]) (p := aptS G a b) c h1.modes (a.names ++ b.names) hl (fun s _ => r1 s)
  have hU : aptU G a b = (a.names ++ b.names).any (aptS G a b) := rfl
  rw [hU]
  have hse := seal_crS (a.names ++ b.names)
  clear hU r1 ih
  generalize (a.names ++ b.names).any (aptS G a b) = d at *
  generalize a.names ++ b.names = l at *
  generalize crS l = Z at *
  refine Ret.mk h rfl ?_
  rw [Ob.row_eq, Ob.row_eq] at *
  repeat' (first | refine zA ?_ | ((apply W1.callDL (hm := f.a6.modes) hse; (iterate 5 exact rfl); exact hN; exact rfl)) | refine WQ.cl c.a3.modes ?_ | refine W1.cl c.a3.modes (r2) ?_ | refine zB ?_ | (refine zC ?_ ?_ <;> intro hc; all_goals first | (cases hc; done) | ((try simp only [hc]); (try simp only [bm] at hc))) | refine zE ?_ | refine zNZ ?_ | fail)
  exact Qend.boo rfl rfl rfl
theorem aobjs_of (h : Fn T F.below_side_apartObjects below_side_apartObjects.fn) (hm : T.modes F.below_unlike = [.val, .val]) (G : Ty → Ty → Bool) (x y : Ty) (lx : x.bk ≤ 1073741824) (ly : y.bk ≤ 1073741824)
    (ih : ∀ a ∈ x.objects, ∀ b ∈ y.objects, Ret T F.below_unlike [.val (.agg a.row), .val (.agg b.row)] (one (.bool (aptU G a b)))) : Ret T F.below_side_apartObjects [.val x.av, .val y.av] (one (.bool (aptO G x y))) := by
  have q1 := Ty.bk_eq x
  have q2 := Ty.bk_eq y
  have l1 := len_obBks x.objects
  have l2 := len_obBks y.objects
  have e1 : (x.objects.map Ob.row).length = x.objects.length := List.length_map ..
  have e2 : (y.objects.map Ob.row).length = y.objects.length := List.length_map ..
  have hO : aptO G x y = x.objects.all fun a => y.objects.all fun b => aptU G a b := rfl
  rw [hO]
  clear hO
  refine Ret.mk h rfl ?_
  rw [Ty.av_eq, Ty.av_eq]
  repeat' (first | refine zA ?_ | refine zB ?_ | (refine zC ?_ ?_ <;> intro hc; all_goals first | (cases hc; done) | ((try simp only [hc]); (try simp only [bm] at hc))) | refine zE ?_ | refine zNZ ?_ | fail)
  refine W.listP x.objects (fun i (_ : Unit) s => s.put 12 (.av (.int .i64 (i : Int)))) (fun i _ => (x.objects.take i).all (fun a => y.objects.all fun b => aptU G a b) = true) () (by simp) rfl ?_ ?_
  · intro i a u hx hi hp
    have key := ih a (List.mem_of_getElem? hx)
    have hat := all_take_succ (p := fun a => y.objects.all fun b => aptU G a b) hx
    have haf : (y.objects.all fun b => aptU G a b) = false → x.objects.all (fun a => y.objects.all fun b => aptU G a b) = false := fun e => all_false (p := fun a => y.objects.all fun b => aptU G a b) hx e
    clear ih
    repeat' (first | refine zA ?_ | refine zB ?_ | (refine zC ?_ ?_ <;> intro hc; all_goals first | (cases hc; done) | ((try simp only [hc]); (try simp only [bm] at hc))) | refine zE ?_ | refine zNZ ?_ | fail)
    refine W.listP y.objects (fun j (_ : Unit) s => s.put 19 (.av (.int .i64 (j : Int)))) (fun j _ => (y.objects.take j).all (fun b => aptU G a b) = true) () (by simp) rfl ?_ ?_
    · intro j b v hy hj hq
      have r := key b (List.mem_of_getElem? hy)
      have hbt := all_take_succ (p := fun b => aptU G a b) hy
      have hbf : aptU G a b = false → y.objects.all (fun b => aptU G a b) = false := fun e => all_false (p := fun b => aptU G a b) hy e
      clear key
      rw [Ob.row_eq, Ob.row_eq] at r
      generalize aptU G a b = c at *
      repeat' (first | refine zA ?_ | refine WQ.cl hm ?_ | refine W1.cl hm (r) ?_ | refine zB ?_ | (refine zC ?_ ?_ <;> intro hc; all_goals first | (cases hc; done) | ((try simp only [hc]); (try simp only [bm] at hc))) | refine zE ?_ | refine zNZ ?_ | fail)
      all_goals clear r
      all_goals first
        | (refine ⟨(), ?_, rfl⟩; rw [hbt, hq]; simp_all; done)
        | (refine Qend.boo rfl rfl ?_; rw [haf (hbf (by simp_all))]; done)
        | (exfalso; simp_all; done)
        | trace_state
    · intro v hq
      rw [List.take_length] at hq
      repeat' (first | refine zA ?_ | refine zB ?_ | (refine zC ?_ ?_ <;> intro hc; all_goals first | (cases hc; done) | ((try simp only [hc]); (try simp only [bm] at hc))) | refine zE ?_ | refine zNZ ?_ | fail)
      all_goals first
        | (refine ⟨(), ?_, rfl⟩; rw [hat, hp, hq]; rfl)
        | trace_state
  · intro u hp
    rw [List.take_length] at hp
    rw [hp]
    repeat' (first | refine zA ?_ | refine zB ?_ | (refine zC ?_ ?_ <;> intro hc; all_goals first | (cases hc; done) | ((try simp only [hc]); (try simp only [bm] at hc))) | refine zE ?_ | refine zNZ ?_ | fail)
    exact Qend.boo rfl rfl rfl
/-- What Apart reaches. -/
structure ApFns (T : Tab) : Prop where
  b : BwFns T
  a1 : Fn T F.below_Apart below_Apart.fn
  a2 : Fn T F.below_unlike below_unlike.fn
  a3 : Fn T F.below_unlike_S1 below_unlike_S1.fn
  a4 : Fn T F.below_lower below_lower.fn
  a5 : Fn T F.below_upper below_upper.fn
  a6 : Fn T F.below_side_apartWords below_side_apartWords.fn
  a7 : Fn T F.below_side_apartNums below_side_apartNums.fn
  a8 : Fn T F.below_side_apartTexts below_side_apartTexts.fn
  a9 : Fn T F.below_side_apartTexts_S1 below_side_apartTexts_S1.fn
  b1 : Fn T F.below_side_apartArrays below_side_apartArrays.fn
  b2 : Fn T F.below_side_apartObjects below_side_apartObjects.fn
theorem aloop {l : List (Nat × Bool)} (hl5 : l.length = 5) {x y : Ty} {as : List Arg} (ho : ∀ st : St, outs st 0 as = some []) (hc : ∀ (i : Nat) c, l[i]? = some c → (l.take i).all (·.2) = true → T.modes c.1 = [.val, .val] ∧ Ret T c.1 [.val x.av, .val y.av] (one (.bool c.2))) :
    W T (.loop [5, 6, 13, 14] below_Apart.l1) ⟨lstE [(5, .plc ⟨.box 5, [], 0⟩), (6, .plc ⟨.box 6, [], 0⟩), (13, .av (.agg (l.map fun x => AV.clo x.1 [] []))), (14, .av (.int .i64 0))], lstB [(5, some (x.row.map .av)), (6, some (y.row.map .av)), (13, none), (14, none)]⟩
      (Qblk 0 (Qseq T (.seq (.reg below_Apart.r8 [4]) .ret) (Qend below_Apart.fn as (one (.bool (l.all (·.2))))))) := by
  have e1 : (l.map fun x => AV.clo x.1 [] []).length = l.length := List.length_map ..
  rw [Ty.row_eq x, Ty.row_eq y]
  rw [Ty.av_eq, Ty.av_eq] at hc
  refine W.listP l (fun i (_ : Unit) s => s.put 14 (.av (.int .i64 (i : Int)))) (fun i _ => (l.take i).all (·.2) = true) () (by simp) rfl ?_ ?_
  · intro i c u hx hi hp
    obtain ⟨hm, r⟩ := hc i c hx hp
    have hx' : (l.map fun x => AV.clo x.1 [] [])[i]? = some (AV.clo c.1 [] []) := by rw [List.getElem?_map, hx]; rfl
    clear hc
    repeat' (first | refine zA ?_ | ((apply W1.idxA1; (iterate 3 exact rfl); omega; omega; exact hx')) | refine WQ.cl hm ?_ | refine W1.cl hm (r) ?_ | refine zB ?_ | (refine zC ?_ ?_ <;> intro hc; all_goals first | (cases hc; done) | ((try simp only [hc]); (try simp only [bm] at hc))) | refine zE ?_ | refine zNZ ?_ | fail)
    all_goals clear r
    all_goals first
      | (refine ⟨(), ?_, rfl⟩; rw [all_take_succ hx, hp]; simp_all; done)
      | (refine ⟨.inr rfl, by rw [all_false hx (by simp_all)]; rfl, ho _⟩; done)
      | trace_state
  · intro u hp
    rw [List.take_length] at hp
    repeat' (first | refine zA ?_ | refine zB ?_ | (refine zC ?_ ?_ <;> intro hc; all_goals first | (cases hc; done) | ((try simp only [hc]); (try simp only [bm] at hc))) | refine zE ?_ | refine zNZ ?_ | fail)
    exact ⟨.inr rfl, by rw [hp]; rfl, ho _⟩
theorem laid_part {a x : Ty} (h : (∃ p ∈ (laidT a).arrays, x = p.item) ∨ (∃ o ∈ (laidT a).objects, (∃ s, x = fldO o s) ∨ x = o.rest)) : x.bk ≤ a.bk ∧ (a.all = false → x.bk < a.bk) := by
  have h9 := ty_bk9 a
  unfold laidT at h
  split at h
  · next hA =>
    have hx : x.bk ≤ 9 := by
      rcases h with ⟨p, hp, rfl⟩ | ⟨o, ho, h⟩
      · have hp : p ∈ [Ar.mk everyT 0 (-1)] := hp
        rw [List.mem_singleton.1 hp]; decide
      · have ho : o ∈ [Ob.mk [] [] [] everyT] := ho
        rw [List.mem_singleton.1 ho] at h
        rcases h with ⟨s, rfl⟩ | rfl
        · rw [fldO_out (by simp [Ob.names])]; decide
        · decide
    exact ⟨by omega, fun e => by rw [hA] at e; cases e⟩
  · have hx : x.bk < a.bk := by
      rcases h with ⟨p, hp, rfl⟩ | ⟨o, ho, h⟩
      · exact item_bk' hp
      · rcases h with ⟨s, rfl⟩ | rfl
        · exact (fld_bk' ho s).1
        · exact (fld_bk' ho []).2
    exact ⟨by omega, fun _ => hx⟩
theorem names_len {o : Ob} {t : Ty} (h : o ∈ t.objects) : o.names.length ≤ t.bk := by
  have := obBk_mem h
  have := Ob.bk_eq o
  have := Ty.bk_eq t
  have := len_sbk o.names
  omega
theorem apart_ret (f : ApFns T) (n : Nat) : ∀ (a b : Ty), a.bk ≤ 500000000 → b.bk ≤ 500000000 → tformed a = true → tformed b = true → a.bk + b.bk < n → Ret T F.below_Apart [.val a.av, .val b.av] (one (.bool (aptN n a b))) := by
  induction n with
  | zero => intro a b _ _ _ _ h; omega
  | succ n ih =>
    intro a b ha hb fa fb hn
    have lba := laid_bk a
    have lbb := laid_bk b
    have fx := laid_formed fa
    have fy := laid_formed fb
    obtain ⟨p1, p2, p3⟩ := tformed_parts fx
    obtain ⟨q1, q2, q3⟩ := tformed_parts fy
    obtain ⟨Ca, hCa, ra⟩ := laid_ret f.b.a4 f.b.b6 f.b.b7 f.b.b8 a
    obtain ⟨Cb, hCb, rb⟩ := laid_ret f.b.a4 f.b.b6 f.b.b7 f.b.b8 b
    have s1 := awords_ret f.a6 (laidT a) (laidT b)
    have s2 := anums_ret f.a7 f.a4 f.a5 f.b.w (laidT a) (laidT b) (spans_of fx (by omega)) (spans_of fy (by omega))
    have s3 := atexts_ret f.a8 f.a9 f.b.c (laidT a) (laidT b) (by omega) (by omega)
    have hall : aptW (laidT a) (laidT b) = true → ¬ (a.all = true ∧ b.all = true) := fun hw h => by
      have ea : laidT a = openT := by rw [laidT, h.1]; rfl
      have eb : laidT b = openT := by rw [laidT, h.2]; rfl
      rw [ea, eb] at hw
      exact absurd hw (by decide)
    have step : ∀ {x y : Ty}, aptW (laidT a) (laidT b) = true → ((∃ p ∈ (laidT a).arrays, x = p.item) ∨ (∃ o ∈ (laidT a).objects, (∃ s, x = fldO o s) ∨ x = o.rest)) → ((∃ p ∈ (laidT b).arrays, y = p.item) ∨ (∃ o ∈ (laidT b).objects, (∃ s, y = fldO o s) ∨ y = o.rest)) →
        tformed x = true → tformed y = true → Ret T F.below_Apart [.val x.av, .val y.av] (one (.bool (aptN n x y))) := fun {x y} hw hx hy tx ty => by
      obtain ⟨x1, x2⟩ := laid_part hx
      obtain ⟨y1, y2⟩ := laid_part hy
      refine ih x y (by omega) (by omega) tx ty ?_
      have := hall hw
      cases hA : a.all
      · have := x2 hA; omega
      · cases hB : b.all
        · have := y2 hB; omega
        · exact absurd ⟨hA, hB⟩ this
    have s4 : aptW (laidT a) (laidT b) = true → Ret T F.below_side_apartArrays [.val (laidT a).av, .val (laidT b).av] (one (.bool (aptA (aptN n) (laidT a) (laidT b)))) := fun hw =>
      aarrs_of f.b1 f.a1.modes (aptN n) (laidT a) (laidT b) fun p hp q hq => step hw (.inl ⟨p, hp, rfl⟩) (.inl ⟨q, hq, rfl⟩) (p2 p hp) (q2 q hq)
    have s5 : aptW (laidT a) (laidT b) = true → Ret T F.below_side_apartObjects [.val (laidT a).av, .val (laidT b).av] (one (.bool (aptO (aptN n) (laidT a) (laidT b)))) := fun hw =>
      aobjs_of f.b2 f.a2.modes (aptN n) (laidT a) (laidT b) (by omega) (by omega) fun o ho q hq =>
        unlike_of f.b.d f.b.c f.a2 f.a3 f.a1.modes (aptN n) o q (tobj_ok fx o ho) (tobj_ok fy q hq) (by have := obBk_mem ho; have := Ty.bk_eq (laidT a); omega) (by have := obBk_mem hq; have := Ty.bk_eq (laidT b); omega)
          (by rw [List.length_append]; have := names_len ho; have := names_len hq; omega)
          (fun s => step hw (.inr ⟨o, ho, .inl ⟨s, rfl⟩⟩) (.inr ⟨q, hq, .inl ⟨s, rfl⟩⟩) ((tobj_ok fx o ho).fld s) ((tobj_ok fy q hq).fld s))
    have key : aptN (n + 1) a b = ([(F.below_side_apartWords, aptW (laidT a) (laidT b)), (F.below_side_apartNums, aptI (laidT a) (laidT b)), (F.below_side_apartTexts, aptX (laidT a) (laidT b)), (F.below_side_apartArrays, aptA (aptN n) (laidT a) (laidT b)), (F.below_side_apartObjects, aptO (aptN n) (laidT a) (laidT b))] : List (Nat × Bool)).all (·.2) := by
      rw [aptN]
      simp only [List.all_cons, List.all_nil, aptB, Bool.and_true, Bool.and_assoc]
    rw [key]
    clear key ih step
    have hcs : ∀ (i : Nat) c, ([(F.below_side_apartWords, aptW (laidT a) (laidT b)), (F.below_side_apartNums, aptI (laidT a) (laidT b)), (F.below_side_apartTexts, aptX (laidT a) (laidT b)), (F.below_side_apartArrays, aptA (aptN n) (laidT a) (laidT b)), (F.below_side_apartObjects, aptO (aptN n) (laidT a) (laidT b))] : List (Nat × Bool))[i]? = some c →
        (([(F.below_side_apartWords, aptW (laidT a) (laidT b)), (F.below_side_apartNums, aptI (laidT a) (laidT b)), (F.below_side_apartTexts, aptX (laidT a) (laidT b)), (F.below_side_apartArrays, aptA (aptN n) (laidT a) (laidT b)), (F.below_side_apartObjects, aptO (aptN n) (laidT a) (laidT b))] : List (Nat × Bool)).take i).all (·.2) = true →
        T.modes c.1 = [.val, .val] ∧ Ret T c.1 [.val (laidT a).av, .val (laidT b).av] (one (.bool c.2)) := by
      intro i c hi hp
      rcases i with _ | _ | _ | _ | _ | i
      · cases hi; exact ⟨f.a6.modes, s1⟩
      · cases hi; exact ⟨f.a7.modes, s2⟩
      · cases hi; exact ⟨f.a8.modes, s3⟩
      · cases hi
        simp only [List.take_succ_cons, List.all_cons, Bool.and_eq_true] at hp
        exact ⟨f.b1.modes, s4 hp.1⟩
      · cases hi
        simp only [List.take_succ_cons, List.all_cons, Bool.and_eq_true] at hp
        exact ⟨f.b2.modes, s5 hp.1⟩
      · simp at hi
    have fin := aloop (l := [(F.below_side_apartWords, aptW (laidT a) (laidT b)), (F.below_side_apartNums, aptI (laidT a) (laidT b)), (F.below_side_apartTexts, aptX (laidT a) (laidT b)), (F.below_side_apartArrays, aptA (aptN n) (laidT a) (laidT b)), (F.below_side_apartObjects, aptO (aptN n) (laidT a) (laidT b))]) rfl (as := [.val a.av, .val b.av]) (fun _ => rfl) hcs
    clear hcs s1 s2 s3 s4 s5
    refine Ret.mk f.a1 rfl ?_
    generalize (([(F.below_side_apartWords, aptW (laidT a) (laidT b)), (F.below_side_apartNums, aptI (laidT a) (laidT b)), (F.below_side_apartTexts, aptX (laidT a) (laidT b)), (F.below_side_apartArrays, aptA (aptN n) (laidT a) (laidT b)), (F.below_side_apartObjects, aptO (aptN n) (laidT a) (laidT b))] : List (Nat × Bool)).all (·.2)) = c at *
    generalize laidT a = xa at *
    generalize laidT b = xb at *
    rw [Ty.row_eq] at hCa hCb
    rw [Ty.row_eq xa, Ty.row_eq xb] at fin
    rw [Ty.av_eq] at ra rb
    rw [Ty.av_eq a, Ty.av_eq b] at *
    repeat' (first | refine zA ?_ | (refine WQ.cl f.b.a4.modes ?_) | ((apply W1.callD1 (dst := some 10) (hm := f.b.a4.modes) hCa; (iterate 5 exact rfl); exact ra; exact rfl)) | ((apply W1.callD1 (dst := some 12) (hm := f.b.a4.modes) hCb; (iterate 5 exact rfl); exact rb; exact rfl)) | (exact fin) | refine zB ?_ | (refine zC ?_ ?_ <;> intro hc; all_goals first | (cases hc; done) | ((try simp only [hc]); (try simp only [bm] at hc))) | refine zE ?_ | refine zNZ ?_ | fail)
    all_goals trace_state
end
end Hm

/- Well shaped types, as the laws on Below have them. NORMX NORMY Conditions: see each theorem. -/
namespace Hm
open Go (IntKind)
set_option maxHeartbeats 40000000
set_option maxRecDepth 4000
section
variable {T : Tab}
structure TfFns (T : Tab) : Prop where
  d0 : Fn T F.hallmarklaw12_formed hallmarklaw12_formed.fn
  d1 : Fn T F.hallmarkkit_FitType hallmarkkit_FitType.fn
  d2 : Fn T F.hallmarkkit_typeParts hallmarkkit_typeParts.fn
  hf : Fn T F.hallmarkref09_Formed hallmarkref09_Formed.fn
  a1 : Fn T F.hallmarkref09_objects hallmarkref09_objects.fn
  a2 : Fn T F.hallmarkref09_object hallmarkref09_object.fn
  a3 : Fn T F.hallmarkref09_Never hallmarkref09_Never.fn
  a4 : Fn T F.hallmarkref09_Bare hallmarkref09_Bare.fn
  a5 : Fn T F.hallmarkref03_Rise hallmarkref03_Rise.fn
  a6 : Fn T F.hallmarkref03_UTF hallmarkref03_UTF.fn
  a7 : Fn T F.hallmarkref03_width hallmarkref03_width.fn
  a8 : Fn T F.hallmarkref03_trail hallmarkref03_trail.fn
  a9 : Fn T F.hallmarkref09_arrays hallmarkref09_arrays.fn
  b1 : Fn T F.hallmarkref09_Spans hallmarkref09_Spans.fn
  b2 : Fn T F.hallmarkref03_Numbers hallmarkref03_Numbers.fn
  b3 : Fn T F.hallmarkref03_Texts hallmarkref03_Texts.fn
  b4 : Fn T F.hallmarkref09_bound hallmarkref09_bound.fn
  b5 : Fn T F.hallmarkref03_Number hallmarkref03_Number.fn
theorem formed12_ret (f : TfFns T) (t : Ty) (hb : t.bk ≤ 1073741824) : ∃ c : Bool, (c = true → tformed t = true) ∧ Ret T F.hallmarklaw12_formed [.val t.av] (one (.bool c)) := by
  obtain ⟨s, -, r1⟩ := fitType_ret f.d1 f.d2 t hb
  have r2 := refFormed9_ret f.hf f.a1 f.a2 f.a3 f.a4 f.a5 f.a6 f.a7 f.a8 f.a9 f.b1 f.b2 f.b3 f.b4 f.b5 t hb
  rw [Formed9] at r2
  refine ⟨s && tformed t, fun h => by simp at h; exact h.2, ?_⟩
  generalize tformed t = c at *
  refine Ret.mk f.d0 rfl ?_
  rw [Ty.av_eq] at *
  cases s
  all_goals skip
  repeat' (first | refine zA ?_ | refine WQ.cl f.d1.modes ?_ | refine W1.cl f.d1.modes (r1) ?_ | refine WQ.cl f.hf.modes ?_ | refine W1.cl f.hf.modes (r2) ?_ | refine zB ?_ | (refine zC ?_ ?_ <;> intro hc; all_goals first | (cases hc; done) | ((try simp only [hc]); (try simp only [bm] at hc))) | refine zE ?_ | refine zNX ?_ | fail)
  all_goals exact Qend.boo rfl rfl rfl
end
end Hm
