/- What the law answers on the abstract machine. Conditions: see each theorem. -/
import Derived.Test.YtkjppfdcnfiaeaaDoorVOnlyT1
set_option linter.unusedVariables false
set_option linter.unusedSimpArgs false
/- Near types: plain laws. Conditions: none (definitions and plain lemmas). -/
namespace Hm
open Go (IntKind)
set_option maxRecDepth 4000
mutual
def dq : V → Nat
  | .mk k _ _ is _ => if k < 5 then 0 else dqs is + 1
def dqs : List V → Nat
  | [] => 0
  | v :: r => max (dq v) (dqs r)
end
theorem dq_eq (v : V) : dq v = if v.kind < 5 then 0 else dqs v.items + 1 := by cases v; rfl
theorem dqs_mem {x : V} {l : List V} (h : x ∈ l) : dq x ≤ dqs l := by
  induction l with
  | nil => cases h
  | cons y l ih =>
    simp only [dqs]
    rcases List.mem_cons.1 h with rfl | h
    · omega
    · have := ih h; omega
theorem dqs_append (a b : List V) : dqs (a ++ b) = max (dqs a) (dqs b) := by
  induction a with
  | nil => simp [dqs]
  | cons x a ih => simp only [List.cons_append, dqs, ih]; omega
theorem dqs_take_succ {l : List V} {i : Nat} {x : V} (h : l[i]? = some x) : dqs (l.take (i + 1)) = max (dqs (l.take i)) (dq x) := by
  rw [List.take_add_one, h, dqs_append]; simp [dqs]
theorem dqs_take_le (l : List V) (i : Nat) : dqs (l.take i) ≤ dqs l := by
  have := dqs_append (l.take i) (l.drop i)
  rw [List.take_append_drop] at this
  omega
theorem dq_le (v : V) : dq v ≤ v.bk := by
  induction v using V.ind with
  | h v ih =>
  have key : ∀ l : List V, (∀ x ∈ l, dq x ≤ x.bk) → dqs l ≤ V.bks l := by
    intro l
    induction l with
    | nil => intro _; simp [dqs]
    | cons x l ih2 =>
      intro h
      have := ih2 fun y hy => h y (by simp [hy])
      have := h x (by simp)
      simp only [dqs, V.bks]; omega
  have := key v.items ih
  rw [dq_eq, V.bk_eq]
  split <;> omega
def numT (n : Str) : Ty := .mk false false false false [(n, n)] false [] [] []
def txtT (t : Str) : Ty := .mk false false false false [] false [t] [] []
def arrT (a : Ar) : Ty := .mk false false false false [] false [] [a] []
def objT (o : Ob) : Ty := .mk false false false false [] false [] [] [o]
def wrdT (a b c : Bool) : Ty := .mk false a b c [] false [] [] []
def ofKd (kd : Int) (h : Nat) : Ty := if h ≤ 1 then everyT else wideT kd
noncomputable def nearItemB (kd : Int) (fs : List (Nat → Ty)) (h : Nat) : Ty :=
  match fs with
  | [] => neverT
  | f :: r => if r.all (fun g => eqB (f (h - 1)) (g (h - 1))) = true then f (h - 1) else ofKd kd h
noncomputable def nearBody (k : Int) (n t : Str) (kd : Int) (fs : List (Nat → Ty)) (ks : List Str) (h : Nat) : Ty :=
  if k = 0 then wrdT true false false else if k = 1 then wrdT false true false else if k = 2 then wrdT false false true else
  if k = 3 then numT n else if k = 4 then txtT t else if h = 0 then everyT else
  if k = 5 then arrT (.mk (nearItemB kd fs h) fs.length fs.length) else
  if 12 < ks.length then objT (.mk [] [] [] (ofKd kd h)) else objT (.mk ks (fs.map fun f => f (h - 1)) (fs.map fun _ => true) neverT)
mutual
noncomputable def nearT : V → Nat → Ty
  | .mk k n t is ks => nearBody k n t (kindsN (is.map V.kind)) (nearFs is) ks
noncomputable def nearFs : List V → List (Nat → Ty)
  | [] => []
  | v :: r => nearT v :: nearFs r
end
theorem nearFs_eq (l : List V) : nearFs l = l.map nearT := by
  induction l with
  | nil => rfl
  | cons x l ih => simp only [nearFs, List.map_cons, ih]
theorem nearT_eq (v : V) : nearT v = nearBody v.kind v.num v.text (kindsN (v.items.map V.kind)) (v.items.map nearT) v.keys := by
  cases v with
  | mk k n t is ks => simp only [nearT, nearFs_eq, V.kind, V.num, V.text, V.items, V.keys]
noncomputable def nearItemT (l : List V) (h : Nat) : Ty := nearItemB (kindsN (l.map V.kind)) (l.map nearT) h
open Classical in
theorem nearItemT_cons (x : V) (r : List V) (h : Nat) : nearItemT (x :: r) h = if (∀ y ∈ r, nearT x (h - 1) = nearT y (h - 1)) then nearT x (h - 1) else ofKd (kindsN ((x :: r).map V.kind)) h := by
  simp only [nearItemT, List.map_cons, nearItemB]
  have : (List.map nearT r).all (fun g => eqB (nearT x (h - 1)) (g (h - 1))) = true ↔ ∀ y ∈ r, nearT x (h - 1) = nearT y (h - 1) := by
    rw [List.all_map, List.all_eq_true]
    exact ⟨fun h y hy => eqB_iff.1 (h y hy), fun h y hy => eqB_iff.2 (h y hy)⟩
  by_cases hc : ∀ y ∈ r, nearT x (h - 1) = nearT y (h - 1)
  · rw [if_pos (this.2 hc), if_pos hc]
  · rw [if_neg (fun e => hc (this.1 e)), if_neg hc]
/-- What a near type is, kind by kind. -/
theorem near_lo {v : V} (hk : v.kind = 0 ∨ v.kind = 1 ∨ v.kind = 2) (h : Nat) : nearT v h = wrdT (decide (v.kind = 0)) (decide (v.kind = 1)) (decide (v.kind = 2)) := by
  rw [nearT_eq]; unfold nearBody
  rcases hk with e | e | e <;> rw [e] <;> rfl
theorem near_num {v : V} (hk : v.kind = 3) (h : Nat) : nearT v h = numT v.num := by
  rw [nearT_eq]; unfold nearBody; rw [hk]; rfl
theorem near_txt {v : V} (hk : v.kind = 4) (h : Nat) : nearT v h = txtT v.text := by
  rw [nearT_eq]; unfold nearBody; rw [hk]; rfl
theorem near_top {v : V} (hk : v.kind = 5 ∨ v.kind = 6) : nearT v 0 = everyT := by
  rw [nearT_eq]; unfold nearBody
  rcases hk with e | e <;> rw [e] <;> rfl
theorem near_arr {v : V} (hk : v.kind = 5) (h : Nat) : nearT v (h + 1) = arrT (.mk (nearItemT v.items (h + 1)) v.items.length v.items.length) := by
  rw [nearT_eq]; unfold nearBody; rw [hk]
  simp only [List.length_map]
  rfl
theorem near_many {v : V} (hk : v.kind = 6) (hm : 12 < v.keys.length) (h : Nat) : nearT v (h + 1) = objT (.mk [] [] [] (ofKd (kindsN (v.items.map V.kind)) (h + 1))) := by
  rw [nearT_eq]; unfold nearBody; rw [hk, if_pos hm]
  rfl
theorem near_obj {v : V} (hk : v.kind = 6) (hm : ¬ 12 < v.keys.length) (h : Nat) : nearT v (h + 1) = objT (.mk v.keys (v.items.map fun x => nearT x h) (v.items.map fun _ => true) neverT) := by
  rw [nearT_eq]; unfold nearBody; rw [hk, if_neg hm]
  simp only [List.map_map]
  rfl
theorem kinds7 {v : V} (h : formed v = true) : (v.kind = 0 ∨ v.kind = 1 ∨ v.kind = 2) ∨ v.kind = 3 ∨ v.kind = 4 ∨ v.kind = 5 ∨ v.kind = 6 := by
  have := (formed_inv h).1; omega
theorem ofKd_bk (kd : Int) (h : Nat) : (ofKd kd h).bk ≤ 100 := by
  unfold ofKd; split
  · decide
  · exact wideT_bk kd
theorem wide_formed (n : Int) : tformed (wideT n) = true := by
  unfold wideT
  split
  · rfl
  · generalize kb n 0 = b0
    generalize kb n 1 = b1
    generalize kb n 2 = b2
    generalize kb n 4 = b4
    cases kb n 3 <;> cases kb n 5 <;> cases kb n 6 <;> cases b4 <;> rfl
theorem ofKd_formed (kd : Int) (h : Nat) : tformed (ofKd kd h) = true := by
  unfold ofKd; split
  · rfl
  · exact wide_formed kd
theorem wide_ht (n : Int) : ht (wideT n) ≤ 1 := by
  unfold wideT
  split
  · decide
  · generalize kb n 0 = b0
    generalize kb n 1 = b1
    generalize kb n 2 = b2
    generalize kb n 4 = b4
    cases kb n 3 <;> cases kb n 5 <;> cases kb n 6 <;> first | exact Nat.le_refl 1 | exact Nat.zero_le 1
theorem ofKd_ht (kd : Int) (h : Nat) : ht (ofKd kd (h + 1)) ≤ h := by
  unfold ofKd; split
  · exact Nat.zero_le _
  · have := wide_ht kd; omega
theorem never_kind {b0 b1 b2 b3 b4 b5 b6 : Bool} (h : (b0 || b1 || b2 || b3 || b4 || b5 || b6) = true) : never (kindT b0 b1 b2 b3 b4 b5 b6) = false := by
  revert h; cases b0 <;> cases b1 <;> cases b2 <;> cases b3 <;> cases b4 <;> cases b5 <;> cases b6 <;> decide
theorem wide_never {n : Int} {k : Int} (k0 : 0 ≤ k) (k6 : k ≤ 6) (h : kb n k = true) : never (wideT n) = false := by
  unfold wideT
  split
  · rfl
  · refine never_kind ?_
    have : k = 0 ∨ k = 1 ∨ k = 2 ∨ k = 3 ∨ k = 4 ∨ k = 5 ∨ k = 6 := by omega
    rcases this with rfl | rfl | rfl | rfl | rfl | rfl | rfl <;> rw [h] <;> simp
theorem ofKd_never {l : List V} (hf : ∀ x ∈ l, formed x = true) (hne : l ≠ []) (h : Nat) : never (ofKd (kindsN (l.map V.kind)) h) = false := by
  unfold ofKd; split
  · rfl
  · cases l with
    | nil => exact absurd rfl hne
    | cons x r =>
      have hx := (kindsN_ok hf).2.2 x (by simp)
      have := (formed_inv (hf x (by simp))).1
      exact wide_never this.1 this.2 hx
theorem inT_kind {v : V} (hf : formed v = true) (b0 b1 b2 b3 b4 b5 b6 : Bool) : inT v (kindT b0 b1 b2 b3 b4 b5 b6) = selB v.kind b0 b1 b2 b3 b4 b5 b6 := by
  obtain ⟨⟨k0, k6⟩, -, -, -, -, -, -, f8, -⟩ := formed_inv hf
  rw [inT_eq]
  unfold inBody selB kindT
  simp only [Ty.all, Ty.nul, Ty.fls, Ty.tru, Ty.nums, Ty.anyText, Ty.texts, Ty.arrays, Ty.objects, Bool.false_or]
  by_cases h0 : v.kind = 0
  · rw [if_pos h0, if_pos h0]
  by_cases h1 : v.kind = 1
  · rw [if_neg h0, if_neg h0, if_pos h1, if_pos h1]
  by_cases h2 : v.kind = 2
  · rw [if_neg h0, if_neg h0, if_neg h1, if_neg h1, if_pos h2, if_pos h2]
  by_cases h3 : v.kind = 3
  · rw [if_neg h0, if_neg h0, if_neg h1, if_neg h1, if_neg h2, if_neg h2, if_pos h3, if_pos h3]
    cases b3 <;> rfl
  by_cases h4 : v.kind = 4
  · rw [if_neg h0, if_neg h0, if_neg h1, if_neg h1, if_neg h2, if_neg h2, if_neg h3, if_neg h3, if_pos h4, if_pos h4]
    simp
  by_cases h5 : v.kind = 5
  · rw [if_neg h0, if_neg h0, if_neg h1, if_neg h1, if_neg h2, if_neg h2, if_neg h3, if_neg h3, if_neg h4, if_neg h4, if_pos h5, if_pos h5]
    cases b5
    · rfl
    · simp only [if_true, inArB, Ar.min, Ar.max, Ar.item, List.length_map, List.all_map]
      have : (v.items.all ((fun g => g everyT) ∘ inT)) = true := List.all_eq_true.2 fun x _ => inT_every x
      rw [this]; simp
  rw [if_neg h0, if_neg h0, if_neg h1, if_neg h1, if_neg h2, if_neg h2, if_neg h3, if_neg h3, if_neg h4, if_neg h4, if_neg h5, if_neg h5]
  have hk6 : v.kind = 6 := by omega
  obtain ⟨hl, -⟩ := f8 hk6
  cases b6
  · rfl
  · simp only [if_true, List.any_cons, List.any_nil, Bool.or_false, inObB, Ob.names, List.length_nil, List.range_zero, List.all_nil, Bool.true_and]
    refine List.all_eq_true.2 fun i hi => ?_
    have hi := List.mem_range.1 hi
    simp only [inObK, Ob.names, Ob.rest, Bool.or_eq_true]
    right
    rw [List.getD, List.getElem?_map, List.getElem?_eq_getElem (by omega)]
    exact inT_every _
theorem selB_kb {n k : Int} (h0 : 0 ≤ k) (h6 : k ≤ 6) : selB k (kb n 0) (kb n 1) (kb n 2) (kb n 3) (kb n 4) (kb n 5) (kb n 6) = kb n k := by
  have : k = 0 ∨ k = 1 ∨ k = 2 ∨ k = 3 ∨ k = 4 ∨ k = 5 ∨ k = 6 := by omega
  rcases this with rfl | rfl | rfl | rfl | rfl | rfl | rfl <;> rfl
theorem inT_wide {v : V} (hf : formed v = true) {n : Int} (h : kb n v.kind = true) : inT v (wideT n) = true := by
  unfold wideT
  split
  · exact inT_every v
  · have := (formed_inv hf).1
    rw [inT_kind hf, selB_kb this.1 this.2, h]
theorem inT_ofKd {l : List V} (hf : ∀ x ∈ l, formed x = true) (h : Nat) {x : V} (hx : x ∈ l) : inT x (ofKd (kindsN (l.map V.kind)) h) = true := by
  unfold ofKd; split
  · exact inT_every x
  · exact inT_wide (hf x hx) ((kindsN_ok hf).2.2 x hx)
end Hm

/- Near types are well shaped, and no higher than asked; the value is of its near type, and no other one. Conditions: see each theorem. -/
namespace Hm
open Go (IntKind)
set_option maxRecDepth 4000
theorem near_never {v : V} (hf : formed v = true) (h : Nat) : never (nearT v h) = false := by
  rcases kinds7 hf with hk | hk | hk | hk
  · rw [near_lo hk]
    rcases hk with e | e | e <;> rw [e] <;> decide
  · rw [near_num hk]; rfl
  · rw [near_txt hk]; rfl
  · cases h with
    | zero => rw [near_top hk]; rfl
    | succ h =>
      rcases hk with hk | hk
      · rw [near_arr hk]; rfl
      · by_cases hm : 12 < v.keys.length
        · rw [near_many hk hm]; rfl
        · rw [near_obj hk hm]; rfl
theorem items_formed {v : V} (hf : formed v = true) : ∀ x ∈ v.items, formed x = true := (formed_inv hf).2.2.2.2.2.2.2.2
theorem num_formed {n : Str} (hn : number n = true) : tformed (numT n) = true := by
  have hz : zcmp n n = 0 := zcmp_good.refl n hn
  have h1 : spanOk (n, n) = true := by simp [spanOk, boundOk, hn, hz]
  rw [tformed_eq]
  simp only [numT, Ty.all, Ty.texts, Ty.anyText, Ty.nums, Ty.arrays, Ty.objects, spansOk, List.all_cons, List.all_nil, h1]
  rfl
theorem txt_formed {t : Str} (ht : utf t = true) : tformed (txtT t) = true := by
  have h1 : rise [t] = true := rise_true fun j hj => by
    have : j = 0 := by simpa using hj
    subst this
    simp [riseAt, ht]
  rw [tformed_eq]
  simp only [txtT, Ty.all, Ty.texts, Ty.anyText, Ty.nums, Ty.arrays, Ty.objects, h1]
  rfl
theorem arr_formed {a : Ar} (h : arOk a = true) : tformed (arrT a) = true := by
  rw [tformed_eq]
  simp only [arrT, Ty.all, Ty.texts, Ty.anyText, Ty.nums, Ty.arrays, Ty.objects, List.all_cons, List.all_nil, h]
  rfl
theorem obj_formed {o : Ob} (h : obOk o = true) : tformed (objT o) = true := by
  rw [tformed_eq]
  simp only [objT, Ty.all, Ty.texts, Ty.anyText, Ty.nums, Ty.arrays, Ty.objects, List.all_cons, List.all_nil, h]
  rfl
theorem arOk_mk {i : Ty} {n : Nat} (h1 : tformed i = true) (h2 : never i = decide (n = 0)) : arOk (.mk i n n) = true := by
  show (!(decide ((n : Int) < 0) || decide ((n : Int) < -1) || (decide ((n : Int) ≥ 0) && decide ((n : Int) < n))) && (tformed i && never i == decide ((n : Int) = 0))) = true
  have a1 : decide ((n : Int) < 0) = false := decide_eq_false (by omega)
  have a2 : decide ((n : Int) < -1) = false := decide_eq_false (by omega)
  have a3 : decide ((n : Int) < n) = false := decide_eq_false (by omega)
  have a4 : decide ((n : Int) = 0) = decide (n = 0) := by rw [Bool.eq_iff_iff]; simp
  rw [h1, h2, a1, a2, a3, a4]; simp
theorem fieldsOk_all : ∀ {l : List Ty} {ms : List Bool}, (∀ x ∈ l, tformed x = true ∧ never x = false) → fieldsOk l ms = true
  | [], ms, _ => rfl
  | x :: r, ms, h => by
    simp only [fieldsOk]
    rw [(h x (by simp)).1, (h x (by simp)).2, fieldsOk_all fun y hy => h y (by simp [hy])]
    simp
open Classical in
theorem near_formed (v : V) : formed v = true → ∀ h, tformed (nearT v h) = true := by
  induction v using V.ind with
  | h v ih =>
  intro hf h
  have hi := items_formed hf
  obtain ⟨-, f2, f3, f4, f5, f6, f7, f8, -⟩ := formed_inv hf
  rcases kinds7 hf with hk | hk | hk | hk
  · rw [near_lo hk]
    rcases hk with e | e | e <;> rw [e] <;> rfl
  · rw [near_num hk]; exact num_formed (f2 hk)
  · rw [near_txt hk]; exact txt_formed (f4 hk)
  · cases h with
    | zero => rw [near_top hk]; rfl
    | succ h =>
      rcases hk with hk | hk
      · rw [near_arr hk]
        refine arr_formed ?_
        cases hl : v.items with
        | nil => rfl
        | cons x r =>
          rw [hl] at hi ih
          refine arOk_mk ?_ ?_
          · rw [nearItemT_cons]
            split
            · exact ih x (by simp) (hi x (by simp)) _
            · exact ofKd_formed _ _
          · have h0 : decide ((x :: r).length = 0) = false := by simp
            rw [h0, nearItemT_cons]
            split
            · exact near_never (hi x (by simp)) _
            · exact ofKd_never hi (by simp) _
      · by_cases hm : 12 < v.keys.length
        · rw [near_many hk hm]
          refine obj_formed ?_
          rw [obOk_eq]
          simp only [Ob.names, Ob.fields, Ob.must, Ob.rest]
          rw [ofKd_formed]; rfl
        · rw [near_obj hk hm]
          refine obj_formed ?_
          rw [obOk_eq]
          simp only [Ob.names, Ob.fields, Ob.must, Ob.rest, List.length_map]
          rw [neverT_formed, (f8 hk).2, fieldsOk_all fun x hx => ?_]
          · simp [(f8 hk).1]
          · obtain ⟨y, hy, rfl⟩ := List.mem_map.1 hx
            exact ⟨ih y hy (hi y hy) h, near_never (hi y hy) h⟩
theorem hTys_all {l : List Ty} {n : Nat} (h : ∀ x ∈ l, ht x + 1 ≤ n) : hTys l ≤ n := by
  induction l with
  | nil => exact Nat.zero_le _
  | cons x l ih =>
    have := ih fun y hy => h y (by simp [hy])
    have := h x (by simp)
    simp only [hTys]; omega
theorem near_ht (v : V) : formed v = true → ∀ h, ht (nearT v h) ≤ h := by
  induction v using V.ind with
  | h v ih =>
  intro hf h
  have hi := items_formed hf
  rcases kinds7 hf with hk | hk | hk | hk
  · rw [near_lo hk]
    exact Nat.zero_le _
  · rw [near_num hk]; exact Nat.zero_le _
  · rw [near_txt hk]; exact Nat.zero_le _
  · cases h with
    | zero => rw [near_top hk]; exact Nat.zero_le _
    | succ h =>
      rcases hk with hk | hk
      · rw [near_arr hk, ht_eq]
        simp only [arrT, Ty.arrays, Ty.objects, hArs, hObs, hAr_eq, Ar.item]
        have q : ht (nearItemT v.items (h + 1)) ≤ h := by
          cases hl : v.items with
          | nil => exact Nat.zero_le _
          | cons x r =>
            rw [hl] at hi ih
            rw [nearItemT_cons]
            split
            · exact ih x (by simp) (hi x (by simp)) h
            · exact ofKd_ht _ _
        omega
      · by_cases hm : 12 < v.keys.length
        · rw [near_many hk hm, ht_eq]
          simp only [objT, Ty.arrays, Ty.objects, hArs, hObs, hOb_eq, Ob.rest, Ob.fields, hTys]
          have := ofKd_ht (kindsN (v.items.map V.kind)) h
          omega
        · rw [near_obj hk hm, ht_eq]
          simp only [objT, Ty.arrays, Ty.objects, hArs, hObs, hOb_eq, Ob.rest, Ob.fields]
          have q : hTys (v.items.map fun x => nearT x h) ≤ h + 1 := hTys_all fun x hx => by
            obtain ⟨y, hy, rfl⟩ := List.mem_map.1 hx
            have := ih y hy (hi y hy) h; omega
          have : ht neverT = 0 := rfl
          omega
theorem tyBks_map {l : List V} {f : V → Ty} (h : ∀ x ∈ l, (f x).bk ≤ 20 * x.bk) : tyBks (l.map f) ≤ 20 * V.bks l := by
  induction l with
  | nil => exact Nat.zero_le _
  | cons x l ih =>
    have := ih fun y hy => h y (by simp [hy])
    have := h x (by simp)
    simp only [List.map_cons, tyBks, V.bks]; omega
theorem near_bk (v : V) : formed v = true → ∀ h, (nearT v h).bk ≤ 20 * v.bk := by
  induction v using V.ind with
  | h v ih =>
  intro hf h
  have hi := items_formed hf
  have hb := V.bk_eq v
  rcases kinds7 hf with hk | hk | hk | hk
  · rw [near_lo hk, Ty.bk_eq]
    simp only [wrdT, Ty.nums, Ty.texts, Ty.arrays, Ty.objects, spbk, sbk, arBks, obBks]; omega
  · rw [near_num hk, Ty.bk_eq]
    simp only [numT, Ty.nums, Ty.texts, Ty.arrays, Ty.objects, spbk, sbk, arBks, obBks]; omega
  · rw [near_txt hk, Ty.bk_eq]
    simp only [txtT, Ty.nums, Ty.texts, Ty.arrays, Ty.objects, spbk, sbk, arBks, obBks]; omega
  · cases h with
    | zero =>
      rw [near_top hk]
      have : everyT.bk = 9 := rfl
      omega
    | succ h =>
      rcases hk with hk | hk
      · rw [near_arr hk, Ty.bk_eq]
        simp only [arrT, Ty.nums, Ty.texts, Ty.arrays, Ty.objects, spbk, sbk, arBks, obBks, Ar.bk_eq, Ar.item]
        have q : (nearItemT v.items (h + 1)).bk ≤ 20 * V.bks v.items + 9 := by
          cases hl : v.items with
          | nil =>
            have : (nearItemT [] (h + 1)).bk = 9 := rfl
            omega
          | cons x r =>
            rw [hl] at hi ih
            rw [nearItemT_cons]
            have := V.bk_eq x
            simp only [V.bks]
            split
            · have := ih x (by simp) (hi x (by simp)) h
              show (nearT x h).bk ≤ _
              omega
            · have := ofKd_bk (kindsN ((x :: r).map V.kind)) (h + 1)
              omega
        omega
      · by_cases hm : 12 < v.keys.length
        · rw [near_many hk hm, Ty.bk_eq]
          simp only [objT, Ty.nums, Ty.texts, Ty.arrays, Ty.objects, spbk, sbk, arBks, obBks, Ob.bk_eq, Ob.names, Ob.fields, Ob.must, Ob.rest, tyBks, List.length_nil]
          have := ofKd_bk (kindsN (v.items.map V.kind)) (h + 1)
          have := len_sbk v.keys
          omega
        · rw [near_obj hk hm, Ty.bk_eq]
          simp only [objT, Ty.nums, Ty.texts, Ty.arrays, Ty.objects, spbk, sbk, arBks, obBks, Ob.bk_eq, Ob.names, Ob.fields, Ob.must, Ob.rest, List.length_map]
          have q : tyBks (v.items.map fun x => nearT x h) ≤ 20 * V.bks v.items := tyBks_map fun x hx => ih x hx (hi x hx) h
          have : neverT.bk = 9 := rfl
          have := len_sbk v.keys
          have := ((formed_inv hf).2.2.2.2.2.2.2.1 hk).1
          omega
theorem lkA_at {α : Type} : ∀ {ks : List Str} {xs : List α} {i : Nat} {k : Str}, (ks.Pairwise fun a b => binA.bLess a b = true) → ks[i]? = some k → lkA ks xs k = xs[i]?
  | [], xs, i, k, _, h => by simp at h
  | s :: r, [], i, k, _, h => by simp [lkA]
  | s :: r, x :: xs, 0, k, _, h => by
    simp at h; subst h; simp [lkA]
  | s :: r, x :: xs, i + 1, k, ha, h => by
    obtain ⟨h1, h2⟩ := List.pairwise_cons.1 ha
    have hr : r[i]? = some k := by simpa using h
    have hne : ¬ s = k := fun e => by
      have := h1 k (List.mem_of_getElem? hr)
      rw [e, bLess_irrefl] at this; cases this
    rw [lkA, if_neg hne, lkA_at h2 hr]
    simp
theorem in_num {n : Str} (hn : number n = true) : inSpanB n (n, n) = true := by
  have hz : zcmp n n = 0 := zcmp_good.refl n hn
  simp [inSpanB, hz]
theorem near_in (v : V) : formed v = true → ∀ h, inT v (nearT v h) = true := by
  induction v using V.ind with
  | h v ih =>
  intro hf h
  have hi := items_formed hf
  obtain ⟨-, f2, f3, f4, f5, f6, f7, f8, -⟩ := formed_inv hf
  rcases kinds7 hf with hk | hk | hk | hk
  · rw [near_lo hk, inT_eq]
    rcases hk with e | e | e <;> rw [e] <;> rfl
  · rw [near_num hk, inT_eq, hk]
    show inSpanB v.num (v.num, v.num) = true
    exact in_num (f2 hk)
  · rw [near_txt hk, inT_eq, hk]
    show ([v.text].contains v.text) = true
    simp
  · cases h with
    | zero => rw [near_top hk]; exact inT_every v
    | succ h =>
      rcases hk with hk | hk
      · rw [near_arr hk, inT_eq, hk]
        show inArB (v.items.map inT) _ = true
        simp only [inArB, Ar.min, Ar.max, Ar.item, List.length_map, List.all_map]
        have q : (v.items.all ((fun g => g (nearItemT v.items (h + 1))) ∘ inT)) = true := by
          refine List.all_eq_true.2 fun x hx => ?_
          show inT x _ = true
          cases hl : v.items with
          | nil => rw [hl] at hx; cases hx
          | cons y r =>
            rw [hl] at hi ih hx
            rw [nearItemT_cons]
            split
            · rename_i hs
              have : nearT y (h + 1 - 1) = nearT x (h + 1 - 1) := by
                rcases List.mem_cons.1 hx with rfl | hx'
                · rfl
                · exact hs x hx'
              rw [this]
              exact ih x hx (hi x hx) _
            · exact inT_ofKd hi _ hx
        rw [q]; simp
      · obtain ⟨hl, hr⟩ := f8 hk
        have ha := asc_of_rise hr
        by_cases hm : 12 < v.keys.length
        · rw [near_many hk hm, inT_eq, hk]
          show [_].any (inObB (v.items.map inT) v.keys) = true
          simp only [List.any_cons, List.any_nil, Bool.or_false, inObB, Ob.names, List.length_nil, List.range_zero, List.all_nil, Bool.true_and]
          refine List.all_eq_true.2 fun i hir => ?_
          have hir := List.mem_range.1 hir
          simp only [inObK, Ob.names, Ob.rest, Bool.or_eq_true]
          right
          rw [List.getD, List.getElem?_map, List.getElem?_eq_getElem (by omega)]
          exact inT_ofKd hi _ (List.getElem_mem _)
        · rw [near_obj hk hm, inT_eq, hk]
          show [_].any (inObB (v.items.map inT) v.keys) = true
          simp only [List.any_cons, List.any_nil, Bool.or_false, inObB, Ob.names, Bool.and_eq_true]
          refine ⟨List.all_eq_true.2 fun i hir => ?_, List.all_eq_true.2 fun i hir => ?_⟩
          · have hir := List.mem_range.1 hir
            have e1 : v.keys[i]? = some v.keys[i] := List.getElem?_eq_getElem hir
            have e2 : v.items[i]? = some (v.items[i]'(by omega)) := List.getElem?_eq_getElem (by omega)
            simp only [inObN, Ob.names, Ob.fields, Ob.must]
            rw [List.getD, e1, Option.getD_some, lkA_at ha e1, List.getElem?_map, e2]
            simp only [Option.map_some, List.getD, List.getElem?_map, e2, Option.getD_some]
            exact ih _ (List.getElem_mem _) (hi _ (List.getElem_mem _)) h
          · have hir := List.mem_range.1 hir
            simp only [inObK, Ob.names, Bool.or_eq_true]
            left
            rw [List.getD, List.getElem?_eq_getElem hir, Option.getD_some]
            simp
end Hm

/- Whether two values are alike. Conditions: see each theorem. -/
namespace Hm
open Go (IntKind)
set_option maxHeartbeats 4000000
set_option maxRecDepth 4000
noncomputable def sameV (a b : V) : Bool := @decide (a = b) (Classical.propDecidable _)
theorem sameV_self (a : V) : sameV a a = true := by simp [sameV]
theorem sameV_eq {a b : V} (h : sameV a b = true) : a = b := by simpa [sameV] using h
theorem sameV_ne {a b : V} (h : ¬ a = b) : sameV a b = false := by simpa [sameV] using h
theorem likeE_ret {T : Tab} (h : Fn T F.hallmarkref03_Like hallmarkref03_Like.fn) : ∀ (a : V), a.bk ≤ 1073741824 → ∀ b : V, b.bk ≤ 1073741824 → Ret T F.hallmarkref03_Like [.val a.av, .val b.av] (one (.bool (sameV a b))) := by
  intro a
  induction a using V.ind with
  | h a ih =>
  intro hla b hlb
  have k1 := V.bk_eq a
  have k2 := V.bk_eq b
  have n1 := len_sbk a.keys
  have n2 := len_sbk b.keys
  have n3 := V.len_bks a.items
  have n4 := V.len_bks b.items
  have e1 := srow_len a.keys
  have e2 := srow_len b.keys
  have e3 : (a.items.map V.row).length = a.items.length := List.length_map ..
  have e4 : (b.items.map V.row).length = b.items.length := List.length_map ..
  have ih' : ∀ x ∈ a.items, ∀ y ∈ b.items, Ret T F.hallmarkref03_Like [.val x.av, .val y.av] (one (.bool (sameV x y))) := fun x hx y hy =>
    ih x hx (by have := V.bk_item hx; omega) y (by have := V.bk_item hy; omega)
  have hs := sameV_self a
  have no : ∀ {p : Prop}, (a = b → ¬ p) → p → (false = sameV a b) := fun hp h => (sameV_ne fun h0 => hp h0 h).symm
  refine Ret.mk h rfl ?_
  clear ih
  obtain ⟨k, n, t, is, ks⟩ := a
  obtain ⟨k', n', t', is', ks'⟩ := b
  rw [V.av_eq, V.av_eq]
  simp only [V.kind, V.num, V.text, V.items, V.keys] at *
  have key : k = k' → n = n' → t = t' → ks.length = ks'.length → is.length = is'.length → W T (.block 0 (.loop [2, 3, 5] hallmarkref03_Like.l1))
      ⟨lstE [(2, .plc ⟨.box 2, [], 0⟩), (3, .plc ⟨.box 3, [], 0⟩), (5, .av (.int .i64 0))], lstB [(2, some [.av (.int .i64 k), .av (.str n), .av (.str t), .av (.lst 5 (is.map V.row)), .av (.lst 1 (srow ks))]), (3, some [.av (.int .i64 k'), .av (.str n'), .av (.str t'), .av (.lst 5 (is'.map V.row)), .av (.lst 1 (srow ks'))]), (5, none)]⟩
      (Qseq T (.seq (.seq (.reg hallmarkref03_Like.r8 [2, 3, 6]) (.block 2 (.loop [2, 3, 6] hallmarkref03_Like.l2))) (.seq (.reg hallmarkref03_Like.r13 [4]) (.ret)))
        (Qend hallmarkref03_Like.fn [.val (.agg [.int .i64 k, .str n, .str t, .lst 5 (is.map V.row), .lst 1 (srow ks)]), .val (.agg [.int .i64 k', .str n', .str t', .lst 5 (is'.map V.row), .lst 1 (srow ks')])] (one (.bool (sameV (V.mk k n t is ks) (V.mk k' n' t' is' ks')))))) := by
    intro q1 q2 q3 q4 q5
    subst q1; subst q2; subst q3
    refine W.block ?_
    refine W.listP ks (fun i (_ : Unit) s => s.put 5 (.av (.int .i64 (i : Int)))) (fun i _ => ks.take i = ks'.take i) () rfl rfl ?_ ?_
    · intro i x u hx hi hp
      obtain ⟨y, hy⟩ : ∃ y, ks'[i]? = some y := ⟨ks'[i]'(by omega), List.getElem?_eq_getElem (by omega)⟩
      have hxy : x = y → ks.take (i + 1) = ks'.take (i + 1) := fun e => by rw [List.take_add_one, List.take_add_one, hp, hx, hy, e]
      repeat' (first | refine zA ?_ | refine zB ?_ | (refine zC ?_ ?_ <;> intro hc; all_goals first | (cases hc; done) | ((try simp only [hc]); (try simp only [bm] at hc))) | refine zE ?_ | refine zN ?_ | fail)
      · refine Qend.boo rfl rfl (no (p := x ≠ y) (fun e hne => ?_) (by simp_all))
        cases e; rw [hx] at hy; cases hy; exact hne rfl
      · exact ⟨(), hxy (by simp_all), rfl⟩
    · intro u hp
      rw [List.take_length, q4, List.take_length] at hp
      subst hp
      repeat' (first | refine zA ?_ | refine zB ?_ | (refine zC ?_ ?_ <;> intro hc; all_goals first | (cases hc; done) | ((try simp only [hc]); (try simp only [bm] at hc))) | refine zE ?_ | refine zN ?_ | fail)
      refine W.listP is (fun i (_ : Unit) s => s.put 6 (.av (.int .i64 (i : Int)))) (fun i _ => is.take i = is'.take i) () rfl rfl ?_ ?_
      · intro i x u hx hi hp
        obtain ⟨y, hy⟩ : ∃ y, is'[i]? = some y := ⟨is'[i]'(by omega), List.getElem?_eq_getElem (by omega)⟩
        have r := ih' x (List.mem_of_getElem? hx) y (List.mem_of_getElem? hy)
        have hxy : x = y → is.take (i + 1) = is'.take (i + 1) := fun e => by rw [List.take_add_one, List.take_add_one, hp, hx, hy, e]
        have hvx := sameV_self x
        have hvz := fun h => sameV_eq (a := x) (b := y) h
        rw [V.av_eq, V.av_eq] at r
        repeat' (first | refine zA ?_ | refine WQ.cl h.modes ?_ | refine W1.cl h.modes (r) ?_ | refine zB ?_ | (refine zC ?_ ?_ <;> intro hc; all_goals first | (cases hc; done) | ((try simp only [hc]); (try simp only [bm] at hc))) | refine zE ?_ | refine zN ?_ | fail)
        · refine Qend.boo rfl rfl (no (p := sameV x y = false) (fun e hne => ?_) (by simp_all))
          cases e; rw [hx] at hy; cases hy; rw [hvx] at hne; cases hne
        · exact ⟨(), hxy (hvz (by simp_all)), rfl⟩
      · intro u hp
        rw [List.take_length, q5, List.take_length] at hp
        subst hp
        repeat' (first | refine zA ?_ | refine zB ?_ | (refine zC ?_ ?_ <;> intro hc; all_goals first | (cases hc; done) | ((try simp only [hc]); (try simp only [bm] at hc))) | refine zE ?_ | refine zN ?_ | fail)
        exact Qend.boo rfl rfl (by simp [hs])
  repeat' (first | refine zA ?_ | (refine key ?_ ?_ ?_ ?_ ?_) | refine zB ?_ | (refine zC ?_ ?_ <;> intro hc; all_goals first | (cases hc; done) | ((try simp only [hc]); (try simp only [bm] at hc))) | refine zE ?_ | refine zN ?_ | fail)
  all_goals first
    | assumption
    | omega
    | (show (_ : Str) = _; simp_all; done)
    | skip
  all_goals refine Qend.boo rfl rfl ?_
  all_goals refine (sameV_ne ?_).symm
  all_goals intro e
  all_goals simp only [V.mk.injEq] at e
  all_goals obtain ⟨q1, q2, q3, q4, q5⟩ := e
  all_goals first
    | contradiction
    | (rw [q4] at *; simp_all; done)
    | (rw [q5] at *; simp_all; done)
end Hm

/- Of the near type of a plain value no other value is. Conditions: see each theorem. -/
namespace Hm
open Go (IntKind)
set_option maxRecDepth 4000
/-- Are all like the first? -/
noncomputable def sameAll : List V → Bool
  | [] => true
  | x :: r => r.all fun y => sameV y x
mutual
noncomputable def plainV : V → Bool
  | .mk k n t is ks => decide (ks.length ≤ 12) && (plainVs is && (!decide (k = 5) || sameAll is))
noncomputable def plainVs : List V → Bool
  | [] => true
  | v :: r => plainV v && plainVs r
end
theorem plainVs_eq (l : List V) : plainVs l = l.all plainV := by
  induction l with
  | nil => rfl
  | cons x l ih => simp only [plainVs, List.all_cons, ih]
theorem plainV_eq (v : V) : plainV v = (decide (v.keys.length ≤ 12) && (v.items.all plainV && (!decide (v.kind = 5) || sameAll v.items))) := by
  cases v with
  | mk k n t is ks => simp only [plainV, plainVs_eq, V.kind, V.num, V.text, V.items, V.keys]; rfl
theorem sameAll_inv {l : List V} (h : sameAll l = true) : ∀ x ∈ l, ∀ y ∈ l, x = y := by
  cases l with
  | nil => intro x hx; cases hx
  | cons z r =>
    have h := List.all_eq_true.1 h
    have q : ∀ x ∈ z :: r, x = z := fun x hx => by
      rcases List.mem_cons.1 hx with rfl | hx
      · rfl
      · exact sameV_eq (h x hx)
    intro x hx y hy
    rw [q x hx, q y hy]
theorem inT_never (v : V) (hf : formed v = true) : inT v neverT = false := by
  have := inT_kind hf false false false false false false false
  have e : kindT false false false false false false false = neverT := rfl
  rw [e] at this
  rw [this]
  unfold selB
  simp
theorem kindEq {v w : V} (hv : formed v = true) (hw : formed w = true) (hk : v.kind = w.kind) (h3 : v.kind = 3 → v.num = w.num) (h4 : v.kind = 4 → v.text = w.text) (h5 : v.kind = 5 → v.items = w.items) (h6 : v.kind = 6 → v.items = w.items ∧ v.keys = w.keys) : v = w := by
  obtain ⟨k0, -, f3, -, f5, f6, f7, -, -⟩ := formed_inv hv
  obtain ⟨-, -, g3, -, g5, g6, g7, -, -⟩ := formed_inv hw
  obtain ⟨k, n, t, is, ks⟩ := v
  obtain ⟨k', n', t', is', ks'⟩ := w
  simp only [V.kind, V.num, V.text, V.items, V.keys] at *
  subst hk
  have e1 : n = n' := by
    by_cases h : k = 3
    · exact h3 h
    · rw [f3 h, g3 h]
  have e2 : t = t' := by
    by_cases h : k = 4
    · exact h4 h
    · rw [f5 h, g5 h]
  have e3 : is = is' := by
    by_cases h : k = 5
    · exact h5 h
    · by_cases h' : k = 6
      · exact (h6 h').1
      · rw [f6 (by omega), g6 (by omega)]
  have e4 : ks = ks' := by
    by_cases h' : k = 6
    · exact (h6 h').2
    · rw [f7 (by omega), g7 (by omega)]
  rw [e1, e2, e3, e4]
theorem objF_inj {m n : List Fld} (h : m = n) : objF m = objF n := by rw [h]
theorem lookF_at {m : List Fld} {k : Str} {x : V} (h : lookF m k = some x) : ∃ i : Nat, (m.map (·.1))[i]? = some k ∧ (m.map (·.2))[i]? = some x := by
  induction m with
  | nil => simp [lookF] at h
  | cons f r ih =>
    rw [lookF] at h
    by_cases he : f.1 = k
    · rw [if_pos he] at h
      exact ⟨0, by simp [he], by simpa using h⟩
    · rw [if_neg he] at h
      obtain ⟨i, h1, h2⟩ := ih h
      exact ⟨i + 1, by simpa using h1, by simpa using h2⟩
theorem near_only (v : V) : formed v = true → plainV v = true → ∀ h, dq v ≤ h → ∀ w, formed w = true → inT w (nearT v h) = true → v = w := by
  induction v using V.ind with
  | h v ih =>
  intro hf hp h hd w hw hin
  have hi := items_formed hf
  have hwi := items_formed hw
  obtain ⟨-, f2, f3, f4, f5, f6, f7, f8, -⟩ := formed_inv hf
  obtain ⟨-, g2, -, g4, -, -, -, g8, -⟩ := formed_inv hw
  rw [plainV_eq] at hp
  simp only [Bool.and_eq_true, Bool.or_eq_true, Bool.not_eq_true', decide_eq_false_iff_not, decide_eq_true_eq, List.all_eq_true] at hp
  obtain ⟨p1, p2, p3⟩ := hp
  have kw : ∀ n : Int, n = 0 ∨ n = 1 ∨ n = 2 ∨ n = 3 ∨ n = 4 ∨ n = 5 ∨ n = 6 → w.kind = n ∨ ¬ w.kind = n := fun n _ => by omega
  rw [inT_eq] at hin
  unfold inBody at hin
  rcases kinds7 hf with hk | hk | hk | hk
  · rw [near_lo hk] at hin
    simp only [wrdT, Ty.all, Ty.nul, Ty.fls, Ty.tru, Ty.nums, Ty.anyText, Ty.texts, Ty.arrays, Ty.objects, Bool.false_or, List.any_nil, List.contains_nil] at hin
    have : v.kind = w.kind := by
      by_cases h0 : w.kind = 0
      · rw [if_pos h0, decide_eq_true_eq] at hin; omega
      by_cases h1 : w.kind = 1
      · rw [if_neg h0, if_pos h1, decide_eq_true_eq] at hin; omega
      by_cases h2 : w.kind = 2
      · rw [if_neg h0, if_neg h1, if_pos h2, decide_eq_true_eq] at hin; omega
      simp [h0, h1, h2] at hin
    exact kindEq hf hw this (by omega) (by omega) (by omega) (by omega)
  · rw [near_num hk] at hin
    simp only [numT, Ty.all, Ty.nul, Ty.fls, Ty.tru, Ty.nums, Ty.anyText, Ty.texts, Ty.arrays, Ty.objects, Bool.false_or, List.any_nil, List.contains_nil] at hin
    by_cases h3 : w.kind = 3
    · simp only [h3] at hin
      have hv3 := f2 hk
      have hw3 := g2 h3
      have hne : ¬ v.num = [] := fun e => by rw [e] at hv3; revert hv3; decide
      have hin : inSpanB w.num (v.num, v.num) = true := hin
      simp only [inSpanB, Bool.and_eq_true, Bool.not_eq_true', Bool.or_eq_true, beq_iff_eq, decide_eq_true_eq, Bool.and_eq_false_iff, Bool.not_eq_false', decide_eq_false_iff_not] at hin
      have hz : zcmp w.num v.num = 0 := by
        rcases hin.1 with e | e
        · exact absurd e hne
        · rcases hin.2 with e' | e'
          · exact absurd e' hne
          · omega
      have := zcmp_good.eq w.num v.num hw3 hv3 hz
      exact kindEq hf hw (by omega) (fun _ => this.symm) (by omega) (by omega) (by omega)
    · exfalso
      simp [h3] at hin
      try (split at hin <;> simp_all)
  · rw [near_txt hk] at hin
    simp only [txtT, Ty.all, Ty.nul, Ty.fls, Ty.tru, Ty.nums, Ty.anyText, Ty.texts, Ty.arrays, Ty.objects, Bool.false_or, List.any_nil, List.contains_nil] at hin
    by_cases h3 : w.kind = 4
    · simp only [h3] at hin
      have hin : ([v.text].contains w.text) = true := hin
      have : w.text = v.text := by simpa using hin
      exact kindEq hf hw (by omega) (by omega) (fun _ => this.symm) (by omega) (by omega)
    · exfalso
      simp [h3] at hin
      try (split at hin <;> simp_all)
  · rw [dq_eq, if_neg (by omega)] at hd
    obtain ⟨h, rfl⟩ : ∃ h', h = h' + 1 := ⟨h - 1, by omega⟩
    have hdi : ∀ x ∈ v.items, dq x ≤ h := fun x hx => by have := dqs_mem hx; omega
    rcases hk with hk | hk
    · rw [near_arr hk] at hin
      simp only [arrT, Ty.all, Ty.nul, Ty.fls, Ty.tru, Ty.nums, Ty.anyText, Ty.texts, Ty.arrays, Ty.objects, Bool.false_or, List.any_nil, List.contains_nil] at hin
      by_cases h5 : w.kind = 5
      · simp only [h5] at hin
        have hin : inArB (w.items.map inT) (.mk (nearItemT v.items (h + 1)) v.items.length v.items.length) = true := hin
        simp only [inArB, Ar.min, Ar.max, Ar.item, List.length_map, List.all_map, Bool.and_eq_true, Bool.not_eq_true', Bool.or_eq_false_iff, decide_eq_false_iff_not, Bool.and_eq_false_iff, List.all_eq_true, Function.comp] at hin
        obtain ⟨⟨l1, l2⟩, hall⟩ := hin
        have hlen : w.items.length = v.items.length := by
          rcases l2 with l2 | l2
          · have := of_decide_eq_false l2; omega
          · omega
        have hit : v.items = w.items := by
          have hsame := sameAll_inv (p3.resolve_left (by omega))
          cases hl : v.items with
          | nil => rw [hl] at hlen; exact (List.eq_nil_of_length_eq_zero (by simpa using hlen)).symm
          | cons x r =>
            rw [hl] at hall hsame hi ih hdi p2 hlen
            have hx : nearItemT (x :: r) (h + 1) = nearT x h := by
              rw [nearItemT_cons, if_pos fun y hy => by rw [hsame x (by simp) y (by simp [hy])]]
              rfl
            rw [hx] at hall
            have q : ∀ y ∈ w.items, x = y := fun y hy => ih x (by simp) (hi x (by simp)) (p2 x (by simp)) h (hdi x (by simp)) y (hwi y hy) (hall y hy)
            have e1 : x :: r = List.replicate (x :: r).length x := List.eq_replicate_iff.2 ⟨rfl, fun y hy => hsame y hy x (by simp)⟩
            have e2 : w.items = List.replicate (x :: r).length x := List.eq_replicate_iff.2 ⟨hlen, fun y hy => (q y hy).symm⟩
            rw [e2]; exact e1
        exact kindEq hf hw (by omega) (by omega) (by omega) (fun _ => hit) (by omega)
      · exfalso
        simp [h5] at hin
        try (split at hin <;> simp_all)
    · rw [near_obj hk (by omega)] at hin
      simp only [objT, Ty.all, Ty.nul, Ty.fls, Ty.tru, Ty.nums, Ty.anyText, Ty.texts, Ty.arrays, Ty.objects, Bool.false_or, List.any_cons, List.any_nil, List.contains_nil, Bool.or_false] at hin
      have h6 : w.kind = 6 := by
        rcases kinds7 hw with (e | e | e) | e | e | e | e
        all_goals first | exact e | (exfalso; rw [e] at hin; simp at hin)
      rw [h6] at hin
      have hin : inObB (w.items.map inT) w.keys (.mk v.keys (v.items.map fun x => nearT x h) (v.items.map fun _ => true) neverT) = true := hin
      simp only [inObB, Ob.names, Bool.and_eq_true, List.all_eq_true, List.mem_range] at hin
      obtain ⟨i1, i2⟩ := hin
      obtain ⟨m, rfl, hm, hmf⟩ := obj9_of hf hk
      obtain ⟨n, rfl, hn, hnf⟩ := obj9_of hw h6
      have ek : ∀ l : List Fld, (objF l).keys = l.map (·.1) := fun _ => rfl
      have ei : ∀ l : List Fld, (objF l).items = l.map (·.2) := fun _ => rfl
      refine objF_inj (asc_ext hm hn fun k => ?_)
      have lk : ∀ k, lkA (n.map (·.1)) ((n.map (·.2)).map inT) k = (lookF n k).map inT := fun k => by rw [lkA_map, lkA_fld]
      cases h1 : lookF m k with
      | some x =>
        obtain ⟨i, a1, a2⟩ := lookF_at h1
        have hlt : i < (m.map (·.1)).length := (List.getElem?_eq_some_iff.1 a1).1
        have hh := i1 i (by rw [ek]; exact hlt)
        simp only [inObN, Ob.names, Ob.fields, Ob.must, ek, ei] at hh
        rw [List.getD, a1, Option.getD_some, lk] at hh
        cases h2 : lookF n k with
        | none =>
          rw [h2] at hh
          simp only [Option.map_none, List.getD, List.getElem?_map, a2, Option.map_some, Option.getD_some] at hh
          cases hh
        | some y =>
          rw [h2] at hh
          simp only [Option.map_some] at hh
          rw [List.getD, List.getElem?_map, a2] at hh
          simp only [Option.map_some, Option.getD_some] at hh
          obtain ⟨j, b1, b2⟩ := lookF_at h2
          have hx : x ∈ (objF m).items := List.mem_of_getElem? a2
          have hy : y ∈ (objF n).items := List.mem_of_getElem? b2
          rw [ih x hx (hi x hx) (p2 x hx) h (hdi x hx) y (hwi y hy) hh]
      | none =>
        cases h2 : lookF n k with
        | none => rfl
        | some y =>
          exfalso
          obtain ⟨j, b1, b2⟩ := lookF_at h2
          have hlt : j < (n.map (·.1)).length := (List.getElem?_eq_some_iff.1 b1).1
          have hh := i2 j (by rw [ek]; exact hlt)
          simp only [inObK, Ob.names, Ob.rest, ek, ei] at hh
          rw [List.getD, b1, Option.getD_some, List.getD, List.getElem?_map, b2] at hh
          simp only [Option.map_some, Option.getD_some] at hh
          rw [inT_never y (hwi y (List.mem_of_getElem? b2)), Bool.or_false] at hh
          have hmem : k ∈ m.map (·.1) := by simpa using hh
          obtain ⟨f, hfm, rfl⟩ := List.mem_map.1 hmem
          have : ∀ {l : List Fld}, f ∈ l → lookF l f.1 ≠ none := by
            intro l
            induction l with
            | nil => intro h; cases h
            | cons g r ih2 =>
              intro hmem
              rw [lookF]
              by_cases e : g.1 = f.1
              · rw [if_pos e]; simp
              · rw [if_neg e]
                rcases List.mem_cons.1 hmem with rfl | hmem
                · exact absurd rfl e
                · exact ih2 hmem
          exact this hfm h1
end Hm

/- Which values are of a type, in the reference. Conditions: see each theorem. NORMX NORMY -/
namespace Hm
open Go (IntKind)
set_option maxHeartbeats 40000000
set_option maxRecDepth 4000
theorem lkA_first {α : Type} : ∀ {ks : List Str} {xs : List α} {i : Nat} {k : Str}, ks.length = xs.length → ks[i]? = some k → (∀ j, j < i → ks[j]? ≠ some k) → lkA ks xs k = xs[i]?
  | [], xs, i, k, _, h, _ => by simp at h
  | s :: r, [], i, k, hl, _, _ => by simp at hl
  | s :: r, x :: xs, 0, k, _, h, _ => by simp at h; subst h; simp [lkA]
  | s :: r, x :: xs, i + 1, k, hl, h, hj => by
    have hne : ¬ s = k := fun e => hj 0 (by omega) (by simp [e])
    rw [lkA, if_neg hne, lkA_first (ks := r) (i := i) (by simpa using hl) (by simpa using h) (fun j hlt => by have := hj (j + 1) (by omega); simpa using this)]
    simp
theorem lkA_none {α : Type} : ∀ {ks : List Str} {xs : List α} {k : Str}, (∀ j : Nat, ks[j]? ≠ some k) → lkA ks xs k = none
  | [], xs, k, _ => by cases xs <;> rfl
  | s :: r, [], k, _ => rfl
  | s :: r, x :: xs, k, hj => by
    have hne : ¬ s = k := fun e => hj 0 (by simp [e])
    rw [lkA, if_neg hne, lkA_none fun j => by have := hj (j + 1); simpa using this]
theorem lkA_mem {α : Type} : ∀ {ks : List Str} {xs : List α} {k : Str} {y : α}, lkA ks xs k = some y → y ∈ xs
  | [], xs, k, y, h => by cases xs <;> simp [lkA] at h
  | a :: r, [], k, y, h => by simp [lkA] at h
  | a :: r, b :: xs, k, y, h => by
    rw [lkA] at h
    split at h
    · cases h; simp
    · exact List.mem_cons_of_mem _ (lkA_mem h)
section
variable {T : Tab}
theorem has9_ret (h : Fn T F.hallmarkref09_Has hallmarkref09_Has.fn) (l : List Str) (hl : l.length ≤ 1073741824) (k : Str) : Ret T F.hallmarkref09_Has [.val (.lst 1 (srow l)), .val (.str k)] (one (.bool (l.contains k))) := by
  have e1 := srow_len l
  refine Ret.mk h rfl ?_
  repeat' (first | refine zA ?_ | refine zB ?_ | (refine zC ?_ ?_ <;> intro hc; all_goals first | (cases hc; done) | ((try simp only [hc]); (try simp only [bm] at hc))) | refine zE ?_ | refine zNV ?_ | fail)
  refine W.listP l (fun i (_ : Unit) s => s.put 5 (.av (.int .i64 (i : Int)))) (fun i _ => ∀ j, j < i → l[j]? ≠ some k) () (by intro j hj; omega) rfl ?_ ?_
  · intro i x u hx hi hp
    repeat' (first | refine zA ?_ | refine zB ?_ | (refine zC ?_ ?_ <;> intro hc; all_goals first | (cases hc; done) | ((try simp only [hc]); (try simp only [bm] at hc))) | refine zE ?_ | refine zNV ?_ | fail)
    · refine Qend.boo rfl rfl ?_
      subst hc
      exact (List.contains_iff_mem.2 (List.mem_of_getElem? hx)).symm
    · refine ⟨(), fun j hj => ?_, rfl⟩
      by_cases e : j = i
      · subst e; rw [hx]; simpa using hc
      · exact hp j (by omega)
  · intro u hp
    repeat' (first | refine zA ?_ | refine zB ?_ | (refine zC ?_ ?_ <;> intro hc; all_goals first | (cases hc; done) | ((try simp only [hc]); (try simp only [bm] at hc))) | refine zE ?_ | refine zNV ?_ | fail)
    refine Qend.boo rfl rfl ?_
    cases hcn : l.contains k
    · rfl
    · exfalso
      obtain ⟨j, hj⟩ := List.mem_iff_getElem?.1 (List.contains_iff_mem.1 hcn)
      exact hp j (List.getElem?_eq_some_iff.1 hj).1 hj
theorem get3_ret (h : Fn T F.hallmarkref03_Get hallmarkref03_Get.fn) (v : V) (hb : v.bk ≤ 1073741824) (hk : v.kind = 6) (hl : v.keys.length = v.items.length) (k : Str) :
    ∃ C, sealRow C = ((lkA v.keys v.items k).getD zeroV).row ∧ Ret T F.hallmarkref03_Get [.val v.av, .val (.str k)] ⟨[(C, true), ([.av (.bool (lkA v.keys v.items k).isSome)], false)], []⟩ := by
  have main : ∃ r : CR, (∃ C, sealRow C = ((lkA v.keys v.items k).getD zeroV).row ∧ r = ⟨[(C, true), ([.av (.bool (lkA v.keys v.items k).isSome)], false)], []⟩) ∧ Ret T F.hallmarkref03_Get [.val v.av, .val (.str k)] r := by
    refine Ret.ex h rfl ?_
    have hbk := V.bk_eq v
    have hlk := len_sbk v.keys
    have e1 := srow_len v.keys
    have e2 : (v.items.map V.row).length = v.items.length := List.length_map ..
    rw [V.av_eq, hk]
    repeat' (first | refine zA ?_ | refine zB ?_ | (refine zC ?_ ?_ <;> intro hc; all_goals first | (cases hc; done) | ((try simp only [hc]); (try simp only [bm] at hc))) | refine zE ?_ | refine zNV ?_ | fail)
    refine W.listP v.keys (fun i (_ : Unit) s => s.put 6 (.av (.int .i64 (i : Int)))) (fun i _ => ∀ j, j < i → v.keys[j]? ≠ some k) () (by intro j hj; omega) rfl ?_ ?_
    · intro i s u hx hi hp
      obtain ⟨x, hxi⟩ : ∃ x, v.items[i]? = some x := ⟨v.items[i]'(by omega), List.getElem?_eq_getElem (by omega)⟩
      by_cases he : s = k
      · subst he
        have hlk := lkA_first hl hx hp
        rw [hxi] at hlk
        rw [hlk]
        repeat' (first | refine zA ?_ | refine zB ?_ | (refine zC ?_ ?_ <;> intro hc; all_goals first | (cases hc; done) | ((try simp only [hc]); (try simp only [bm] at hc))) | refine zE ?_ | refine zNV ?_ | fail)
        all_goals first | (exfalso; omega) | (exfalso; simp_all; done) | skip
        refine ⟨_, ⟨_, ?_, rfl⟩, .inr rfl, rfl, rfl⟩
        rw [Option.getD_some, V.row_eq]; rfl
      · skip
        repeat' (first | refine zA ?_ | refine zB ?_ | (refine zC ?_ ?_ <;> intro hc; all_goals first | (cases hc; done) | ((try simp only [hc]); (try simp only [bm] at hc))) | refine zE ?_ | refine zNV ?_ | fail)
        refine ⟨(), fun j hj => ?_, rfl⟩
        by_cases e : j = i
        · subst e; rw [hx]; simpa using he
        · exact hp j (by omega)
    · intro u hp
      have hlk : lkA v.keys v.items k = none := lkA_none fun j hj => hp j (List.getElem?_eq_some_iff.1 hj).1 hj
      rw [hlk]
      repeat' (first | refine zA ?_ | refine zB ?_ | (refine zC ?_ ?_ <;> intro hc; all_goals first | (cases hc; done) | ((try simp only [hc]); (try simp only [bm] at hc))) | refine zE ?_ | refine zNV ?_ | fail)
      exact ⟨_, ⟨_, rfl, rfl⟩, .inr rfl, rfl, rfl⟩
  obtain ⟨r, ⟨C, hC, rfl⟩, hr⟩ := main
  exact ⟨C, hC, hr⟩
/-- In answers, of a value and a type. -/
def InR (T : Tab) (v : V) (t : Ty) : Prop := Ret T F.hallmarkref09_In [.val v.av, .val t.av] (one (.bool (inT v t)))
theorem inArr_of (h : Fn T F.hallmarkref09_inArr hallmarkref09_inArr.fn) (h1 : Fn T F.hallmarkref09_In hallmarkref09_In.fn) (l : List V) (hl : l.length ≤ 1073741824) (a : Ar) (ih : ∀ x ∈ l, InR T x a.item) :
    Ret T F.hallmarkref09_inArr [.val (.lst 5 (l.map V.row)), .val (.agg a.row)] (one (.bool (inArB (l.map inT) a))) := by
  have e1 : (l.map V.row).length = l.length := List.length_map ..
  have e2 : (l.map inT).length = l.length := List.length_map ..
  refine Ret.mk h rfl ?_
  rw [Ar.row_eq]
  have hq : inArB (l.map inT) a = (!(decide ((l.length : Int) < a.min) || (decide (a.max ≥ 0) && decide ((l.length : Int) > a.max))) && l.all fun x => inT x a.item) := by
    rw [inArB, e2, List.all_map]; rfl
  rw [hq]
  by_cases hcc : (decide ((l.length : Int) < a.min) || (decide (a.max ≥ 0) && decide ((l.length : Int) > a.max))) = true
  · rw [hcc]
    repeat' (first | refine zA ?_ | refine zB ?_ | (refine zC ?_ ?_ <;> intro hc; all_goals first | (cases hc; done) | ((try simp only [hc]); (try simp only [bm] at hc))) | refine zE ?_ | refine zNV ?_ | fail)
    all_goals first | exact Qend.boo rfl rfl rfl | (exfalso; simp_all; done) | (exfalso; simp_all; omega)
  · rw [Bool.not_eq_true] at hcc
    rw [hcc]
    repeat' (first | refine zA ?_ | refine zB ?_ | (refine zC ?_ ?_ <;> intro hc; all_goals first | (cases hc; done) | ((try simp only [hc]); (try simp only [bm] at hc))) | refine zE ?_ | refine zNV ?_ | fail)
    all_goals first | (exfalso; simp_all; done) | (exfalso; simp_all; omega) | skip
    all_goals
    refine W.listP l (fun i (_ : Unit) s => s.put 5 (.av (.int .i64 (i : Int)))) (fun i _ => (l.take i).all (fun x => inT x a.item) = true) () (by simp) rfl ?_ ?_
    all_goals first
    | (intro i x u hx hi hp
       have r := ih x (List.mem_of_getElem? hx)
       rw [InR, V.av_eq, Ty.av_eq] at r
       repeat' (first | refine zA ?_ | refine WQ.cl h1.modes ?_ | refine W1.cl h1.modes (r) ?_ | refine zB ?_ | (refine zC ?_ ?_ <;> intro hc; all_goals first | (cases hc; done) | ((try simp only [hc]); (try simp only [bm] at hc))) | refine zE ?_ | refine zNV ?_ | fail)
       all_goals first
         | (refine ⟨(), ?_, rfl⟩; rw [all_take_succ hx, hp]; clear r ih; simp_all; done)
         | (refine Qend.boo rfl rfl ?_; rw [all_false hx (by clear r ih; simp_all; done)]; rfl))
    | (intro u hp
       rw [List.take_length] at hp
       repeat' (first | refine zA ?_ | refine zB ?_ | (refine zC ?_ ?_ <;> intro hc; all_goals first | (cases hc; done) | ((try simp only [hc]); (try simp only [bm] at hc))) | refine zE ?_ | refine zNV ?_ | fail)
       refine Qend.boo rfl rfl ?_
       rw [hp]; rfl)
theorem range_all_false {p : Nat → Bool} {n i : Nat} (hi : i < n) (h : p i = false) : (List.range n).all p = false := by
  rw [List.all_eq_false]
  exact ⟨i, List.mem_range.2 hi, by rw [h]; simp⟩
theorem inObj_of (h : Fn T F.hallmarkref09_InObj hallmarkref09_InObj.fn) (h1 : Fn T F.hallmarkref09_In hallmarkref09_In.fn) (h2 : Fn T F.hallmarkref09_Has hallmarkref09_Has.fn) (h3 : Fn T F.hallmarkref03_Get hallmarkref03_Get.fn)
    (v : V) (hb : v.bk ≤ 1073741824) (hk : v.kind = 6) (hl : v.keys.length = v.items.length) (o : Ob) (hbo : o.bk ≤ 1073741824) (n1 : o.names.length = o.fields.length) (n2 : o.names.length = o.must.length)
    (ih : ∀ x ∈ v.items, ∀ t ∈ o.fields, InR T x t) (ihr : ∀ x ∈ v.items, InR T x o.rest) :
    Ret T F.hallmarkref09_InObj [.val v.av, .val (.agg o.row)] (one (.bool (inObB (v.items.map inT) v.keys o))) := by
  have hbk := V.bk_eq v
  have hlk := len_sbk v.keys
  have hob := Ob.bk_eq o
  have hln := len_sbk o.names
  have e1 := srow_len v.keys
  have e2 : (v.items.map V.row).length = v.items.length := List.length_map ..
  have e3 := srow_len o.names
  have e4 : (o.fields.map Ty.row).length = o.fields.length := List.length_map ..
  have e5 := brow_len o.must
  refine Ret.mk h rfl ?_
  rw [V.av_eq, Ob.row_eq, hk]
  have key : (List.range o.names.length).all (inObN (v.items.map inT) v.keys o) = true → W T (.loop [2, 3, 8] hallmarkref09_InObj.l2) ⟨lstE [(2, .plc ⟨.box 2, [], 0⟩), (3, .plc ⟨.box 3, [], 0⟩), (8, .av (.int .i64 0))], lstB [(2, some [.av (.int .i64 6), .av (.str v.num), .av (.str v.text), .av (.lst 5 (v.items.map V.row)), .av (.lst 1 (srow v.keys))]), (3, some [.av (.lst 1 (srow o.names)), .av (.lst 9 (o.fields.map Ty.row)), .av (.lst 1 (brow o.must)), .av (.bool o.rest.all), .av (.bool o.rest.nul), .av (.bool o.rest.fls), .av (.bool o.rest.tru), .av (.lst 2 (sprow o.rest.nums)), .av (.bool o.rest.anyText), .av (.lst 1 (srow o.rest.texts)), .av (.lst 11 (o.rest.arrays.map Ar.row)), .av (.lst 12 (o.rest.objects.map Ob.row))]), (8, none)]⟩
      (Qblk 2 (Qseq T (.seq (.reg hallmarkref09_InObj.r12 [4]) .ret) (Qend hallmarkref09_InObj.fn [.val (.agg [.int .i64 6, .str v.num, .str v.text, .lst 5 (v.items.map V.row), .lst 1 (srow v.keys)]), .val (.agg [.lst 1 (srow o.names), .lst 9 (o.fields.map Ty.row), .lst 1 (brow o.must), .bool o.rest.all, .bool o.rest.nul, .bool o.rest.fls, .bool o.rest.tru, .lst 2 (sprow o.rest.nums), .bool o.rest.anyText, .lst 1 (srow o.rest.texts), .lst 11 (o.rest.arrays.map Ar.row), .lst 12 (o.rest.objects.map Ob.row)])] (one (.bool (inObB (v.items.map inT) v.keys o)))))) := by
    intro hN
    have hq : inObB (v.items.map inT) v.keys o = (List.range v.keys.length).all (inObK (v.items.map inT) v.keys o) := by rw [inObB, hN, Bool.true_and]
    rw [hq]
    refine W.listP v.keys (fun i (_ : Unit) s => s.put 8 (.av (.int .i64 (i : Int)))) (fun i _ => (List.range i).all (inObK (v.items.map inT) v.keys o) = true) () rfl rfl ?_ ?_
    · intro i s u hx hi hp
      obtain ⟨x, hxi⟩ : ∃ x, v.items[i]? = some x := ⟨v.items[i]'(by omega), List.getElem?_eq_getElem (by omega)⟩
      have r := ihr x (List.mem_of_getElem? hxi)
      have r2 := has9_ret h2 o.names (by omega) s
      rw [InR, V.av_eq, Ty.av_eq] at r
      have hqi : inObK (v.items.map inT) v.keys o i = (o.names.contains s || inT x o.rest) := by
        simp only [inObK, List.getD, hx, List.getElem?_map, hxi, Option.map_some, Option.getD_some]
      generalize o.names.contains s = c1 at *
      generalize inT x o.rest = c2 at *
      cases c1 <;> cases c2
      all_goals skip
      repeat' (first | refine zA ?_ | refine WQ.cl h1.modes ?_ | refine W1.cl h1.modes (r) ?_ | refine WQ.cl h2.modes ?_ | refine W1.cl h2.modes (r2) ?_ | refine zB ?_ | (refine zC ?_ ?_ <;> intro hc; all_goals first | (cases hc; done) | ((try simp only [hc]); (try simp only [bm] at hc))) | refine zE ?_ | refine zNV ?_ | fail)
      all_goals first
        | (refine ⟨(), ?_, rfl⟩; rw [range_all_succ, hp, hqi]; rfl)
        | (refine Qend.boo rfl rfl ?_; rw [range_all_false hi hqi])
    · intro u hp
      repeat' (first | refine zA ?_ | refine zB ?_ | (refine zC ?_ ?_ <;> intro hc; all_goals first | (cases hc; done) | ((try simp only [hc]); (try simp only [bm] at hc))) | refine zE ?_ | refine zNV ?_ | fail)
      refine Qend.boo rfl rfl ?_
      rw [hp]
  repeat' (first | refine zA ?_ | refine zB ?_ | (refine zC ?_ ?_ <;> intro hc; all_goals first | (cases hc; done) | ((try simp only [hc]); (try simp only [bm] at hc))) | refine zE ?_ | refine zNV ?_ | fail)
  refine W.listP o.names (fun i (_ : Unit) s => s.put 5 (.av (.int .i64 (i : Int)))) (fun i _ => (List.range i).all (inObN (v.items.map inT) v.keys o) = true) () rfl rfl ?_ ?_
  · intro i s u hx hi hp
    obtain ⟨f, hfi⟩ : ∃ f, o.fields[i]? = some f := ⟨o.fields[i]'(by omega), List.getElem?_eq_getElem (by omega)⟩
    obtain ⟨m, hmi⟩ : ∃ m, o.must[i]? = some m := ⟨o.must[i]'(by omega), List.getElem?_eq_getElem (by omega)⟩
    obtain ⟨C, hC, r3⟩ := get3_ret h3 v hb hk hl s
    have hqi : inObN (v.items.map inT) v.keys o i = (match (lkA v.keys v.items s).map inT with | some g => g f | none => !m) := by
      simp only [inObN, List.getD, hx, hfi, hmi, Option.getD_some, lkA_map]
      rfl
    have hmm : ∀ y, lkA v.keys v.items s = some y → y ∈ v.items := fun y e => lkA_mem e
    rw [V.av_eq, hk] at r3
    clear key
    cases hy : lkA v.keys v.items s with
    | none =>
      rw [hy] at hqi hC r3
      rw [Option.getD_none] at hC
      simp only [Option.map_none] at hqi
      cases m
      all_goals skip
      repeat' (first | refine zA ?_ | ((apply W1.callD2 (hm := h3.modes) (row := [.int .i64 0, .str [], .str [], .lst 5 [], .lst 1 []]) hC; (iterate 5 exact rfl); exact r3; exact rfl)) | (refine WQ.cl h3.modes ?_) | refine zB ?_ | (refine zC ?_ ?_ <;> intro hc; all_goals first | (cases hc; done) | ((try simp only [hc]); (try simp only [bm] at hc))) | refine zE ?_ | refine zNV ?_ | fail)
      all_goals first
        | (refine ⟨(), ?_, rfl⟩; rw [range_all_succ, hp, hqi]; rfl)
        | (refine Qend.boo rfl rfl ?_; rw [inObB, range_all_false hi hqi]; rfl)
        | trace_state
    | some y =>
      rw [hy] at hqi hC r3
      rw [Option.getD_some, V.row_eq] at hC
      simp only [Option.map_some] at hqi
      have r := ih y (hmm y hy) f (List.mem_of_getElem? hfi)
      rw [InR, V.av_eq, Ty.av_eq] at r
      generalize inT y f = c2 at *
      cases c2
      all_goals skip
      repeat' (first | refine zA ?_ | (refine W1.cd2 h3.modes hC r3 ?_) | (refine WQ.cl h3.modes ?_) | refine WQ.cl h1.modes ?_ | refine W1.cl h1.modes (r) ?_ | refine zB ?_ | (refine zC ?_ ?_ <;> intro hc; all_goals first | (cases hc; done) | ((try simp only [hc]); (try simp only [bm] at hc))) | refine zE ?_ | refine zNV ?_ | fail)
      all_goals first
        | (refine ⟨(), ?_, rfl⟩; rw [range_all_succ, hp, hqi]; rfl)
        | (refine Qend.boo rfl rfl ?_; rw [inObB, range_all_false hi hqi]; rfl)
        | trace_state
  · intro u hp
    have key := key hp
    repeat' (first | refine zA ?_ | (exact key) | refine zB ?_ | (refine zC ?_ ?_ <;> intro hc; all_goals first | (cases hc; done) | ((try simp only [hc]); (try simp only [bm] at hc))) | refine zE ?_ | refine zNV ?_ | fail)
end
end Hm

/- In of the reference, of any value and type. Conditions: both well shaped. NORMX NORMY -/
namespace Hm
open Go (IntKind)
set_option maxHeartbeats 40000000
set_option maxRecDepth 4000
/-- What In reaches. -/
structure IgFns (T : Tab) : Prop where
  a1 : Fn T F.hallmarkref09_In hallmarkref09_In.fn
  a2 : Fn T F.hallmarkref09_inArr hallmarkref09_inArr.fn
  a3 : Fn T F.hallmarkref09_InObj hallmarkref09_InObj.fn
  a4 : Fn T F.hallmarkref09_InSpan hallmarkref09_InSpan.fn
  a5 : Fn T F.hallmarkref09_Has hallmarkref09_Has.fn
  a6 : Fn T F.hallmarkref03_Get hallmarkref03_Get.fn
  a7 : Fn T F.hallmarkref03_Numbers hallmarkref03_Numbers.fn
  a8 : Fn T F.hallmarkref03_Texts hallmarkref03_Texts.fn
theorem tformed_parts {t : Ty} (h : tformed t = true) : (∀ s ∈ t.nums, spanOk s = true) ∧ (∀ a ∈ t.arrays, tformed a.item = true) ∧ (∀ o ∈ t.objects, o.names.length = o.fields.length ∧ o.names.length = o.must.length ∧ tformed o.rest = true ∧ fieldsOk o.fields o.must = true) := by
  rw [tformed_eq] at h
  simp only [Bool.and_eq_true, spansOk, List.all_eq_true] at h
  obtain ⟨-, ⟨-, h1⟩, ⟨-, h2⟩, h3⟩ := h
  refine ⟨h1, fun a ha => ?_, fun o ho => ?_⟩
  · have := h2 a ha
    rw [arOk_eq] at this
    simp only [Bool.and_eq_true] at this
    exact this.2.1
  · have := h3 o ho
    rw [obOk_eq] at this
    simp only [Bool.and_eq_true, decide_eq_true_eq] at this
    exact ⟨this.1.1.1.1, this.1.1.1.2, this.1.2, this.2⟩
theorem fieldsOk_mem : ∀ {l : List Ty} {ms : List Bool}, fieldsOk l ms = true → ∀ x ∈ l, tformed x = true
  | [], _, _, x, hx => by cases hx
  | y :: l, ms, h, x, hx => by
    simp only [fieldsOk, Bool.and_eq_true] at h
    rcases List.mem_cons.1 hx with rfl | hx
    · exact h.1.1
    · exact fieldsOk_mem h.2 x hx
theorem bounds_span {s : Sp} (h : spanOk s = true) (l1 : s.1.length ≤ 1073741824) (l2 : s.2.length ≤ 1073741824) : Bounds s := by
  simp only [spanOk, Bool.and_eq_true, boundOk, Bool.or_eq_true, beq_iff_eq] at h
  exact ⟨fun hn => h.1.1.resolve_left hn, fun hn => h.1.2.resolve_left hn, l1, l2⟩
theorem any_take_succ {α : Type} {p : α → Bool} {l : List α} {i : Nat} {x : α} (h : l[i]? = some x) : (l.take (i + 1)).any p = ((l.take i).any p || p x) := by
  rw [List.take_add_one, h, List.any_append]; simp
theorem any_true {α : Type} {p : α → Bool} {l : List α} {i : Nat} {x : α} (h : l[i]? = some x) (hp : p x = true) : l.any p = true :=
  List.any_eq_true.2 ⟨x, List.mem_of_getElem? h, hp⟩
section
variable {T : Tab}
theorem in_ret (f : IgFns T) : ∀ v : V, v.bk ≤ 1073741824 → formed v = true → ∀ t : Ty, t.bk ≤ 1073741824 → tformed t = true → InR T v t := by
  intro v
  induction v using V.ind with
  | h v ih =>
  intro hb hf t hbt hft
  obtain ⟨p1, p2, p3⟩ := tformed_parts hft
  have hbk := V.bk_eq v
  have hl := V.len_bks v.items
  have htk := Ty.bk_eq t
  have l1 := len_sbk t.texts
  have l2 := len_obBks t.objects
  have e1 := srow_len t.texts
  have e2 : (t.objects.map Ob.row).length = t.objects.length := List.length_map ..
  have ih' : ∀ x ∈ v.items, ∀ u : Ty, u.bk ≤ 1073741824 → tformed u = true → InR T x u := fun x hx u hu hu2 => ih x hx (by have := V.bk_item hx; omega) ((formed_inv hf).2.2.2.2.2.2.2.2 x hx) u hu hu2
  have hfi := formed_inv hf
  rw [InR, inT_eq]
  unfold inBody
  cases hA : t.all
  rotate_left
  · refine Ret.mk f.a1 rfl ?_
    rw [V.av_eq, Ty.av_eq, hA]
    repeat' (first | refine zA ?_ | refine zB ?_ | (refine zC ?_ ?_ <;> intro hc; all_goals first | (cases hc; done) | ((try simp only [hc]); (try simp only [bm] at hc))) | refine zE ?_ | refine zNV ?_ | fail)
    all_goals first | exact Qend.boo rfl rfl rfl | (exfalso; simp_all; done)
  rw [Bool.false_or]
  rcases kinds7 hf with (hk | hk | hk) | hk | hk | hk | hk
  · refine Ret.mk f.a1 rfl ?_
    rw [V.av_eq, Ty.av_eq, hA, hk]
    repeat' (first | refine zA ?_ | refine zB ?_ | (refine zC ?_ ?_ <;> intro hc; all_goals first | (cases hc; done) | ((try simp only [hc]); (try simp only [bm] at hc))) | refine zE ?_ | refine zNV ?_ | fail)
    all_goals first | exact Qend.boo rfl rfl rfl | (exfalso; simp_all; done)
  · refine Ret.mk f.a1 rfl ?_
    rw [V.av_eq, Ty.av_eq, hA, hk]
    repeat' (first | refine zA ?_ | refine zB ?_ | (refine zC ?_ ?_ <;> intro hc; all_goals first | (cases hc; done) | ((try simp only [hc]); (try simp only [bm] at hc))) | refine zE ?_ | refine zNV ?_ | fail)
    all_goals first | exact Qend.boo rfl rfl rfl | (exfalso; simp_all; done)
  · refine Ret.mk f.a1 rfl ?_
    rw [V.av_eq, Ty.av_eq, hA, hk]
    repeat' (first | refine zA ?_ | refine zB ?_ | (refine zC ?_ ?_ <;> intro hc; all_goals first | (cases hc; done) | ((try simp only [hc]); (try simp only [bm] at hc))) | refine zE ?_ | refine zNV ?_ | fail)
    all_goals first | exact Qend.boo rfl rfl rfl | (exfalso; simp_all; done)
  · cases hN : t.nums with
    | nil =>
      refine Ret.mk f.a1 rfl ?_
      rw [V.av_eq, Ty.av_eq, hA, hk, hN]
      repeat' (first | refine zA ?_ | refine zB ?_ | (refine zC ?_ ?_ <;> intro hc; all_goals first | (cases hc; done) | ((try simp only [hc]); (try simp only [bm] at hc))) | refine zE ?_ | refine zNV ?_ | fail)
      all_goals first | exact Qend.boo rfl rfl rfl | (exfalso; simp_all; done) | (exfalso; omega)
    | cons s r =>
      have hsb := spbk_mem (show s ∈ t.nums by rw [hN]; simp)
      have r1 := refInSpan_ret f.a4 f.a7 f.a8 v.num s (hfi.2.1 hk) (by omega) (bounds_span (p1 s (by rw [hN]; simp)) (by omega) (by omega))
      rw [Sp.av] at r1
      refine Ret.mk f.a1 rfl ?_
      rw [V.av_eq, Ty.av_eq, hA, hk, hN]
      repeat' (first | refine zA ?_ | ((apply W1.iadr; (iterate 3 exact rfl); omega; exact rfl)) | refine WQ.cl f.a4.modes ?_ | refine W1.cl f.a4.modes (r1) ?_ | refine zB ?_ | (refine zC ?_ ?_ <;> intro hc; all_goals first | (cases hc; done) | ((try simp only [hc]); (try simp only [bm] at hc))) | refine zE ?_ | refine zNV ?_ | fail)
      all_goals first | exact Qend.boo rfl rfl rfl | (exfalso; simp_all; done) | (exfalso; omega) | (exfalso; simp only [sprow, List.map_cons, List.length_cons] at *; omega)
  · refine Ret.mk f.a1 rfl ?_
    rw [V.av_eq, Ty.av_eq, hA, hk]
    cases hT : t.anyText
    rotate_left
    · skip
      repeat' (first | refine zA ?_ | refine zB ?_ | (refine zC ?_ ?_ <;> intro hc; all_goals first | (cases hc; done) | ((try simp only [hc]); (try simp only [bm] at hc))) | refine zE ?_ | refine zNV ?_ | fail)
      all_goals first | exact Qend.boo rfl rfl rfl | (exfalso; simp_all; done)
    · skip
      repeat' (first | refine zA ?_ | refine zB ?_ | (refine zC ?_ ?_ <;> intro hc; all_goals first | (cases hc; done) | ((try simp only [hc]); (try simp only [bm] at hc))) | refine zE ?_ | refine zNV ?_ | fail)
      all_goals first | (exfalso; simp_all; done) | skip
      refine W.listP t.texts (fun i (_ : Unit) s => s.put 5 (.av (.int .i64 (i : Int)))) (fun i _ => ∀ j, j < i → t.texts[j]? ≠ some v.text) () (by intro j hj; omega) rfl ?_ ?_
      · intro i x u hx hi hp
        repeat' (first | refine zA ?_ | refine zB ?_ | (refine zC ?_ ?_ <;> intro hc; all_goals first | (cases hc; done) | ((try simp only [hc]); (try simp only [bm] at hc))) | refine zE ?_ | refine zNV ?_ | fail)
        · refine Qend.boo rfl rfl ?_
          show _ = ([] ++ t.texts).contains v.text
          subst hc
          exact (List.contains_iff_mem.2 (List.mem_of_getElem? hx)).symm
        · refine ⟨(), fun j hj => ?_, rfl⟩
          by_cases e : j = i
          · subst e; rw [hx]; simpa using hc
          · exact hp j (by omega)
      · intro u hp
        repeat' (first | refine zA ?_ | refine zB ?_ | (refine zC ?_ ?_ <;> intro hc; all_goals first | (cases hc; done) | ((try simp only [hc]); (try simp only [bm] at hc))) | refine zE ?_ | refine zNV ?_ | fail)
        refine Qend.boo rfl rfl ?_
        show false = t.texts.contains v.text
        cases hcn : t.texts.contains v.text
        · rfl
        · exfalso
          obtain ⟨j, hj⟩ := List.mem_iff_getElem?.1 (List.contains_iff_mem.1 hcn)
          exact hp j (List.getElem?_eq_some_iff.1 hj).1 hj
  · cases hN : t.arrays with
    | nil =>
      refine Ret.mk f.a1 rfl ?_
      rw [V.av_eq, Ty.av_eq, hA, hk, hN]
      repeat' (first | refine zA ?_ | refine zB ?_ | (refine zC ?_ ?_ <;> intro hc; all_goals first | (cases hc; done) | ((try simp only [hc]); (try simp only [bm] at hc))) | refine zE ?_ | refine zNV ?_ | fail)
      all_goals first | exact Qend.boo rfl rfl rfl | (exfalso; simp_all; done) | (exfalso; omega)
    | cons a r =>
      have ham : a ∈ t.arrays := by rw [hN]; simp
      have hab := arBk_mem ham
      have hak := Ar.bk_eq a
      have r1 := inArr_of f.a2 f.a1 v.items (by omega) a (fun x hx => ih' x hx a.item (by omega) (p2 a ham))
      rw [Ar.row_eq] at r1
      refine Ret.mk f.a1 rfl ?_
      rw [V.av_eq, Ty.av_eq, hA, hk, hN, List.map_cons, Ar.row_eq a]
      repeat' (first | refine zA ?_ | ((apply W1.iadr; (iterate 3 exact rfl); omega; exact rfl)) | refine WQ.cl f.a2.modes ?_ | refine W1.cl f.a2.modes (r1) ?_ | refine zB ?_ | (refine zC ?_ ?_ <;> intro hc; all_goals first | (cases hc; done) | ((try simp only [hc]); (try simp only [bm] at hc))) | refine zE ?_ | refine zNV ?_ | fail)
      all_goals first | exact Qend.boo rfl rfl rfl | (exfalso; simp_all; done) | (exfalso; omega) | (exfalso; simp only [List.map_cons, List.length_cons] at *; omega)
  · refine Ret.mk f.a1 rfl ?_
    have hlk := (hfi.2.2.2.2.2.2.2.1 hk).1
    rw [V.av_eq, Ty.av_eq, hA, hk]
    repeat' (first | refine zA ?_ | refine zB ?_ | (refine zC ?_ ?_ <;> intro hc; all_goals first | (cases hc; done) | ((try simp only [hc]); (try simp only [bm] at hc))) | refine zE ?_ | refine zNV ?_ | fail)
    refine W.listP t.objects (fun i (_ : Unit) s => s.put 6 (.av (.int .i64 (i : Int)))) (fun i _ => (t.objects.take i).any (inObB (v.items.map inT) v.keys) = false) () rfl rfl ?_ ?_
    · intro i o u hx hi hp
      have hom := List.mem_of_getElem? hx
      have hob := obBk_mem hom
      have hok := Ob.bk_eq o
      obtain ⟨q1, q2, q3, q4⟩ := p3 o hom
      have r1 := inObj_of f.a3 f.a1 f.a5 f.a6 v hb hk hlk o (by omega) q1 q2 (fun x hx u hu => ih' x hx u (by have := tyBk_mem hu; omega) (fieldsOk_mem q4 u hu)) (fun x hx => ih' x hx o.rest (by omega) q3)
      rw [V.av_eq, Ob.row_eq, hk] at r1
      have hst := any_take_succ (p := inObB (v.items.map inT) v.keys) hx
      have htr : inObB (v.items.map inT) v.keys o = true → t.objects.any (inObB (v.items.map inT) v.keys) = true := any_true hx
      generalize inObB (v.items.map inT) v.keys o = c at *
      cases c
      all_goals skip
      repeat' (first | refine zA ?_ | refine WQ.cl f.a3.modes ?_ | refine W1.cl f.a3.modes (r1) ?_ | refine zB ?_ | (refine zC ?_ ?_ <;> intro hc; all_goals first | (cases hc; done) | ((try simp only [hc]); (try simp only [bm] at hc))) | refine zE ?_ | refine zNV ?_ | fail)
      · exact ⟨(), by rw [hst, hp]; rfl, rfl⟩
      · refine Qend.boo rfl rfl ?_
        exact (htr rfl).symm
    · intro u hp
      rw [List.take_length] at hp
      repeat' (first | refine zA ?_ | refine zB ?_ | (refine zC ?_ ?_ <;> intro hc; all_goals first | (cases hc; done) | ((try simp only [hc]); (try simp only [bm] at hc))) | refine zE ?_ | refine zNV ?_ | fail)
      refine Qend.boo rfl rfl ?_
      exact hp.symm
end
end Hm

/- Plain values, depth. Conditions: see each theorem. NORMX NORMY -/
namespace Hm
open Go (IntKind)
set_option maxHeartbeats 40000000
set_option maxRecDepth 4000
section
variable {T : Tab}
theorem plain_ret (h : Fn T F.hallmarklaw09_plain hallmarklaw09_plain.fn) (h1 : Fn T F.hallmarkref03_Like hallmarkref03_Like.fn) : ∀ v : V, v.bk ≤ 1073741824 → Ret T F.hallmarklaw09_plain [.val v.av] (one (.bool (plainV v))) := by
  intro v
  induction v using V.ind with
  | h v ih =>
  intro hb
  have hbk := V.bk_eq v
  have hlk := len_sbk v.keys
  have hl := V.len_bks v.items
  have e1 := srow_len v.keys
  have e2 : (v.items.map V.row).length = v.items.length := List.length_map ..
  refine Ret.mk h rfl ?_
  rw [V.av_eq, plainV_eq]
  by_cases hk12 : v.keys.length ≤ 12
  rotate_left
  · rw [decide_eq_false hk12]
    repeat' (first | refine zA ?_ | refine zB ?_ | (refine zC ?_ ?_ <;> intro hc; all_goals first | (cases hc; done) | ((try simp only [hc]); (try simp only [bm] at hc))) | refine zE ?_ | refine zNV ?_ | fail)
    all_goals first | exact Qend.boo rfl rfl rfl | (exfalso; omega)
  rw [decide_eq_true hk12, Bool.true_and]
  repeat' (first | refine zA ?_ | refine zB ?_ | (refine zC ?_ ?_ <;> intro hc; all_goals first | (cases hc; done) | ((try simp only [hc]); (try simp only [bm] at hc))) | refine zE ?_ | refine zNV ?_ | fail)
  all_goals first | (exfalso; omega) | skip
  refine W.listP v.items (fun i (_ : Unit) s => s.put 3 (.av (.int .i64 (i : Int)))) (fun i _ => (v.items.take i).all plainV = true ∧ (v.kind = 5 → ∀ y ∈ v.items.take i, ∀ z, v.items[0]? = some z → y = z)) () ⟨rfl, by simp⟩ rfl ?_ ?_
  · intro i x u hx hi hp
    obtain ⟨hp, hp2⟩ := hp
    obtain ⟨z, hz⟩ : ∃ z, v.items[0]? = some z := ⟨v.items[0]'(by omega), List.getElem?_eq_getElem (by omega)⟩
    have hxm := List.mem_of_getElem? hx
    have hzm := List.mem_of_getElem? hz
    have r1 := ih x hxm (by have := V.bk_item hxm; omega)
    have r2 := likeE_ret h1 x (by have := V.bk_item hxm; omega) z (by have := V.bk_item hzm; omega)
    have hst := all_take_succ (p := plainV) hx
    have haf : plainV x = false → v.items.all plainV = false := fun e => all_false hx e
    have hsf : sameV x z = false → sameAll v.items = false := fun e => by
      cases hs : sameAll v.items
      · rfl
      · have := sameAll_inv hs x hxm z hzm
        rw [this, sameV_self] at e; cases e
    have hse : sameV x z = true → x = z := sameV_eq
    have htk : ∀ y ∈ v.items.take (i + 1), y ∈ v.items.take i ∨ y = x := fun y hy => by
      rw [List.take_add_one, hx] at hy
      simpa using hy
    rw [V.av_eq] at r1 r2
    rw [V.av_eq z] at r2
    generalize plainV x = c1 at *
    generalize sameV x z = c2 at *
    have hz0 : (v.items.map V.row)[Int.toNat 0]? = some z.row := by rw [List.getElem?_map]; show Option.map V.row (v.items[0]?) = _; rw [hz]; rfl
    rw [V.row_eq z] at hz0
    cases c1
    · skip
      repeat' (first | refine zA ?_ | refine WQ.cl h.modes ?_ | refine W1.cl h.modes (r1) ?_ | refine zB ?_ | (refine zC ?_ ?_ <;> intro hc; all_goals first | (cases hc; done) | ((try simp only [hc]); (try simp only [bm] at hc))) | refine zE ?_ | refine zNV ?_ | fail)
      all_goals first
        | (refine Qend.boo rfl rfl ?_; rw [haf rfl]; rfl)
        | (exfalso; simp_all; done)
    · by_cases hk5 : v.kind = 5
      · cases c2
        · skip
          repeat' (first | refine zA ?_ | refine WQ.cl h.modes ?_ | refine W1.cl h.modes (r1) ?_ | refine WQ.cl h1.modes ?_ | refine W1.cl h1.modes (r2) ?_ | refine zB ?_ | (refine zC ?_ ?_ <;> intro hc; all_goals first | (cases hc; done) | ((try simp only [hc]); (try simp only [bm] at hc))) | refine zE ?_ | refine zNV ?_ | fail)
          all_goals first
            | (refine Qend.boo rfl rfl ?_; rw [hsf rfl, hk5]; simp; done)
            | (exfalso; simp_all; done)
        · skip
          repeat' (first | refine zA ?_ | refine WQ.cl h.modes ?_ | refine W1.cl h.modes (r1) ?_ | refine WQ.cl h1.modes ?_ | refine W1.cl h1.modes (r2) ?_ | refine zB ?_ | (refine zC ?_ ?_ <;> intro hc; all_goals first | (cases hc; done) | ((try simp only [hc]); (try simp only [bm] at hc))) | refine zE ?_ | refine zNV ?_ | fail)
          all_goals first
            | (refine ⟨(), ⟨by rw [hst, hp]; rfl, fun h5 y hy z' hz' => ?_⟩, rfl⟩
               rw [hz] at hz'; cases hz'
               rcases htk y hy with hy | rfl
               · exact hp2 h5 y hy _ hz
               · exact hse rfl)
            | (exfalso; simp_all; done)
      · skip
        repeat' (first | refine zA ?_ | refine WQ.cl h.modes ?_ | refine W1.cl h.modes (r1) ?_ | refine zB ?_ | (refine zC ?_ ?_ <;> intro hc; all_goals first | (cases hc; done) | ((try simp only [hc]); (try simp only [bm] at hc))) | refine zE ?_ | refine zNV ?_ | fail)
        all_goals first
          | (refine ⟨(), ⟨by rw [hst, hp]; rfl, fun h5 => absurd h5 hk5⟩, rfl⟩)
          | (exfalso; simp_all; done)
  · intro u hp
    obtain ⟨hp, hp2⟩ := hp
    rw [List.take_length] at hp hp2
    repeat' (first | refine zA ?_ | refine zB ?_ | (refine zC ?_ ?_ <;> intro hc; all_goals first | (cases hc; done) | ((try simp only [hc]); (try simp only [bm] at hc))) | refine zE ?_ | refine zNV ?_ | fail)
    refine Qend.boo rfl rfl ?_
    rw [hp]
    by_cases hk5 : v.kind = 5
    · have : sameAll v.items = true := by
        cases hi : v.items with
        | nil => rfl
        | cons x r =>
          refine List.all_eq_true.2 fun y hy => ?_
          have := hp2 hk5 y (by rw [hi]; simp [hy]) x (by rw [hi]; rfl)
          rw [this, sameV_self]
      rw [this]; simp
    · rw [decide_eq_false hk5]; rfl
theorem depth9_ret (h : Fn T F.hallmarkref03_Depth hallmarkref03_Depth.fn) : ∀ v : V, v.bk ≤ 1073741824 → Ret T F.hallmarkref03_Depth [.val v.av] (one (.int .i64 (dq v : Nat))) := by
  intro v
  induction v using V.ind with
  | h v ih =>
  intro hb
  have hbk := V.bk_eq v
  have hl := V.len_bks v.items
  have e2 : (v.items.map V.row).length = v.items.length := List.length_map ..
  have hdq := dq_eq v
  have hdl := dq_le v
  refine Ret.mk h rfl ?_
  rw [V.av_eq]
  by_cases hk : v.kind < 5
  · rw [if_pos hk] at hdq
    rw [hdq]
    repeat' (first | refine zA ?_ | refine zB ?_ | (refine zC ?_ ?_ <;> intro hc; all_goals first | (cases hc; done) | ((try simp only [hc]); (try simp only [bm] at hc))) | refine zE ?_ | refine zNV ?_ | fail)
    all_goals first | exact Qend.num rfl rfl rfl | (exfalso; omega)
  · rw [if_neg hk] at hdq
    rw [hdq]
    repeat' (first | refine zA ?_ | refine zB ?_ | (refine zC ?_ ?_ <;> intro hc; all_goals first | (cases hc; done) | ((try simp only [hc]); (try simp only [bm] at hc))) | refine zE ?_ | refine zNV ?_ | fail)
    all_goals first | (exfalso; omega) | skip
    refine W.listP v.items (fun i (n : Int) s => (s.put 3 (.av (.int .i64 n))).put 4 (.av (.int .i64 (i : Int)))) (fun i n => n = ((dqs (v.items.take i) + 1 : Nat) : Int)) 1 (by simp [dqs]) rfl ?_ ?_
    · intro i x n hx hi hp
      have hm := List.mem_of_getElem? hx
      have r := ih x hm (by have := V.bk_item hm; omega)
      have hst := dqs_take_succ hx
      have hle := dqs_take_le v.items (i + 1)
      rw [V.av_eq] at r
      repeat' (first | refine zA ?_ | refine WQ.cl h.modes ?_ | refine W1.cl h.modes (r) ?_ | refine zB ?_ | (refine zC ?_ ?_ <;> intro hc; all_goals first | (cases hc; done) | ((try simp only [hc]); (try simp only [bm] at hc))) | refine zE ?_ | refine zNV ?_ | fail)
      all_goals exact ⟨_, by omega, rfl⟩
    · intro n hp
      rw [List.take_length] at hp
      subst hp
      repeat' (first | refine zA ?_ | refine zB ?_ | (refine zC ?_ ?_ <;> intro hc; all_goals first | (cases hc; done) | ((try simp only [hc]); (try simp only [bm] at hc))) | refine zE ?_ | refine zNV ?_ | fail)
      exact Qend.num rfl rfl rfl
end
end Hm

/- Comparisons of Go's library. Conditions: see each theorem. -/
namespace Hm
open Go (IntKind)
set_option maxHeartbeats 4000000
set_option maxRecDepth 4000
theorem isNaNInt_ret {T : Tab} (h : Fn T F.cmp_isNaN_int cmp_isNaN_int.fn) (a : Int) : Ret T F.cmp_isNaN_int [.val (.int .i64 a)] (one (.bool false)) := by
  refine Ret.mk h rfl ?_
  repeat' (first | refine zA ?_ | refine zB ?_ | (refine zC ?_ ?_ <;> intro hc; all_goals first | (cases hc; done) | ((try simp only [hc]); (try simp only [bm] at hc))) | refine zE ?_ | refine zN ?_ | fail)
  refine Qend.boo rfl rfl ?_
  simp
theorem isNaNStr_ret {T : Tab} (h : Fn T F.cmp_isNaN_string cmp_isNaN_string.fn) (a : Str) : Ret T F.cmp_isNaN_string [.val (.str a)] (one (.bool false)) := by
  refine Ret.mk h rfl ?_
  repeat' (first | refine zA ?_ | refine zB ?_ | (refine zC ?_ ?_ <;> intro hc; all_goals first | (cases hc; done) | ((try simp only [hc]); (try simp only [bm] at hc))) | refine zE ?_ | refine zN ?_ | fail)
  refine Qend.boo rfl rfl ?_
  simp
theorem cmpInt_ret {T : Tab} (h : Fn T F.cmp_Compare_int cmp_Compare_int.fn) (h1 : Fn T F.cmp_isNaN_int cmp_isNaN_int.fn) (a b : Int) : Ret T F.cmp_Compare_int [.val (.int .i64 a), .val (.int .i64 b)] (one (.int .i64 (icmp a b))) := by
  have r1 := isNaNInt_ret h1 a
  have r2 := isNaNInt_ret h1 b
  refine Ret.mk h rfl ?_
  repeat' (first | refine zA ?_ | refine WQ.cl h1.modes ?_ | refine W1.cl h1.modes (r1) ?_ | refine WQ.cl h1.modes ?_ | refine W1.cl h1.modes (r2) ?_ | refine zB ?_ | (refine zC ?_ ?_ <;> intro hc; all_goals first | (cases hc; done) | ((try simp only [hc]); (try simp only [bm] at hc))) | refine zE ?_ | refine zN ?_ | fail)
  all_goals refine Qend.num rfl rfl ?_
  all_goals simp only [icmp]
  all_goals first
    | rw [if_pos (by omega)]
    | (rw [if_neg (by omega), if_pos (by omega)]; done)
    | (rw [if_neg (by omega), if_neg (by omega)]; done)
theorem cmpStr_ret {T : Tab} (h : Fn T F.cmp_Compare_string cmp_Compare_string.fn) (h1 : Fn T F.cmp_isNaN_string cmp_isNaN_string.fn) (a b : Str) : Ret T F.cmp_Compare_string [.val (.str a), .val (.str b)] (one (.int .i64 (tcmp a b))) := by
  have r1 := isNaNStr_ret h1 a
  have r2 := isNaNStr_ret h1 b
  refine Ret.mk h rfl ?_
  repeat' (first | refine zA ?_ | refine WQ.cl h1.modes ?_ | refine W1.cl h1.modes (r1) ?_ | refine WQ.cl h1.modes ?_ | refine W1.cl h1.modes (r2) ?_ | refine zB ?_ | (refine zC ?_ ?_ <;> intro hc; all_goals first | (cases hc; done) | ((try simp only [hc]); (try simp only [bm] at hc))) | refine zE ?_ | refine zN ?_ | fail)
  all_goals refine Qend.num rfl rfl ?_
  all_goals simp_all [tcmp]
theorem lcmp_drop {α : Type} {c : α → α → Int} {l m : List α} {i : Nat} {x y : α} (hx : l[i]? = some x) (hy : m[i]? = some y) : lcmp c (l.drop i) (m.drop i) = orI (c x y) (lcmp c (l.drop (i + 1)) (m.drop (i + 1))) := by
  have h1 := (List.getElem?_eq_some_iff.1 hx)
  have h2 := (List.getElem?_eq_some_iff.1 hy)
  obtain ⟨h1, rfl⟩ := h1
  obtain ⟨h2, rfl⟩ := h2
  rw [List.drop_eq_getElem_cons h1, List.drop_eq_getElem_cons h2, lcmp]
theorem lcmp_more {α : Type} {c : α → α → Int} {l m : List α} {i : Nat} (h1 : i < l.length) (h2 : m.length ≤ i) : lcmp c (l.drop i) (m.drop i) = 1 := by
  rw [List.drop_eq_getElem_cons h1, List.drop_eq_nil_of_le h2, lcmp]
theorem lcmp_end {α : Type} {c : α → α → Int} {l m : List α} : lcmp c (l.drop l.length) (m.drop l.length) = if l.length < m.length then -1 else 0 := by
  rw [List.drop_length]
  by_cases h : l.length < m.length
  · rw [if_pos h, List.drop_eq_getElem_cons h, lcmp]
  · rw [if_neg h, List.drop_eq_nil_of_le (by omega), lcmp]
theorem cmpStrs_ret {T : Tab} (h : Fn T F.slices_Compare_Lstring_string slices_Compare_Lstring_string.fn) (h0 : Fn T F.cmp_Compare_string cmp_Compare_string.fn) (h1 : Fn T F.cmp_isNaN_string cmp_isNaN_string.fn) (l m : List Str) (hl : l.length ≤ 1073741824) (hm : m.length ≤ 1073741824) :
    Ret T F.slices_Compare_Lstring_string [.val (.lst 1 (srow l)), .val (.lst 1 (srow m))] (one (.int .i64 (lcmp tcmp l m))) := by
  have e1 := srow_len l
  have e2 := srow_len m
  refine Ret.mk h rfl ?_
  repeat' (first | refine zA ?_ | refine zB ?_ | (refine zC ?_ ?_ <;> intro hc; all_goals first | (cases hc; done) | ((try simp only [hc]); (try simp only [bm] at hc))) | refine zE ?_ | refine zN ?_ | fail)
  refine W.listP l (fun i (_ : Unit) s => s.put 11 (.av (.int .i64 (i : Int)))) (fun i _ => i ≤ m.length ∧ lcmp tcmp (l.drop i) (m.drop i) = lcmp tcmp l m) () ⟨by omega, rfl⟩ rfl ?_ ?_
  · intro i x u hx hi hp
    obtain ⟨hp1, hp2⟩ := hp
    by_cases him : i < m.length
    · obtain ⟨y, hy⟩ : ∃ y, m[i]? = some y := ⟨m[i], List.getElem?_eq_getElem him⟩
      have r := cmpStr_ret h0 h1 x y
      have e := lcmp_drop (c := tcmp) hx hy
      repeat' (first | refine zA ?_ | refine WQ.cl h0.modes ?_ | refine W1.cl h0.modes (r) ?_ | refine zB ?_ | (refine zC ?_ ?_ <;> intro hc; all_goals first | (cases hc; done) | ((try simp only [hc]); (try simp only [bm] at hc))) | refine zE ?_ | refine zN ?_ | fail)
      · exact Qend.num rfl rfl (by rw [← hp2, e, orI_ne (by assumption)])
      · exact ⟨(), ⟨by omega, by rw [← hp2, e, show tcmp x y = 0 by omega, orI0]⟩, rfl⟩
    · skip
      repeat' (first | refine zA ?_ | refine zB ?_ | (refine zC ?_ ?_ <;> intro hc; all_goals first | (cases hc; done) | ((try simp only [hc]); (try simp only [bm] at hc))) | refine zE ?_ | refine zN ?_ | fail)
      exact Qend.num rfl rfl (by rw [← hp2, lcmp_more hi (by omega)])
  · intro u hp
    have e := lcmp_end (c := tcmp) (l := l) (m := m)
    rw [hp.2] at e
    repeat' (first | refine zA ?_ | refine zB ?_ | (refine zC ?_ ?_ <;> intro hc; all_goals first | (cases hc; done) | ((try simp only [hc]); (try simp only [bm] at hc))) | refine zE ?_ | refine zN ?_ | fail)
    · exact Qend.num rfl rfl (by rw [e, if_pos (by omega)])
    · exact Qend.num rfl rfl (by rw [e, if_neg (by omega)])
def orL : List Int → Int
  | [] => 0
  | x :: r => orI x (orL r)
def irow (l : List Int) : List (List AV) := l.map fun n => [AV.int .i64 n]
theorem irow_len (l : List Int) : (irow l).length = l.length := by simp [irow]
theorem get_irow {l : List Int} {i : Nat} {x : Int} (h : l[i]? = some x) : (irow l)[i]? = some [.int .i64 x] := by simp only [irow, List.getElem?_map, h, Option.map_some]
theorem cmpOr_ret {T : Tab} (h : Fn T F.cmp_Or_int cmp_Or_int.fn) (l : List Int) (hl : l.length ≤ 1000) : Ret T F.cmp_Or_int [.val (.lst 1 (irow l))] (one (.int .i64 (orL l))) := by
  have e1 := irow_len l
  refine Ret.mk h rfl ?_
  repeat' (first | refine zA ?_ | refine zB ?_ | (refine zC ?_ ?_ <;> intro hc; all_goals first | (cases hc; done) | ((try simp only [hc]); (try simp only [bm] at hc))) | refine zE ?_ | refine zN ?_ | fail)
  refine W.listP l (fun i (_ : Unit) s => s.put 8 (.av (.int .i64 (i : Int)))) (fun i _ => orL (l.drop i) = orL l) () rfl rfl ?_ ?_
  · intro i x u hx hi hp
    have hg := get_irow hx
    have e : l.drop i = x :: l.drop (i + 1) := by
      obtain ⟨h1, rfl⟩ := List.getElem?_eq_some_iff.1 hx
      exact List.drop_eq_getElem_cons h1
    rw [e, orL] at hp
    repeat' (first | refine zA ?_ | refine zB ?_ | (refine zC ?_ ?_ <;> intro hc; all_goals first | (cases hc; done) | ((try simp only [hc]); (try simp only [bm] at hc))) | refine zE ?_ | refine zN ?_ | fail)
    · exact Qend.num rfl rfl (by rw [← hp, orI_ne (by assumption)])
    · exact ⟨(), by rw [← hp, show x = 0 by omega, orI0], rfl⟩
  · intro u hp
    rw [List.drop_length] at hp
    repeat' (first | refine zA ?_ | refine zB ?_ | (refine zC ?_ ?_ <;> intro hc; all_goals first | (cases hc; done) | ((try simp only [hc]); (try simp only [bm] at hc))) | refine zE ?_ | refine zN ?_ | fail)
    exact Qend.num rfl rfl (by rw [← hp]; rfl)
end Hm

/- Types stand in a row. Conditions: see each theorem. -/
namespace Hm
open Go (IntKind)
set_option maxHeartbeats 4000000
set_option maxRecDepth 4000
abbrev Spn := Str × Str
def trC (a b : Bool) : Int := if a = b then 0 else if b then -1 else 1
def bdC (op : Int) (a b : Str) : Int := if a = b then 0 else if a = [] then op else if b = [] then -op else zcmp a b
def spC (a b : Spn) : Int := orI (bdC (-1) a.1 b.1) (bdC 1 a.2 b.2)
def moC (a b : Int) : Int := if a = b then 0 else if a < 0 then 1 else if b < 0 then -1 else icmp a b
theorem trC_pre : Pre (fun _ => True) trC where
  rng a b _ _ := by cases a <;> cases b <;> decide
  anti a b _ _ := by cases a <;> cases b <;> decide
  trans a b d _ _ _ := by cases a <;> cases b <;> cases d <;> decide
theorem trC_zero {a b : Bool} (h : trC a b = 0) : a = b := by cases a <;> cases b <;> first | rfl | (revert h; decide)
theorem bdC_eq (op : Int) (a b : Str) : bdC op a b = if a = [] then (if b = [] then 0 else op) else if b = [] then -op else zcmp a b := by
  unfold bdC
  by_cases e : a = b
  · subst e
    by_cases ha : a = []
    · simp [ha]
    · simp only [if_true, ha, if_false]; exact (zcmp_pre.refl trivial).symm
  · rw [if_neg e]
    by_cases ha : a = []
    · have : ¬ b = [] := fun hb => e (by rw [ha, hb])
      simp [ha, this]
    · simp [ha]
theorem bdC_pre {op : Int} (ho : op = 1 ∨ op = -1) : Pre (fun _ => True) (bdC op) where
  rng a b _ _ := by
    rw [bdC_eq]
    have := zcmp_pre.rng a b trivial trivial
    split <;> (split <;> omega)
  anti a b _ _ := by
    rw [bdC_eq, bdC_eq]
    have := zcmp_pre.anti a b trivial trivial
    by_cases ha : a = [] <;> by_cases hb : b = [] <;> simp only [ha, hb, if_true, if_false] <;> omega
  trans a b d _ _ _ h1 h2 := by
    rw [bdC_eq] at *
    have := zcmp_pre.trans a b d trivial trivial trivial
    by_cases ha : a = [] <;> by_cases hb : b = [] <;> by_cases hd : d = [] <;> simp only [ha, hb, hd, if_true, if_false] at * <;> first | omega | exact this h1 h2
theorem zcmp_zero' {a b : Str} (h : zcmp a b = 0) : a = b := by
  simp only [zcmp] at h
  have mm : ∀ s : Str, minus s = true → s = 45 :: s.drop 1 := fun s hm => by
    simp only [minus, decide_eq_true_eq] at hm
    have h45 := (u8_eq (bAt s 0) 45 (by omega)).1 hm
    cases s with
    | nil => simp [bAt] at hm
    | cons c r => simp [bAt] at h45; simp [h45]
  cases ma : minus a <;> cases mb : minus b <;> simp only [ma, mb] at h
  · exact ncmp_good.eq a b trivial trivial (by simpa using h)
  · simp at h
  · simp at h
  · have := ncmp_good.eq (b.drop 1) (a.drop 1) trivial trivial (by simpa using h)
    rw [mm a ma, mm b mb, this]
theorem bdC_zero {op : Int} (ho : op = 1 ∨ op = -1) {a b : Str} (h : bdC op a b = 0) : a = b := by
  unfold bdC at h
  split at h
  · assumption
  · split at h
    · omega
    · split at h
      · omega
      · exact zcmp_zero' h
theorem spC_pre : Pre (fun _ => True) spC := Pre.or (Pre.comap (f := fun s : Spn => s.1) (bdC_pre (.inr rfl)) fun _ _ => trivial) (Pre.comap (f := fun s : Spn => s.2) (bdC_pre (.inl rfl)) fun _ _ => trivial)
theorem spC_zero {a b : Spn} (h : spC a b = 0) : a = b := by
  obtain ⟨h1, h2⟩ := orI_zero h
  exact Prod.ext (bdC_zero (.inr rfl) h1) (bdC_zero (.inl rfl) h2)
theorem Pre.congrP {α : Type} {P : α → Prop} {c c' : α → α → Int} (h : Pre P c) (e : ∀ a b, P a → P b → c' a b = c a b) : Pre P c' where
  rng a b ha hb := by rw [e a b ha hb]; exact h.rng a b ha hb
  anti a b ha hb := by rw [e a b ha hb, e b a hb ha]; exact h.anti a b ha hb
  trans a b d ha hb hd := by rw [e a b ha hb, e b d hb hd, e a d ha hd]; exact h.trans a b d ha hb hd
def negI (a : Int) : Int := if a < 0 then 1 else 0
theorem moC_pre : Pre (fun a => -1 ≤ a) moC := by
  refine Pre.congrP (c := fun a b => orI (icmp (negI a) (negI b)) (icmp a b)) (Pre.or (Pre.comap (f := negI) icmp_pre fun _ _ => trivial) (icmp_pre.mono fun _ _ => trivial)) fun a b ha hb => ?_
  unfold moC orI icmp negI
  by_cases e : a = b
  · subst e; simp
  · by_cases h1 : a < 0
    · have : ¬ b < 0 := by omega
      simp [e, h1, this]
    · by_cases h2 : b < 0
      · simp [e, h1, h2]
      · simp [e, h1, h2]
theorem moC_zero {a b : Int} (h : moC a b = 0) : a = b := by
  unfold moC at h
  split at h
  · assumption
  · split at h
    · omega
    · split at h
      · omega
      · exact icmp_eq h
mutual
def tyC : Ty → Ty → Int
  | .mk a n f t ns x ts as os, b => orI (trC a b.all) (orI (trC n b.nul) (orI (trC f b.fls) (orI (trC t b.tru) (orI (lcmp spC ns b.nums) (orI (trC x b.anyText) (orI (lcmp tcmp ts b.texts) (orI (arsC as b.arrays) (obsC os b.objects))))))))
def arC : Ar → Ar → Int
  | .mk i mn mx, b => orI (icmp mn b.min) (orI (moC mx b.max) (tyC i b.item))
def obC : Ob → Ob → Int
  | .mk ns fs ms r, b => orI (lcmp tcmp ns b.names) (orI (lcmp trC ms b.must) (orI (tysC fs b.fields) (tyC r b.rest)))
def tysC : List Ty → List Ty → Int
  | [], [] => 0
  | [], _ :: _ => -1
  | _ :: _, [] => 1
  | a :: l, b :: m => orI (tyC a b) (tysC l m)
def arsC : List Ar → List Ar → Int
  | [], [] => 0
  | [], _ :: _ => -1
  | _ :: _, [] => 1
  | a :: l, b :: m => orI (arC a b) (arsC l m)
def obsC : List Ob → List Ob → Int
  | [], [] => 0
  | [], _ :: _ => -1
  | _ :: _, [] => 1
  | a :: l, b :: m => orI (obC a b) (obsC l m)
end
theorem tysC_eq : ∀ l m : List Ty, tysC l m = lcmp tyC l m
  | [], [] => by simp [tysC, lcmp]
  | [], _ :: _ => by simp [tysC, lcmp]
  | _ :: _, [] => by simp [tysC, lcmp]
  | a :: l, b :: m => by rw [tysC, lcmp, tysC_eq l m]
theorem arsC_eq : ∀ l m : List Ar, arsC l m = lcmp arC l m
  | [], [] => by simp [arsC, lcmp]
  | [], _ :: _ => by simp [arsC, lcmp]
  | _ :: _, [] => by simp [arsC, lcmp]
  | a :: l, b :: m => by rw [arsC, lcmp, arsC_eq l m]
theorem obsC_eq : ∀ l m : List Ob, obsC l m = lcmp obC l m
  | [], [] => by simp [obsC, lcmp]
  | [], _ :: _ => by simp [obsC, lcmp]
  | _ :: _, [] => by simp [obsC, lcmp]
  | a :: l, b :: m => by rw [obsC, lcmp, obsC_eq l m]
theorem tyC_eq (a b : Ty) : tyC a b = orI (trC a.all b.all) (orI (trC a.nul b.nul) (orI (trC a.fls b.fls) (orI (trC a.tru b.tru) (orI (lcmp spC a.nums b.nums) (orI (trC a.anyText b.anyText) (orI (lcmp tcmp a.texts b.texts) (orI (lcmp arC a.arrays b.arrays) (lcmp obC a.objects b.objects)))))))) := by
  cases a; simp only [tyC, arsC_eq, obsC_eq, Ty.all, Ty.nul, Ty.fls, Ty.tru, Ty.nums, Ty.anyText, Ty.texts, Ty.arrays, Ty.objects]
theorem arC_eq (a b : Ar) : arC a b = orI (icmp a.min b.min) (orI (moC a.max b.max) (tyC a.item b.item)) := by cases a; simp only [arC, Ar.min, Ar.max, Ar.item]
theorem obC_eq (a b : Ob) : obC a b = orI (lcmp tcmp a.names b.names) (orI (lcmp trC a.must b.must) (orI (lcmp tyC a.fields b.fields) (tyC a.rest b.rest))) := by cases a; simp only [obC, tysC_eq, Ob.names, Ob.must, Ob.fields, Ob.rest]
theorem fields_formed : ∀ {l : List Ty} {ms : List Bool}, fieldsOk l ms = true → ∀ x ∈ l, tformed x = true
  | [], _, _, x, h => by simp at h
  | y :: l, ms, h, x, hx => by
    simp only [fieldsOk, Bool.and_eq_true] at h
    rcases List.mem_cons.1 hx with rfl | hx
    · exact h.1.1
    · exact fields_formed h.2 x hx
theorem tformed_ar {t : Ty} (h : tformed t = true) : ∀ x ∈ t.arrays, -1 ≤ x.max ∧ tformed x.item = true := by
  rw [tformed_eq] at h
  simp only [Bool.and_eq_true, List.all_eq_true] at h
  intro x hx
  have := h.2.2.1.2 x hx
  rw [arOk_eq] at this
  simp only [Bool.and_eq_true, Bool.not_eq_true', Bool.or_eq_false_iff, decide_eq_false_iff_not] at this
  exact ⟨by omega, this.2.1⟩
theorem tformed_ob {t : Ty} (h : tformed t = true) : ∀ x ∈ t.objects, (∀ y ∈ x.fields, tformed y = true) ∧ tformed x.rest = true := by
  rw [tformed_eq] at h
  simp only [Bool.and_eq_true, List.all_eq_true] at h
  intro x hx
  have := h.2.2.2 x hx
  rw [obOk_eq] at this
  simp only [Bool.and_eq_true] at this
  exact ⟨fields_formed this.2, this.1.2⟩
theorem ar_lt {t : Ty} {x : Ar} (h : x ∈ t.arrays) : x.item.bk < t.bk := by
  have h1 := arBk_mem h
  have h2 := Ty.bk_eq t
  have h3 := Ar.bk_eq x
  omega
theorem ob_lt {t : Ty} {x : Ob} (h : x ∈ t.objects) : x.rest.bk < t.bk ∧ ∀ y ∈ x.fields, y.bk < t.bk := by
  have h1 := obBk_mem h
  have h2 := Ty.bk_eq t
  have h3 := Ob.bk_eq x
  exact ⟨by omega, fun y hy => by have := tyBk_mem hy; omega⟩
theorem tyC_pre : Pre (fun t : Ty => tformed t = true) tyC := by
  have key : ∀ n, Pre (fun t : Ty => t.bk < n ∧ tformed t = true) tyC := by
    intro n
    induction n with
    | zero => exact ⟨fun a _ h => by omega, fun a _ h => by omega, fun a _ _ h => by omega⟩
    | succ n ih =>
      have har : Pre (fun x : Ar => -1 ≤ x.max ∧ x.item.bk < n ∧ tformed x.item = true) arC :=
        Pre.congr (Pre.or (Pre.comap (f := Ar.min) icmp_pre fun _ _ => trivial) (Pre.or (Pre.comap (f := Ar.max) moC_pre fun _ h => h.1) (Pre.comap (f := Ar.item) ih fun _ h => h.2))) arC_eq
      have hob : Pre (fun x : Ob => (∀ y ∈ x.fields, y.bk < n ∧ tformed y = true) ∧ x.rest.bk < n ∧ tformed x.rest = true) obC :=
        Pre.congr (Pre.or (Pre.comap (f := Ob.names) (Pre.list tcmp_good.pre) fun _ _ _ _ => trivial) (Pre.or (Pre.comap (f := Ob.must) (Pre.list trC_pre) fun _ _ _ _ => trivial) (Pre.or (Pre.comap (f := Ob.fields) (Pre.list ih) fun _ h => h.1) (Pre.comap (f := Ob.rest) ih fun _ h => h.2)))) obC_eq
      refine Pre.congr ?_ tyC_eq
      refine Pre.or (Pre.comap (f := Ty.all) trC_pre fun _ _ => trivial) (Pre.or (Pre.comap (f := Ty.nul) trC_pre fun _ _ => trivial) (Pre.or (Pre.comap (f := Ty.fls) trC_pre fun _ _ => trivial) (Pre.or (Pre.comap (f := Ty.tru) trC_pre fun _ _ => trivial)
        (Pre.or (Pre.comap (f := Ty.nums) (Pre.list spC_pre) fun _ _ _ _ => trivial) (Pre.or (Pre.comap (f := Ty.anyText) trC_pre fun _ _ => trivial) (Pre.or (Pre.comap (f := Ty.texts) (Pre.list tcmp_good.pre) fun _ _ _ _ => trivial)
        (Pre.or (Pre.comap (f := Ty.arrays) (Pre.list har) fun a ha x hx => ?_) (Pre.comap (f := Ty.objects) (Pre.list hob) fun a ha x hx => ?_))))))))
      · have := ar_lt hx
        have := tformed_ar ha.2 x hx
        exact ⟨this.1, by omega, this.2⟩
      · have h1 := ob_lt hx
        have h2 := tformed_ob ha.2 x hx
        exact ⟨fun y hy => ⟨by have := h1.2 y hy; omega, h2.1 y hy⟩, by omega, h2.2⟩
  refine ⟨fun a b ha hb => ?_, fun a b ha hb => ?_, fun a b d ha hb hd => ?_⟩
  · exact (key (a.bk + b.bk + 1)).rng a b ⟨by omega, ha⟩ ⟨by omega, hb⟩
  · exact (key (a.bk + b.bk + 1)).anti a b ⟨by omega, ha⟩ ⟨by omega, hb⟩
  · exact (key (a.bk + b.bk + d.bk + 1)).trans a b d ⟨by omega, ha⟩ ⟨by omega, hb⟩ ⟨by omega, hd⟩
theorem lcmp_zero {α : Type} {c : α → α → Int} : ∀ {l m : List α}, (∀ a ∈ l, ∀ b, c a b = 0 → a = b) → lcmp c l m = 0 → l = m
  | [], [], _, _ => rfl
  | [], _ :: _, _, h => by simp [lcmp] at h
  | _ :: _, [], _, h => by simp [lcmp] at h
  | a :: l, b :: m, he, h => by
    obtain ⟨h1, h2⟩ := orI_zero (show orI (c a b) (lcmp c l m) = 0 from h)
    rw [he a (by simp) b h1, lcmp_zero (fun x hx => he x (by simp [hx])) h2]
theorem tyC_zero : ∀ {a b : Ty}, tyC a b = 0 → a = b := by
  intro a
  induction a using Ty.ind with
  | h a ih =>
  intro b h
  rw [tyC_eq] at h
  obtain ⟨h1, h⟩ := orI_zero h
  obtain ⟨h2, h⟩ := orI_zero h
  obtain ⟨h3, h⟩ := orI_zero h
  obtain ⟨h4, h⟩ := orI_zero h
  obtain ⟨h5, h⟩ := orI_zero h
  obtain ⟨h6, h⟩ := orI_zero h
  obtain ⟨h7, h⟩ := orI_zero h
  obtain ⟨h8, h9⟩ := orI_zero h
  have e1 := trC_zero h1
  have e2 := trC_zero h2
  have e3 := trC_zero h3
  have e4 := trC_zero h4
  have e5 := lcmp_zero (fun a _ b h => spC_zero h) h5
  have e6 := trC_zero h6
  have e7 := lcmp_zero (fun a _ b h => tcmp_good.eq a b trivial trivial h) h7
  have e8 := lcmp_zero (fun x hx y h => by
    rw [arC_eq] at h
    obtain ⟨k1, h⟩ := orI_zero h
    obtain ⟨k2, k3⟩ := orI_zero h
    have q1 := icmp_eq k1
    have q2 := moC_zero k2
    have q3 := ih x.item (ar_lt hx) k3
    cases x; cases y
    simp only [Ar.min, Ar.max, Ar.item] at q1 q2 q3
    subst q1; subst q2; subst q3; rfl) h8
  have e9 := lcmp_zero (fun x hx y h => by
    rw [obC_eq] at h
    obtain ⟨k1, h⟩ := orI_zero h
    obtain ⟨k2, h⟩ := orI_zero h
    obtain ⟨k3, k4⟩ := orI_zero h
    have q1 := lcmp_zero (fun a _ b h => tcmp_good.eq a b trivial trivial h) k1
    have q2 := lcmp_zero (fun a _ b h => trC_zero h) k2
    have q3 := lcmp_zero (fun z hz w h => ih z ((ob_lt hx).2 z hz) h) k3
    have q4 := ih x.rest (ob_lt hx).1 k4
    cases x; cases y
    simp only [Ob.names, Ob.must, Ob.fields, Ob.rest] at q1 q2 q3 q4
    subst q1; subst q2; subst q3; subst q4; rfl) h9
  cases a; cases b
  simp only [Ty.all, Ty.nul, Ty.fls, Ty.tru, Ty.nums, Ty.anyText, Ty.texts, Ty.arrays, Ty.objects] at *
  subst e1; subst e2; subst e3; subst e4; subst e5; subst e6; subst e7; subst e8; subst e9; rfl
end Hm

/- The order of types, as the program has it. Conditions: see each theorem. -/
namespace Hm
open Go (IntKind)
set_option maxHeartbeats 4000000
set_option maxRecDepth 4000
theorem W1.neg64' {T : Tab} {st : St} {K : St → Prop} {dst : Option Nat} {g : Option (Nat × Bool)} {x : Opd} {a : Int} (hg : wanted st g = some true) (hx : st.opd x = .av (.int .i64 a)) (h1 : -9223372036854775808 ≤ 0 - a) (h2 : 0 - a < 9223372036854775808)
    (hk : K (putD dst (.av (.int .i64 (0 - a))) st)) : W1 T ⟨dst, .un .neg x, g⟩ st K :=
  W1.go hg (WS.op (v := .av (.int .i64 (0 - a))) rfl (by simp only [stepOp, hx, unA, inRange, wrap64 h1 h2]) hk)
theorem arav_eq (x : Ar) : AV.agg x.row = .agg [.bool x.item.all, .bool x.item.nul, .bool x.item.fls, .bool x.item.tru, .lst 2 (sprow x.item.nums), .bool x.item.anyText, .lst 1 (srow x.item.texts), .lst 11 (x.item.arrays.map Ar.row), .lst 12 (x.item.objects.map Ob.row), .int .i64 x.min, .int .i64 x.max] := by rw [Ar.row_eq]
theorem obav_eq (x : Ob) : AV.agg x.row = .agg [.lst 1 (srow x.names), .lst 9 (x.fields.map Ty.row), .lst 1 (brow x.must), .bool x.rest.all, .bool x.rest.nul, .bool x.rest.fls, .bool x.rest.tru, .lst 2 (sprow x.rest.nums), .bool x.rest.anyText, .lst 1 (srow x.rest.texts), .lst 11 (x.rest.arrays.map Ar.row), .lst 12 (x.rest.objects.map Ob.row)] := by rw [Ob.row_eq]
theorem cmpFuncSpan_ret {T : Tab} (h : Fn T F.slices_CompareFunc_LSpan_LSpan_Span_Span slices_CompareFunc_LSpan_LSpan_Span_Span.fn) {c : Spn → Spn → Int} {g : Nat} (hg : T.modes g = [.val, .val]) (l m : List Spn) (hl : l.length ≤ 1073741824) (hm : m.length ≤ 1073741824)
    (ih : ∀ x ∈ l, ∀ y ∈ m, Ret T g [.val (.agg [.str x.1, .str x.2]), .val (.agg [.str y.1, .str y.2])] (one (.int .i64 (c x y)))) : Ret T F.slices_CompareFunc_LSpan_LSpan_Span_Span [.val (.lst 2 (sprow l)), .val (.lst 2 (sprow m)), .val (.clo g [] [])] (one (.int .i64 (lcmp c l m))) := by
  have e1 : (sprow l).length = l.length := sprow_len l
  have e2 : (sprow m).length = m.length := sprow_len m
  refine Ret.mk h rfl ?_
  repeat' (first | refine zA ?_ | refine zB ?_ | (refine zC ?_ ?_ <;> intro hc; all_goals first | (cases hc; done) | ((try simp only [hc]); (try simp only [bm] at hc))) | refine zE ?_ | refine zN ?_ | fail)
  refine W.listP l (fun i (_ : Unit) s => s.put 13 (.av (.int .i64 (i : Int)))) (fun i _ => i ≤ m.length ∧ lcmp c (l.drop i) (m.drop i) = lcmp c l m) () ⟨by omega, rfl⟩ rfl ?_ ?_
  · intro i x u hx hi hp
    obtain ⟨hp1, hp2⟩ := hp
    by_cases him : i < m.length
    · obtain ⟨y, hy⟩ : ∃ y, m[i]? = some y := ⟨m[i], List.getElem?_eq_getElem him⟩
      have r := ih x (List.mem_of_getElem? hx) y (List.mem_of_getElem? hy)
      have e := lcmp_drop (c := c) hx hy
      repeat' (first | refine zA ?_ | refine WQ.cl hg ?_ | refine W1.cl hg (r) ?_ | refine zB ?_ | (refine zC ?_ ?_ <;> intro hc; all_goals first | (cases hc; done) | ((try simp only [hc]); (try simp only [bm] at hc))) | refine zE ?_ | refine zN ?_ | fail)
      · exact Qend.num rfl rfl (by rw [← hp2, e, orI_ne (by assumption)])
      · exact ⟨(), ⟨by omega, by rw [← hp2, e, show c x y = 0 by omega, orI0]⟩, rfl⟩
    · skip
      repeat' (first | refine zA ?_ | refine zB ?_ | (refine zC ?_ ?_ <;> intro hc; all_goals first | (cases hc; done) | ((try simp only [hc]); (try simp only [bm] at hc))) | refine zE ?_ | refine zN ?_ | fail)
      exact Qend.num rfl rfl (by rw [← hp2, lcmp_more hi (by omega)])
  · intro u hp
    have e := lcmp_end (c := c) (l := l) (m := m)
    rw [hp.2] at e
    repeat' (first | refine zA ?_ | refine zB ?_ | (refine zC ?_ ?_ <;> intro hc; all_goals first | (cases hc; done) | ((try simp only [hc]); (try simp only [bm] at hc))) | refine zE ?_ | refine zN ?_ | fail)
    · exact Qend.num rfl rfl (by rw [e, if_pos (by omega)])
    · exact Qend.num rfl rfl (by rw [e, if_neg (by omega)])
theorem cmpFuncBool_ret {T : Tab} (h : Fn T F.slices_CompareFunc_Lbool_Lbool_bool_bool slices_CompareFunc_Lbool_Lbool_bool_bool.fn) {c : Bool → Bool → Int} {g : Nat} (hg : T.modes g = [.val, .val]) (l m : List Bool) (hl : l.length ≤ 1073741824) (hm : m.length ≤ 1073741824)
    (ih : ∀ x ∈ l, ∀ y ∈ m, Ret T g [.val (.bool x), .val (.bool y)] (one (.int .i64 (c x y)))) : Ret T F.slices_CompareFunc_Lbool_Lbool_bool_bool [.val (.lst 1 (brow l)), .val (.lst 1 (brow m)), .val (.clo g [] [])] (one (.int .i64 (lcmp c l m))) := by
  have e1 : (brow l).length = l.length := brow_len l
  have e2 : (brow m).length = m.length := brow_len m
  refine Ret.mk h rfl ?_
  repeat' (first | refine zA ?_ | refine zB ?_ | (refine zC ?_ ?_ <;> intro hc; all_goals first | (cases hc; done) | ((try simp only [hc]); (try simp only [bm] at hc))) | refine zE ?_ | refine zN ?_ | fail)
  refine W.listP l (fun i (_ : Unit) s => s.put 13 (.av (.int .i64 (i : Int)))) (fun i _ => i ≤ m.length ∧ lcmp c (l.drop i) (m.drop i) = lcmp c l m) () ⟨by omega, rfl⟩ rfl ?_ ?_
  · intro i x u hx hi hp
    obtain ⟨hp1, hp2⟩ := hp
    by_cases him : i < m.length
    · obtain ⟨y, hy⟩ : ∃ y, m[i]? = some y := ⟨m[i], List.getElem?_eq_getElem him⟩
      have r := ih x (List.mem_of_getElem? hx) y (List.mem_of_getElem? hy)
      have e := lcmp_drop (c := c) hx hy
      repeat' (first | refine zA ?_ | refine WQ.cl hg ?_ | refine W1.cl hg (r) ?_ | refine zB ?_ | (refine zC ?_ ?_ <;> intro hc; all_goals first | (cases hc; done) | ((try simp only [hc]); (try simp only [bm] at hc))) | refine zE ?_ | refine zN ?_ | fail)
      · exact Qend.num rfl rfl (by rw [← hp2, e, orI_ne (by assumption)])
      · exact ⟨(), ⟨by omega, by rw [← hp2, e, show c x y = 0 by omega, orI0]⟩, rfl⟩
    · skip
      repeat' (first | refine zA ?_ | refine zB ?_ | (refine zC ?_ ?_ <;> intro hc; all_goals first | (cases hc; done) | ((try simp only [hc]); (try simp only [bm] at hc))) | refine zE ?_ | refine zN ?_ | fail)
      exact Qend.num rfl rfl (by rw [← hp2, lcmp_more hi (by omega)])
  · intro u hp
    have e := lcmp_end (c := c) (l := l) (m := m)
    rw [hp.2] at e
    repeat' (first | refine zA ?_ | refine zB ?_ | (refine zC ?_ ?_ <;> intro hc; all_goals first | (cases hc; done) | ((try simp only [hc]); (try simp only [bm] at hc))) | refine zE ?_ | refine zN ?_ | fail)
    · exact Qend.num rfl rfl (by rw [e, if_pos (by omega)])
    · exact Qend.num rfl rfl (by rw [e, if_neg (by omega)])
theorem cmpFuncArr_ret {T : Tab} (h : Fn T F.slices_CompareFunc_LArr_LArr_Arr_Arr slices_CompareFunc_LArr_LArr_Arr_Arr.fn) {c : Ar → Ar → Int} {g : Nat} (hg : T.modes g = [.val, .val]) (l m : List Ar) (hl : l.length ≤ 1073741824) (hm : m.length ≤ 1073741824)
    (ih : ∀ x ∈ l, ∀ y ∈ m, Ret T g [.val (.agg x.row), .val (.agg y.row)] (one (.int .i64 (c x y)))) : Ret T F.slices_CompareFunc_LArr_LArr_Arr_Arr [.val (.lst 11 (l.map Ar.row)), .val (.lst 11 (m.map Ar.row)), .val (.clo g [] [])] (one (.int .i64 (lcmp c l m))) := by
  have e1 : (l.map Ar.row).length = l.length := List.length_map ..
  have e2 : (m.map Ar.row).length = m.length := List.length_map ..
  refine Ret.mk h rfl ?_
  repeat' (first | refine zA ?_ | refine zB ?_ | (refine zC ?_ ?_ <;> intro hc; all_goals first | (cases hc; done) | ((try simp only [hc]); (try simp only [bm] at hc))) | refine zE ?_ | refine zN ?_ | fail)
  refine W.listP l (fun i (_ : Unit) s => s.put 13 (.av (.int .i64 (i : Int)))) (fun i _ => i ≤ m.length ∧ lcmp c (l.drop i) (m.drop i) = lcmp c l m) () ⟨by omega, rfl⟩ rfl ?_ ?_
  · intro i x u hx hi hp
    obtain ⟨hp1, hp2⟩ := hp
    by_cases him : i < m.length
    · obtain ⟨y, hy⟩ : ∃ y, m[i]? = some y := ⟨m[i], List.getElem?_eq_getElem him⟩
      have r := ih x (List.mem_of_getElem? hx) y (List.mem_of_getElem? hy)
      have e := lcmp_drop (c := c) hx hy
      rw [arav_eq, arav_eq] at r
      repeat' (first | refine zA ?_ | refine WQ.cl hg ?_ | refine W1.cl hg (r) ?_ | refine zB ?_ | (refine zC ?_ ?_ <;> intro hc; all_goals first | (cases hc; done) | ((try simp only [hc]); (try simp only [bm] at hc))) | refine zE ?_ | refine zN ?_ | fail)
      · exact Qend.num rfl rfl (by rw [← hp2, e, orI_ne (by assumption)])
      · exact ⟨(), ⟨by omega, by rw [← hp2, e, show c x y = 0 by omega, orI0]⟩, rfl⟩
    · skip
      repeat' (first | refine zA ?_ | refine zB ?_ | (refine zC ?_ ?_ <;> intro hc; all_goals first | (cases hc; done) | ((try simp only [hc]); (try simp only [bm] at hc))) | refine zE ?_ | refine zN ?_ | fail)
      exact Qend.num rfl rfl (by rw [← hp2, lcmp_more hi (by omega)])
  · intro u hp
    have e := lcmp_end (c := c) (l := l) (m := m)
    rw [hp.2] at e
    repeat' (first | refine zA ?_ | refine zB ?_ | (refine zC ?_ ?_ <;> intro hc; all_goals first | (cases hc; done) | ((try simp only [hc]); (try simp only [bm] at hc))) | refine zE ?_ | refine zN ?_ | fail)
    · exact Qend.num rfl rfl (by rw [e, if_pos (by omega)])
    · exact Qend.num rfl rfl (by rw [e, if_neg (by omega)])
theorem cmpFuncObj_ret {T : Tab} (h : Fn T F.slices_CompareFunc_LObj_LObj_Obj_Obj slices_CompareFunc_LObj_LObj_Obj_Obj.fn) {c : Ob → Ob → Int} {g : Nat} (hg : T.modes g = [.val, .val]) (l m : List Ob) (hl : l.length ≤ 1073741824) (hm : m.length ≤ 1073741824)
    (ih : ∀ x ∈ l, ∀ y ∈ m, Ret T g [.val (.agg x.row), .val (.agg y.row)] (one (.int .i64 (c x y)))) : Ret T F.slices_CompareFunc_LObj_LObj_Obj_Obj [.val (.lst 12 (l.map Ob.row)), .val (.lst 12 (m.map Ob.row)), .val (.clo g [] [])] (one (.int .i64 (lcmp c l m))) := by
  have e1 : (l.map Ob.row).length = l.length := List.length_map ..
  have e2 : (m.map Ob.row).length = m.length := List.length_map ..
  refine Ret.mk h rfl ?_
  repeat' (first | refine zA ?_ | refine zB ?_ | (refine zC ?_ ?_ <;> intro hc; all_goals first | (cases hc; done) | ((try simp only [hc]); (try simp only [bm] at hc))) | refine zE ?_ | refine zN ?_ | fail)
  refine W.listP l (fun i (_ : Unit) s => s.put 13 (.av (.int .i64 (i : Int)))) (fun i _ => i ≤ m.length ∧ lcmp c (l.drop i) (m.drop i) = lcmp c l m) () ⟨by omega, rfl⟩ rfl ?_ ?_
  · intro i x u hx hi hp
    obtain ⟨hp1, hp2⟩ := hp
    by_cases him : i < m.length
    · obtain ⟨y, hy⟩ : ∃ y, m[i]? = some y := ⟨m[i], List.getElem?_eq_getElem him⟩
      have r := ih x (List.mem_of_getElem? hx) y (List.mem_of_getElem? hy)
      have e := lcmp_drop (c := c) hx hy
      rw [obav_eq, obav_eq] at r
      repeat' (first | refine zA ?_ | refine WQ.cl hg ?_ | refine W1.cl hg (r) ?_ | refine zB ?_ | (refine zC ?_ ?_ <;> intro hc; all_goals first | (cases hc; done) | ((try simp only [hc]); (try simp only [bm] at hc))) | refine zE ?_ | refine zN ?_ | fail)
      · exact Qend.num rfl rfl (by rw [← hp2, e, orI_ne (by assumption)])
      · exact ⟨(), ⟨by omega, by rw [← hp2, e, show c x y = 0 by omega, orI0]⟩, rfl⟩
    · skip
      repeat' (first | refine zA ?_ | refine zB ?_ | (refine zC ?_ ?_ <;> intro hc; all_goals first | (cases hc; done) | ((try simp only [hc]); (try simp only [bm] at hc))) | refine zE ?_ | refine zN ?_ | fail)
      exact Qend.num rfl rfl (by rw [← hp2, lcmp_more hi (by omega)])
  · intro u hp
    have e := lcmp_end (c := c) (l := l) (m := m)
    rw [hp.2] at e
    repeat' (first | refine zA ?_ | refine zB ?_ | (refine zC ?_ ?_ <;> intro hc; all_goals first | (cases hc; done) | ((try simp only [hc]); (try simp only [bm] at hc))) | refine zE ?_ | refine zN ?_ | fail)
    · exact Qend.num rfl rfl (by rw [e, if_pos (by omega)])
    · exact Qend.num rfl rfl (by rw [e, if_neg (by omega)])
theorem cmpFuncType_ret {T : Tab} (h : Fn T F.slices_CompareFunc_LType_LType_Type_Type slices_CompareFunc_LType_LType_Type_Type.fn) {c : Ty → Ty → Int} {g : Nat} (hg : T.modes g = [.val, .val]) (l m : List Ty) (hl : l.length ≤ 1073741824) (hm : m.length ≤ 1073741824)
    (ih : ∀ x ∈ l, ∀ y ∈ m, Ret T g [.val x.av, .val y.av] (one (.int .i64 (c x y)))) : Ret T F.slices_CompareFunc_LType_LType_Type_Type [.val (.lst 9 (l.map Ty.row)), .val (.lst 9 (m.map Ty.row)), .val (.clo g [] [])] (one (.int .i64 (lcmp c l m))) := by
  have e1 : (l.map Ty.row).length = l.length := List.length_map ..
  have e2 : (m.map Ty.row).length = m.length := List.length_map ..
  refine Ret.mk h rfl ?_
  repeat' (first | refine zA ?_ | refine zB ?_ | (refine zC ?_ ?_ <;> intro hc; all_goals first | (cases hc; done) | ((try simp only [hc]); (try simp only [bm] at hc))) | refine zE ?_ | refine zN ?_ | fail)
  refine W.listP l (fun i (_ : Unit) s => s.put 13 (.av (.int .i64 (i : Int)))) (fun i _ => i ≤ m.length ∧ lcmp c (l.drop i) (m.drop i) = lcmp c l m) () ⟨by omega, rfl⟩ rfl ?_ ?_
  · intro i x u hx hi hp
    obtain ⟨hp1, hp2⟩ := hp
    by_cases him : i < m.length
    · obtain ⟨y, hy⟩ : ∃ y, m[i]? = some y := ⟨m[i], List.getElem?_eq_getElem him⟩
      have r := ih x (List.mem_of_getElem? hx) y (List.mem_of_getElem? hy)
      have e := lcmp_drop (c := c) hx hy
      rw [Ty.av_eq, Ty.av_eq] at r
      repeat' (first | refine zA ?_ | refine WQ.cl hg ?_ | refine W1.cl hg (r) ?_ | refine zB ?_ | (refine zC ?_ ?_ <;> intro hc; all_goals first | (cases hc; done) | ((try simp only [hc]); (try simp only [bm] at hc))) | refine zE ?_ | refine zN ?_ | fail)
      · exact Qend.num rfl rfl (by rw [← hp2, e, orI_ne (by assumption)])
      · exact ⟨(), ⟨by omega, by rw [← hp2, e, show c x y = 0 by omega, orI0]⟩, rfl⟩
    · skip
      repeat' (first | refine zA ?_ | refine zB ?_ | (refine zC ?_ ?_ <;> intro hc; all_goals first | (cases hc; done) | ((try simp only [hc]); (try simp only [bm] at hc))) | refine zE ?_ | refine zN ?_ | fail)
      exact Qend.num rfl rfl (by rw [← hp2, lcmp_more hi (by omega)])
  · intro u hp
    have e := lcmp_end (c := c) (l := l) (m := m)
    rw [hp.2] at e
    repeat' (first | refine zA ?_ | refine zB ?_ | (refine zC ?_ ?_ <;> intro hc; all_goals first | (cases hc; done) | ((try simp only [hc]); (try simp only [bm] at hc))) | refine zE ?_ | refine zN ?_ | fail)
    · exact Qend.num rfl rfl (by rw [e, if_pos (by omega)])
    · exact Qend.num rfl rfl (by rw [e, if_neg (by omega)])
/-- What the order of types reaches. -/
structure TcFns (T : Tab) : Prop where
  a1 : Fn T F.shape_Cmp shape_Cmp.fn
  a2 : Fn T F.shape_truth shape_truth.fn
  a3 : Fn T F.shape_bound shape_bound.fn
  a4 : Fn T F.shape_worth shape_worth.fn
  a5 : Fn T F.shape_span shape_span.fn
  a6 : Fn T F.shape_most shape_most.fn
  a7 : Fn T F.shape_arr shape_arr.fn
  a8 : Fn T F.shape_obj shape_obj.fn
  a9 : Fn T F.cmp_Compare_int cmp_Compare_int.fn
  b1 : Fn T F.cmp_isNaN_int cmp_isNaN_int.fn
  b2 : Fn T F.cmp_Compare_string cmp_Compare_string.fn
  b3 : Fn T F.cmp_isNaN_string cmp_isNaN_string.fn
  b4 : Fn T F.slices_Compare_Lstring_string slices_Compare_Lstring_string.fn
  b5 : Fn T F.slices_CompareFunc_LSpan_LSpan_Span_Span slices_CompareFunc_LSpan_LSpan_Span_Span.fn
  b6 : Fn T F.slices_CompareFunc_Lbool_Lbool_bool_bool slices_CompareFunc_Lbool_Lbool_bool_bool.fn
  b7 : Fn T F.slices_CompareFunc_LArr_LArr_Arr_Arr slices_CompareFunc_LArr_LArr_Arr_Arr.fn
  b8 : Fn T F.slices_CompareFunc_LObj_LObj_Obj_Obj slices_CompareFunc_LObj_LObj_Obj_Obj.fn
  b9 : Fn T F.slices_CompareFunc_LType_LType_Type_Type slices_CompareFunc_LType_LType_Type_Type.fn
  c1 : Fn T F.cmp_Or_int cmp_Or_int.fn
  c2 : Fn T F.tens_Cmp tens_Cmp.fn
  c3 : Fn T F.tens_size tens_size.fn
  c4 : Fn T F.tens_split tens_split.fn
  c5 : Fn T F.tens_Formed tens_Formed.fn
section
variable {T : Tab}
theorem truth_ret (f : TcFns T) (a b : Bool) : Ret T F.shape_truth [.val (.bool a), .val (.bool b)] (one (.int .i64 (trC a b))) := by
  refine Ret.mk f.a2 rfl ?_
  cases a <;> cases b
  repeat' (first | refine zA ?_ | refine zB ?_ | (refine zC ?_ ?_ <;> intro hc; all_goals first | (cases hc; done) | ((try simp only [hc]); (try simp only [bm] at hc))) | refine zE ?_ | refine zN ?_ | fail)
  all_goals exact Qend.num rfl rfl rfl
theorem sworth_ret (f : TcFns T) (a b : Str) (ha : number a = true) (hb : number b = true) (hl : a.length ≤ 1073741824) (hl' : b.length ≤ 1073741824) : Ret T F.shape_worth [.val (.str a), .val (.str b)] (one (.int .i64 (zcmp a b))) := by
  have r := tensCmp_ret f.c2 f.c3 f.c4 f.c5 a b ha hb hl hl'
  refine Ret.mk f.a4 rfl ?_
  repeat' (first | refine zA ?_ | refine WQ.cl f.c2.modes ?_ | refine W1.cl f.c2.modes (r) ?_ | refine zB ?_ | (refine zC ?_ ?_ <;> intro hc; all_goals first | (cases hc; done) | ((try simp only [hc]); (try simp only [bm] at hc))) | refine zE ?_ | refine zN ?_ | fail)
  exact Qend.num rfl rfl rfl
theorem bound_ret (f : TcFns T) (op : Int) (ho : op = 1 ∨ op = -1) (a b : Str) (ha : ¬ a = [] → number a = true) (hb : ¬ b = [] → number b = true) (hl : a.length ≤ 1073741824) (hl' : b.length ≤ 1073741824) :
    Ret T F.shape_bound [.val (.str a), .val (.str b), .val (.int .i64 op)] (one (.int .i64 (bdC op a b))) := by
  have r := fun p q => sworth_ret f a b (ha p) (hb q) hl hl'
  refine Ret.mk f.a3 rfl ?_
  by_cases e : a = b
  · subst e
    repeat' (first | refine zA ?_ | refine zB ?_ | (refine zC ?_ ?_ <;> intro hc; all_goals first | (cases hc; done) | ((try simp only [hc]); (try simp only [bm] at hc))) | refine zE ?_ | refine zN ?_ | fail)
    all_goals clear r ha hb
    all_goals first | (exfalso; simp_all; done) | exact Qend.num rfl rfl (by simp [bdC])
  · by_cases ea : a = []
    · subst ea
      have e' : ¬ b = [] := fun h => e h.symm
      repeat' (first | refine zA ?_ | refine zB ?_ | (refine zC ?_ ?_ <;> intro hc; all_goals first | (cases hc; done) | ((try simp only [hc]); (try simp only [bm] at hc))) | refine zE ?_ | refine zN ?_ | fail)
      all_goals clear r ha hb
      all_goals first | (exfalso; simp_all; done) | exact Qend.num rfl rfl (by simp [bdC, e])
    · by_cases eb : b = []
      · subst eb
        repeat' (first | refine zA ?_ | ((apply W1.neg64'; exact rfl; exact rfl; omega; omega)) | refine zB ?_ | (refine zC ?_ ?_ <;> intro hc; all_goals first | (cases hc; done) | ((try simp only [hc]); (try simp only [bm] at hc))) | refine zE ?_ | refine zN ?_ | fail)
        all_goals clear r ha hb
        all_goals first | (exfalso; simp_all; done) | exact Qend.num rfl rfl (by simp [bdC, ea])
      · have r' := r ea eb
        repeat' (first | refine zA ?_ | refine WQ.cl f.a4.modes ?_ | refine W1.cl f.a4.modes (r') ?_ | refine zB ?_ | (refine zC ?_ ?_ <;> intro hc; all_goals first | (cases hc; done) | ((try simp only [hc]); (try simp only [bm] at hc))) | refine zE ?_ | refine zN ?_ | fail)
        all_goals clear r r' ha hb
        all_goals first | (exfalso; simp_all; done) | exact Qend.num rfl rfl (by simp [bdC, e, ea, eb])
theorem bdOk_ne {s : Str} (h : boundOk s = true) : ¬ s = [] → number s = true := fun hn => by
  simp only [boundOk, Bool.or_eq_true, beq_iff_eq] at h
  exact h.resolve_left hn
theorem shSpan_ret (f : TcFns T) (a b : Spn) (ha : spanOk a = true) (hb : spanOk b = true) (l1 : a.1.length ≤ 1073741824) (l2 : a.2.length ≤ 1073741824) (l3 : b.1.length ≤ 1073741824) (l4 : b.2.length ≤ 1073741824) :
    Ret T F.shape_span [.val (.agg [.str a.1, .str a.2]), .val (.agg [.str b.1, .str b.2])] (one (.int .i64 (spC a b))) := by
  simp only [spanOk, Bool.and_eq_true] at ha hb
  have r1 := bound_ret f (-1) (.inr rfl) a.1 b.1 (bdOk_ne ha.1.1) (bdOk_ne hb.1.1) l1 l3
  have r2 := bound_ret f 1 (.inl rfl) a.2 b.2 (bdOk_ne ha.1.2) (bdOk_ne hb.1.2) l2 l4
  have r3 := cmpOr_ret f.c1 [bdC (-1) a.1 b.1, bdC 1 a.2 b.2] (by simp)
  refine Ret.mk f.a5 rfl ?_
  repeat' (first | refine zA ?_ | refine WQ.cl f.a3.modes ?_ | refine W1.cl f.a3.modes (r1) ?_ | refine WQ.cl f.a3.modes ?_ | refine W1.cl f.a3.modes (r2) ?_ | refine WQ.cl f.c1.modes ?_ | refine W1.cl f.c1.modes (r3) ?_ | refine zB ?_ | (refine zC ?_ ?_ <;> intro hc; all_goals first | (cases hc; done) | ((try simp only [hc]); (try simp only [bm] at hc))) | refine zE ?_ | refine zN ?_ | fail)
  refine Qend.num rfl rfl ?_
  simp only [orL, orI, spC]
  split <;> (try split) <;> omega
theorem most_ret (f : TcFns T) (a b : Int) : Ret T F.shape_most [.val (.int .i64 a), .val (.int .i64 b)] (one (.int .i64 (moC a b))) := by
  have r := cmpInt_ret f.a9 f.b1 a b
  refine Ret.mk f.a6 rfl ?_
  repeat' (first | refine zA ?_ | refine WQ.cl f.a9.modes ?_ | refine W1.cl f.a9.modes (r) ?_ | refine zB ?_ | (refine zC ?_ ?_ <;> intro hc; all_goals first | (cases hc; done) | ((try simp only [hc]); (try simp only [bm] at hc))) | refine zE ?_ | refine zN ?_ | fail)
  all_goals refine Qend.num rfl rfl ?_
  all_goals simp only [moC]
  all_goals first
    | (rw [if_pos (by omega)]; done)
    | (rw [if_neg (by omega), if_pos (by omega)]; done)
    | (rw [if_neg (by omega), if_neg (by omega), if_pos (by omega)]; done)
    | (rw [if_neg (by omega), if_neg (by omega), if_neg (by omega)]; done)
def TyRet (T : Tab) (a b : Ty) : Prop := Ret T F.shape_Cmp [.val a.av, .val b.av] (one (.int .i64 (tyC a b)))
theorem shArr_ret (f : TcFns T) (a b : Ar) (ih : TyRet T a.item b.item) : Ret T F.shape_arr [.val (.agg a.row), .val (.agg b.row)] (one (.int .i64 (arC a b))) := by
  have r1 := cmpInt_ret f.a9 f.b1 a.min b.min
  have r2 := most_ret f a.max b.max
  have r4 := cmpOr_ret f.c1 [icmp a.min b.min, moC a.max b.max, tyC a.item b.item] (by simp)
  have e := arC_eq a b
  unfold TyRet at ih
  rw [Ty.av_eq, Ty.av_eq] at ih
  refine Ret.mk f.a7 rfl ?_
  rw [arav_eq, arav_eq]
  repeat' (first | refine zA ?_ | refine WQ.cl f.a9.modes ?_ | refine W1.cl f.a9.modes (r1) ?_ | refine WQ.cl f.a6.modes ?_ | refine W1.cl f.a6.modes (r2) ?_ | refine WQ.cl f.a1.modes ?_ | refine W1.cl f.a1.modes (ih) ?_ | refine WQ.cl f.c1.modes ?_ | refine W1.cl f.c1.modes (r4) ?_ | refine zB ?_ | (refine zC ?_ ?_ <;> intro hc; all_goals first | (cases hc; done) | ((try simp only [hc]); (try simp only [bm] at hc))) | refine zE ?_ | refine zN ?_ | fail)
  refine Qend.num rfl rfl ?_
  rw [e]
  simp only [orL]
  congr 1; congr 1
  simp only [orI]; split <;> omega
theorem shObj_ret (f : TcFns T) (a b : Ob) (hl : a.bk ≤ 1073741824) (hl' : b.bk ≤ 1073741824) (ih : ∀ x ∈ a.fields, ∀ y ∈ b.fields, TyRet T x y) (ihr : TyRet T a.rest b.rest) : Ret T F.shape_obj [.val (.agg a.row), .val (.agg b.row)] (one (.int .i64 (obC a b))) := by
  have k1 := Ob.bk_eq a
  have k2 := Ob.bk_eq b
  have n1 := len_sbk a.names
  have n2 := len_sbk b.names
  have n3 := len_tyBks a.fields
  have n4 := len_tyBks b.fields
  have r1 := cmpStrs_ret f.b4 f.b2 f.b3 a.names b.names (by omega) (by omega)
  have r2 := cmpFuncBool_ret f.b6 (c := trC) (g := F.shape_truth) f.a2.modes a.must b.must (by omega) (by omega) (fun x _ y _ => truth_ret f x y)
  have r3 := cmpFuncType_ret f.b9 (c := tyC) (g := F.shape_Cmp) f.a1.modes a.fields b.fields (by omega) (by omega) ih
  have r5 := cmpOr_ret f.c1 [lcmp tcmp a.names b.names, lcmp trC a.must b.must, lcmp tyC a.fields b.fields, tyC a.rest b.rest] (by simp)
  have e := obC_eq a b
  unfold TyRet at ihr
  rw [Ty.av_eq, Ty.av_eq] at ihr
  refine Ret.mk f.a8 rfl ?_
  rw [obav_eq, obav_eq]
  clear ih
  repeat' (first | refine zA ?_ | refine WQ.cl f.b4.modes ?_ | refine W1.cl f.b4.modes (r1) ?_ | refine WQ.cl f.b6.modes ?_ | refine W1.cl f.b6.modes (r2) ?_ | refine WQ.cl f.b9.modes ?_ | refine W1.cl f.b9.modes (r3) ?_ | refine WQ.cl f.a1.modes ?_ | refine W1.cl f.a1.modes (ihr) ?_ | refine WQ.cl f.c1.modes ?_ | refine W1.cl f.c1.modes (r5) ?_ | refine zB ?_ | (refine zC ?_ ?_ <;> intro hc; all_goals first | (cases hc; done) | ((try simp only [hc]); (try simp only [bm] at hc))) | refine zE ?_ | refine zN ?_ | fail)
  refine Qend.num rfl rfl ?_
  rw [e]
  simp only [orL]
  congr 1; congr 1; congr 1
  simp only [orI]; split <;> omega
theorem spans_ok {t : Ty} (h : tformed t = true) : ∀ x ∈ t.nums, spanOk x = true := by
  rw [tformed_eq] at h
  simp only [Bool.and_eq_true, spansOk, List.all_eq_true] at h
  exact h.2.1.2
end
end Hm

/- The order of types: shape.Cmp. Conditions: see each theorem. -/
namespace Hm
open Go (IntKind)
set_option maxHeartbeats 4000000
set_option maxRecDepth 4000
section
variable {T : Tab}
set_option maxHeartbeats 40000000 in
theorem shapeCmp_ret (f : TcFns T) : ∀ a : Ty, a.bk ≤ 1073741824 → tformed a = true → ∀ b : Ty, b.bk ≤ 1073741824 → tformed b = true → TyRet T a b := by
  intro a
  induction a using Ty.ind with
  | h a ih =>
  intro hla hfa b hlb hfb
  have k1 := Ty.bk_eq a
  have k2 := Ty.bk_eq b
  have n1 := len_sbk a.texts
  have n2 := len_sbk b.texts
  have n3 := len_spbk a.nums
  have n4 := len_spbk b.nums
  have n5 := len_arBks a.arrays
  have n6 := len_arBks b.arrays
  have n7 := len_obBks a.objects
  have n8 := len_obBks b.objects
  have r1 := truth_ret f a.all b.all
  have r2 := truth_ret f a.nul b.nul
  have r3 := truth_ret f a.fls b.fls
  have r4 := truth_ret f a.tru b.tru
  have r5 := cmpFuncSpan_ret f.b5 (c := spC) (g := F.shape_span) f.a5.modes a.nums b.nums (by omega) (by omega) (fun x hx y hy => by
    have q1 := spbk_mem hx
    have q2 := spbk_mem hy
    exact shSpan_ret f x y (spans_ok hfa x hx) (spans_ok hfb y hy) (by omega) (by omega) (by omega) (by omega))
  have r6 := truth_ret f a.anyText b.anyText
  have r7 := cmpStrs_ret f.b4 f.b2 f.b3 a.texts b.texts (by omega) (by omega)
  have r8 := cmpFuncArr_ret f.b7 (c := arC) (g := F.shape_arr) f.a7.modes a.arrays b.arrays (by omega) (by omega) (fun x hx y hy =>
    shArr_ret f x y (ih x.item (ar_lt hx) (by have := ar_lt hx; omega) (tformed_ar hfa x hx).2 y.item (by have := ar_lt hy; omega) (tformed_ar hfb y hy).2))
  have r9 := cmpFuncObj_ret f.b8 (c := obC) (g := F.shape_obj) f.a8.modes a.objects b.objects (by omega) (by omega) (fun x hx y hy =>
    shObj_ret f x y (by have := obBk_mem hx; omega) (by have := obBk_mem hy; omega)
      (fun u hu v hv => ih u ((ob_lt hx).2 u hu) (by have := (ob_lt hx).2 u hu; omega) ((tformed_ob hfa x hx).1 u hu) v (by have := (ob_lt hy).2 v hv; omega) ((tformed_ob hfb y hy).1 v hv))
      (ih x.rest (ob_lt hx).1 (by have := (ob_lt hx).1; omega) (tformed_ob hfa x hx).2 y.rest (by have := (ob_lt hy).1; omega) (tformed_ob hfb y hy).2))
  have r10 := cmpOr_ret f.c1 [trC a.all b.all, trC a.nul b.nul, trC a.fls b.fls, trC a.tru b.tru, lcmp spC a.nums b.nums, trC a.anyText b.anyText, lcmp tcmp a.texts b.texts, lcmp arC a.arrays b.arrays, lcmp obC a.objects b.objects] (by simp)
  have e := tyC_eq a b
  unfold TyRet
  refine Ret.mk f.a1 rfl ?_
  rw [Ty.av_eq, Ty.av_eq]
  clear ih hla hfa hlb hfb k1 k2 n1 n2 n3 n4 n5 n6 n7 n8
  generalize trC a.all b.all = x1 at *
  generalize trC a.nul b.nul = x2 at *
  generalize trC a.fls b.fls = x3 at *
  generalize trC a.tru b.tru = x4 at *
  generalize lcmp spC a.nums b.nums = x5 at *
  generalize trC a.anyText b.anyText = x6 at *
  generalize lcmp tcmp a.texts b.texts = x7 at *
  generalize lcmp arC a.arrays b.arrays = x8 at *
  generalize lcmp obC a.objects b.objects = x9 at *
  generalize tyC a b = x10 at *
  generalize a.all = a_all at *
  generalize a.nul = a_nul at *
  generalize a.fls = a_fls at *
  generalize a.tru = a_tru at *
  generalize a.nums = a_nums at *
  generalize a.anyText = a_anyText at *
  generalize a.texts = a_texts at *
  generalize a.arrays = a_arrays at *
  generalize a.objects = a_objects at *
  generalize b.all = b_all at *
  generalize b.nul = b_nul at *
  generalize b.fls = b_fls at *
  generalize b.tru = b_tru at *
  generalize b.nums = b_nums at *
  generalize b.anyText = b_anyText at *
  generalize b.texts = b_texts at *
  generalize b.arrays = b_arrays at *
  generalize b.objects = b_objects at *
  repeat' (first | refine zA ?_ | ((apply W1.bS; exact rfl; exact rfl; exact rfl; exact rfl)) | refine WQ.cl f.a2.modes ?_ | refine W1.cl f.a2.modes (r1) ?_ | refine WQ.cl f.a2.modes ?_ | refine W1.cl f.a2.modes (r2) ?_ | refine WQ.cl f.a2.modes ?_ | refine W1.cl f.a2.modes (r3) ?_ | refine WQ.cl f.a2.modes ?_ | refine W1.cl f.a2.modes (r4) ?_ | refine WQ.cl f.b5.modes ?_ | refine W1.cl f.b5.modes (r5) ?_ | refine WQ.cl f.a2.modes ?_ | refine W1.cl f.a2.modes (r6) ?_ | refine WQ.cl f.b4.modes ?_ | refine W1.cl f.b4.modes (r7) ?_ | refine WQ.cl f.b7.modes ?_ | refine W1.cl f.b7.modes (r8) ?_ | refine WQ.cl f.b8.modes ?_ | refine W1.cl f.b8.modes (r9) ?_ | refine WQ.cl f.c1.modes ?_ | refine W1.cl f.c1.modes (r10) ?_ | refine zB ?_ | (refine zC ?_ ?_ <;> intro hc; all_goals first | (cases hc; done) | ((try simp only [hc]); (try simp only [bm] at hc))) | refine zE ?_ | refine zN ?_ | fail)
  refine Qend.num rfl rfl ?_
  rw [e]
  simp only [orL]
  congr 1; congr 1; congr 1; congr 1; congr 1; congr 1; congr 1; congr 1
  simp only [orI]; split <;> omega
end
end Hm

/- Near types, as the program has them. Conditions: the value well shaped. NORMX NORMY -/
namespace Hm
open Go (IntKind)
set_option maxHeartbeats 40000000
set_option maxRecDepth 4000
/-- What near reaches. -/
structure NrFns (T : Tab) : Prop where
  a1 : Fn T F.shape_near shape_near.fn
  a2 : Fn T F.shape_nearItem shape_nearItem.fn
  a3 : Fn T F.shape_ofItems shape_ofItems.fn
  a4 : Fn T F.shape_OfKinds shape_OfKinds.fn
  a5 : Fn T F.shape_OfKinds_S1 shape_OfKinds_S1.fn
  a6 : Fn T F.shape_Every shape_Every.fn
  a7 : Fn T F.shape_Never shape_Never.fn
  a8 : Fn T F.shape_Same shape_Same.fn
  m1 : T.modes F.slices_Clone_Lstring_string = [.val]
  p1 : T.prim F.slices_Clone_Lstring_string = some (pClone 1)
def cr1 (l : List (List AV)) : List (List Cell) := l.map fun r => r.map .av
theorem clone1 {T : Tab} {f k : Nat} (hp : T.prim f = some (pClone k)) (rows : List (List AV)) (hl : rows.length ≤ limit) : Ret T f [.val (.lst k rows)] ⟨[([.own k (cr1 rows)], false)], []⟩ :=
  Ret.prim hp (by simp only [pClone]; rw [if_pos ⟨trivial, hl⟩]; rfl)
theorem sealRow_cr (r : List AV) : sealRow (r.map .av) = r := by
  induction r with
  | nil => rfl
  | cons x r ih => simp only [List.map_cons, sealRow, Cell.shut, ih]
theorem seal_cr1 (l : List (List AV)) : sealRows (cr1 l) = l := by
  induction l with
  | nil => rfl
  | cons x l ih => rw [cr1] at ih; simp only [cr1, List.map_cons, sealRows, sealRow_cr, ih]
section
variable {T : Tab}
theorem W1.shl8 {st : St} {K : St → Prop} {dst : Option Nat} {g : Option (Nat × Bool)} {x y : Opd} {b : Int} (hg : wanted st g = some true) (hx : st.opd x = .av (.int .u8 1)) (hy : st.opd y = .av (.int .i64 b)) (hb : ¬ b < 0)
    (hk : K (putD dst (.av (.int .u8 (IntKind.wrap .u8 (1 * 2 ^ (min b.toNat (IntKind.bits .u8)))))) st)) : W1 T ⟨dst, .bin .shl x y, g⟩ st K := by
  refine W1.go hg (WS.op (v := .av (.int .u8 (IntKind.wrap .u8 (1 * 2 ^ (min b.toNat (IntKind.bits .u8)))))) rfl ?_ hk)
  simp only [stepOp, hx, hy, binA, if_neg hb]
theorem W1.slcT {st : St} {K : St → Prop} {dst : Option Nat} {g : Option (Nat × Bool)} {k : Nat} {x : Opd} {r0 : List AV} {rows : List (List AV)} (hg : wanted st g = some true) (hx : st.opd x = .av (.lst k (r0 :: rows)))
    (hk : K (putD dst (.av (.lst k rows)) st)) : W1 T ⟨dst, .slc false k x (some (.v (.int .i64 1))) none, g⟩ st K := by
  refine W1.go hg (WS.op (v := .av (.lst k rows)) (st' := st) rfl ?_ hk)
  have e : (TV.av (.lst k (r0 :: rows))).rd = some (.lst k (r0 :: rows)) := rfl
  have b1 : st.bnd 0 (some (.v (.int .i64 1))) = some 1 := rfl
  have b2 : st.bnd (r0 :: rows).length none = some (r0 :: rows).length := rfl
  simp only [stepOp, hx, e, b1, b2]
  rw [if_pos ⟨trivial, by simp, Nat.le_refl _⟩, List.take_length]
  rfl
theorem W1.sub64h {st : St} {K : St → Prop} {dst : Option Nat} {g : Option (Nat × Bool)} {x y : Opd} {a b c : Int} (hg : wanted st g = some true) (hx : st.opd x = .av (.int .i64 a)) (hy : st.opd y = .av (.int .i64 b)) (hc : a - b = c) (h1 : -9223372036854775808 ≤ c := by omega) (h2 : c < 9223372036854775808 := by omega)
    (hk : K (putD dst (.av (.int .i64 c)) st)) : W1 T ⟨dst, .bin .sub x y, g⟩ st K := by
  subst hc; exact W1.sub64 hg hx hy h1 h2 hk
/-- Something is appended to a list that lies in a variable. -/
theorem W1.appP {st st1 st2 : St} {K : St → Prop} {dst : Option Nat} {g : Option (Nat × Bool)} {bytes k k0 : Nat} {x y : Opd} {p : Place} {v0 : List (List AV)} {base rows : List (List Cell)} {r : List Cell} (hg : wanted st g = some true) (hn : appNew st k y = some (rows, st1)) (hr : rows = [r])
    (hx : st1.opd x = .ali (.lst k0 v0) (some p)) (hc : st1.cells p 1 = some [.own k base]) (hw : st1.write p [.dead] = some st2) (hl : base.length + 1 ≤ 4294967296) (hk : K (putD dst (.own [.own k (base ++ [r])] false) st2.hush)) : W1 T ⟨dst, .append bytes k x y, g⟩ st K := by
  subst hr
  refine W1.go hg (WS.op (v := .own [.own k (base ++ [r])] false) (st' := st2.hush) rfl ?_ hk)
  have hl' : base.length + [r].length ≤ limit := hl
  simp only [stepOp, hn, hx, hc, hw]
  rw [if_pos ⟨trivial, hl'⟩]
theorem cr1_len (l : List (List AV)) : (cr1 l).length = l.length := by simp [cr1]
theorem cr1_take_succ {α : Type} {l : List α} {i : Nat} {x : α} (f : α → List AV) (h : l[i]? = some x) : cr1 ((l.take (i + 1)).map f) = cr1 ((l.take i).map f) ++ [(f x).map .av] := by
  rw [List.take_add_one, h]; simp [cr1]
theorem never_ret (f : NrFns T) : Ret T F.shape_Never [] ⟨[([.av (.bool false), .av (.bool false), .av (.bool false), .av (.bool false), .own 2 [], .av (.bool false), .own 1 [], .own 11 [], .own 12 []], true)], []⟩ := by
  refine Ret.mk f.a7 rfl ?_
  repeat' (first | refine zA ?_ | refine zB ?_ | (refine zC ?_ ?_ <;> intro hc; all_goals first | (cases hc; done) | ((try simp only [hc]); (try simp only [bm] at hc))) | refine zE ?_ | refine zNV ?_ | fail)
  exact ⟨.inr rfl, rfl, rfl⟩
theorem same9_ret (f : NrFns T) (c : TcFns T) (a b : Ty) (hla : a.bk ≤ 1073741824) (hfa : tformed a = true) (hlb : b.bk ≤ 1073741824) (hfb : tformed b = true) : Ret T F.shape_Same [.val a.av, .val b.av] (one (.bool (eqB a b))) := by
  have e : eqB a b = (tyC a b == 0) := by
    rw [Bool.eq_iff_iff, eqB_iff, beq_iff_eq]
    exact ⟨fun h => by subst h; exact tyC_pre.refl hfa, tyC_zero⟩
  have r := shapeCmp_ret c a hla hfa b hlb hfb
  rw [e]
  refine Ret.mk f.a8 rfl ?_
  rw [TyRet] at r
  rw [Ty.av_eq a, Ty.av_eq b] at *
  repeat' (first | refine zA ?_ | refine WQ.cl c.a1.modes ?_ | refine W1.cl c.a1.modes (r) ?_ | refine zB ?_ | (refine zC ?_ ?_ <;> intro hc; all_goals first | (cases hc; done) | ((try simp only [hc]); (try simp only [bm] at hc))) | refine zE ?_ | refine zNV ?_ | fail)
  exact Qend.boo rfl rfl rfl
/-- What near answers. -/
def NearS (T : Tab) (v : V) (h : Nat) : Prop := ∃ C, sealRow C = (nearT v h).row ∧ Ret T F.shape_near [.val v.av, .val (.int .i64 (h : Int))] ⟨[(C, true)], []⟩
theorem ex1 {f : Nat} {fn : AFun} {as : List Arg} {row : List AV} (h : Fn T f fn) (hfit : fits fn.params as = true) (hw : W T fn.body ⟨lstE (entry 0 as).1, lstB (entry 0 as).2⟩ (fun e st => ∃ C, sealRow C = row ∧ Qend fn as ⟨[(C, true)], []⟩ e st)) : ∃ C, sealRow C = row ∧ Ret T f as ⟨[(C, true)], []⟩ := by
  have main : ∃ r : CR, (∃ C, sealRow C = row ∧ r = ⟨[(C, true)], []⟩) ∧ Ret T f as r := by
    refine Ret.ex h hfit (hw.mono fun e st hq => ?_)
    obtain ⟨C, hC, hq⟩ := hq
    exact ⟨_, ⟨C, hC, rfl⟩, hq⟩
  obtain ⟨r, ⟨C, hC, rfl⟩, hr⟩ := main
  exact ⟨C, hC, hr⟩
theorem every_row : sealRow [.av (.bool true), .av (.bool false), .av (.bool false), .av (.bool false), .own 2 [], .av (.bool false), .own 1 [], .own 11 [], .own 12 []] = [.bool true, .bool false, .bool false, .bool false, .lst 2 [], .bool false, .lst 1 [], .lst 11 [], .lst 12 []] := rfl
theorem never_row : sealRow [.av (.bool false), .av (.bool false), .av (.bool false), .av (.bool false), .own 2 [], .av (.bool false), .own 1 [], .own 11 [], .own 12 []] = [.bool false, .bool false, .bool false, .bool false, .lst 2 [], .bool false, .lst 1 [], .lst 11 [], .lst 12 []] := rfl
theorem ofItems_ret (f : NrFns T) (l : List V) (hf : ∀ x ∈ l, formed x = true) (hl : l.length ≤ 1073741824) (h : Nat) (hh : h ≤ 100) :
    ∃ C, sealRow C = (ofKd (kindsN (l.map V.kind)) h).row ∧ Ret T F.shape_ofItems [.val (.lst 5 (l.map V.row)), .val (.int .i64 (h : Int))] ⟨[(C, true)], []⟩ := by
  have e2 : (l.map V.row).length = l.length := List.length_map ..
  refine ex1 f.a3 rfl ?_
  by_cases h1 : h ≤ 1
  · have r := everyS_ret f.a6
    rw [ofKd, if_pos h1]
    repeat' (first | refine zA ?_ | (refine W1.cd1 f.a6.modes every_row r ?_) | refine zB ?_ | (refine zC ?_ ?_ <;> intro hc; all_goals first | (cases hc; done) | ((try simp only [hc]); (try simp only [bm] at hc))) | refine zE ?_ | refine zNV ?_ | fail)
    all_goals first | (exfalso; omega) | exact ⟨_, rfl, .inr rfl, rfl, rfl⟩
  · rw [ofKd, if_neg h1]
    repeat' (first | refine zA ?_ | refine zB ?_ | (refine zC ?_ ?_ <;> intro hc; all_goals first | (cases hc; done) | ((try simp only [hc]); (try simp only [bm] at hc))) | refine zE ?_ | refine zNV ?_ | fail)
    all_goals first | (exfalso; omega) | skip
    refine W.listP l (fun i (_ : Unit) s => (s.put 5 (.av (.int .u8 (kindsN ((l.map V.kind).take i))))).put 13 (.av (.int .i64 (i : Int)))) (fun _ _ => True) () trivial rfl ?_ ?_
    · intro i x u hx hi _
      have hk := (formed_inv (hf x (List.mem_of_getElem? hx))).1
      have hst := kindsN_take_succ (show (l.map V.kind)[i]? = some x.kind by rw [List.getElem?_map, hx]; rfl)
      repeat' (first | refine zA ?_ | ((apply W1.shl8; exact rfl; exact rfl; exact rfl; omega)) | refine zB ?_ | (refine zC ?_ ?_ <;> intro hc; all_goals first | (cases hc; done) | ((try simp only [hc]); (try simp only [bm] at hc))) | refine zE ?_ | refine zNV ?_ | fail)
      refine ⟨(), trivial, ?_⟩
      rw [hst]; rfl
    · intro u _
      rw [List.take_of_length_le (by simp)]
      obtain ⟨C, hC, r⟩ := ofKinds_ret f.a4 f.a5 f.a6 (kindsN (l.map V.kind))
      rw [Ty.row_eq] at hC
      rw [Ty.row_eq]
      generalize wideT (kindsN (l.map V.kind)) = w at *
      repeat' (first | refine zA ?_ | (refine W1.cd1 f.a4.modes hC r ?_) | refine zB ?_ | (refine zC ?_ ?_ <;> intro hc; all_goals first | (cases hc; done) | ((try simp only [hc]); (try simp only [bm] at hc))) | refine zE ?_ | refine zNV ?_ | fail)
      exact ⟨_, rfl, .inr rfl, rfl, rfl⟩
theorem nearItem_of (f : NrFns T) (c : TcFns T) (l : List V) (hf : ∀ x ∈ l, formed x = true) (hb : V.bks l ≤ 10000000) (h : Nat) (hh : h ≤ 99) (ih : ∀ x ∈ l, NearS T x h) :
    ∃ C, sealRow C = (nearItemT l (h + 1)).row ∧ Ret T F.shape_nearItem [.val (.lst 5 (l.map V.row)), .val (.int .i64 ((h + 1 : Nat) : Int))] ⟨[(C, true)], []⟩ := by
  have hlen := V.len_bks l
  obtain ⟨Ck, hCk, rk⟩ := ofItems_ret f l hf (by omega) (h + 1) (by omega)
  refine ex1 f.a2 rfl ?_
  have hcons := fun x r => nearItemT_cons x r (h + 1)
  have esub : ((h + 1 : Nat) : Int) - 1 = (h : Int) := by omega
  cases l with
  | nil =>
    have r := never_ret f
    repeat' (first | refine zA ?_ | (refine W1.cd1 f.a7.modes never_row r ?_) | refine zB ?_ | (refine zC ?_ ?_ <;> intro hc; all_goals first | (cases hc; done) | ((try simp only [hc]); (try simp only [bm] at hc))) | refine zE ?_ | refine zNV ?_ | fail)
    all_goals first | (exfalso; simp_all; done) | exact ⟨_, rfl, .inr rfl, rfl, rfl⟩
  | cons x l =>
    obtain ⟨C1, hC1, r1⟩ := ih x (by simp)
    have hbx : x.bk ≤ 10000000 := by simp only [V.bks] at hb; omega
    have hfx := near_formed x (hf x (by simp)) h
    have hbt := near_bk x (hf x (by simp)) h
    have e3 : (l.map V.row).length = l.length := List.length_map ..
    rw [Ty.row_eq] at hC1 hCk
    have hxr := V.row_eq x
    have hll : l.length ≤ 10000000 := by simp only [List.length_cons] at hlen; omega
    rw [V.av_eq] at r1
    rw [List.map_cons, hxr] at rk
    rw [List.map_cons, hxr]
    repeat' (first | refine zA ?_ | ((apply W1.sub64h; exact rfl; exact rfl; exact rfl; exact esub; omega; omega)) | ((apply W1.iadr; (iterate 3 exact rfl); omega; exact rfl)) | ((apply W1.slcT; exact rfl; exact rfl)) | (refine W1.cd1 f.a1.modes hC1 r1 ?_) | refine zB ?_ | (refine zC ?_ ?_ <;> intro hc; all_goals first | (cases hc; done) | ((try simp only [hc]); (try simp only [bm] at hc))) | refine zE ?_ | refine zNV ?_ | fail)
    all_goals first | (exfalso; simp only [List.length_cons] at *; omega) | skip
    refine W.listP l (fun i (_ : Unit) s => s.put 21 (.av (.int .i64 (i : Int)))) (fun i _ => ∀ y ∈ l.take i, nearT x h = nearT y h) () (by simp) rfl ?_ ?_
    · intro i y u hx hi hp
      have hym := List.mem_of_getElem? hx
      obtain ⟨C2, hC2, r2⟩ := ih y (by simp [hym])
      have hby : y.bk ≤ 10000000 := by simp only [V.bks] at hb; have := V.bk_mem hym; omega
      have hfy := near_formed y (hf y (by simp [hym])) h
      have hbt2 := near_bk y (hf y (by simp [hym])) h
      have rs := same9_ret f c (nearT x h) (nearT y h) (by omega) hfx (by omega) hfy
      have htk : ∀ z ∈ l.take (i + 1), z ∈ l.take i ∨ z = y := fun z hz => by
        rw [List.take_add_one, hx] at hz
        simpa using hz
      have hee : eqB (nearT x h) (nearT y h) = true → nearT x h = nearT y h := eqB_iff.1
      have hen : eqB (nearT x h) (nearT y h) = false → ¬ ∀ z ∈ l, nearT x (h + 1 - 1) = nearT z (h + 1 - 1) := fun e hall => by
        have := hall y hym
        rw [show h + 1 - 1 = h from rfl] at this
        rw [this, eqB_self] at e; cases e
      rw [Ty.row_eq] at hC2
      rw [V.av_eq] at r2
      rw [Ty.av_eq, Ty.av_eq] at rs
      cases hq : eqB (nearT x h) (nearT y h)
      · rw [hq] at rs
        rw [hcons, if_neg (hen hq), Ty.row_eq]
        clear hcons hen hee htk hp
        generalize nearT x h = tx at *
        generalize nearT y h = ty at *
        repeat' (first | refine zA ?_ | ((apply W1.sub64h; exact rfl; exact rfl; exact rfl; exact esub; omega; omega)) | (refine WQ.cl f.a1.modes ?_) | (refine W1.cd1 f.a1.modes hC2 r2 ?_) | refine WQ.cl f.a8.modes ?_ | refine W1.cl f.a8.modes (rs) ?_ | (refine W1.cd1 f.a3.modes hCk rk ?_) | refine zB ?_ | (refine zC ?_ ?_ <;> intro hc; all_goals first | (cases hc; done) | ((try simp only [hc]); (try simp only [bm] at hc))) | refine zE ?_ | refine zNV ?_ | fail)
        exact ⟨_, rfl, .inr rfl, rfl, rfl⟩
      · rw [hq] at rs
        have hpi : ∀ z ∈ l.take (i + 1), nearT x h = nearT z h := fun z hz => by
          rcases htk z hz with hz | rfl
          · exact hp z hz
          · exact hee hq
        clear hcons hen hee htk hp
        repeat' (first | refine zA ?_ | ((apply W1.sub64h; exact rfl; exact rfl; exact rfl; exact esub; omega; omega)) | (refine WQ.cl f.a1.modes ?_) | (refine W1.cd1 f.a1.modes hC2 r2 ?_) | refine WQ.cl f.a8.modes ?_ | refine W1.cl f.a8.modes (rs) ?_ | refine zB ?_ | (refine zC ?_ ?_ <;> intro hc; all_goals first | (cases hc; done) | ((try simp only [hc]); (try simp only [bm] at hc))) | refine zE ?_ | refine zNV ?_ | fail)
        exact ⟨(), hpi, rfl⟩
    · intro u hp
      rw [List.take_length] at hp
      rw [hcons, if_pos (show ∀ y ∈ l, nearT x (h + 1 - 1) = nearT y (h + 1 - 1) from hp), show h + 1 - 1 = h from rfl, Ty.row_eq]
      repeat' (first | refine zA ?_ | refine zB ?_ | (refine zC ?_ ?_ <;> intro hc; all_goals first | (cases hc; done) | ((try simp only [hc]); (try simp only [bm] at hc))) | refine zE ?_ | refine zNV ?_ | fail)
      exact ⟨_, rfl, .inr rfl, rfl, rfl⟩
theorem near_ret (f : NrFns T) (c : TcFns T) : ∀ v : V, v.bk ≤ 10000000 → formed v = true → ∀ h : Nat, h ≤ 100 → NearS T v h := by
  intro v
  induction v using V.ind with
  | h v ih =>
  intro hb hf h hh
  have hfi := formed_inv hf
  have hbk := V.bk_eq v
  have hl := V.len_bks v.items
  have hlk := len_sbk v.keys
  have e1 := srow_len v.keys
  have e2 : (v.items.map V.row).length = v.items.length := List.length_map ..
  have hit := items_formed hf
  have ih' : ∀ h : Nat, h ≤ 100 → ∀ x ∈ v.items, NearS T x h := fun h hh x hx => ih x hx (by have := V.bk_item hx; omega) (hit x hx) h hh
  have rE := everyS_ret f.a6
  rw [NearS]
  rcases kinds7 hf with (hk | hk | hk) | hk | hk | hk
  · rw [near_lo (.inl hk), V.av_eq, hk]
    refine ex1 f.a1 rfl ?_
    repeat' (first | refine zA ?_ | (refine W1.bC ?_) | refine zB ?_ | (refine zC ?_ ?_ <;> intro hc; all_goals first | (cases hc; done) | ((try simp only [hc]); (try simp only [bm] at hc))) | refine zE ?_ | refine zNV ?_ | fail)
    all_goals first | exact ⟨_, rfl, .inr rfl, rfl, rfl⟩ | (exfalso; simp_all; done)
  · rw [near_lo (.inr (.inl hk)), V.av_eq, hk]
    refine ex1 f.a1 rfl ?_
    repeat' (first | refine zA ?_ | (refine W1.bC ?_) | refine zB ?_ | (refine zC ?_ ?_ <;> intro hc; all_goals first | (cases hc; done) | ((try simp only [hc]); (try simp only [bm] at hc))) | refine zE ?_ | refine zNV ?_ | fail)
    all_goals first | exact ⟨_, rfl, .inr rfl, rfl, rfl⟩ | (exfalso; simp_all; done)
  · rw [near_lo (.inr (.inr hk)), V.av_eq, hk]
    refine ex1 f.a1 rfl ?_
    repeat' (first | refine zA ?_ | (refine W1.bC ?_) | refine zB ?_ | (refine zC ?_ ?_ <;> intro hc; all_goals first | (cases hc; done) | ((try simp only [hc]); (try simp only [bm] at hc))) | refine zE ?_ | refine zNV ?_ | fail)
    all_goals first | exact ⟨_, rfl, .inr rfl, rfl, rfl⟩ | (exfalso; simp_all; done)
  · rw [near_num hk, V.av_eq, hk]
    refine ex1 f.a1 rfl ?_
    repeat' (first | refine zA ?_ | (refine W1.bC ?_) | (refine W1.bL ?_) | refine zB ?_ | (refine zC ?_ ?_ <;> intro hc; all_goals first | (cases hc; done) | ((try simp only [hc]); (try simp only [bm] at hc))) | refine zE ?_ | refine zNV ?_ | fail)
    all_goals first | exact ⟨_, rfl, .inr rfl, rfl, rfl⟩ | (exfalso; simp_all; done)
  · rw [near_txt hk, V.av_eq, hk]
    refine ex1 f.a1 rfl ?_
    repeat' (first | refine zA ?_ | (refine W1.bC ?_) | (refine W1.bL ?_) | refine zB ?_ | (refine zC ?_ ?_ <;> intro hc; all_goals first | (cases hc; done) | ((try simp only [hc]); (try simp only [bm] at hc))) | refine zE ?_ | refine zNV ?_ | fail)
    all_goals first | exact ⟨_, rfl, .inr rfl, rfl, rfl⟩ | (exfalso; simp_all; done)
  · cases h with
    | zero =>
      rw [near_top hk, V.av_eq]
      refine ex1 f.a1 rfl ?_
      rcases hk with hk | hk
      all_goals rw [hk]
      all_goals skip
      repeat' (first | refine zA ?_ | (refine W1.cd1 f.a6.modes every_row rE ?_) | refine zB ?_ | (refine zC ?_ ?_ <;> intro hc; all_goals first | (cases hc; done) | ((try simp only [hc]); (try simp only [bm] at hc))) | refine zE ?_ | refine zNV ?_ | fail)
      all_goals first | exact ⟨_, rfl, .inr rfl, rfl, rfl⟩ | (exfalso; simp_all; done)
    | succ h =>
      have hne : ¬ ((h + 1 : Nat) : Int) = 0 := by omega
      have esub : ((h + 1 : Nat) : Int) - 1 = (h : Int) := by omega
      rcases hk with hk | hk
      · obtain ⟨C, hC, r⟩ := nearItem_of f c v.items hit (by omega) h (by omega) (ih' h (by omega))
        rw [near_arr hk, V.av_eq, hk]
        rw [Ty.row_eq] at hC
        have hAr := Ar.row_eq (.mk (nearItemT v.items (h + 1)) v.items.length v.items.length)
        rw [Ty.row_eq]
        simp only [arrT, Ty.all, Ty.nul, Ty.fls, Ty.tru, Ty.nums, Ty.anyText, Ty.texts, Ty.arrays, Ty.objects, List.map_cons, List.map_nil]
        rw [hAr]
        simp only [Ar.item, Ar.min, Ar.max]
        refine ex1 f.a1 rfl ?_
        generalize nearItemT v.items (h + 1) = w at *
        clear ih ih' rE
        repeat' (first | refine zA ?_ | (refine W1.bC ?_) | (refine W1.bL ?_) | (refine WQ.cl f.a2.modes ?_) | (refine W1.cd1 f.a2.modes hC r ?_) | refine zB ?_ | (refine zC ?_ ?_ <;> intro hc; all_goals first | (cases hc; done) | ((try simp only [hc]); (try simp only [bm] at hc))) | refine zE ?_ | refine zNV ?_ | fail)
        all_goals first | exact ⟨_, rfl, .inr rfl, rfl, rfl⟩ | (exfalso; simp_all; done) | trace_state
      · by_cases hm : 12 < v.keys.length
        · obtain ⟨C, hC, r⟩ := ofItems_ret f v.items hit (by omega) (h + 1) (by omega)
          rw [near_many hk hm, V.av_eq, hk]
          rw [Ty.row_eq] at hC
          have hOb := Ob.row_eq (.mk [] [] [] (ofKd (kindsN (v.items.map V.kind)) (h + 1)))
          rw [Ty.row_eq]
          simp only [objT, Ty.all, Ty.nul, Ty.fls, Ty.tru, Ty.nums, Ty.anyText, Ty.texts, Ty.arrays, Ty.objects, List.map_cons, List.map_nil]
          rw [hOb]
          simp only [Ob.names, Ob.fields, Ob.must, Ob.rest]
          refine ex1 f.a1 rfl ?_
          generalize ofKd (kindsN (v.items.map V.kind)) (h + 1) = w at *
          clear ih ih' rE
          repeat' (first | refine zA ?_ | (refine W1.bC ?_) | (refine W1.bL ?_) | (refine W1.cd1 f.a3.modes hC r ?_) | refine zB ?_ | (refine zC ?_ ?_ <;> intro hc; all_goals first | (cases hc; done) | ((try simp only [hc]); (try simp only [bm] at hc))) | refine zE ?_ | refine zNV ?_ | fail)
          all_goals first | exact ⟨_, rfl, .inr rfl, rfl, rfl⟩ | (exfalso; simp_all; done) | (exfalso; omega) | trace_state
        · have rc := clone1 f.p1 (srow v.keys) (by rw [srow_len]; show _ ≤ 4294967296; omega)
          have hkl := (hfi.2.2.2.2.2.2.2.1 hk).1
          rw [near_obj hk hm, V.av_eq, hk]
          have hOb := Ob.row_eq (.mk v.keys (v.items.map fun x => nearT x h) (v.items.map fun _ => true) neverT)
          rw [Ty.row_eq]
          simp only [objT, Ty.all, Ty.nul, Ty.fls, Ty.tru, Ty.nums, Ty.anyText, Ty.texts, Ty.arrays, Ty.objects, List.map_cons, List.map_nil]
          rw [hOb]
          simp only [Ob.names, Ob.fields, Ob.must, Ob.rest, neverT, Ty.all, Ty.nul, Ty.fls, Ty.tru, Ty.nums, Ty.anyText, Ty.texts, Ty.arrays, Ty.objects, List.map_nil, List.map_map]
          refine ex1 f.a1 rfl ?_
          repeat' (first | refine zA ?_ | (refine W1.bC ?_) | (refine W1.bL ?_) | refine WQ.cl f.m1 ?_ | refine W1.cl f.m1 (rc) ?_ | refine zB ?_ | (refine zC ?_ ?_ <;> intro hc; all_goals first | (cases hc; done) | ((try simp only [hc]); (try simp only [bm] at hc))) | refine zE ?_ | refine zNV ?_ | fail)
          all_goals first | (exfalso; simp_all; done) | (exfalso; omega) | skip
          refine W.list v.items (fun i (_ : Unit) => ⟨lstE [(1, .av (.int .i64 ((h + 1 : Nat) : Int))), (4, .plc ⟨.box 4, [], 0⟩), (5, .plc ⟨.box 5, [], 0⟩), (69, .av (.lst 5 (v.items.map V.row))), (70, .av (.int .i64 (v.items.length : Nat))), (71, .av (.int .i64 (i : Int)))],
            lstB [(1, none), (4, some [.av (.bool false), .av (.bool false), .av (.bool false), .av (.bool false), .own 2 [], .av (.bool false), .own 1 [], .own 11 [], .own 12 []]), (5, some [.own 1 (cr1 (srow v.keys)), .own 9 (cr1 ((v.items.take i).map fun x => (nearT x h).row)), .own 1 (cr1 ((v.items.take i).map fun _ => [.bool true])), .av (.bool false), .av (.bool false), .av (.bool false), .av (.bool false), .own 2 [], .av (.bool false), .own 1 [], .own 11 [], .own 12 []]), (69, none), (70, none), (71, none)]⟩) (fun _ _ => True) () rfl trivial ?_ ?_
          · intro i x u hx hi _
            obtain ⟨C, hC, r⟩ := ih' h (by omega) x (List.mem_of_getElem? hx)
            have g1 := cr1_take_succ (fun x => (nearT x h).row) hx
            have g2 := cr1_take_succ (fun _ => [AV.bool true]) hx
            have g3 := cr1_len ((v.items.take i).map fun x => (nearT x h).row)
            have g4 := cr1_len ((v.items.take i).map fun _ => [AV.bool true])
            rw [List.length_map, List.length_take] at g3 g4
            rw [Ty.row_eq] at hC
            simp only [Ty.row_eq (nearT x h)] at g1
            rw [V.av_eq] at r
            generalize cr1 ((v.items.take i).map fun x => (nearT x h).row) = F0 at *
            generalize cr1 ((v.items.take i).map fun _ => [AV.bool true]) = M0 at *
            generalize nearT x h = w at *
            repeat' (first | refine zA ?_ | ((apply W1.sub64h; exact rfl; exact rfl; exact rfl; exact esub; omega; omega)) | (refine W1.bL ?_) | (refine WQ.cl f.a1.modes ?_) | (refine W1.cd1 f.a1.modes hC r ?_) | ((apply W1.appP; exact rfl; exact rfl; exact rfl; exact rfl; exact rfl; exact rfl; omega)) | refine zB ?_ | (refine zC ?_ ?_ <;> intro hc; all_goals first | (cases hc; done) | ((try simp only [hc]); (try simp only [bm] at hc))) | refine zE ?_ | refine zNV ?_ | fail)
            refine ⟨(), trivial, ?_⟩
            rw [g1, g2]
            rfl
          · intro u _
            rw [List.take_length]
            repeat' (first | refine zA ?_ | (refine W1.bC ?_) | (refine W1.bL ?_) | refine zB ?_ | (refine zC ?_ ?_ <;> intro hc; all_goals first | (cases hc; done) | ((try simp only [hc]); (try simp only [bm] at hc))) | refine zE ?_ | refine zNV ?_ | fail)
            refine ⟨_, ?_, .inr rfl, rfl, rfl⟩
            simp only [sealRow, sealRows, Cell.shut, seal_cr1, brow, List.map_map]
            rfl
end
end Hm

/- Texts eight bytes at once. Conditions: see each theorem. -/
namespace Hm
open Go (IntKind)
set_option maxHeartbeats 4000000
set_option maxRecDepth 4000
def H64 : BitVec 64 := BitVec.ofInt 64 9259542123273814144
theorem wrapU {n : Int} (h1 : 0 ≤ n) (h2 : n < 18446744073709551616) : IntKind.wrap .u64 n = n := by
  have e : n % (2 ^ 64 : Int) = n := Int.emod_eq_of_lt h1 (by omega)
  simp only [IntKind.wrap, IntKind.bits, IntKind.signed, Bool.false_and, Bool.false_eq_true, if_false]
  exact e
theorem ofInt_nat (x : BitVec 64) : BitVec.ofInt 64 (IntKind.wrap .u64 (x.toNat : Int)) = x := by
  rw [wrapU (by omega) (by have := x.isLt; omega)]
  simp
def P8 (s : Str) (r : Int) : Prop := BitVec.ofInt 64 r &&& H64 = 0#64 → ∀ i, i < 8 → (bAt s i).toNat < 128
theorem or_hi {x y h : BitVec 64} (e : (x ||| y) &&& h = 0#64) : x &&& h = 0#64 ∧ y &&& h = 0#64 := by
  have key : ∀ i, i < 64 → ((x ||| y) &&& h).getLsbD i = false := fun i _ => by rw [e]; simp
  constructor
  · apply BitVec.eq_of_getLsbD_eq
    intro i hi
    have := key i hi
    simp only [BitVec.getLsbD_and, BitVec.getLsbD_or, BitVec.getLsbD_zero] at this ⊢
    cases h1 : x.getLsbD i <;> cases h2 : y.getLsbD i <;> cases h3 : h.getLsbD i <;> simp_all
  · apply BitVec.eq_of_getLsbD_eq
    intro i hi
    have := key i hi
    simp only [BitVec.getLsbD_and, BitVec.getLsbD_or, BitVec.getLsbD_zero] at this ⊢
    cases h1 : x.getLsbD i <;> cases h2 : y.getLsbD i <;> cases h3 : h.getLsbD i <;> simp_all
theorem byte_tab : ∀ k, k < 8 → ∀ n, n < 256 → (BitVec.ofNat 64 (n * 2 ^ (8 * k)) &&& H64 = 0#64) → n < 128 := by decide +kernel
theorem byte_of {c : UInt8} (k : Nat) (hk : k < 8) (h : BitVec.ofInt 64 (IntKind.wrap .u64 (IntKind.wrap .u64 (c.toNat : Int) * 2 ^ (8 * k))) &&& H64 = 0#64) : c.toNat < 128 := by
  have hc : c.toNat < 256 := c.toNat_lt
  have hp : 2 ^ (8 * k) ≤ 2 ^ 56 := Nat.pow_le_pow_right (by omega) (by omega)
  have hm : c.toNat * 2 ^ (8 * k) < 18446744073709551616 := Nat.lt_of_lt_of_le (Nat.mul_lt_mul_of_lt_of_le hc hp (by omega)) (by decide)
  have e1 : IntKind.wrap .u64 (c.toNat : Int) = c.toNat := wrapU (by omega) (by omega)
  have e2 : ((c.toNat : Int) * 2 ^ (8 * k)) = ((c.toNat * 2 ^ (8 * k) : Nat) : Int) := by push_cast; rfl
  rw [e1, e2, wrapU (by omega) (by omega), BitVec.ofInt_natCast] at h
  exact byte_tab k hk c.toNat hc h
def orW (a b : Int) : Int := IntKind.wrap .u64 ((BitVec.ofInt 64 a ||| BitVec.ofInt 64 b).toNat : Int)
def shW (s : Str) (i : Nat) : Int := IntKind.wrap .u64 (IntKind.wrap .u64 ((bAt s i).toNat : Int) * 2 ^ (8 * i))
def wordW (s : Str) : Int := orW (orW (orW (orW (orW (orW (orW (IntKind.wrap .u64 ((bAt s 0).toNat : Int)) (shW s 1)) (shW s 2)) (shW s 3)) (shW s 4)) (shW s 5)) (shW s 6)) (shW s 7)
theorem ofInt_orW (a b : Int) : BitVec.ofInt 64 (orW a b) = BitVec.ofInt 64 a ||| BitVec.ofInt 64 b := ofInt_nat _
theorem P8_word (s : Str) : P8 s (wordW s) := by
  intro h0
  simp only [wordW, ofInt_orW] at h0
  obtain ⟨h0, h7⟩ := or_hi h0
  obtain ⟨h0, h6⟩ := or_hi h0
  obtain ⟨h0, h5⟩ := or_hi h0
  obtain ⟨h0, h4⟩ := or_hi h0
  obtain ⟨h0, h3⟩ := or_hi h0
  obtain ⟨h0, h2⟩ := or_hi h0
  obtain ⟨h0, h1⟩ := or_hi h0
  have hb : (bAt s 0).toNat < 256 := (bAt s 0).toNat_lt
  have q0 : (bAt s 0).toNat < 128 := by
    refine byte_of 0 (by decide) ?_
    rw [show (2 : Int) ^ (8 * 0) = 1 from rfl, Int.mul_one, wrapU (n := IntKind.wrap .u64 ((bAt s 0).toNat : Int)) (by rw [wrapU (by omega) (by omega)]; omega) (by rw [wrapU (by omega) (by omega)]; omega)]
    exact h0
  intro i hi
  have hcase : i = 0 ∨ i = 1 ∨ i = 2 ∨ i = 3 ∨ i = 4 ∨ i = 5 ∨ i = 6 ∨ i = 7 := by omega
  rcases hcase with rfl | rfl | rfl | rfl | rfl | rfl | rfl | rfl
  · exact q0
  · exact byte_of 1 (by decide) h1
  · exact byte_of 2 (by decide) h2
  · exact byte_of 3 (by decide) h3
  · exact byte_of 4 (by decide) h4
  · exact byte_of 5 (by decide) h5
  · exact byte_of 6 (by decide) h6
  · exact byte_of 7 (by decide) h7
theorem word_ret {T : Tab} (h : Fn T F.unicode_utf8_word_string unicode_utf8_word_string.fn) (s : Str) (hl : 8 ≤ s.length) : Ret T F.unicode_utf8_word_string [.val (.str s)] (one (.int .u64 (wordW s))) := by
  refine Ret.mk h rfl ?_
  repeat' (first | refine zA ?_ | refine zB ?_ | (refine zC ?_ ?_ <;> intro hc; all_goals first | (cases hc; done) | ((try simp only [hc]); (try simp only [bm] at hc))) | refine zE ?_ | refine zN ?_ | fail)
  exact ⟨.inr rfl, rfl, rfl⟩
theorem utfF_more : ∀ (f : Nat) (s : Str), s.length ≤ f → utfF (f + 1) s = utfF f s
  | 0, s, h => by
    have : s = [] := List.eq_nil_of_length_eq_zero (by omega)
    subst this; rfl
  | f + 1, s, h => by
    show (s.isEmpty || (!(wd s == 0) && utfF (f + 1) (s.drop (wd s)))) = (s.isEmpty || (!(wd s == 0) && utfF f (s.drop (wd s))))
    by_cases hw : wd s = 0
    · simp [hw]
    · rw [utfF_more f (s.drop (wd s)) (by simp; omega)]
theorem utf_of : ∀ (f : Nat) (s : Str), s.length ≤ f → utfF f s = utf s := by
  intro f
  induction f with
  | zero =>
    intro s h
    have : s = [] := List.eq_nil_of_length_eq_zero (by omega)
    subst this; rfl
  | succ f ih =>
    intro s h
    by_cases he : s.length = f + 1
    · rw [utf, he]
    · rw [utfF_more f s (by omega), ih s (by omega)]
theorem utf_nil : utf [] = true := rfl
theorem utf_cons {s : Str} (h : s ≠ []) : utf s = (!(wd s == 0) && utf (s.drop (wd s))) := by
  cases s with
  | nil => exact absurd rfl h
  | cons c r =>
    rw [utf, List.length_cons, utfF]
    simp only [List.isEmpty_cons, Bool.false_or]
    by_cases hw : wd (c :: r) = 0
    · simp [hw]
    · rw [utf_of _ _ (by simp; omega)]
theorem utf_one {s : Str} (h : 0 < s.length) (hc : (bAt s 0).toNat < 128) : utf (s.drop 1) = utf s := by
  cases s with
  | nil => simp at h
  | cons c r =>
    have hw : wd (c :: r) = 1 := by
      simp only [bAt, List.getD_cons_zero] at hc
      simp only [wd]
      rw [if_pos (by omega)]
    have e := utf_cons (s := c :: r) (by simp)
    rw [hw] at e
    rw [e]; simp
theorem utf_asc : ∀ (k : Nat) (s : Str), k ≤ s.length → (∀ i, i < k → (bAt s i).toNat < 128) → utf (s.drop k) = utf s
  | 0, s, _, _ => by simp
  | k + 1, s, hk, h => by
    rw [← utf_one (s := s) (by omega) (h 0 (by omega)), ← utf_asc k (s.drop 1) (by simp; omega) (fun i hi => by rw [bAt_drop]; exact h (1 + i) (by omega)), List.drop_drop, Nat.add_comm]
end Hm

/- What begins an encoding. Conditions: see each theorem. -/
namespace Hm
open Go (IntKind)
set_option maxHeartbeats 4000000
set_option maxRecDepth 4000
theorem W1.slcD {T : Tab} {st : St} {K : St → Prop} {dst : Option Nat} {g : Option (Nat × Bool)} {k : Nat} {x : Opd} {lo : Option Opd} {s : Str} {l : Nat} (hg : wanted st g = some true) (hx : st.opd x = .av (.str s)) (hl : st.bnd 0 lo = some l) (hc : l ≤ s.length)
    (hk : K (putD dst (.av (.str (s.drop l))) st)) : W1 T ⟨dst, .slc true k x lo none, g⟩ st K :=
  W1.slcS hg hx hl rfl ⟨hc, Nat.le_refl _⟩ (by rw [List.take_length]; exact hk)
theorem W1.slcN (n : Nat) {T : Tab} {st : St} {K : St → Prop} {dst : Option Nat} {g : Option (Nat × Bool)} {k : Nat} {x : Opd} {s : Str} (hg : wanted st g = some true) (hx : st.opd x = .av (.str s)) (hc : n ≤ s.length)
    (hk : K (putD dst (.av (.str (s.drop n))) st)) : W1 T ⟨dst, .slc true k x (some (.v (.int .i64 (n : Int)))) none, g⟩ st K := by
  refine W1.slcD hg hx (l := n) ?_ hc hk
  show idx (.int .i64 (n : Int)) = some n
  simp only [idx, if_pos (Int.natCast_nonneg n), Int.toNat_natCast]
theorem W1.tabA {T : Tab} {st : St} {K : St → Prop} {dst : Option Nat} {g : Option (Nat × Bool)} {n k : Nat} {x i : Opd} {ik : IntKind} {c : Int} {cs r : List AV} (hg : wanted st g = some true) (hi : st.opd i = .av (.int ik c)) (hx : st.opd x = .av (.vptr cs))
    (hr : cs.drop (c.toNat * k) = r) (h0 : 0 ≤ c) (hn : c.toNat < n) (hl : c.toNat * k ≤ cs.length) (hk : K (putD dst (.av (.vptr r)) st)) : W1 T ⟨dst, .iadrA n k x i, g⟩ st K := by
  refine W1.go hg (WS.op (v := .av (.vptr r)) (st' := st) rfl ?_ hk)
  simp only [stepOp, hi, idx, if_pos h0, if_neg (Nat.not_le.2 hn), hx, if_pos hl, hr]
theorem W1.load1 {T : Tab} {st : St} {K : St → Prop} {dst : Option Nat} {g : Option (Nat × Bool)} {a : Opd} {v : AV} {rest : List AV} (hg : wanted st g = some true) (hx : st.opd a = .av (.vptr (v :: rest))) (hk : K (putD dst (.av v) st)) : W1 T ⟨dst, .load 1 false a, g⟩ st K := by
  refine W1.go hg (WS.op (v := .av v) (st' := st) rfl ?_ hk)
  simp only [stepOp, hx, List.length_cons, if_pos (show 1 ≤ rest.length + 1 by omega)]
  rfl
def firB (n : Nat) : Bool := decide (n < 128) || ((firZ[n]? == some 2 && decide (194 ≤ n) && decide (n ≤ 223)) || ((firZ[n]? == some 19 && n == 224) || ((firZ[n]? == some 3 && decide (225 ≤ n) && decide (n ≤ 239) && n != 237) || ((firZ[n]? == some 35 && n == 237) ||
  ((firZ[n]? == some 52 && n == 240) || ((firZ[n]? == some 4 && decide (241 ≤ n) && decide (n ≤ 243)) || ((firZ[n]? == some 68 && n == 244) || (firZ[n]? == some 241 && (decide (n < 194) || decide (244 < n))))))))))
theorem firB_all : ((List.range 256).all firB) = true := by decide +kernel
theorem fir_cases (n : Nat) (hn : n < 256) (h1 : 128 ≤ n) : (firZ[n]? = some 2 ∧ 194 ≤ n ∧ n ≤ 223) ∨ (firZ[n]? = some 19 ∧ n = 224) ∨ (firZ[n]? = some 3 ∧ 225 ≤ n ∧ n ≤ 239 ∧ n ≠ 237) ∨ (firZ[n]? = some 35 ∧ n = 237) ∨
    (firZ[n]? = some 52 ∧ n = 240) ∨ (firZ[n]? = some 4 ∧ 241 ≤ n ∧ n ≤ 243) ∨ (firZ[n]? = some 68 ∧ n = 244) ∨ (firZ[n]? = some 241 ∧ (n < 194 ∨ 244 < n)) := by
  have h := List.all_eq_true.1 firB_all n (List.mem_range.2 hn)
  simp only [firB, Bool.or_eq_true, Bool.and_eq_true, decide_eq_true_eq, beq_iff_eq, bne_iff_ne, ne_eq, and_assoc] at h
  rcases h with h | h
  · omega
  · exact h
theorem fir_drop {n : Nat} {x : Int} (h : firZ[n]? = some x) : ∃ rest, (zavs firZ).drop n = .int .u8 x :: rest := by
  have hz : (zavs firZ)[n]? = some (.int .u8 x) := by simp [zavs, h]
  obtain ⟨h1, h2⟩ := List.getElem?_eq_some_iff.1 hz
  exact ⟨_, by rw [List.drop_eq_getElem_cons h1, h2]⟩
theorem fir_len : (zavs firZ).length = 256 := by decide +kernel
theorem bAt_succ (c : UInt8) (r : Str) (i : Nat) : bAt (c :: r) (i + 1) = bAt r i := by simp [bAt, List.getD]
theorem tr1 (r : Str) (lo hi : Int) (h1 : 128 ≤ lo) (h2 : hi ≤ 191) : (tr r 1 lo hi = true) ↔ (1 ≤ r.length ∧ lo ≤ (bAt r 0).toNat ∧ ((bAt r 0).toNat : Int) ≤ hi) := by
  cases r with
  | nil => simp [tr]
  | cons d r =>
    have e : bAt (d :: r) 0 = d := rfl
    simp only [tr, cont, e, List.length_cons, List.take_succ_cons, List.take_zero, List.all_cons, List.all_nil, Bool.and_true, Bool.and_eq_true, decide_eq_true_eq, ge_iff_le]
    omega
theorem tr2 (r : Str) (lo hi : Int) (h1 : 128 ≤ lo) (h2 : hi ≤ 191) : (tr r 2 lo hi = true) ↔ (2 ≤ r.length ∧ (lo ≤ (bAt r 0).toNat ∧ ((bAt r 0).toNat : Int) ≤ hi) ∧ (128 ≤ (bAt r 1).toNat ∧ (bAt r 1).toNat ≤ 191)) := by
  match r with
  | [] => simp [tr]
  | [d] => simp [tr]
  | d :: e :: r =>
    have e0 : bAt (d :: e :: r) 0 = d := rfl
    have e1 : bAt (d :: e :: r) 1 = e := rfl
    simp only [tr, cont, e0, e1, List.length_cons, List.take_succ_cons, List.take_zero, List.all_cons, List.all_nil, Bool.and_true, Bool.and_eq_true, decide_eq_true_eq, ge_iff_le]
    omega
theorem tr3 (r : Str) (lo hi : Int) (h1 : 128 ≤ lo) (h2 : hi ≤ 191) : (tr r 3 lo hi = true) ↔ (3 ≤ r.length ∧ (lo ≤ (bAt r 0).toNat ∧ ((bAt r 0).toNat : Int) ≤ hi) ∧ (128 ≤ (bAt r 1).toNat ∧ (bAt r 1).toNat ≤ 191) ∧ (128 ≤ (bAt r 2).toNat ∧ (bAt r 2).toNat ≤ 191)) := by
  match r with
  | [] => simp [tr]
  | [d] => simp [tr]
  | [d, e] => simp [tr]
  | d :: e :: f :: r =>
    have e0 : bAt (d :: e :: f :: r) 0 = d := rfl
    have e1 : bAt (d :: e :: f :: r) 1 = e := rfl
    have e2 : bAt (d :: e :: f :: r) 2 = f := rfl
    simp only [tr, cont, e0, e1, e2, List.length_cons, List.take_succ_cons, List.take_zero, List.all_cons, List.all_nil, Bool.and_true, Bool.and_eq_true, decide_eq_true_eq, ge_iff_le]
    omega
/-- The length of what begins with c, if at most the bytes behind it are as they must be. -/
theorem wd_two {t : Str} (h1 : 194 ≤ (bAt t 0).toNat) (h2 : (bAt t 0).toNat ≤ 223) : wd t = if 2 ≤ t.length ∧ 128 ≤ (bAt t 1).toNat ∧ (bAt t 1).toNat ≤ 191 then 2 else 0 := by
  cases t with
  | nil => simp [bAt] at h1
  | cons c r =>
    have e0 : bAt (c :: r) 0 = c := rfl
    rw [e0] at h1 h2
    rw [bAt_succ]
    simp only [wd, tr1 r 128 191 (by omega) (by omega), List.length_cons]
    rw [if_neg (by omega)]
    by_cases h : 1 ≤ r.length ∧ 128 ≤ (bAt r 0).toNat ∧ (bAt r 0).toNat ≤ 191
    · rw [if_pos (by omega), if_pos (by omega)]
    · rw [if_neg (by omega), if_neg (by omega), if_neg (by omega), if_neg (by omega)]
theorem wd_three {t : Str} (lo hi : Nat) (h1 : 224 ≤ (bAt t 0).toNat) (h2 : (bAt t 0).toNat ≤ 239) (hlo : lo = if (bAt t 0).toNat = 224 then 160 else 128) (hhi : hi = if (bAt t 0).toNat = 237 then 159 else 191) :
    wd t = if 3 ≤ t.length ∧ (lo ≤ (bAt t 1).toNat ∧ (bAt t 1).toNat ≤ hi) ∧ 128 ≤ (bAt t 2).toNat ∧ (bAt t 2).toNat ≤ 191 then 3 else 0 := by
  cases t with
  | nil => simp [bAt] at h1
  | cons c r =>
    have e0 : bAt (c :: r) 0 = c := rfl
    rw [e0] at h1 h2 hlo hhi
    rw [bAt_succ, bAt_succ]
    have el : (if (c.toNat : Int) = 224 then (160 : Int) else 128) = (lo : Int) := by rw [hlo]; split <;> split <;> omega
    have eh : (if (c.toNat : Int) = 237 then (159 : Int) else 191) = (hi : Int) := by rw [hhi]; split <;> split <;> omega
    have l1 : 128 ≤ lo := by rw [hlo]; split <;> omega
    have l2 : hi ≤ 191 := by rw [hhi]; split <;> omega
    simp only [wd, el, eh, tr2 r lo hi (by omega) (by omega), List.length_cons]
    rw [if_neg (by omega), if_neg (by omega)]
    by_cases h : 2 ≤ r.length ∧ (lo ≤ (bAt r 0).toNat ∧ (bAt r 0).toNat ≤ hi) ∧ 128 ≤ (bAt r 1).toNat ∧ (bAt r 1).toNat ≤ 191
    · rw [if_pos (by omega), if_pos (by omega)]
    · rw [if_neg (by omega), if_neg (by omega), if_neg (by omega)]
theorem wd_four {t : Str} (lo hi : Nat) (h1 : 240 ≤ (bAt t 0).toNat) (h2 : (bAt t 0).toNat ≤ 244) (hlo : lo = if (bAt t 0).toNat = 240 then 144 else 128) (hhi : hi = if (bAt t 0).toNat = 244 then 143 else 191) :
    wd t = if 4 ≤ t.length ∧ (lo ≤ (bAt t 1).toNat ∧ (bAt t 1).toNat ≤ hi) ∧ (128 ≤ (bAt t 2).toNat ∧ (bAt t 2).toNat ≤ 191) ∧ 128 ≤ (bAt t 3).toNat ∧ (bAt t 3).toNat ≤ 191 then 4 else 0 := by
  cases t with
  | nil => simp [bAt] at h1
  | cons c r =>
    have e0 : bAt (c :: r) 0 = c := rfl
    rw [e0] at h1 h2 hlo hhi
    rw [bAt_succ, bAt_succ, bAt_succ]
    have el : (if (c.toNat : Int) = 240 then (144 : Int) else 128) = (lo : Int) := by rw [hlo]; split <;> split <;> omega
    have eh : (if (c.toNat : Int) = 244 then (143 : Int) else 191) = (hi : Int) := by rw [hhi]; split <;> split <;> omega
    have l1 : 128 ≤ lo := by rw [hlo]; split <;> omega
    have l2 : hi ≤ 191 := by rw [hhi]; split <;> omega
    simp only [wd, el, eh, tr3 r lo hi (by omega) (by omega), List.length_cons]
    rw [if_neg (by omega), if_neg (by omega), if_neg (by omega)]
    by_cases h : 3 ≤ r.length ∧ (lo ≤ (bAt r 0).toNat ∧ (bAt r 0).toNat ≤ hi) ∧ (128 ≤ (bAt r 1).toNat ∧ (bAt r 1).toNat ≤ 191) ∧ 128 ≤ (bAt r 2).toNat ∧ (bAt r 2).toNat ≤ 191
    · rw [if_pos (by omega), if_pos (by omega)]
    · rw [if_neg (by omega), if_neg (by omega)]
theorem wd_none {t : Str} (h1 : 128 ≤ (bAt t 0).toNat) (h2 : (bAt t 0).toNat < 194 ∨ 244 < (bAt t 0).toNat) : wd t = 0 := by
  cases t with
  | nil => rfl
  | cons c r =>
    have e0 : bAt (c :: r) 0 = c := rfl
    rw [e0] at h1 h2
    simp only [wd]
    rw [if_neg (by omega), if_neg (by omega), if_neg (by omega), if_neg (by omega)]
end Hm

/- Which texts are UTF-8, as Go's library has it. Conditions: see each theorem. -/
namespace Hm
open Go (IntKind)
set_option maxHeartbeats 4000000
set_option maxRecDepth 4000
theorem and_zero {w : Int} (h : IntKind.wrap .u64 ((BitVec.ofInt 64 w &&& BitVec.ofInt 64 9259542123273814144).toNat : Int) = 0) : BitVec.ofInt 64 w &&& H64 = 0#64 := by
  rw [wrapU (by omega) (by have := (BitVec.ofInt 64 w &&& BitVec.ofInt 64 9259542123273814144).isLt; omega)] at h
  apply BitVec.eq_of_toNat_eq
  show (BitVec.ofInt 64 w &&& BitVec.ofInt 64 9259542123273814144).toNat = 0
  omega
abbrev hiZ (w : Int) : Prop := IntKind.wrap .u64 ((BitVec.ofInt 64 w &&& BitVec.ofInt 64 9259542123273814144).toNat : Int) = 0
theorem hi1 {t : Str} (h : hiZ (wordW t)) (hl : 8 ≤ t.length) : utf (t.drop 8) = utf t := utf_asc 8 t hl (P8_word t (and_zero h))
theorem hi2' {t : Str} (h : BitVec.ofInt 64 (orW (wordW t) (wordW (t.drop 8))) &&& H64 = 0#64) (hl : 16 ≤ t.length) : utf (t.drop 16) = utf t := by
  rw [ofInt_orW] at h
  obtain ⟨a, b⟩ := or_hi h
  have e1 := utf_asc 8 t (by omega) (P8_word t a)
  have e2 := utf_asc 8 (t.drop 8) (by simp; omega) (P8_word _ b)
  rw [List.drop_drop] at e2
  rw [show (16 : Nat) = 8 + 8 from rfl, e2, e1]
theorem hi2 {t : Str} (h : hiZ (orW (wordW t) (wordW (t.drop 8)))) (hl : 16 ≤ t.length) : utf (t.drop 16) = utf t := hi2' (and_zero h) hl
theorem hi4 {t : Str} (h : hiZ (orW (orW (wordW t) (wordW (t.drop 8))) (orW (wordW (t.drop 16)) (wordW (t.drop 24))))) (hl : 32 ≤ t.length) : utf (t.drop 32) = utf t := by
  have h := and_zero h
  rw [ofInt_orW] at h
  obtain ⟨a, b⟩ := or_hi h
  have e1 := hi2' a (by omega)
  have e2 := hi2' (t := t.drop 16) (by rw [List.drop_drop]; exact b) (by simp; omega)
  rw [List.drop_drop] at e2
  rw [show (32 : Nat) = 16 + 16 from rfl, e2, e1]
/-- What the loop of ValidString owes at a text. -/
def VStep (T : Tab) (s t : Str) : Prop := W T unicode_utf8_ValidString.l1 (St.keep [0] (St.put ⟨lstE [(0, .av (.str s))], lstB [(0, none)]⟩ 0 (.av (.str t))))
  (Qit [0] (fun st' => ∃ b' : Str, (utf b' = utf s ∧ b'.length ≤ 1073741824) ∧ b'.length < t.length ∧ st' = St.keep [0] (St.put ⟨lstE [(0, .av (.str s))], lstB [(0, none)]⟩ 0 (.av (.str b'))))
    (Qblk 0 (Qseq T (.seq (.reg unicode_utf8_ValidString.r28 [2]) .ret) (Qend unicode_utf8_ValidString.fn [.val (.str s)] (one (.bool (utf s)))))))
end Hm

/- Which texts are UTF-8: the class of ASCII. Conditions: see each theorem. -/
namespace Hm
open Go (IntKind)
set_option maxHeartbeats 40000000
set_option maxRecDepth 4000
theorem vs_nil {T : Tab} {s t : Str} (hp1 : utf t = utf s) (hp2 : t.length ≤ 1073741824) (hne : t = []) : VStep T s t := by
  unfold VStep
  subst hne
  have hz : ([] : Str).length = 0 := rfl
  repeat' (first | refine WO.cons ?_ | refine WB.cons ?_ | refine WP.one ?_ | ((first | apply W1.add64 | apply W1.sub64); (iterate 3 exact rfl); omega; omega) | (apply W1.iadr; (iterate 3 exact rfl); omega; first | assumption | ((first | apply V.get_row | apply get_srow | apply get_ty | apply get_ar | apply get_ob | apply get_sprow | apply get_brow); assumption)) | (apply W1.idxS; (iterate 3 exact rfl); omega; omega) | (apply W1.slcS; (iterate 4 exact rfl); omega) | (apply W1.pickT; exact rfl; exact rfl; (first | with_reducible rfl | assumption | (simp only [bn]; first | omega | assumption | decide)); exact rfl) | (apply W1.pickF; exact rfl; exact rfl; (first | with_reducible rfl | assumption | (simp only [bn]; first | omega | assumption | decide)); exact rfl) | (apply W1.op; (iterate 3 exact rfl)) | (apply W1.no; exact rfl) | ((first | apply W1.knowT | apply W1.knowFn | apply WQ.knowT | apply WQ.knowFn | apply W.condT); exact rfl; (first | with_reducible rfl | assumption | (simp only [bn]; first | omega | assumption | decide))) | ((first | apply W1.knowTn | apply W1.knowF | apply WQ.knowTn | apply WQ.knowF | apply W.condF); exact rfl; (first | with_reducible rfl | assumption | (simp only [bn]; first | omega | assumption | decide))) | (apply WQ.go; exact rfl; exact rfl) | (apply WQ.no; exact rfl) | ((first | apply W1.bothT | apply W1.bothF | apply WQ.bothT | apply WQ.bothF | apply W.cond); exact rfl; all_goals intro hc; all_goals first | (cases hc; done) | ((try simp only [hc]); (try simp only [bm] at hc))) | refine WO.nil ?_ | refine WB.nil ?_ | refine WP.bag rfl ?_ | refine WP.nil ?_ | refine W.seq ?_ | refine W.reg ?_ | refine W.dreg ?_ | refine W.block ?_ | refine W.ret ?_ | refine W.skip ?_ | refine W.exit ?_ | (simp only [srow_len, List.length_map, Qit, Int.toNat_natCast, entry, Opd.eat, cellsOf, TV.ofCells, allAv, Qseq, Qblk, List.map_cons, List.map_nil, putD, kp, Nat.reduceEqDiff, ↓reduceIte, beq_self_eq_true, Nat.reduceBEq]))
  all_goals first | exact Qend.boo rfl rfl (by rw [← hp1]; rfl) | (exfalso; omega)
theorem vs_inner {T : Tab} {u : Str} (hw : Fn T F.unicode_utf8_word_string unicode_utf8_word_string.fn) (hu : u.length ≤ 1073741824) {N : St → Prop} {Q : Ex → St → Prop}
    (hN : 32 < u.length → utf (u.drop 32) = utf u → N ⟨lstE [(0, .av (.str (u.drop 32)))], lstB [(0, none)]⟩) (hQ : ∀ st, getE st.env 0 = .av (.str u) → getB st.boxes 0 = none → Q (.exit 2) st) :
    W T unicode_utf8_ValidString.l2 ⟨lstE [(0, .av (.str u))], lstB [(0, none)]⟩ (Qit [0] N Q) := by
  have g1 : (u.drop 8).length = u.length - 8 := List.length_drop
  have g2 : (u.drop 16).length = u.length - 16 := List.length_drop
  have g3 : (u.drop 24).length = u.length - 24 := List.length_drop
  have g4 : (u.drop 32).length = u.length - 32 := List.length_drop
  repeat' (first | refine WO.cons ?_ | refine WB.cons ?_ | refine WP.one ?_ | (((first | apply W1.slcN 8 | apply W1.slcN 16 | apply W1.slcN 24 | apply W1.slcN 32); exact rfl; exact rfl; omega)) | (first | (apply WQ.call (hm := hw.modes); (iterate 4 exact rfl)) | (apply W1.callV (hm := hw.modes); (iterate 5 exact rfl); exact (word_ret hw _ (by omega)); exact rfl)) | ((first | apply W1.add64 | apply W1.sub64); (iterate 3 exact rfl); omega; omega) | (apply W1.iadr; (iterate 3 exact rfl); omega; first | assumption | ((first | apply V.get_row | apply get_srow | apply get_ty | apply get_ar | apply get_ob | apply get_sprow | apply get_brow); assumption)) | (apply W1.idxS; (iterate 3 exact rfl); omega; omega) | (apply W1.slcS; (iterate 4 exact rfl); omega) | (apply W1.pickT; exact rfl; exact rfl; (first | with_reducible rfl | assumption | (simp only [bn]; first | omega | assumption | decide)); exact rfl) | (apply W1.pickF; exact rfl; exact rfl; (first | with_reducible rfl | assumption | (simp only [bn]; first | omega | assumption | decide)); exact rfl) | (apply W1.op; (iterate 3 exact rfl)) | (apply W1.no; exact rfl) | ((first | apply W1.knowT | apply W1.knowFn | apply WQ.knowT | apply WQ.knowFn | apply W.condT); exact rfl; (first | with_reducible rfl | assumption | (simp only [bn]; first | omega | assumption | decide))) | ((first | apply W1.knowTn | apply W1.knowF | apply WQ.knowTn | apply WQ.knowF | apply W.condF); exact rfl; (first | with_reducible rfl | assumption | (simp only [bn]; first | omega | assumption | decide))) | (apply WQ.go; exact rfl; exact rfl) | (apply WQ.no; exact rfl) | ((first | apply W1.bothT | apply W1.bothF | apply WQ.bothT | apply WQ.bothF | apply W.cond); exact rfl; all_goals intro hc; all_goals first | (cases hc; done) | ((try simp only [hc]); (try simp only [bm] at hc))) | refine WO.nil ?_ | refine WB.nil ?_ | refine WP.bag rfl ?_ | refine WP.nil ?_ | refine W.seq ?_ | refine W.reg ?_ | refine W.dreg ?_ | refine W.block ?_ | refine W.ret ?_ | refine W.skip ?_ | refine W.exit ?_ | (simp only [srow_len, List.length_map, Qit, Int.toNat_natCast, entry, Opd.eat, cellsOf, TV.ofCells, allAv, Qseq, Qblk, List.map_cons, List.map_nil, putD, kp, Nat.reduceEqDiff, ↓reduceIte, beq_self_eq_true, Nat.reduceBEq]))
  all_goals first
    | exact hQ _ rfl rfl
    | exact hN (by omega) (hi4 (t := u) (by assumption) (by omega))
    | trace_state
theorem keep0 {st' : St} {u : Str} {X : TV} (h0 : getE st'.env 0 = .av (.str u)) (h1 : getB st'.boxes 0 = none) : st'.keep [0] = St.keep [0] (St.put ⟨lstE [(0, X)], lstB [(0, none)]⟩ 0 (.av (.str u))) := by
  simp only [keep_eq, List.map_cons, List.map_nil, h0, h1]; rfl
theorem vs_asc {T : Tab} {s t : Str} (hp1 : utf t = utf s) (hp2 : t.length ≤ 1073741824) (hw : Fn T F.unicode_utf8_word_string unicode_utf8_word_string.fn) (hne : t ≠ []) (hasc : (bAt t 0).toNat < 128) : VStep T s t := by
  unfold VStep
  have hlen : 0 < t.length := List.length_pos_iff.2 hne
  have hc256 : (bAt t 0).toNat < 256 := (bAt t 0).toNat_lt
  have z0 : Int.toNat 0 = 0 := rfl
  have z1 : Int.toNat 1 = 1 := rfl
  have z2 : Int.toNat 2 = 2 := rfl
  have z3 : Int.toNat 3 = 3 := rfl
  have z4 : Int.toNat 4 = 4 := rfl
  have z8 : Int.toNat 8 = 8 := rfl
  have z16 : Int.toNat 16 = 16 := rfl
  have z24 : Int.toNat 24 = 24 := rfl
  have z32 : Int.toNat 32 = 32 := rfl
  have hasc' : ((bAt t 0).toNat : Int) < 128 := by omega
  have e1 := utf_one hlen hasc
  have d1 : (t.drop 1).length = t.length - 1 := List.length_drop
  have d2 : ((t.drop 1).drop 8).length = t.length - 9 := by simp
  have d3 : (((t.drop 1).drop 8).drop 8).length = t.length - 17 := by simp
  have d4 : (((t.drop 1).drop 8).drop 16).length = t.length - 25 := by simp
  repeat' (first | refine WO.cons ?_ | refine WB.cons ?_ | refine WP.one ?_ | (((first | apply W1.slcN 8 | apply W1.slcN 1 | apply W1.slcN 16 | apply W1.slcN 24 | apply W1.slcN 32); exact rfl; exact rfl; omega)) | (first | (apply WQ.call (hm := hw.modes); (iterate 4 exact rfl)) | (apply W1.callV (hm := hw.modes); (iterate 5 exact rfl); exact (word_ret hw _ (by omega)); exact rfl)) | ((first | apply W1.add64 | apply W1.sub64); (iterate 3 exact rfl); omega; omega) | (apply W1.iadr; (iterate 3 exact rfl); omega; first | assumption | ((first | apply V.get_row | apply get_srow | apply get_ty | apply get_ar | apply get_ob | apply get_sprow | apply get_brow); assumption)) | (apply W1.idxS; (iterate 3 exact rfl); omega; omega) | (apply W1.slcS; (iterate 4 exact rfl); omega) | (apply W1.pickT; exact rfl; exact rfl; (first | with_reducible rfl | assumption | (simp only [bn]; first | omega | assumption | decide)); exact rfl) | (apply W1.pickF; exact rfl; exact rfl; (first | with_reducible rfl | assumption | (simp only [bn]; first | omega | assumption | decide)); exact rfl) | (apply W1.op; (iterate 3 exact rfl)) | (apply W1.no; exact rfl) | ((first | apply W1.knowT | apply W1.knowFn | apply WQ.knowT | apply WQ.knowFn | apply W.condT); exact rfl; (first | with_reducible rfl | assumption | (simp only [bn]; first | omega | assumption | decide))) | ((first | apply W1.knowTn | apply W1.knowF | apply WQ.knowTn | apply WQ.knowF | apply W.condF); exact rfl; (first | with_reducible rfl | assumption | (simp only [bn]; first | omega | assumption | decide))) | (apply WQ.go; exact rfl; exact rfl) | (apply WQ.no; exact rfl) | ((first | apply W1.bothT | apply W1.bothF | apply WQ.bothT | apply WQ.bothF | apply W.cond); exact rfl; all_goals intro hc; all_goals first | (cases hc; done) | ((try simp only [hc]); (try simp only [bm] at hc))) | refine WO.nil ?_ | refine WB.nil ?_ | refine WP.bag rfl ?_ | refine WP.nil ?_ | refine W.seq ?_ | refine W.reg ?_ | refine W.dreg ?_ | refine W.block ?_ | refine W.ret ?_ | refine W.skip ?_ | refine W.exit ?_ | (simp only [srow_len, List.length_map, Qit, Int.toNat_natCast, entry, Opd.eat, cellsOf, TV.ofCells, allAv, Qseq, Qblk, List.map_cons, List.map_nil, putD, kp, Nat.reduceEqDiff, ↓reduceIte, beq_self_eq_true, Nat.reduceBEq]))
  all_goals (try have e2 := (hi1 (t := t.drop 1) (by assumption) (by omega)).trans (e1.trans hp1))
  all_goals first
    | (refine ⟨_, ⟨?_, ?_⟩, ?_, rfl⟩ <;> first | exact e1.trans hp1 | exact e2 | omega)
    | (have e3 := (hi2 (t := (t.drop 1).drop 8) (by assumption) (by omega)).trans e2
       refine W.iterP (β := Str) (fun u s0 => s0.put 0 (.av (.str u))) (fun u => utf u = utf s ∧ u.length ≤ 1073741824 ∧ u.length < t.length) List.length (((t.drop 1).drop 8).drop 16) ⟨e3, by omega, by omega⟩ rfl ?_
       rintro u ⟨q1, q2, q3⟩
       refine vs_inner hw q2 (fun hl hu => ⟨u.drop 32, ⟨hu.trans q1, by rw [List.length_drop]; omega, by rw [List.length_drop]; omega⟩, by rw [List.length_drop]; omega, rfl⟩) ?_
       intro st' h0 h1
       simp only [Qblk, Qseq, ↓reduceIte]
       refine W.exit ?_
       simp only [Qblk, Qseq, Qit, ↓reduceIte, Nat.reduceEqDiff]
       exact ⟨u, ⟨q1, q2⟩, q3, keep0 (X := .av (.str s)) h0 h1⟩)
end Hm

/- Which texts are UTF-8: classes. Conditions: see each theorem. -/
namespace Hm
open Go (IntKind)
set_option maxHeartbeats 40000000
set_option maxRecDepth 4000
theorem vs_c0 {T : Tab} {s t : Str} (hp1 : utf t = utf s) (hp2 : t.length ≤ 1073741824) (hne : t ≠ []) (hasc : ¬ (bAt t 0).toNat < 128) (hf : firZ[(bAt t 0).toNat]? = some 2) (c1 : 194 ≤ (bAt t 0).toNat) (c2 : (bAt t 0).toNat ≤ 223) : VStep T s t := by
  unfold VStep
  have hlen : 0 < t.length := List.length_pos_iff.2 hne
  have hc256 : (bAt t 0).toNat < 256 := (bAt t 0).toNat_lt
  have z0 : Int.toNat 0 = 0 := rfl
  have z1 : Int.toNat 1 = 1 := rfl
  have z2 : Int.toNat 2 = 2 := rfl
  have z3 : Int.toNat 3 = 3 := rfl
  have z4 : Int.toNat 4 = 4 := rfl
  have z8 : Int.toNat 8 = 8 := rfl
  have z16 : Int.toNat 16 = 16 := rfl
  have z24 : Int.toNat 24 = 24 := rfl
  have z32 : Int.toNat 32 = 32 := rfl
  have hasc' : ¬ ((bAt t 0).toNat : Int) < 128 := by omega
  have hwt := utf_cons hne
  have d2 : (t.drop 2).length = t.length - 2 := List.length_drop
  have d3 : (t.drop 3).length = t.length - 3 := List.length_drop
  have d4 : (t.drop 4).length = t.length - 4 := List.length_drop
  obtain ⟨rest, hr⟩ := fir_drop hf
  have hr' : (zavs firZ).drop (Int.toNat ((bAt t 0).toNat : Int) * 1) = .int .u8 2 :: rest := by rw [Int.toNat_natCast, Nat.mul_one]; exact hr
  have hwd := wd_two c1 c2
  repeat' (first | refine zA ?_ | ((simp only [z0, z1, z2, z3, z4])) | ((apply W1.tabA; exact rfl; exact rfl; exact rfl; exact hr'; omega; omega; (rw [fir_len]; omega))) | ((apply W1.load1; exact rfl; exact rfl)) | ((apply W1.slcD; exact rfl; exact rfl; exact rfl; omega)) | refine zB ?_ | (refine zC ?_ ?_ <;> intro hc; all_goals first | (cases hc; done) | ((try simp only [hc]); (try simp only [bm] at hc))) | refine zE ?_ | refine zN ?_ | fail)
  all_goals first
    | (refine Qend.boo rfl rfl ?_; rw [← hp1, hwt, hwd, if_neg (by omega)]; rfl)
    | (have hk : wd t = 2 := by rw [hwd, if_pos (by omega)]
       rw [hk] at hwt
       refine ⟨_, ⟨?_, ?_⟩, ?_, rfl⟩
       · rw [← hp1, hwt]; rfl
       · omega
       · omega)
theorem vs_c1 {T : Tab} {s t : Str} (hp1 : utf t = utf s) (hp2 : t.length ≤ 1073741824) (hne : t ≠ []) (hasc : ¬ (bAt t 0).toNat < 128) (hf : firZ[(bAt t 0).toNat]? = some 19) (c1 : (bAt t 0).toNat = 224) : VStep T s t := by
  unfold VStep
  have hlen : 0 < t.length := List.length_pos_iff.2 hne
  have hc256 : (bAt t 0).toNat < 256 := (bAt t 0).toNat_lt
  have z0 : Int.toNat 0 = 0 := rfl
  have z1 : Int.toNat 1 = 1 := rfl
  have z2 : Int.toNat 2 = 2 := rfl
  have z3 : Int.toNat 3 = 3 := rfl
  have z4 : Int.toNat 4 = 4 := rfl
  have z8 : Int.toNat 8 = 8 := rfl
  have z16 : Int.toNat 16 = 16 := rfl
  have z24 : Int.toNat 24 = 24 := rfl
  have z32 : Int.toNat 32 = 32 := rfl
  have hasc' : ¬ ((bAt t 0).toNat : Int) < 128 := by omega
  have hwt := utf_cons hne
  have d2 : (t.drop 2).length = t.length - 2 := List.length_drop
  have d3 : (t.drop 3).length = t.length - 3 := List.length_drop
  have d4 : (t.drop 4).length = t.length - 4 := List.length_drop
  obtain ⟨rest, hr⟩ := fir_drop hf
  have hr' : (zavs firZ).drop (Int.toNat ((bAt t 0).toNat : Int) * 1) = .int .u8 19 :: rest := by rw [Int.toNat_natCast, Nat.mul_one]; exact hr
  have hwd := wd_three (t := t) 160 191 (by omega) (by omega) (by rw [if_pos (by omega)]) (by rw [if_neg (by omega)])
  repeat' (first | refine zA ?_ | ((simp only [z0, z1, z2, z3, z4])) | ((apply W1.tabA; exact rfl; exact rfl; exact rfl; exact hr'; omega; omega; (rw [fir_len]; omega))) | ((apply W1.load1; exact rfl; exact rfl)) | ((apply W1.slcD; exact rfl; exact rfl; exact rfl; omega)) | refine zB ?_ | (refine zC ?_ ?_ <;> intro hc; all_goals first | (cases hc; done) | ((try simp only [hc]); (try simp only [bm] at hc))) | refine zE ?_ | refine zN ?_ | fail)
  all_goals first
    | (refine Qend.boo rfl rfl ?_; rw [← hp1, hwt, hwd, if_neg (by omega)]; rfl)
    | (have hk : wd t = 3 := by rw [hwd, if_pos (by omega)]
       rw [hk] at hwt
       refine ⟨_, ⟨?_, ?_⟩, ?_, rfl⟩
       · rw [← hp1, hwt]; rfl
       · omega
       · omega)
theorem vs_c2 {T : Tab} {s t : Str} (hp1 : utf t = utf s) (hp2 : t.length ≤ 1073741824) (hne : t ≠ []) (hasc : ¬ (bAt t 0).toNat < 128) (hf : firZ[(bAt t 0).toNat]? = some 3) (c1 : 225 ≤ (bAt t 0).toNat) (c2 : (bAt t 0).toNat ≤ 239) (c3 : (bAt t 0).toNat ≠ 237) : VStep T s t := by
  unfold VStep
  have hlen : 0 < t.length := List.length_pos_iff.2 hne
  have hc256 : (bAt t 0).toNat < 256 := (bAt t 0).toNat_lt
  have z0 : Int.toNat 0 = 0 := rfl
  have z1 : Int.toNat 1 = 1 := rfl
  have z2 : Int.toNat 2 = 2 := rfl
  have z3 : Int.toNat 3 = 3 := rfl
  have z4 : Int.toNat 4 = 4 := rfl
  have z8 : Int.toNat 8 = 8 := rfl
  have z16 : Int.toNat 16 = 16 := rfl
  have z24 : Int.toNat 24 = 24 := rfl
  have z32 : Int.toNat 32 = 32 := rfl
  have hasc' : ¬ ((bAt t 0).toNat : Int) < 128 := by omega
  have hwt := utf_cons hne
  have d2 : (t.drop 2).length = t.length - 2 := List.length_drop
  have d3 : (t.drop 3).length = t.length - 3 := List.length_drop
  have d4 : (t.drop 4).length = t.length - 4 := List.length_drop
  obtain ⟨rest, hr⟩ := fir_drop hf
  have hr' : (zavs firZ).drop (Int.toNat ((bAt t 0).toNat : Int) * 1) = .int .u8 3 :: rest := by rw [Int.toNat_natCast, Nat.mul_one]; exact hr
  have hwd := wd_three (t := t) 128 191 (by omega) (by omega) (by rw [if_neg (by omega)]) (by rw [if_neg (by omega)])
  repeat' (first | refine zA ?_ | ((simp only [z0, z1, z2, z3, z4])) | ((apply W1.tabA; exact rfl; exact rfl; exact rfl; exact hr'; omega; omega; (rw [fir_len]; omega))) | ((apply W1.load1; exact rfl; exact rfl)) | ((apply W1.slcD; exact rfl; exact rfl; exact rfl; omega)) | refine zB ?_ | (refine zC ?_ ?_ <;> intro hc; all_goals first | (cases hc; done) | ((try simp only [hc]); (try simp only [bm] at hc))) | refine zE ?_ | refine zN ?_ | fail)
  all_goals first
    | (refine Qend.boo rfl rfl ?_; rw [← hp1, hwt, hwd, if_neg (by omega)]; rfl)
    | (have hk : wd t = 3 := by rw [hwd, if_pos (by omega)]
       rw [hk] at hwt
       refine ⟨_, ⟨?_, ?_⟩, ?_, rfl⟩
       · rw [← hp1, hwt]; rfl
       · omega
       · omega)
end Hm

/- Which texts are UTF-8: classes. Conditions: see each theorem. -/
namespace Hm
open Go (IntKind)
set_option maxHeartbeats 40000000
set_option maxRecDepth 4000
theorem vs_c3 {T : Tab} {s t : Str} (hp1 : utf t = utf s) (hp2 : t.length ≤ 1073741824) (hne : t ≠ []) (hasc : ¬ (bAt t 0).toNat < 128) (hf : firZ[(bAt t 0).toNat]? = some 35) (c1 : (bAt t 0).toNat = 237) : VStep T s t := by
  unfold VStep
  have hlen : 0 < t.length := List.length_pos_iff.2 hne
  have hc256 : (bAt t 0).toNat < 256 := (bAt t 0).toNat_lt
  have z0 : Int.toNat 0 = 0 := rfl
  have z1 : Int.toNat 1 = 1 := rfl
  have z2 : Int.toNat 2 = 2 := rfl
  have z3 : Int.toNat 3 = 3 := rfl
  have z4 : Int.toNat 4 = 4 := rfl
  have z8 : Int.toNat 8 = 8 := rfl
  have z16 : Int.toNat 16 = 16 := rfl
  have z24 : Int.toNat 24 = 24 := rfl
  have z32 : Int.toNat 32 = 32 := rfl
  have hasc' : ¬ ((bAt t 0).toNat : Int) < 128 := by omega
  have hwt := utf_cons hne
  have d2 : (t.drop 2).length = t.length - 2 := List.length_drop
  have d3 : (t.drop 3).length = t.length - 3 := List.length_drop
  have d4 : (t.drop 4).length = t.length - 4 := List.length_drop
  obtain ⟨rest, hr⟩ := fir_drop hf
  have hr' : (zavs firZ).drop (Int.toNat ((bAt t 0).toNat : Int) * 1) = .int .u8 35 :: rest := by rw [Int.toNat_natCast, Nat.mul_one]; exact hr
  have hwd := wd_three (t := t) 128 159 (by omega) (by omega) (by rw [if_neg (by omega)]) (by rw [if_pos (by omega)])
  repeat' (first | refine zA ?_ | ((simp only [z0, z1, z2, z3, z4])) | ((apply W1.tabA; exact rfl; exact rfl; exact rfl; exact hr'; omega; omega; (rw [fir_len]; omega))) | ((apply W1.load1; exact rfl; exact rfl)) | ((apply W1.slcD; exact rfl; exact rfl; exact rfl; omega)) | refine zB ?_ | (refine zC ?_ ?_ <;> intro hc; all_goals first | (cases hc; done) | ((try simp only [hc]); (try simp only [bm] at hc))) | refine zE ?_ | refine zN ?_ | fail)
  all_goals first
    | (refine Qend.boo rfl rfl ?_; rw [← hp1, hwt, hwd, if_neg (by omega)]; rfl)
    | (have hk : wd t = 3 := by rw [hwd, if_pos (by omega)]
       rw [hk] at hwt
       refine ⟨_, ⟨?_, ?_⟩, ?_, rfl⟩
       · rw [← hp1, hwt]; rfl
       · omega
       · omega)
theorem vs_c4 {T : Tab} {s t : Str} (hp1 : utf t = utf s) (hp2 : t.length ≤ 1073741824) (hne : t ≠ []) (hasc : ¬ (bAt t 0).toNat < 128) (hf : firZ[(bAt t 0).toNat]? = some 52) (c1 : (bAt t 0).toNat = 240) : VStep T s t := by
  unfold VStep
  have hlen : 0 < t.length := List.length_pos_iff.2 hne
  have hc256 : (bAt t 0).toNat < 256 := (bAt t 0).toNat_lt
  have z0 : Int.toNat 0 = 0 := rfl
  have z1 : Int.toNat 1 = 1 := rfl
  have z2 : Int.toNat 2 = 2 := rfl
  have z3 : Int.toNat 3 = 3 := rfl
  have z4 : Int.toNat 4 = 4 := rfl
  have z8 : Int.toNat 8 = 8 := rfl
  have z16 : Int.toNat 16 = 16 := rfl
  have z24 : Int.toNat 24 = 24 := rfl
  have z32 : Int.toNat 32 = 32 := rfl
  have hasc' : ¬ ((bAt t 0).toNat : Int) < 128 := by omega
  have hwt := utf_cons hne
  have d2 : (t.drop 2).length = t.length - 2 := List.length_drop
  have d3 : (t.drop 3).length = t.length - 3 := List.length_drop
  have d4 : (t.drop 4).length = t.length - 4 := List.length_drop
  obtain ⟨rest, hr⟩ := fir_drop hf
  have hr' : (zavs firZ).drop (Int.toNat ((bAt t 0).toNat : Int) * 1) = .int .u8 52 :: rest := by rw [Int.toNat_natCast, Nat.mul_one]; exact hr
  have hwd := wd_four (t := t) 144 191 (by omega) (by omega) (by rw [if_pos (by omega)]) (by rw [if_neg (by omega)])
  repeat' (first | refine zA ?_ | ((simp only [z0, z1, z2, z3, z4])) | ((apply W1.tabA; exact rfl; exact rfl; exact rfl; exact hr'; omega; omega; (rw [fir_len]; omega))) | ((apply W1.load1; exact rfl; exact rfl)) | ((apply W1.slcD; exact rfl; exact rfl; exact rfl; omega)) | refine zB ?_ | (refine zC ?_ ?_ <;> intro hc; all_goals first | (cases hc; done) | ((try simp only [hc]); (try simp only [bm] at hc))) | refine zE ?_ | refine zN ?_ | fail)
  all_goals first
    | (refine Qend.boo rfl rfl ?_; rw [← hp1, hwt, hwd, if_neg (by omega)]; rfl)
    | (have hk : wd t = 4 := by rw [hwd, if_pos (by omega)]
       rw [hk] at hwt
       refine ⟨_, ⟨?_, ?_⟩, ?_, rfl⟩
       · rw [← hp1, hwt]; rfl
       · omega
       · omega)
end Hm

/- Which texts are UTF-8: classes. Conditions: see each theorem. -/
namespace Hm
open Go (IntKind)
set_option maxHeartbeats 40000000
set_option maxRecDepth 4000
theorem vs_c5 {T : Tab} {s t : Str} (hp1 : utf t = utf s) (hp2 : t.length ≤ 1073741824) (hne : t ≠ []) (hasc : ¬ (bAt t 0).toNat < 128) (hf : firZ[(bAt t 0).toNat]? = some 4) (c1 : 241 ≤ (bAt t 0).toNat) (c2 : (bAt t 0).toNat ≤ 243) : VStep T s t := by
  unfold VStep
  have hlen : 0 < t.length := List.length_pos_iff.2 hne
  have hc256 : (bAt t 0).toNat < 256 := (bAt t 0).toNat_lt
  have z0 : Int.toNat 0 = 0 := rfl
  have z1 : Int.toNat 1 = 1 := rfl
  have z2 : Int.toNat 2 = 2 := rfl
  have z3 : Int.toNat 3 = 3 := rfl
  have z4 : Int.toNat 4 = 4 := rfl
  have z8 : Int.toNat 8 = 8 := rfl
  have z16 : Int.toNat 16 = 16 := rfl
  have z24 : Int.toNat 24 = 24 := rfl
  have z32 : Int.toNat 32 = 32 := rfl
  have hasc' : ¬ ((bAt t 0).toNat : Int) < 128 := by omega
  have hwt := utf_cons hne
  have d2 : (t.drop 2).length = t.length - 2 := List.length_drop
  have d3 : (t.drop 3).length = t.length - 3 := List.length_drop
  have d4 : (t.drop 4).length = t.length - 4 := List.length_drop
  obtain ⟨rest, hr⟩ := fir_drop hf
  have hr' : (zavs firZ).drop (Int.toNat ((bAt t 0).toNat : Int) * 1) = .int .u8 4 :: rest := by rw [Int.toNat_natCast, Nat.mul_one]; exact hr
  have hwd := wd_four (t := t) 128 191 (by omega) (by omega) (by rw [if_neg (by omega)]) (by rw [if_neg (by omega)])
  repeat' (first | refine zA ?_ | ((simp only [z0, z1, z2, z3, z4])) | ((apply W1.tabA; exact rfl; exact rfl; exact rfl; exact hr'; omega; omega; (rw [fir_len]; omega))) | ((apply W1.load1; exact rfl; exact rfl)) | ((apply W1.slcD; exact rfl; exact rfl; exact rfl; omega)) | refine zB ?_ | (refine zC ?_ ?_ <;> intro hc; all_goals first | (cases hc; done) | ((try simp only [hc]); (try simp only [bm] at hc))) | refine zE ?_ | refine zN ?_ | fail)
  all_goals first
    | (refine Qend.boo rfl rfl ?_; rw [← hp1, hwt, hwd, if_neg (by omega)]; rfl)
    | (have hk : wd t = 4 := by rw [hwd, if_pos (by omega)]
       rw [hk] at hwt
       refine ⟨_, ⟨?_, ?_⟩, ?_, rfl⟩
       · rw [← hp1, hwt]; rfl
       · omega
       · omega)
theorem vs_c6 {T : Tab} {s t : Str} (hp1 : utf t = utf s) (hp2 : t.length ≤ 1073741824) (hne : t ≠ []) (hasc : ¬ (bAt t 0).toNat < 128) (hf : firZ[(bAt t 0).toNat]? = some 68) (c1 : (bAt t 0).toNat = 244) : VStep T s t := by
  unfold VStep
  have hlen : 0 < t.length := List.length_pos_iff.2 hne
  have hc256 : (bAt t 0).toNat < 256 := (bAt t 0).toNat_lt
  have z0 : Int.toNat 0 = 0 := rfl
  have z1 : Int.toNat 1 = 1 := rfl
  have z2 : Int.toNat 2 = 2 := rfl
  have z3 : Int.toNat 3 = 3 := rfl
  have z4 : Int.toNat 4 = 4 := rfl
  have z8 : Int.toNat 8 = 8 := rfl
  have z16 : Int.toNat 16 = 16 := rfl
  have z24 : Int.toNat 24 = 24 := rfl
  have z32 : Int.toNat 32 = 32 := rfl
  have hasc' : ¬ ((bAt t 0).toNat : Int) < 128 := by omega
  have hwt := utf_cons hne
  have d2 : (t.drop 2).length = t.length - 2 := List.length_drop
  have d3 : (t.drop 3).length = t.length - 3 := List.length_drop
  have d4 : (t.drop 4).length = t.length - 4 := List.length_drop
  obtain ⟨rest, hr⟩ := fir_drop hf
  have hr' : (zavs firZ).drop (Int.toNat ((bAt t 0).toNat : Int) * 1) = .int .u8 68 :: rest := by rw [Int.toNat_natCast, Nat.mul_one]; exact hr
  have hwd := wd_four (t := t) 128 143 (by omega) (by omega) (by rw [if_neg (by omega)]) (by rw [if_pos (by omega)])
  repeat' (first | refine zA ?_ | ((simp only [z0, z1, z2, z3, z4])) | ((apply W1.tabA; exact rfl; exact rfl; exact rfl; exact hr'; omega; omega; (rw [fir_len]; omega))) | ((apply W1.load1; exact rfl; exact rfl)) | ((apply W1.slcD; exact rfl; exact rfl; exact rfl; omega)) | refine zB ?_ | (refine zC ?_ ?_ <;> intro hc; all_goals first | (cases hc; done) | ((try simp only [hc]); (try simp only [bm] at hc))) | refine zE ?_ | refine zN ?_ | fail)
  all_goals first
    | (refine Qend.boo rfl rfl ?_; rw [← hp1, hwt, hwd, if_neg (by omega)]; rfl)
    | (have hk : wd t = 4 := by rw [hwd, if_pos (by omega)]
       rw [hk] at hwt
       refine ⟨_, ⟨?_, ?_⟩, ?_, rfl⟩
       · rw [← hp1, hwt]; rfl
       · omega
       · omega)
theorem vs_c7 {T : Tab} {s t : Str} (hp1 : utf t = utf s) (hp2 : t.length ≤ 1073741824) (hne : t ≠ []) (hasc : ¬ (bAt t 0).toNat < 128) (hf : firZ[(bAt t 0).toNat]? = some 241) (c1 : (bAt t 0).toNat < 194 ∨ 244 < (bAt t 0).toNat) : VStep T s t := by
  unfold VStep
  have hlen : 0 < t.length := List.length_pos_iff.2 hne
  have hc256 : (bAt t 0).toNat < 256 := (bAt t 0).toNat_lt
  have z0 : Int.toNat 0 = 0 := rfl
  have z1 : Int.toNat 1 = 1 := rfl
  have z2 : Int.toNat 2 = 2 := rfl
  have z3 : Int.toNat 3 = 3 := rfl
  have z4 : Int.toNat 4 = 4 := rfl
  have z8 : Int.toNat 8 = 8 := rfl
  have z16 : Int.toNat 16 = 16 := rfl
  have z24 : Int.toNat 24 = 24 := rfl
  have z32 : Int.toNat 32 = 32 := rfl
  have hasc' : ¬ ((bAt t 0).toNat : Int) < 128 := by omega
  have hwt := utf_cons hne
  have d2 : (t.drop 2).length = t.length - 2 := List.length_drop
  have d3 : (t.drop 3).length = t.length - 3 := List.length_drop
  have d4 : (t.drop 4).length = t.length - 4 := List.length_drop
  obtain ⟨rest, hr⟩ := fir_drop hf
  have hr' : (zavs firZ).drop (Int.toNat ((bAt t 0).toNat : Int) * 1) = .int .u8 241 :: rest := by rw [Int.toNat_natCast, Nat.mul_one]; exact hr
  have hwd := wd_none (t := t) (by omega) c1
  repeat' (first | refine zA ?_ | ((simp only [z0, z1, z2, z3, z4])) | ((apply W1.tabA; exact rfl; exact rfl; exact rfl; exact hr'; omega; omega; (rw [fir_len]; omega))) | ((apply W1.load1; exact rfl; exact rfl)) | ((apply W1.slcD; exact rfl; exact rfl; exact rfl; omega)) | refine zB ?_ | (refine zC ?_ ?_ <;> intro hc; all_goals first | (cases hc; done) | ((try simp only [hc]); (try simp only [bm] at hc))) | refine zE ?_ | refine zN ?_ | fail)
  all_goals (refine Qend.boo rfl rfl ?_; rw [← hp1, hwt, hwd]; rfl)
end Hm

/- Which texts are UTF-8, as Go's library has it. Conditions: see each theorem. -/
namespace Hm
open Go (IntKind)
set_option maxHeartbeats 4000000
set_option maxRecDepth 4000
theorem validString_ret {T : Tab} (h : Fn T F.unicode_utf8_ValidString unicode_utf8_ValidString.fn) (hw : Fn T F.unicode_utf8_word_string unicode_utf8_word_string.fn) (s : Str) (hb : s.length ≤ 1073741824) :
    Ret T F.unicode_utf8_ValidString [.val (.str s)] (one (.bool (utf s))) := by
  refine Ret.mk h rfl ?_
  repeat' (first | refine zA ?_ | refine zB ?_ | (refine zC ?_ ?_ <;> intro hc; all_goals first | (cases hc; done) | ((try simp only [hc]); (try simp only [bm] at hc))) | refine zE ?_ | refine zN ?_ | fail)
  refine W.iterP (β := Str) (fun t s0 => s0.put 0 (.av (.str t))) (fun t => utf t = utf s ∧ t.length ≤ 1073741824) List.length s ⟨rfl, hb⟩ rfl ?_
  rintro t ⟨hp1, hp2⟩
  show VStep T s t
  by_cases hne : t = []
  · exact vs_nil hp1 hp2 hne
  · by_cases hasc : (bAt t 0).toNat < 128
    · exact vs_asc hp1 hp2 hw hne hasc
    · rcases fir_cases _ (bAt t 0).toNat_lt (by omega) with ⟨hf, c1, c2⟩ | ⟨hf, c1⟩ | ⟨hf, c1, c2, c3⟩ | ⟨hf, c1⟩ | ⟨hf, c1⟩ | ⟨hf, c1, c2⟩ | ⟨hf, c1⟩ | ⟨hf, c1⟩
      · exact vs_c0 hp1 hp2 hne hasc hf c1 c2
      · exact vs_c1 hp1 hp2 hne hasc hf c1
      · exact vs_c2 hp1 hp2 hne hasc hf c1 c2 c3
      · exact vs_c3 hp1 hp2 hne hasc hf c1
      · exact vs_c4 hp1 hp2 hne hasc hf c1
      · exact vs_c5 hp1 hp2 hne hasc hf c1 c2
      · exact vs_c6 hp1 hp2 hne hasc hf c1
      · exact vs_c7 hp1 hp2 hne hasc hf c1
end Hm

/- The contract of the program's test for UTF-8, by name. Conditions: none (a definition). -/
namespace Hm
def ValidOk (T : Tab) : Prop := ∀ s : Str, s.length ≤ 1073741824 → Ret T F.utf_Valid [.val (.str s)] (one (.bool (utf s)))
end Hm
