/- What the law answers on the abstract machine. Conditions: see each theorem. -/
import Derived.Test.YtaemcgnkpfbenaaGreatDoorVPrtsM1
set_option linter.unusedVariables false
set_option linter.unusedSimpArgs false
/- Near types, and what is of a type: plain laws. Conditions: none (definitions and plain lemmas). -/
namespace Hm
open Go (IntKind)
set_option maxRecDepth 4000
/-- Ascending keys. -/
theorem asc_of_rise {l : List Str} (h : rise l = true) : l.Pairwise fun a b => binA.bLess a b = true := by
  rw [rise] at h
  have hs : ∀ i a b, l[i]? = some a → l[i + 1]? = some b → binA.bLess a b = true := by
    intro i a b ha hb
    have hl : i + 1 < l.length := (List.getElem?_eq_some_iff.1 hb).1
    have := List.all_eq_true.1 h (i + 1) (List.mem_range.2 hl)
    simp only [riseAt, List.getD, hb, Nat.add_sub_cancel, ha, Option.getD_some] at this
    simp_all
  clear h
  induction l with
  | nil => exact List.Pairwise.nil
  | cons a r ih =>
    have ih' := ih fun i x y hx hy => hs (i + 1) x y (by simpa using hx) (by simpa using hy)
    refine List.pairwise_cons.2 ⟨fun y hy => ?_, ih'⟩
    cases r with
    | nil => cases hy
    | cons b s =>
      have hab := hs 0 a b rfl rfl
      rcases List.mem_cons.1 hy with rfl | hy
      · exact hab
      · exact bLess_trans _ _ _ hab ((List.pairwise_cons.1 ih').1 y hy)
theorem obj9_of {v : V} (h : formed v = true) (hk : v.kind = 6) : ∃ m, v = objF m ∧ AscF m ∧ ∀ x ∈ m, formed x.2 = true := by
  obtain ⟨_, f2, f3, f4, f5, f6, f7, f8, f9⟩ := formed_inv h
  obtain ⟨k, n, t, is, ks⟩ := v
  simp only [V.kind, V.num, V.text, V.items, V.keys] at *
  subst hk
  obtain rfl := f3 (by decide)
  obtain rfl := f5 (by decide)
  obtain ⟨hl, hr⟩ := f8 rfl
  have e1 : (ks.zip is).map (·.1) = ks := List.map_fst_zip (by omega)
  have e2 : (ks.zip is).map (·.2) = is := List.map_snd_zip (by omega)
  refine ⟨ks.zip is, by rw [objF, e1, e2], ?_, ?_⟩
  · have := asc_of_rise hr
    rw [← e1] at this
    exact List.pairwise_map.1 this
  · intro x hx
    exact f9 x.2 (by rw [← e2]; exact List.mem_map.2 ⟨x, hx, rfl⟩)
/-- What stands at the first place of a key. -/
def lkA {α : Type} : List Str → List α → Str → Option α
  | k :: ks, x :: xs, s => if k = s then some x else lkA ks xs s
  | _, _, _ => none
theorem lkA_map {α β : Type} (f : α → β) : ∀ (ks : List Str) (xs : List α) (s : Str), lkA ks (xs.map f) s = (lkA ks xs s).map f
  | [], xs, s => by cases xs <;> rfl
  | k :: ks, [], s => rfl
  | k :: ks, x :: xs, s => by
    simp only [List.map_cons, lkA]
    split
    · rfl
    · exact lkA_map f ks xs s
theorem lkA_fld (m : List Fld) (s : Str) : lkA (m.map (·.1)) (m.map (·.2)) s = lookF m s := by
  induction m with
  | nil => rfl
  | cons f r ih => simp only [List.map_cons, lkA, lookF, ih]
theorem lkA_lookL : ∀ (ks : List Str) (l : List V) (s : Str), ks.length = l.length → lkA ks l s = lookL ks l s
  | [], l, s, h => by cases l <;> rfl
  | k :: ks, [], s, h => by simp at h
  | k :: ks, x :: xs, s, h => by
    simp only [lkA, lookL, List.head?_cons, List.tail_cons]
    split
    · rfl
    · exact lkA_lookL ks xs s (by simpa using h)
def neverT : Ty := .mk false false false false [] false [] [] []
theorem neverT_formed : tformed neverT = true := rfl
/-! ### What is of a type -/
def inObN (fs : List (Ty → Bool)) (ks : List Str) (o : Ob) (i : Nat) : Bool :=
  match lkA ks fs (o.names.getD i []) with
  | some g => g (o.fields.getD i neverT)
  | none => !(o.must.getD i false)
def inObK (fs : List (Ty → Bool)) (ks : List Str) (o : Ob) (i : Nat) : Bool :=
  o.names.contains (ks.getD i []) || (fs.getD i (fun _ => false)) o.rest
def inObB (fs : List (Ty → Bool)) (ks : List Str) (o : Ob) : Bool := (List.range o.names.length).all (inObN fs ks o) && (List.range ks.length).all (inObK fs ks o)
def inArB (fs : List (Ty → Bool)) (a : Ar) : Bool := !(decide ((fs.length : Int) < a.min) || (decide (a.max ≥ 0) && decide ((fs.length : Int) > a.max))) && fs.all (fun g => g a.item)
def inBody (k : Int) (n t : Str) (fs : List (Ty → Bool)) (ks : List Str) (ty : Ty) : Bool :=
  ty.all || (if k = 0 then ty.nul else if k = 1 then ty.fls else if k = 2 then ty.tru else
    if k = 3 then (match ty.nums with | [] => false | s :: _ => inSpanB n s) else
    if k = 4 then ty.anyText || ty.texts.contains t else
    if k = 5 then (match ty.arrays with | [] => false | a :: _ => inArB fs a) else
    ty.objects.any (inObB fs ks))
mutual
def inT : V → Ty → Bool
  | .mk k n t is ks => inBody k n t (inFs is) ks
def inFs : List V → List (Ty → Bool)
  | [] => []
  | v :: r => inT v :: inFs r
end
theorem inFs_eq (l : List V) : inFs l = l.map inT := by
  induction l with
  | nil => rfl
  | cons x l ih => simp only [inFs, List.map_cons, ih]
theorem inT_eq (v : V) : inT v = inBody v.kind v.num v.text (v.items.map inT) v.keys := by
  cases v with
  | mk k n t is ks => simp only [inT, inFs_eq, V.kind, V.num, V.text, V.items, V.keys]
theorem inT_every (v : V) : inT v everyT = true := by rw [inT_eq]; rfl
theorem range_all_succ {p : Nat → Bool} (n : Nat) : (List.range (n + 1)).all p = ((List.range n).all p && p n) := by
  rw [List.range_succ, List.all_append]; simp
/-! ### The number of some kinds -/
def kor (acc k : Int) : Int := IntKind.wrap .u8 ((BitVec.ofInt (IntKind.bits .u8) acc ||| BitVec.ofInt (IntKind.bits .u8) (IntKind.wrap .u8 (1 * 2 ^ (min (Int.toNat k) (IntKind.bits .u8))))).toNat : Int)
def korR (acc k : Int) : Int := IntKind.wrap .i64 ((BitVec.ofInt (IntKind.bits .i64) acc ||| BitVec.ofInt (IntKind.bits .i64) (IntKind.wrap .i64 (1 * 2 ^ (min (Int.toNat (IntKind.wrap .u64 (IntKind.wrap .i64 ((BitVec.ofInt (IntKind.bits .i64) k &&& BitVec.ofInt (IntKind.bits .i64) 7).toNat : Int)))) (IntKind.bits .i64))))).toNat : Int)
theorem kor_all : ((List.range 128).all fun (a : Nat) => (List.range 7).all fun (k : Nat) => (korR a k == kor a k) && decide (kor a k < 128) && decide (0 ≤ kor a k) && ((List.range 7).all fun (j : Nat) => kb (kor a k) j == (kb a j || j == k))) = true := by decide +kernel
theorem kor_spec {a k : Int} (h0 : 0 ≤ a) (h1 : a < 128) (k0 : 0 ≤ k) (k1 : k ≤ 6) : korR a k = kor a k ∧ 0 ≤ kor a k ∧ kor a k < 128 ∧ ∀ j : Int, 0 ≤ j → j ≤ 6 → kb (kor a k) j = (kb a j || decide (j = k)) := by
  obtain ⟨a, rfl⟩ := Int.eq_ofNat_of_zero_le h0
  obtain ⟨k, rfl⟩ := Int.eq_ofNat_of_zero_le k0
  have h := List.all_eq_true.1 kor_all a (List.mem_range.2 (by omega))
  have h := List.all_eq_true.1 h k (List.mem_range.2 (by omega))
  simp only [Bool.and_eq_true, beq_iff_eq, decide_eq_true_eq] at h
  obtain ⟨⟨⟨e1, e2⟩, e3⟩, e4⟩ := h
  refine ⟨e1, e3, e2, fun j j0 j1 => ?_⟩
  obtain ⟨j, rfl⟩ := Int.eq_ofNat_of_zero_le j0
  have := beq_iff_eq.1 (List.all_eq_true.1 e4 j (List.mem_range.2 (by omega)))
  rw [this]
  congr 1
  rw [Bool.eq_iff_iff, beq_iff_eq, decide_eq_true_eq]
  omega
def kindsN (l : List Int) : Int := l.foldl kor 0
theorem kindsN_fold : ∀ (l : List Int) (a : Int), 0 ≤ a → a < 128 → (∀ k ∈ l, 0 ≤ k ∧ k ≤ 6) → 0 ≤ l.foldl kor a ∧ l.foldl kor a < 128 ∧ l.foldl korR a = l.foldl kor a ∧ ∀ j : Int, 0 ≤ j → j ≤ 6 → kb (l.foldl kor a) j = (kb a j || decide (j ∈ l))
  | [], a, h0, h1, _ => ⟨h0, h1, rfl, fun j _ _ => by simp⟩
  | k :: r, a, h0, h1, h => by
    obtain ⟨e1, e2, e3, e4⟩ := kor_spec h0 h1 (h k (by simp)).1 (h k (by simp)).2
    obtain ⟨q1, q2, q3, q4⟩ := kindsN_fold r (kor a k) e2 e3 (fun x hx => h x (by simp [hx]))
    refine ⟨q1, q2, by rw [List.foldl_cons, List.foldl_cons, e1, q3], fun j j0 j1 => ?_⟩
    rw [List.foldl_cons, q4 j j0 j1, e4 j j0 j1, Bool.or_assoc]
    congr 1
    rw [Bool.eq_iff_iff]
    simp
theorem kindsN_take_succ {l : List Int} {i : Nat} {x : Int} (h : l[i]? = some x) : kindsN (l.take (i + 1)) = kor (kindsN (l.take i)) x := by
  rw [kindsN, kindsN, List.take_add_one, h, List.foldl_append]; rfl
theorem kb0 : ((List.range 7).all fun (j : Nat) => !kb 0 j) = true := by decide +kernel
theorem kb_zero {j : Int} (h0 : 0 ≤ j) (h1 : j ≤ 6) : kb 0 j = false := by
  obtain ⟨j, rfl⟩ := Int.eq_ofNat_of_zero_le h0
  have := List.all_eq_true.1 kb0 j (List.mem_range.2 (by omega))
  simpa using this
theorem kindsN_ok {l : List V} (h : ∀ x ∈ l, formed x = true) : 0 ≤ kindsN (l.map V.kind) ∧ kindsN (l.map V.kind) < 128 ∧ ∀ x ∈ l, kb (kindsN (l.map V.kind)) x.kind = true := by
  have hk : ∀ k ∈ l.map V.kind, 0 ≤ k ∧ k ≤ 6 := fun k hm => by
    obtain ⟨x, hx, rfl⟩ := List.mem_map.1 hm
    exact (formed_inv (h x hx)).1
  obtain ⟨a, b, -, d⟩ := kindsN_fold (l.map V.kind) 0 (by omega) (by omega) hk
  refine ⟨a, b, fun x hx => ?_⟩
  have hm : x.kind ∈ l.map V.kind := List.mem_map.2 ⟨x, hx, rfl⟩
  rw [kindsN, d x.kind (hk _ hm).1 (hk _ hm).2]
  simp only [Bool.or_eq_true, decide_eq_true_eq]
  exact .inr hm
end Hm

/- Texts and numbers stand in a row. Conditions: see each theorem. -/
namespace Hm
theorem tcmp_cases (a b : Str) : (tcmp a b = -1 ∧ binA.bLess a b = true) ∨ (tcmp a b = 0 ∧ a = b) ∨ (tcmp a b = 1 ∧ binA.bLess b a = true) := by
  by_cases h : binA.bLess a b = true
  · left; simp [tcmp, h]
  · rw [Bool.not_eq_true] at h
    rcases bLess_tri a b with h' | h' | h'
    · rw [h] at h'; cases h'
    · right; left; subst h'; simp [tcmp, bLess_irrefl]
    · right; right
      have hne : ¬ a = b := fun he => by subst he; rw [bLess_irrefl] at h'; cases h'
      simp [tcmp, h, h', hne]
theorem tcmp_good : Good (fun _ => True) tcmp where
  rng a b _ _ := by rcases tcmp_cases a b with h | h | h <;> omega
  anti a b _ _ := by
    rcases tcmp_cases a b with ⟨h, h1⟩ | ⟨h, h1⟩ | ⟨h, h1⟩ <;> rcases tcmp_cases b a with ⟨k, k1⟩ | ⟨k, k1⟩ | ⟨k, k1⟩ <;> try omega
    · have := bLess_trans a b a h1 k1; rw [bLess_irrefl] at this; cases this
    · subst k1; rw [bLess_irrefl] at h1; cases h1
    · subst h1; rw [bLess_irrefl] at k1; cases k1
    · subst h1; rw [bLess_irrefl] at k1; cases k1
    · subst k1; rw [bLess_irrefl] at h1; cases h1
    · have := bLess_trans b a b h1 k1; rw [bLess_irrefl] at this; cases this
  trans a b d _ _ _ h1 h2 := by
    rcases tcmp_cases a b with ⟨h, k1⟩ | ⟨h, k1⟩ | ⟨h, k1⟩
    · rcases tcmp_cases b d with ⟨h', k2⟩ | ⟨h', k2⟩ | ⟨h', k2⟩
      · have := bLess_trans a b d k1 k2
        rcases tcmp_cases a d with ⟨h'', k3⟩ | ⟨h'', k3⟩ | ⟨h'', k3⟩
        · omega
        · omega
        · have := bLess_trans a d a this k3; rw [bLess_irrefl] at this; cases this
      · subst k2; omega
      · omega
    · subst k1; omega
    · omega
  eq a b _ _ h := by rcases tcmp_cases a b with h' | h' | h' <;> first | exact h'.2 | omega
theorem ncmp_good : Good (fun _ => True) ncmp where
  rng a b _ _ := by
    simp only [ncmp]; split
    · exact tcmp_good.rng a b trivial trivial
    · split <;> omega
  anti a b _ _ := by
    simp only [ncmp]
    by_cases h : a.length = b.length
    · rw [if_pos h, if_pos h.symm]; exact tcmp_good.anti a b trivial trivial
    · have h' : ¬ b.length = a.length := fun e => h e.symm
      simp only [h, h', if_false]
      by_cases hl : a.length < b.length
      · have : ¬ b.length < a.length := by omega
        simp [hl, this]
      · have : b.length < a.length := by omega
        simp [hl, this]
  trans a b d _ _ _ h1 h2 := by
    simp only [ncmp] at *
    by_cases e1 : a.length = b.length
    · rw [if_pos e1] at h1
      by_cases e2 : b.length = d.length
      · rw [if_pos e2] at h2; rw [if_pos (by omega)]; exact tcmp_good.trans a b d trivial trivial trivial h1 h2
      · rw [if_neg e2] at h2; rw [if_neg (by omega)]; split at h2 <;> split <;> omega
    · rw [if_neg e1] at h1
      by_cases e2 : b.length = d.length
      · rw [if_neg (by omega)]; split at h1 <;> split <;> omega
      · rw [if_neg e2] at h2
        have : a.length < b.length := by split at h1 <;> omega
        have : b.length < d.length := by split at h2 <;> omega
        rw [if_neg (by omega), if_pos (by omega)]; omega
  eq a b _ _ h := by
    simp only [ncmp] at h
    by_cases e : a.length = b.length
    · rw [if_pos e] at h; exact tcmp_good.eq a b trivial trivial h
    · rw [if_neg e] at h; split at h <;> omega
theorem minus_eq {a : Str} (h : number a = true) (hm : minus a = true) : a = 45 :: a.drop 1 := by
  have hl := number_len h
  simp only [minus, decide_eq_true_eq] at hm
  have h45 := (u8_eq (bAt a 0) 45 (by omega)).1 hm
  cases a with
  | nil => simp at hl
  | cons c r => simp [bAt] at h45; simp [h45]
theorem zcmp_good : Good (fun a => number a = true) zcmp where
  rng a b _ _ := by
    have h1 := ncmp_good.rng (b.drop 1) (a.drop 1) trivial trivial
    have h2 := ncmp_good.rng a b trivial trivial
    simp only [List.drop_one] at h1
    simp only [zcmp]; cases minus a <;> cases minus b <;> simp <;> first | exact h1 | exact h2
  anti a b _ _ := by
    have h1 := ncmp_good.anti (b.drop 1) (a.drop 1) trivial trivial
    have h2 := ncmp_good.anti a b trivial trivial
    simp only [zcmp]; cases minus a <;> cases minus b <;> simp <;> first | exact h2 | simpa using h1
  trans a b d _ _ _ h1 h2 := by
    have t1 := ncmp_good.trans a b d trivial trivial trivial
    have t2 := ncmp_good.trans (d.drop 1) (b.drop 1) (a.drop 1) trivial trivial trivial
    simp only [zcmp] at *
    cases ma : minus a <;> cases mb : minus b <;> cases md : minus d <;> simp [ma, mb, md] at *
    all_goals first
      | exact t1 h1 h2
      | exact t2 h2 h1
      | omega
  eq a b ha hb h := by
    simp only [zcmp] at h
    cases ma : minus a <;> cases mb : minus b <;> simp only [ma, mb] at h
    · exact ncmp_good.eq a b trivial trivial (by simpa using h)
    · simp at h
    · simp at h
    · have := ncmp_good.eq (b.drop 1) (a.drop 1) trivial trivial (by simpa using h)
      rw [minus_eq ha ma, minus_eq hb mb, this]
end Hm

/- Near types: plain laws. Conditions: none (definitions and plain lemmas). -/
namespace Hm
open Go (IntKind)
set_option maxRecDepth 4000
mutual
def dq : V → Nat
  | .mk k _ _ is _ => if k < 5 then 0 else dqs is + 1
def dqs : List V → Nat
  | [] => 0
  | v :: r => max (dq v) (dqs r)
end
theorem dq_eq (v : V) : dq v = if v.kind < 5 then 0 else dqs v.items + 1 := by cases v; rfl
theorem dqs_mem {x : V} {l : List V} (h : x ∈ l) : dq x ≤ dqs l := by
  induction l with
  | nil => cases h
  | cons y l ih =>
    simp only [dqs]
    rcases List.mem_cons.1 h with rfl | h
    · omega
    · have := ih h; omega
theorem dqs_append (a b : List V) : dqs (a ++ b) = max (dqs a) (dqs b) := by
  induction a with
  | nil => simp [dqs]
  | cons x a ih => simp only [List.cons_append, dqs, ih]; omega
theorem dqs_take_succ {l : List V} {i : Nat} {x : V} (h : l[i]? = some x) : dqs (l.take (i + 1)) = max (dqs (l.take i)) (dq x) := by
  rw [List.take_add_one, h, dqs_append]; simp [dqs]
theorem dqs_take_le (l : List V) (i : Nat) : dqs (l.take i) ≤ dqs l := by
  have := dqs_append (l.take i) (l.drop i)
  rw [List.take_append_drop] at this
  omega
theorem dq_le (v : V) : dq v ≤ v.bk := by
  induction v using V.ind with
  | h v ih =>
  have key : ∀ l : List V, (∀ x ∈ l, dq x ≤ x.bk) → dqs l ≤ V.bks l := by
    intro l
    induction l with
    | nil => intro _; simp [dqs]
    | cons x l ih2 =>
      intro h
      have := ih2 fun y hy => h y (by simp [hy])
      have := h x (by simp)
      simp only [dqs, V.bks]; omega
  have := key v.items ih
  rw [dq_eq, V.bk_eq]
  split <;> omega
def numT (n : Str) : Ty := .mk false false false false [(n, n)] false [] [] []
def txtT (t : Str) : Ty := .mk false false false false [] false [t] [] []
def arrT (a : Ar) : Ty := .mk false false false false [] false [] [a] []
def objT (o : Ob) : Ty := .mk false false false false [] false [] [] [o]
def wrdT (a b c : Bool) : Ty := .mk false a b c [] false [] [] []
def ofKd (kd : Int) (h : Nat) : Ty := if h ≤ 1 then everyT else wideT kd
noncomputable def nearItemB (kd : Int) (fs : List (Nat → Ty)) (h : Nat) : Ty :=
  match fs with
  | [] => neverT
  | f :: r => if r.all (fun g => eqB (f (h - 1)) (g (h - 1))) = true then f (h - 1) else ofKd kd h
noncomputable def nearBody (k : Int) (n t : Str) (kd : Int) (fs : List (Nat → Ty)) (ks : List Str) (h : Nat) : Ty :=
  if k = 0 then wrdT true false false else if k = 1 then wrdT false true false else if k = 2 then wrdT false false true else
  if k = 3 then numT n else if k = 4 then txtT t else if h = 0 then everyT else
  if k = 5 then arrT (.mk (nearItemB kd fs h) fs.length fs.length) else
  if 12 < ks.length then objT (.mk [] [] [] (ofKd kd h)) else objT (.mk ks (fs.map fun f => f (h - 1)) (fs.map fun _ => true) neverT)
mutual
noncomputable def nearT : V → Nat → Ty
  | .mk k n t is ks => nearBody k n t (kindsN (is.map V.kind)) (nearFs is) ks
noncomputable def nearFs : List V → List (Nat → Ty)
  | [] => []
  | v :: r => nearT v :: nearFs r
end
theorem nearFs_eq (l : List V) : nearFs l = l.map nearT := by
  induction l with
  | nil => rfl
  | cons x l ih => simp only [nearFs, List.map_cons, ih]
theorem nearT_eq (v : V) : nearT v = nearBody v.kind v.num v.text (kindsN (v.items.map V.kind)) (v.items.map nearT) v.keys := by
  cases v with
  | mk k n t is ks => simp only [nearT, nearFs_eq, V.kind, V.num, V.text, V.items, V.keys]
noncomputable def nearItemT (l : List V) (h : Nat) : Ty := nearItemB (kindsN (l.map V.kind)) (l.map nearT) h
open Classical in
theorem nearItemT_cons (x : V) (r : List V) (h : Nat) : nearItemT (x :: r) h = if (∀ y ∈ r, nearT x (h - 1) = nearT y (h - 1)) then nearT x (h - 1) else ofKd (kindsN ((x :: r).map V.kind)) h := by
  simp only [nearItemT, List.map_cons, nearItemB]
  have : (List.map nearT r).all (fun g => eqB (nearT x (h - 1)) (g (h - 1))) = true ↔ ∀ y ∈ r, nearT x (h - 1) = nearT y (h - 1) := by
    rw [List.all_map, List.all_eq_true]
    exact ⟨fun h y hy => eqB_iff.1 (h y hy), fun h y hy => eqB_iff.2 (h y hy)⟩
  by_cases hc : ∀ y ∈ r, nearT x (h - 1) = nearT y (h - 1)
  · rw [if_pos (this.2 hc), if_pos hc]
  · rw [if_neg (fun e => hc (this.1 e)), if_neg hc]
/-- What a near type is, kind by kind. -/
theorem near_lo {v : V} (hk : v.kind = 0 ∨ v.kind = 1 ∨ v.kind = 2) (h : Nat) : nearT v h = wrdT (decide (v.kind = 0)) (decide (v.kind = 1)) (decide (v.kind = 2)) := by
  rw [nearT_eq]; unfold nearBody
  rcases hk with e | e | e <;> rw [e] <;> rfl
theorem near_num {v : V} (hk : v.kind = 3) (h : Nat) : nearT v h = numT v.num := by
  rw [nearT_eq]; unfold nearBody; rw [hk]; rfl
theorem near_txt {v : V} (hk : v.kind = 4) (h : Nat) : nearT v h = txtT v.text := by
  rw [nearT_eq]; unfold nearBody; rw [hk]; rfl
theorem near_top {v : V} (hk : v.kind = 5 ∨ v.kind = 6) : nearT v 0 = everyT := by
  rw [nearT_eq]; unfold nearBody
  rcases hk with e | e <;> rw [e] <;> rfl
theorem near_arr {v : V} (hk : v.kind = 5) (h : Nat) : nearT v (h + 1) = arrT (.mk (nearItemT v.items (h + 1)) v.items.length v.items.length) := by
  rw [nearT_eq]; unfold nearBody; rw [hk]
  simp only [List.length_map]
  rfl
theorem near_many {v : V} (hk : v.kind = 6) (hm : 12 < v.keys.length) (h : Nat) : nearT v (h + 1) = objT (.mk [] [] [] (ofKd (kindsN (v.items.map V.kind)) (h + 1))) := by
  rw [nearT_eq]; unfold nearBody; rw [hk, if_pos hm]
  rfl
theorem near_obj {v : V} (hk : v.kind = 6) (hm : ¬ 12 < v.keys.length) (h : Nat) : nearT v (h + 1) = objT (.mk v.keys (v.items.map fun x => nearT x h) (v.items.map fun _ => true) neverT) := by
  rw [nearT_eq]; unfold nearBody; rw [hk, if_neg hm]
  simp only [List.map_map]
  rfl
theorem kinds7 {v : V} (h : formed v = true) : (v.kind = 0 ∨ v.kind = 1 ∨ v.kind = 2) ∨ v.kind = 3 ∨ v.kind = 4 ∨ v.kind = 5 ∨ v.kind = 6 := by
  have := (formed_inv h).1; omega
theorem ofKd_bk (kd : Int) (h : Nat) : (ofKd kd h).bk ≤ 100 := by
  unfold ofKd; split
  · decide
  · exact wideT_bk kd
theorem wide_formed (n : Int) : tformed (wideT n) = true := by
  unfold wideT
  split
  · rfl
  · generalize kb n 0 = b0
    generalize kb n 1 = b1
    generalize kb n 2 = b2
    generalize kb n 4 = b4
    cases kb n 3 <;> cases kb n 5 <;> cases kb n 6 <;> cases b4 <;> rfl
theorem ofKd_formed (kd : Int) (h : Nat) : tformed (ofKd kd h) = true := by
  unfold ofKd; split
  · rfl
  · exact wide_formed kd
theorem wide_ht (n : Int) : ht (wideT n) ≤ 1 := by
  unfold wideT
  split
  · decide
  · generalize kb n 0 = b0
    generalize kb n 1 = b1
    generalize kb n 2 = b2
    generalize kb n 4 = b4
    cases kb n 3 <;> cases kb n 5 <;> cases kb n 6 <;> first | exact Nat.le_refl 1 | exact Nat.zero_le 1
theorem ofKd_ht (kd : Int) (h : Nat) : ht (ofKd kd (h + 1)) ≤ h := by
  unfold ofKd; split
  · exact Nat.zero_le _
  · have := wide_ht kd; omega
theorem never_kind {b0 b1 b2 b3 b4 b5 b6 : Bool} (h : (b0 || b1 || b2 || b3 || b4 || b5 || b6) = true) : never (kindT b0 b1 b2 b3 b4 b5 b6) = false := by
  revert h; cases b0 <;> cases b1 <;> cases b2 <;> cases b3 <;> cases b4 <;> cases b5 <;> cases b6 <;> decide
theorem wide_never {n : Int} {k : Int} (k0 : 0 ≤ k) (k6 : k ≤ 6) (h : kb n k = true) : never (wideT n) = false := by
  unfold wideT
  split
  · rfl
  · refine never_kind ?_
    have : k = 0 ∨ k = 1 ∨ k = 2 ∨ k = 3 ∨ k = 4 ∨ k = 5 ∨ k = 6 := by omega
    rcases this with rfl | rfl | rfl | rfl | rfl | rfl | rfl <;> rw [h] <;> simp
theorem ofKd_never {l : List V} (hf : ∀ x ∈ l, formed x = true) (hne : l ≠ []) (h : Nat) : never (ofKd (kindsN (l.map V.kind)) h) = false := by
  unfold ofKd; split
  · rfl
  · cases l with
    | nil => exact absurd rfl hne
    | cons x r =>
      have hx := (kindsN_ok hf).2.2 x (by simp)
      have := (formed_inv (hf x (by simp))).1
      exact wide_never this.1 this.2 hx
theorem inT_kind {v : V} (hf : formed v = true) (b0 b1 b2 b3 b4 b5 b6 : Bool) : inT v (kindT b0 b1 b2 b3 b4 b5 b6) = selB v.kind b0 b1 b2 b3 b4 b5 b6 := by
  obtain ⟨⟨k0, k6⟩, -, -, -, -, -, -, f8, -⟩ := formed_inv hf
  rw [inT_eq]
  unfold inBody selB kindT
  simp only [Ty.all, Ty.nul, Ty.fls, Ty.tru, Ty.nums, Ty.anyText, Ty.texts, Ty.arrays, Ty.objects, Bool.false_or]
  by_cases h0 : v.kind = 0
  · rw [if_pos h0, if_pos h0]
  by_cases h1 : v.kind = 1
  · rw [if_neg h0, if_neg h0, if_pos h1, if_pos h1]
  by_cases h2 : v.kind = 2
  · rw [if_neg h0, if_neg h0, if_neg h1, if_neg h1, if_pos h2, if_pos h2]
  by_cases h3 : v.kind = 3
  · rw [if_neg h0, if_neg h0, if_neg h1, if_neg h1, if_neg h2, if_neg h2, if_pos h3, if_pos h3]
    cases b3 <;> rfl
  by_cases h4 : v.kind = 4
  · rw [if_neg h0, if_neg h0, if_neg h1, if_neg h1, if_neg h2, if_neg h2, if_neg h3, if_neg h3, if_pos h4, if_pos h4]
    simp
  by_cases h5 : v.kind = 5
  · rw [if_neg h0, if_neg h0, if_neg h1, if_neg h1, if_neg h2, if_neg h2, if_neg h3, if_neg h3, if_neg h4, if_neg h4, if_pos h5, if_pos h5]
    cases b5
    · rfl
    · simp only [if_true, inArB, Ar.min, Ar.max, Ar.item, List.length_map, List.all_map]
      have : (v.items.all ((fun g => g everyT) ∘ inT)) = true := List.all_eq_true.2 fun x _ => inT_every x
      rw [this]; simp
  rw [if_neg h0, if_neg h0, if_neg h1, if_neg h1, if_neg h2, if_neg h2, if_neg h3, if_neg h3, if_neg h4, if_neg h4, if_neg h5, if_neg h5]
  have hk6 : v.kind = 6 := by omega
  obtain ⟨hl, -⟩ := f8 hk6
  cases b6
  · rfl
  · simp only [if_true, List.any_cons, List.any_nil, Bool.or_false, inObB, Ob.names, List.length_nil, List.range_zero, List.all_nil, Bool.true_and]
    refine List.all_eq_true.2 fun i hi => ?_
    have hi := List.mem_range.1 hi
    simp only [inObK, Ob.names, Ob.rest, Bool.or_eq_true]
    right
    rw [List.getD, List.getElem?_map, List.getElem?_eq_getElem (by omega)]
    exact inT_every _
theorem selB_kb {n k : Int} (h0 : 0 ≤ k) (h6 : k ≤ 6) : selB k (kb n 0) (kb n 1) (kb n 2) (kb n 3) (kb n 4) (kb n 5) (kb n 6) = kb n k := by
  have : k = 0 ∨ k = 1 ∨ k = 2 ∨ k = 3 ∨ k = 4 ∨ k = 5 ∨ k = 6 := by omega
  rcases this with rfl | rfl | rfl | rfl | rfl | rfl | rfl <;> rfl
theorem inT_wide {v : V} (hf : formed v = true) {n : Int} (h : kb n v.kind = true) : inT v (wideT n) = true := by
  unfold wideT
  split
  · exact inT_every v
  · have := (formed_inv hf).1
    rw [inT_kind hf, selB_kb this.1 this.2, h]
theorem inT_ofKd {l : List V} (hf : ∀ x ∈ l, formed x = true) (h : Nat) {x : V} (hx : x ∈ l) : inT x (ofKd (kindsN (l.map V.kind)) h) = true := by
  unfold ofKd; split
  · exact inT_every x
  · exact inT_wide (hf x hx) ((kindsN_ok hf).2.2 x hx)
end Hm

/- Near types are well shaped, and no higher than asked; the value is of its near type, and no other one. Conditions: see each theorem. -/
namespace Hm
open Go (IntKind)
set_option maxRecDepth 4000
theorem near_never {v : V} (hf : formed v = true) (h : Nat) : never (nearT v h) = false := by
  rcases kinds7 hf with hk | hk | hk | hk
  · rw [near_lo hk]
    rcases hk with e | e | e <;> rw [e] <;> decide
  · rw [near_num hk]; rfl
  · rw [near_txt hk]; rfl
  · cases h with
    | zero => rw [near_top hk]; rfl
    | succ h =>
      rcases hk with hk | hk
      · rw [near_arr hk]; rfl
      · by_cases hm : 12 < v.keys.length
        · rw [near_many hk hm]; rfl
        · rw [near_obj hk hm]; rfl
theorem items_formed {v : V} (hf : formed v = true) : ∀ x ∈ v.items, formed x = true := (formed_inv hf).2.2.2.2.2.2.2.2
theorem num_formed {n : Str} (hn : number n = true) : tformed (numT n) = true := by
  have hz : zcmp n n = 0 := zcmp_good.refl n hn
  have h1 : spanOk (n, n) = true := by simp [spanOk, boundOk, hn, hz]
  rw [tformed_eq]
  simp only [numT, Ty.all, Ty.texts, Ty.anyText, Ty.nums, Ty.arrays, Ty.objects, spansOk, List.all_cons, List.all_nil, h1]
  rfl
theorem txt_formed {t : Str} (ht : utf t = true) : tformed (txtT t) = true := by
  have h1 : rise [t] = true := rise_true fun j hj => by
    have : j = 0 := by simpa using hj
    subst this
    simp [riseAt, ht]
  rw [tformed_eq]
  simp only [txtT, Ty.all, Ty.texts, Ty.anyText, Ty.nums, Ty.arrays, Ty.objects, h1]
  rfl
theorem arr_formed {a : Ar} (h : arOk a = true) : tformed (arrT a) = true := by
  rw [tformed_eq]
  simp only [arrT, Ty.all, Ty.texts, Ty.anyText, Ty.nums, Ty.arrays, Ty.objects, List.all_cons, List.all_nil, h]
  rfl
theorem obj_formed {o : Ob} (h : obOk o = true) : tformed (objT o) = true := by
  rw [tformed_eq]
  simp only [objT, Ty.all, Ty.texts, Ty.anyText, Ty.nums, Ty.arrays, Ty.objects, List.all_cons, List.all_nil, h]
  rfl
theorem arOk_mk {i : Ty} {n : Nat} (h1 : tformed i = true) (h2 : never i = decide (n = 0)) : arOk (.mk i n n) = true := by
  show (!(decide ((n : Int) < 0) || decide ((n : Int) < -1) || (decide ((n : Int) ≥ 0) && decide ((n : Int) < n))) && (tformed i && never i == decide ((n : Int) = 0))) = true
  have a1 : decide ((n : Int) < 0) = false := decide_eq_false (by omega)
  have a2 : decide ((n : Int) < -1) = false := decide_eq_false (by omega)
  have a3 : decide ((n : Int) < n) = false := decide_eq_false (by omega)
  have a4 : decide ((n : Int) = 0) = decide (n = 0) := by rw [Bool.eq_iff_iff]; simp
  rw [h1, h2, a1, a2, a3, a4]; simp
theorem fieldsOk_all : ∀ {l : List Ty} {ms : List Bool}, (∀ x ∈ l, tformed x = true ∧ never x = false) → fieldsOk l ms = true
  | [], ms, _ => rfl
  | x :: r, ms, h => by
    simp only [fieldsOk]
    rw [(h x (by simp)).1, (h x (by simp)).2, fieldsOk_all fun y hy => h y (by simp [hy])]
    simp
open Classical in
theorem near_formed (v : V) : formed v = true → ∀ h, tformed (nearT v h) = true := by
  induction v using V.ind with
  | h v ih =>
  intro hf h
  have hi := items_formed hf
  obtain ⟨-, f2, f3, f4, f5, f6, f7, f8, -⟩ := formed_inv hf
  rcases kinds7 hf with hk | hk | hk | hk
  · rw [near_lo hk]
    rcases hk with e | e | e <;> rw [e] <;> rfl
  · rw [near_num hk]; exact num_formed (f2 hk)
  · rw [near_txt hk]; exact txt_formed (f4 hk)
  · cases h with
    | zero => rw [near_top hk]; rfl
    | succ h =>
      rcases hk with hk | hk
      · rw [near_arr hk]
        refine arr_formed ?_
        cases hl : v.items with
        | nil => rfl
        | cons x r =>
          rw [hl] at hi ih
          refine arOk_mk ?_ ?_
          · rw [nearItemT_cons]
            split
            · exact ih x (by simp) (hi x (by simp)) _
            · exact ofKd_formed _ _
          · have h0 : decide ((x :: r).length = 0) = false := by simp
            rw [h0, nearItemT_cons]
            split
            · exact near_never (hi x (by simp)) _
            · exact ofKd_never hi (by simp) _
      · by_cases hm : 12 < v.keys.length
        · rw [near_many hk hm]
          refine obj_formed ?_
          rw [obOk_eq]
          simp only [Ob.names, Ob.fields, Ob.must, Ob.rest]
          rw [ofKd_formed]; rfl
        · rw [near_obj hk hm]
          refine obj_formed ?_
          rw [obOk_eq]
          simp only [Ob.names, Ob.fields, Ob.must, Ob.rest, List.length_map]
          rw [neverT_formed, (f8 hk).2, fieldsOk_all fun x hx => ?_]
          · simp [(f8 hk).1]
          · obtain ⟨y, hy, rfl⟩ := List.mem_map.1 hx
            exact ⟨ih y hy (hi y hy) h, near_never (hi y hy) h⟩
theorem hTys_all {l : List Ty} {n : Nat} (h : ∀ x ∈ l, ht x + 1 ≤ n) : hTys l ≤ n := by
  induction l with
  | nil => exact Nat.zero_le _
  | cons x l ih =>
    have := ih fun y hy => h y (by simp [hy])
    have := h x (by simp)
    simp only [hTys]; omega
theorem near_ht (v : V) : formed v = true → ∀ h, ht (nearT v h) ≤ h := by
  induction v using V.ind with
  | h v ih =>
  intro hf h
  have hi := items_formed hf
  rcases kinds7 hf with hk | hk | hk | hk
  · rw [near_lo hk]
    exact Nat.zero_le _
  · rw [near_num hk]; exact Nat.zero_le _
  · rw [near_txt hk]; exact Nat.zero_le _
  · cases h with
    | zero => rw [near_top hk]; exact Nat.zero_le _
    | succ h =>
      rcases hk with hk | hk
      · rw [near_arr hk, ht_eq]
        simp only [arrT, Ty.arrays, Ty.objects, hArs, hObs, hAr_eq, Ar.item]
        have q : ht (nearItemT v.items (h + 1)) ≤ h := by
          cases hl : v.items with
          | nil => exact Nat.zero_le _
          | cons x r =>
            rw [hl] at hi ih
            rw [nearItemT_cons]
            split
            · exact ih x (by simp) (hi x (by simp)) h
            · exact ofKd_ht _ _
        omega
      · by_cases hm : 12 < v.keys.length
        · rw [near_many hk hm, ht_eq]
          simp only [objT, Ty.arrays, Ty.objects, hArs, hObs, hOb_eq, Ob.rest, Ob.fields, hTys]
          have := ofKd_ht (kindsN (v.items.map V.kind)) h
          omega
        · rw [near_obj hk hm, ht_eq]
          simp only [objT, Ty.arrays, Ty.objects, hArs, hObs, hOb_eq, Ob.rest, Ob.fields]
          have q : hTys (v.items.map fun x => nearT x h) ≤ h + 1 := hTys_all fun x hx => by
            obtain ⟨y, hy, rfl⟩ := List.mem_map.1 hx
            have := ih y hy (hi y hy) h; omega
          have : ht neverT = 0 := rfl
          omega
theorem tyBks_map {l : List V} {f : V → Ty} (h : ∀ x ∈ l, (f x).bk ≤ 20 * x.bk) : tyBks (l.map f) ≤ 20 * V.bks l := by
  induction l with
  | nil => exact Nat.zero_le _
  | cons x l ih =>
    have := ih fun y hy => h y (by simp [hy])
    have := h x (by simp)
    simp only [List.map_cons, tyBks, V.bks]; omega
theorem near_bk (v : V) : formed v = true → ∀ h, (nearT v h).bk ≤ 20 * v.bk := by
  induction v using V.ind with
  | h v ih =>
  intro hf h
  have hi := items_formed hf
  have hb := V.bk_eq v
  rcases kinds7 hf with hk | hk | hk | hk
  · rw [near_lo hk, Ty.bk_eq]
    simp only [wrdT, Ty.nums, Ty.texts, Ty.arrays, Ty.objects, spbk, sbk, arBks, obBks]; omega
  · rw [near_num hk, Ty.bk_eq]
    simp only [numT, Ty.nums, Ty.texts, Ty.arrays, Ty.objects, spbk, sbk, arBks, obBks]; omega
  · rw [near_txt hk, Ty.bk_eq]
    simp only [txtT, Ty.nums, Ty.texts, Ty.arrays, Ty.objects, spbk, sbk, arBks, obBks]; omega
  · cases h with
    | zero =>
      rw [near_top hk]
      have : everyT.bk = 9 := rfl
      omega
    | succ h =>
      rcases hk with hk | hk
      · rw [near_arr hk, Ty.bk_eq]
        simp only [arrT, Ty.nums, Ty.texts, Ty.arrays, Ty.objects, spbk, sbk, arBks, obBks, Ar.bk_eq, Ar.item]
        have q : (nearItemT v.items (h + 1)).bk ≤ 20 * V.bks v.items + 9 := by
          cases hl : v.items with
          | nil =>
            have : (nearItemT [] (h + 1)).bk = 9 := rfl
            omega
          | cons x r =>
            rw [hl] at hi ih
            rw [nearItemT_cons]
            have := V.bk_eq x
            simp only [V.bks]
            split
            · have := ih x (by simp) (hi x (by simp)) h
              show (nearT x h).bk ≤ _
              omega
            · have := ofKd_bk (kindsN ((x :: r).map V.kind)) (h + 1)
              omega
        omega
      · by_cases hm : 12 < v.keys.length
        · rw [near_many hk hm, Ty.bk_eq]
          simp only [objT, Ty.nums, Ty.texts, Ty.arrays, Ty.objects, spbk, sbk, arBks, obBks, Ob.bk_eq, Ob.names, Ob.fields, Ob.must, Ob.rest, tyBks, List.length_nil]
          have := ofKd_bk (kindsN (v.items.map V.kind)) (h + 1)
          have := len_sbk v.keys
          omega
        · rw [near_obj hk hm, Ty.bk_eq]
          simp only [objT, Ty.nums, Ty.texts, Ty.arrays, Ty.objects, spbk, sbk, arBks, obBks, Ob.bk_eq, Ob.names, Ob.fields, Ob.must, Ob.rest, List.length_map]
          have q : tyBks (v.items.map fun x => nearT x h) ≤ 20 * V.bks v.items := tyBks_map fun x hx => ih x hx (hi x hx) h
          have : neverT.bk = 9 := rfl
          have := len_sbk v.keys
          have := ((formed_inv hf).2.2.2.2.2.2.2.1 hk).1
          omega
theorem lkA_at {α : Type} : ∀ {ks : List Str} {xs : List α} {i : Nat} {k : Str}, (ks.Pairwise fun a b => binA.bLess a b = true) → ks[i]? = some k → lkA ks xs k = xs[i]?
  | [], xs, i, k, _, h => by simp at h
  | s :: r, [], i, k, _, h => by simp [lkA]
  | s :: r, x :: xs, 0, k, _, h => by
    simp at h; subst h; simp [lkA]
  | s :: r, x :: xs, i + 1, k, ha, h => by
    obtain ⟨h1, h2⟩ := List.pairwise_cons.1 ha
    have hr : r[i]? = some k := by simpa using h
    have hne : ¬ s = k := fun e => by
      have := h1 k (List.mem_of_getElem? hr)
      rw [e, bLess_irrefl] at this; cases this
    rw [lkA, if_neg hne, lkA_at h2 hr]
    simp
theorem in_num {n : Str} (hn : number n = true) : inSpanB n (n, n) = true := by
  have hz : zcmp n n = 0 := zcmp_good.refl n hn
  simp [inSpanB, hz]
theorem near_in (v : V) : formed v = true → ∀ h, inT v (nearT v h) = true := by
  induction v using V.ind with
  | h v ih =>
  intro hf h
  have hi := items_formed hf
  obtain ⟨-, f2, f3, f4, f5, f6, f7, f8, -⟩ := formed_inv hf
  rcases kinds7 hf with hk | hk | hk | hk
  · rw [near_lo hk, inT_eq]
    rcases hk with e | e | e <;> rw [e] <;> rfl
  · rw [near_num hk, inT_eq, hk]
    show inSpanB v.num (v.num, v.num) = true
    exact in_num (f2 hk)
  · rw [near_txt hk, inT_eq, hk]
    show ([v.text].contains v.text) = true
    simp
  · cases h with
    | zero => rw [near_top hk]; exact inT_every v
    | succ h =>
      rcases hk with hk | hk
      · rw [near_arr hk, inT_eq, hk]
        show inArB (v.items.map inT) _ = true
        simp only [inArB, Ar.min, Ar.max, Ar.item, List.length_map, List.all_map]
        have q : (v.items.all ((fun g => g (nearItemT v.items (h + 1))) ∘ inT)) = true := by
          refine List.all_eq_true.2 fun x hx => ?_
          show inT x _ = true
          cases hl : v.items with
          | nil => rw [hl] at hx; cases hx
          | cons y r =>
            rw [hl] at hi ih hx
            rw [nearItemT_cons]
            split
            · rename_i hs
              have : nearT y (h + 1 - 1) = nearT x (h + 1 - 1) := by
                rcases List.mem_cons.1 hx with rfl | hx'
                · rfl
                · exact hs x hx'
              rw [this]
              exact ih x hx (hi x hx) _
            · exact inT_ofKd hi _ hx
        rw [q]; simp
      · obtain ⟨hl, hr⟩ := f8 hk
        have ha := asc_of_rise hr
        by_cases hm : 12 < v.keys.length
        · rw [near_many hk hm, inT_eq, hk]
          show [_].any (inObB (v.items.map inT) v.keys) = true
          simp only [List.any_cons, List.any_nil, Bool.or_false, inObB, Ob.names, List.length_nil, List.range_zero, List.all_nil, Bool.true_and]
          refine List.all_eq_true.2 fun i hir => ?_
          have hir := List.mem_range.1 hir
          simp only [inObK, Ob.names, Ob.rest, Bool.or_eq_true]
          right
          rw [List.getD, List.getElem?_map, List.getElem?_eq_getElem (by omega)]
          exact inT_ofKd hi _ (List.getElem_mem _)
        · rw [near_obj hk hm, inT_eq, hk]
          show [_].any (inObB (v.items.map inT) v.keys) = true
          simp only [List.any_cons, List.any_nil, Bool.or_false, inObB, Ob.names, Bool.and_eq_true]
          refine ⟨List.all_eq_true.2 fun i hir => ?_, List.all_eq_true.2 fun i hir => ?_⟩
          · have hir := List.mem_range.1 hir
            have e1 : v.keys[i]? = some v.keys[i] := List.getElem?_eq_getElem hir
            have e2 : v.items[i]? = some (v.items[i]'(by omega)) := List.getElem?_eq_getElem (by omega)
            simp only [inObN, Ob.names, Ob.fields, Ob.must]
            rw [List.getD, e1, Option.getD_some, lkA_at ha e1, List.getElem?_map, e2]
            simp only [Option.map_some, List.getD, List.getElem?_map, e2, Option.getD_some]
            exact ih _ (List.getElem_mem _) (hi _ (List.getElem_mem _)) h
          · have hir := List.mem_range.1 hir
            simp only [inObK, Ob.names, Bool.or_eq_true]
            left
            rw [List.getD, List.getElem?_eq_getElem hir, Option.getD_some]
            simp
end Hm

/- Plain lemmas, split off. NORMX NORMY Conditions: none (definitions and plain lemmas). -/
namespace Hm
open Go (IntKind)
section
variable {T : Tab}
theorem lkA_first {α : Type} : ∀ {ks : List Str} {xs : List α} {i : Nat} {k : Str}, ks.length = xs.length → ks[i]? = some k → (∀ j, j < i → ks[j]? ≠ some k) → lkA ks xs k = xs[i]?
  | [], xs, i, k, _, h, _ => by simp at h
  | s :: r, [], i, k, hl, _, _ => by simp at hl
  | s :: r, x :: xs, 0, k, _, h, _ => by simp at h; subst h; simp [lkA]
  | s :: r, x :: xs, i + 1, k, hl, h, hj => by
    have hne : ¬ s = k := fun e => hj 0 (by omega) (by simp [e])
    rw [lkA, if_neg hne, lkA_first (ks := r) (i := i) (by simpa using hl) (by simpa using h) (fun j hlt => by have := hj (j + 1) (by omega); simpa using this)]
    simp
theorem lkA_none {α : Type} : ∀ {ks : List Str} {xs : List α} {k : Str}, (∀ j : Nat, ks[j]? ≠ some k) → lkA ks xs k = none
  | [], xs, k, _ => by cases xs <;> rfl
  | s :: r, [], k, _ => rfl
  | s :: r, x :: xs, k, hj => by
    have hne : ¬ s = k := fun e => hj 0 (by simp [e])
    rw [lkA, if_neg hne, lkA_none fun j => by have := hj (j + 1); simpa using this]
theorem lkA_mem {α : Type} : ∀ {ks : List Str} {xs : List α} {k : Str} {y : α}, lkA ks xs k = some y → y ∈ xs
  | [], xs, k, y, h => by cases xs <;> simp [lkA] at h
  | a :: r, [], k, y, h => by simp [lkA] at h
  | a :: r, b :: xs, k, y, h => by
    rw [lkA] at h
    split at h
    · cases h; simp
    · exact List.mem_cons_of_mem _ (lkA_mem h)
theorem range_all_false {p : Nat → Bool} {n i : Nat} (hi : i < n) (h : p i = false) : (List.range n).all p = false := by
  rw [List.all_eq_false]
  exact ⟨i, List.mem_range.2 hi, by rw [h]; simp⟩
end
end Hm

/- Plain lemmas, split off. NORMX NORMY Conditions: none (definitions and plain lemmas). -/
namespace Hm
open Go (IntKind)
section
variable {T : Tab}
theorem tformed_parts {t : Ty} (h : tformed t = true) : (∀ s ∈ t.nums, spanOk s = true) ∧ (∀ a ∈ t.arrays, tformed a.item = true) ∧ (∀ o ∈ t.objects, o.names.length = o.fields.length ∧ o.names.length = o.must.length ∧ tformed o.rest = true ∧ fieldsOk o.fields o.must = true) := by
  rw [tformed_eq] at h
  simp only [Bool.and_eq_true, spansOk, List.all_eq_true] at h
  obtain ⟨-, ⟨-, h1⟩, ⟨-, h2⟩, h3⟩ := h
  refine ⟨h1, fun a ha => ?_, fun o ho => ?_⟩
  · have := h2 a ha
    rw [arOk_eq] at this
    simp only [Bool.and_eq_true] at this
    exact this.2.1
  · have := h3 o ho
    rw [obOk_eq] at this
    simp only [Bool.and_eq_true, decide_eq_true_eq] at this
    exact ⟨this.1.1.1.1, this.1.1.1.2, this.1.2, this.2⟩
theorem fieldsOk_mem : ∀ {l : List Ty} {ms : List Bool}, fieldsOk l ms = true → ∀ x ∈ l, tformed x = true
  | [], _, _, x, hx => by cases hx
  | y :: l, ms, h, x, hx => by
    simp only [fieldsOk, Bool.and_eq_true] at h
    rcases List.mem_cons.1 hx with rfl | hx
    · exact h.1.1
    · exact fieldsOk_mem h.2 x hx
theorem bounds_span {s : Sp} (h : spanOk s = true) (l1 : s.1.length ≤ 1073741824) (l2 : s.2.length ≤ 1073741824) : Bounds s := by
  simp only [spanOk, Bool.and_eq_true, boundOk, Bool.or_eq_true, beq_iff_eq] at h
  exact ⟨fun hn => h.1.1.resolve_left hn, fun hn => h.1.2.resolve_left hn, l1, l2⟩
theorem any_take_succ {α : Type} {p : α → Bool} {l : List α} {i : Nat} {x : α} (h : l[i]? = some x) : (l.take (i + 1)).any p = ((l.take i).any p || p x) := by
  rw [List.take_add_one, h, List.any_append]; simp
theorem any_true {α : Type} {p : α → Bool} {l : List α} {i : Nat} {x : α} (h : l[i]? = some x) (hp : p x = true) : l.any p = true :=
  List.any_eq_true.2 ⟨x, List.mem_of_getElem? h, hp⟩
end
end Hm

/- Plain lemmas, split off. Conditions: none (definitions and plain lemmas). -/
namespace Hm
open Go (IntKind)
section
variable {T : Tab}
def hollowB (s : Sp) : Bool := !(s.1 == []) && !(s.2 == []) && decide (zcmp s.1 s.2 > 0)
def spanIn (a b : Sp) : Bool := hollowB a || (((b.1 == []) || (!(a.1 == []) && decide (zcmp b.1 a.1 ≤ 0))) && ((b.2 == []) || (!(a.2 == []) && decide (zcmp a.2 b.2 ≤ 0))))
def boundsB (s : Sp) : Bool := ((s.1 == []) || number s.1) && ((s.2 == []) || number s.2)
end
end Hm

/- Comparisons part by part, and of lists. Conditions: none (definitions and plain lemmas). -/
namespace Hm
/-- A comparison that sets things in a row, up to what it does not look at. -/
structure Pre {α : Type} (P : α → Prop) (c : α → α → Int) : Prop where
  rng : ∀ a b, P a → P b → -1 ≤ c a b ∧ c a b ≤ 1
  anti : ∀ a b, P a → P b → c a b = - c b a
  trans : ∀ a b d, P a → P b → P d → c a b ≤ 0 → c b d ≤ 0 → c a d ≤ 0
def orI (x y : Int) : Int := if x = 0 then y else x
theorem orI0 (y : Int) : orI 0 y = y := rfl
theorem orI_ne {x y : Int} (h : x ≠ 0) : orI x y = x := by simp [orI, h]
theorem orI_zero {x y : Int} (h : orI x y = 0) : x = 0 ∧ y = 0 := by
  unfold orI at h
  split at h
  · exact ⟨by assumption, h⟩
  · exact absurd h (by assumption)
section
variable {α β : Type} {P : α → Prop} {Q : β → Prop} {c c1 c2 : α → α → Int}
theorem Good.pre (h : Good P c) : Pre P c := ⟨h.rng, h.anti, h.trans⟩
theorem Pre.refl (h : Pre P c) {a : α} (ha : P a) : c a a = 0 := by have := h.anti a a ha ha; omega
theorem Pre.eq0 (h : Pre P c) {a b d : α} (ha : P a) (hb : P b) (hd : P d) (h1 : c a b = 0) (h2 : c b d = 0) : c a d = 0 := by
  have k1 := h.anti a b ha hb
  have k2 := h.anti b d hb hd
  have k3 := h.anti a d ha hd
  have := h.trans a b d ha hb hd (by omega) (by omega)
  have := h.trans d b a hd hb ha (by omega) (by omega)
  omega
theorem Pre.lt (h : Pre P c) {a b d : α} (ha : P a) (hb : P b) (hd : P d) (h1 : c a b < 0) (h2 : c b d ≤ 0) : c a d < 0 := by
  have k1 := h.anti a b ha hb
  have k3 := h.anti a d ha hd
  have := h.trans a b d ha hb hd (by omega) (by omega)
  by_cases h0 : c a d = 0
  · have := h.trans b d a hb hd ha h2 (by omega); omega
  · omega
theorem Pre.lt' (h : Pre P c) {a b d : α} (ha : P a) (hb : P b) (hd : P d) (h1 : c a b ≤ 0) (h2 : c b d < 0) : c a d < 0 := by
  have k1 := h.anti b d hb hd
  have k3 := h.anti a d ha hd
  have := h.trans a b d ha hb hd (by omega) (by omega)
  by_cases h0 : c a d = 0
  · have := h.trans d a b hd ha hb (by omega) h1; omega
  · omega
theorem Pre.or_trans (h : Pre P c) {a b d : α} (ha : P a) (hb : P b) (hd : P d) {x y z : Int} (h1 : orI (c a b) x ≤ 0) (h2 : orI (c b d) y ≤ 0) (h3 : x ≤ 0 → y ≤ 0 → z ≤ 0) : orI (c a d) z ≤ 0 := by
  by_cases e1 : c a b = 0
  · rw [e1, orI0] at h1
    by_cases e2 : c b d = 0
    · rw [e2, orI0] at h2
      rw [h.eq0 ha hb hd e1 e2, orI0]; exact h3 h1 h2
    · rw [orI_ne e2] at h2
      have := h.lt' ha hb hd (by omega) (by omega : c b d < 0)
      rw [orI_ne (by omega)]; omega
  · rw [orI_ne e1] at h1
    have hbd : c b d ≤ 0 := by
      by_cases e2 : c b d = 0
      · omega
      · rw [orI_ne e2] at h2; exact h2
    have := h.lt ha hb hd (by omega : c a b < 0) hbd
    rw [orI_ne (by omega)]; omega
theorem Pre.or_anti (h : Pre P c) {a b : α} (ha : P a) (hb : P b) {x y : Int} (h1 : x = - y) : orI (c a b) x = - orI (c b a) y := by
  have := h.anti a b ha hb
  by_cases e : c a b = 0
  · have : c b a = 0 := by omega
    rw [e, this, orI0, orI0]; exact h1
  · rw [orI_ne e, orI_ne (by omega)]; exact this
theorem Pre.or_rng (h : Pre P c) {a b : α} (ha : P a) (hb : P b) {x : Int} (h1 : -1 ≤ x ∧ x ≤ 1) : -1 ≤ orI (c a b) x ∧ orI (c a b) x ≤ 1 := by
  unfold orI; split
  · exact h1
  · exact h.rng a b ha hb
theorem Pre.or (h1 : Pre P c1) (h2 : Pre P c2) : Pre P fun a b => orI (c1 a b) (c2 a b) where
  rng a b ha hb := h1.or_rng ha hb (h2.rng a b ha hb)
  anti a b ha hb := h1.or_anti ha hb (h2.anti a b ha hb)
  trans a b d ha hb hd k1 k2 := h1.or_trans ha hb hd k1 k2 (h2.trans a b d ha hb hd)
theorem Pre.comap {f : α → β} {c : β → β → Int} (h : Pre Q c) (hp : ∀ a, P a → Q (f a)) : Pre P fun a b => c (f a) (f b) where
  rng a b ha hb := h.rng _ _ (hp a ha) (hp b hb)
  anti a b ha hb := h.anti _ _ (hp a ha) (hp b hb)
  trans a b d ha hb hd := h.trans _ _ _ (hp a ha) (hp b hb) (hp d hd)
theorem Pre.mono {P' : α → Prop} (h : Pre P c) (hp : ∀ a, P' a → P a) : Pre P' c where
  rng a b ha hb := h.rng _ _ (hp a ha) (hp b hb)
  anti a b ha hb := h.anti _ _ (hp a ha) (hp b hb)
  trans a b d ha hb hd := h.trans _ _ _ (hp a ha) (hp b hb) (hp d hd)
theorem Pre.congr {c' : α → α → Int} (h : Pre P c) (e : ∀ a b, c' a b = c a b) : Pre P c' where
  rng a b ha hb := by rw [e]; exact h.rng a b ha hb
  anti a b ha hb := by rw [e, e]; exact h.anti a b ha hb
  trans a b d ha hb hd := by rw [e, e, e]; exact h.trans a b d ha hb hd
def lcmp (c : α → α → Int) : List α → List α → Int
  | [], [] => 0
  | [], _ :: _ => -1
  | _ :: _, [] => 1
  | a :: l, b :: m => orI (c a b) (lcmp c l m)
theorem Pre.list (h : Pre P c) : Pre (fun l : List α => ∀ x ∈ l, P x) (lcmp c) where
  rng := by
    intro l
    induction l with
    | nil => intro m _ _; cases m <;> simp [lcmp]
    | cons a l ih =>
      intro m hl hm
      cases m with
      | nil => simp [lcmp]
      | cons b m => exact h.or_rng (hl a (by simp)) (hm b (by simp)) (ih m (fun x hx => hl x (by simp [hx])) (fun x hx => hm x (by simp [hx])))
  anti := by
    intro l
    induction l with
    | nil => intro m _ _; cases m <;> simp [lcmp]
    | cons a l ih =>
      intro m hl hm
      cases m with
      | nil => simp [lcmp]
      | cons b m => exact h.or_anti (hl a (by simp)) (hm b (by simp)) (ih m (fun x hx => hl x (by simp [hx])) (fun x hx => hm x (by simp [hx])))
  trans := by
    intro l
    induction l with
    | nil => intro m n _ _ _ _ _; cases n <;> simp [lcmp]
    | cons a l ih =>
      intro m n hl hm hn h1 h2
      cases m with
      | nil => simp [lcmp] at h1
      | cons b m =>
        cases n with
        | nil => simp [lcmp] at h2
        | cons d n =>
          exact h.or_trans (hl a (by simp)) (hm b (by simp)) (hn d (by simp)) h1 h2 (ih m n (fun x hx => hl x (by simp [hx])) (fun x hx => hm x (by simp [hx])) (fun x hx => hn x (by simp [hx])))
theorem lcmp_eq (he : ∀ a b, P a → P b → c a b = 0 → a = b) : ∀ (l m : List α), (∀ x ∈ l, P x) → (∀ x ∈ m, P x) → lcmp c l m = 0 → l = m
  | [], [], _, _, _ => rfl
  | [], _ :: _, _, _, h => by simp [lcmp] at h
  | _ :: _, [], _, _, h => by simp [lcmp] at h
  | a :: l, b :: m, hl, hm, h => by
    obtain ⟨h1, h2⟩ := orI_zero (show orI (c a b) (lcmp c l m) = 0 from h)
    rw [he a b (hl a (by simp)) (hm b (by simp)) h1, lcmp_eq he l m (fun x hx => hl x (by simp [hx])) (fun x hx => hm x (by simp [hx])) h2]
end
def icmp (a b : Int) : Int := if a < b then -1 else if a > b then 1 else 0
theorem icmp_pre : Pre (fun _ => True) icmp where
  rng a b _ _ := by unfold icmp; split <;> (try split) <;> omega
  anti a b _ _ := by unfold icmp; split <;> split <;> (try split) <;> (try split) <;> omega
  trans a b d _ _ _ h1 h2 := by
    unfold icmp at *
    by_cases e1 : a < b
    · by_cases e2 : b < d
      · rw [if_pos (by omega)]; omega
      · rw [if_neg e2] at h2
        split at h2
        · omega
        · rw [if_pos (by omega)]; omega
    · rw [if_neg e1] at h1
      split at h1
      · omega
      · by_cases e2 : b < d
        · rw [if_pos (by omega)]; omega
        · rw [if_neg e2] at h2
          split at h2
          · omega
          · rw [if_neg (by omega), if_neg (by omega)]; omega
theorem icmp_eq {a b : Int} (h : icmp a b = 0) : a = b := by
  unfold icmp at h
  split at h
  · omega
  · split at h <;> omega
theorem zcmp_pre : Pre (fun _ => True) zcmp where
  rng a b _ _ := by
    have h1 := ncmp_good.rng (b.drop 1) (a.drop 1) trivial trivial
    have h2 := ncmp_good.rng a b trivial trivial
    simp only [List.drop_one] at h1
    simp only [zcmp]; cases minus a <;> cases minus b <;> simp <;> first | exact h1 | exact h2
  anti a b _ _ := by
    have h1 := ncmp_good.anti (b.drop 1) (a.drop 1) trivial trivial
    have h2 := ncmp_good.anti a b trivial trivial
    simp only [zcmp]; cases minus a <;> cases minus b <;> simp <;> first | exact h2 | simpa using h1
  trans a b d _ _ _ h1 h2 := by
    have t1 := ncmp_good.trans a b d trivial trivial trivial
    have t2 := ncmp_good.trans (d.drop 1) (b.drop 1) (a.drop 1) trivial trivial trivial
    simp only [zcmp] at *
    cases ma : minus a <;> cases mb : minus b <;> cases md : minus d <;> simp [ma, mb, md] at *
    all_goals first
      | exact t1 h1 h2
      | exact t2 h2 h1
      | omega
end Hm

/- Which types lie in others, and which have nothing in common: plain laws. Conditions: none (definitions and plain lemmas). -/
namespace Hm
open Go (IntKind)
set_option maxRecDepth 4000
def openT : Ty := kindT true true true true true true true
def laidT (t : Ty) : Ty := if t.all then openT else t
/-- An alternative's field of a name, and whether it must be there. -/
def fldO (o : Ob) (s : Str) : Ty := (lkA o.names o.fields s).getD o.rest
def mstO (o : Ob) (s : Str) : Bool := (lkA o.names o.must s).getD false
def blwA (F : Ty → Ty → Bool) (b a : Ar) : Bool := !(decide (b.min > a.min) || (decide (b.max ≥ 0) && (decide (a.max < 0) || decide (a.max > b.max)))) && (decide (a.max = 0) || F b.item a.item)
def blwS (F : Ty → Ty → Bool) (b a : Ob) (s : Str) : Bool := !(mstO b s && !mstO a s) && F (fldO b s) (fldO a s)
def blwO (F : Ty → Ty → Bool) (b a : Ob) : Bool := (a.names ++ b.names).all (blwS F b a) && F b.rest a.rest
def wordsB (b x : Ty) : Bool := (!x.nul || b.nul) && (!x.fls || b.fls) && (!x.tru || b.tru)
def numsB (b x : Ty) : Bool := match x.nums with | [] => true | s :: _ => match b.nums with | [] => false | t :: _ => spanIn s t
def textsB (b x : Ty) : Bool := if b.anyText || x.anyText then b.anyText else x.texts.all fun s => b.texts.contains s
def arrsB (F : Ty → Ty → Bool) (b x : Ty) : Bool := match x.arrays with | [] => true | p :: _ => match b.arrays with | [] => false | q :: _ => blwA F q p
def objsB (F : Ty → Ty → Bool) (b x : Ty) : Bool := x.objects.all fun o => b.objects.any fun q => blwO F q o
def bodyB (F : Ty → Ty → Bool) (b x : Ty) : Bool := wordsB b x && numsB b x && textsB b x && arrsB F b x && objsB F b x
/-- Is a second type known to lie in a first? (Number: how deep it is looked.) -/
def blwN : Nat → Ty → Ty → Bool
  | 0, b, a => never a || b.all
  | n + 1, b, a => never a || b.all || bodyB (blwN n) b (laidT a)
def lowS (a b : Str) : Str := if (a == []) || (!(b == []) && decide (zcmp a b < 0)) then b else a
def uppS (a b : Str) : Str := if (a == []) || (!(b == []) && decide (zcmp a b > 0)) then b else a
def aptW (x y : Ty) : Bool := (!x.nul || !y.nul) && (!x.fls || !y.fls) && (!x.tru || !y.tru)
def aptI (x y : Ty) : Bool := match x.nums with | [] => true | s :: _ => match y.nums with | [] => true | t :: _ => hollowB (lowS s.1 t.1, uppS s.2 t.2)
def aptX (x y : Ty) : Bool := if x.anyText || y.anyText then !(x.anyText && y.anyText) && decide (x.texts.length = 0) && decide (y.texts.length = 0) else !(x.texts.any fun s => y.texts.contains s)
def aptR (F : Ty → Ty → Bool) (p q : Ar) : Bool := (decide (p.max ≥ 0) && decide (p.max < max p.min q.min)) || (decide (q.max ≥ 0) && decide (q.max < max p.min q.min)) || (decide (max p.min q.min > 0) && F p.item q.item)
def aptA (F : Ty → Ty → Bool) (x y : Ty) : Bool := match x.arrays with | [] => true | p :: _ => match y.arrays with | [] => true | q :: _ => aptR F p q
def aptS (F : Ty → Ty → Bool) (a b : Ob) (s : Str) : Bool := (mstO a s || mstO b s) && F (fldO a s) (fldO b s)
def aptU (F : Ty → Ty → Bool) (a b : Ob) : Bool := (a.names ++ b.names).any (aptS F a b)
def aptO (F : Ty → Ty → Bool) (x y : Ty) : Bool := x.objects.all fun a => y.objects.all fun b => aptU F a b
def aptB (F : Ty → Ty → Bool) (x y : Ty) : Bool := aptW x y && aptI x y && aptX x y && aptA F x y && aptO F x y
/-- Are two types known to have nothing in common? -/
def aptN : Nat → Ty → Ty → Bool
  | 0, _, _ => false
  | n + 1, a, b => aptB (aptN n) (laidT a) (laidT b)
/-! ### What is of a type laid out -/
theorem laid_formed {t : Ty} (h : tformed t = true) : tformed (laidT t) = true := by
  unfold laidT
  split
  · decide
  · exact h
theorem inT_laid {v : V} (hv : formed v = true) (t : Ty) : inT v (laidT t) = inT v t := by
  unfold laidT
  split
  · next h =>
    have k0 := (formed_inv hv).1
    rw [openT, inT_kind hv, inT_eq, inBody, h]
    unfold selB
    simp
  · rfl
theorem laid_all (t : Ty) : (laidT t).all = false := by
  unfold laidT
  split
  · rfl
  · next h => simpa using h
theorem never_in {v : V} (hv : formed v = true) {t : Ty} (h : never t = true) : inT v t = false := by
  simp only [never, bare, Bool.and_eq_true, Bool.not_eq_true', Bool.or_eq_false_iff, decide_eq_true_eq] at h
  obtain ⟨ha, ⟨⟨⟨⟨⟨⟨h1, h2⟩, h3⟩, h4⟩, h5⟩, h6⟩, h7⟩, h8⟩ := h
  rw [inT_eq, inBody, ha, h1, h2, h3, h4, List.length_eq_zero_iff.1 h5, List.length_eq_zero_iff.1 h6, List.length_eq_zero_iff.1 h7, List.length_eq_zero_iff.1 h8]
  simp
/-! ### Alternatives as what they say of each name -/
theorem lkA_some_mem {α : Type} : ∀ {ks : List Str} {xs : List α} {k : Str} {y : α}, lkA ks xs k = some y → k ∈ ks
  | [], xs, k, y, h => by cases xs <;> simp [lkA] at h
  | a :: r, [], k, y, h => by simp [lkA] at h
  | a :: r, b :: xs, k, y, h => by
    rw [lkA] at h
    split at h
    · next e => simp [e]
    · exact List.mem_cons_of_mem _ (lkA_some_mem h)
theorem lkA_out {α : Type} {ks : List Str} {xs : List α} {k : Str} (h : k ∉ ks) : lkA ks xs k = none := by
  cases e : lkA ks xs k with
  | none => rfl
  | some y => exact absurd (lkA_some_mem e) h
theorem fldO_out {o : Ob} {s : Str} (h : s ∉ o.names) : fldO o s = o.rest := by rw [fldO, lkA_out h]; rfl
theorem mstO_out {o : Ob} {s : Str} (h : s ∉ o.names) : mstO o s = false := by rw [mstO, lkA_out h]; rfl
theorem fldO_mem (o : Ob) (s : Str) : fldO o s ∈ o.fields ∨ fldO o s = o.rest := by
  unfold fldO
  cases h : lkA o.names o.fields s with
  | none => exact .inr rfl
  | some x => exact .inl (lkA_mem h)
/-- A well shaped alternative. -/
structure ObOk (o : Ob) : Prop where
  l1 : o.names.length = o.fields.length
  l2 : o.names.length = o.must.length
  asc : o.names.Pairwise fun a b => binA.bLess a b = true
  rest : tformed o.rest = true
  flds : fieldsOk o.fields o.must = true
theorem ObOk.of {o : Ob} (h : obOk o = true) : ObOk o := by
  rw [obOk_eq] at h
  simp only [Bool.and_eq_true, decide_eq_true_eq] at h
  exact ⟨h.1.1.1.1, h.1.1.1.2, asc_of_rise h.1.1.2, h.1.2, h.2⟩
theorem ObOk.fld {o : Ob} (h : ObOk o) (s : Str) : tformed (fldO o s) = true := by
  rcases fldO_mem o s with hm | hm
  · exact fieldsOk_mem h.flds _ hm
  · rw [hm]; exact h.rest
theorem must_never : ∀ {ks : List Str} {fs : List Ty} {ms : List Bool} {s : Str} {t : Ty}, ks.length = ms.length → fieldsOk fs ms = true → lkA ks ms s = some true → lkA ks fs s = some t → never t = false
  | [], fs, ms, s, t, _, _, h, _ => by cases ms <;> simp [lkA] at h
  | k :: ks, [], ms, s, t, _, _, _, h => by simp [lkA] at h
  | k :: ks, f :: fs, [], s, t, _, _, h, _ => by simp [lkA] at h
  | k :: ks, f :: fs, m :: ms, s, t, hl, hf, hm, ht => by
    simp only [fieldsOk, List.headD_cons, List.tail_cons, Bool.and_eq_true, Bool.not_eq_true', Bool.and_eq_false_iff] at hf
    rw [lkA] at hm ht
    split at hm
    · next e =>
      rw [if_pos e] at ht
      cases hm; cases ht
      rcases hf.1.2 with h | h
      · cases h
      · exact h
    · next e =>
      rw [if_neg e] at ht
      exact must_never (by simpa using hl) hf.2 hm ht
theorem lkA_isSome {α β : Type} : ∀ {ks : List Str} {xs : List α} {ys : List β} {s : Str}, xs.length = ys.length → (lkA ks xs s).isSome = (lkA ks ys s).isSome
  | [], xs, ys, s, _ => by cases xs <;> cases ys <;> rfl
  | k :: ks, [], [], s, _ => rfl
  | k :: ks, [], y :: ys, s, h => by simp at h
  | k :: ks, x :: xs, [], s, h => by simp at h
  | k :: ks, x :: xs, y :: ys, s, h => by
    rw [lkA, lkA]
    split
    · rfl
    · exact lkA_isSome (by simpa using h)
theorem ObOk.must {o : Ob} (h : ObOk o) {s : Str} (hm : mstO o s = true) : never (fldO o s) = false := by
  have e := lkA_isSome (ks := o.names) (xs := o.fields) (ys := o.must) (s := s) (by have := h.l1; have := h.l2; omega)
  unfold mstO at hm
  unfold fldO
  cases h1 : lkA o.names o.must s with
  | none => rw [h1] at hm; cases hm
  | some m =>
    rw [h1] at hm e
    simp only [Option.getD_some] at hm
    subst hm
    cases h2 : lkA o.names o.fields s with
    | none => rw [h2] at e; cases e
    | some t => exact must_never h.l2 h.flds h1 h2
theorem tobj_ok {t : Ty} (h : tformed t = true) : ∀ o ∈ t.objects, ObOk o := by
  intro o ho
  rw [tformed_eq] at h
  simp only [Bool.and_eq_true, List.all_eq_true] at h
  exact ObOk.of (h.2.2.2 o ho)
/-- What an alternative asks of an object: for each name. -/
theorem inOb_iff {fs : List (Ty → Bool)} {ks : List Str} {o : Ob} (hk : ks.Pairwise fun a b => binA.bLess a b = true) (hl : ks.length = fs.length) (ho : ObOk o) :
    inObB fs ks o = true ↔ ∀ s, (∀ g, lkA ks fs s = some g → g (fldO o s) = true) ∧ (lkA ks fs s = none → mstO o s = false) := by
  rw [inObB, Bool.and_eq_true, List.all_eq_true, List.all_eq_true]
  have l1 := ho.l1
  have l2 := ho.l2
  constructor
  · rintro ⟨h1, h2⟩ s
    by_cases hs : s ∈ o.names
    · obtain ⟨i, hi⟩ := List.mem_iff_getElem?.1 hs
      have hil : i < o.names.length := (List.getElem?_eq_some_iff.1 hi).1
      have q := h1 i (List.mem_range.2 hil)
      have e1 : fldO o s = o.fields.getD i neverT := by
        rw [fldO, lkA_at ho.asc hi, List.getD]
        rw [List.getElem?_eq_getElem (by omega)]; rfl
      have e2 : mstO o s = o.must.getD i false := by
        rw [mstO, lkA_at ho.asc hi, List.getD]
      rw [inObN, List.getD, hi, Option.getD_some] at q
      rw [e1, e2]
      constructor
      · intro g hg; rw [hg] at q; exact q
      · intro hg; rw [hg] at q; simpa using q
    · rw [fldO_out hs, mstO_out hs]
      refine ⟨fun g hg => ?_, fun _ => rfl⟩
      obtain ⟨j, hj⟩ := List.mem_iff_getElem?.1 (lkA_some_mem hg)
      have hjl : j < ks.length := (List.getElem?_eq_some_iff.1 hj).1
      have q := h2 j (List.mem_range.2 hjl)
      rw [lkA_at hk hj] at hg
      rw [inObK, List.getD, hj, Option.getD_some, List.getD, hg, Option.getD_some, Bool.or_eq_true, List.contains_iff_mem] at q
      exact q.resolve_left hs
  · intro h
    constructor
    · intro i hi
      have hil := List.mem_range.1 hi
      have hi : o.names[i]? = some o.names[i] := List.getElem?_eq_getElem hil
      have q := h o.names[i]
      have e1 : fldO o o.names[i] = o.fields.getD i neverT := by
        rw [fldO, lkA_at ho.asc hi, List.getD]
        rw [List.getElem?_eq_getElem (by omega)]; rfl
      have e2 : mstO o o.names[i] = o.must.getD i false := by
        rw [mstO, lkA_at ho.asc hi, List.getD]
      rw [e1, e2] at q
      rw [inObN, List.getD, hi, Option.getD_some]
      cases hg : lkA ks fs o.names[i] with
      | none => simp only [q.2 hg, Bool.not_false]
      | some g => exact q.1 g hg
    · intro j hj
      have hjl := List.mem_range.1 hj
      have hj : ks[j]? = some ks[j] := List.getElem?_eq_getElem hjl
      have hf : fs[j]? = some (fs[j]'(by omega)) := List.getElem?_eq_getElem (by omega)
      rw [inObK, List.getD, hj, Option.getD_some, List.getD, hf, Option.getD_some, Bool.or_eq_true, List.contains_iff_mem]
      by_cases hs : ks[j] ∈ o.names
      · exact .inl hs
      · right
        have q := (h ks[j]).1 (fs[j]'(by omega)) (by rw [lkA_at hk hj, hf])
        rw [fldO_out hs] at q
        exact q
theorem blwO_names {F : Ty → Ty → Bool} {b a : Ob} (h : blwO F b a = true) (s : Str) : (mstO b s = true → mstO a s = true) ∧ F (fldO b s) (fldO a s) = true := by
  rw [blwO, Bool.and_eq_true, List.all_eq_true] at h
  by_cases hs : s ∈ a.names ++ b.names
  · have q := h.1 s hs
    rw [blwS, Bool.and_eq_true, Bool.not_eq_true', Bool.and_eq_false_iff, Bool.not_eq_false'] at q
    refine ⟨fun hm => ?_, q.2⟩
    rcases q.1 with q | q
    · rw [hm] at q; cases q
    · exact q
  · have h1 : s ∉ a.names := fun hm => hs (List.mem_append.2 (.inl hm))
    have h2 : s ∉ b.names := fun hm => hs (List.mem_append.2 (.inr hm))
    rw [mstO_out h2, fldO_out h1, fldO_out h2]
    exact ⟨(fun e => by cases e), h.2⟩
theorem blwO_of {F : Ty → Ty → Bool} {b a : Ob} (h : ∀ s, (mstO b s = true → mstO a s = true) ∧ F (fldO b s) (fldO a s) = true) (hr : F b.rest a.rest = true) : blwO F b a = true := by
  rw [blwO, Bool.and_eq_true, List.all_eq_true]
  refine ⟨fun s _ => ?_, hr⟩
  rw [blwS, (h s).2, Bool.and_true]
  cases hb : mstO b s
  · rfl
  · rw [(h s).1 hb]; rfl
theorem inSpan_mono' {n : Str} {a b : Sp} (h : spanIn a b = true) (hi : inSpanB n a = true) : inSpanB n b = true := by
  simp only [inSpanB, Bool.and_eq_true, Bool.not_eq_true', Bool.and_eq_false_iff, Bool.not_eq_false', Bool.or_eq_true, beq_iff_eq, decide_eq_true_eq, decide_eq_false_iff_not] at *
  simp only [spanIn, hollowB, Bool.and_eq_true, Bool.or_eq_true, Bool.not_eq_true', beq_eq_false_iff_ne, beq_iff_eq, decide_eq_true_eq] at h
  obtain ⟨i1, i2⟩ := hi
  rcases h with ⟨⟨h1, h2⟩, h3⟩ | ⟨h1, h2⟩
  · exfalso
    have j1 := i1.resolve_left h1
    have j2 := i2.resolve_left h2
    have k1 := zcmp_pre.anti a.1 n trivial trivial
    have := zcmp_pre.trans a.1 n a.2 trivial trivial trivial (by omega) j2
    omega
  · constructor
    · rcases h1 with h1 | ⟨h1, h3⟩
      · exact .inl h1
      · by_cases hb : b.1 = []
        · exact .inl hb
        · right
          have j1 := i1.resolve_left h1
          have k1 := zcmp_pre.anti a.1 n trivial trivial
          have k2 := zcmp_pre.trans b.1 a.1 n trivial trivial trivial h3 (by omega)
          have k3 := zcmp_pre.anti b.1 n trivial trivial
          omega
    · rcases h2 with h2 | ⟨h2, h3⟩
      · exact .inl h2
      · by_cases hb : b.2 = []
        · exact .inl hb
        · right
          have j2 := i2.resolve_left h2
          exact zcmp_pre.trans n a.2 b.2 trivial trivial trivial j2 h3
/-! ### Below is true -/
theorem blwN_sound (n : Nat) : ∀ (b a : Ty), tformed a = true → tformed b = true → blwN n b a = true → ∀ v, formed v = true → inT v a = true → inT v b = true := by
  induction n with
  | zero =>
    intro b a ha hb h v hv hi
    rw [blwN, Bool.or_eq_true] at h
    rcases h with h | h
    · rw [never_in hv h] at hi; cases hi
    · rw [inT_eq, inBody, h]; rfl
  | succ n ih =>
    intro b a ha hb h v hv hi
    rw [blwN, Bool.or_eq_true, Bool.or_eq_true] at h
    rcases h with (h | h) | h
    · rw [never_in hv h] at hi; cases hi
    · rw [inT_eq, inBody, h]; rfl
    · rw [← inT_laid hv a] at hi
      have hx := laid_formed ha
      have hxa := laid_all a
      generalize laidT a = x at *
      obtain ⟨p1, p2, p3⟩ := tformed_parts hx
      obtain ⟨q1, q2, q3⟩ := tformed_parts hb
      have fi := formed_inv hv
      simp only [bodyB, Bool.and_eq_true] at h
      obtain ⟨⟨⟨⟨hw, hn⟩, ht⟩, hr⟩, ho⟩ := h
      rw [inT_eq, inBody, hxa, Bool.false_or] at hi
      rw [inT_eq, inBody, Bool.or_eq_true]
      right
      simp only [wordsB, Bool.and_eq_true, Bool.or_eq_true, Bool.not_eq_true'] at hw
      rcases kinds7 hv with (hk | hk | hk) | hk | hk | hk | hk
      · rw [hk] at hi ⊢
        simp only [if_true] at hi ⊢
        rcases hw.1.1 with h | h
        · rw [hi] at h; cases h
        · exact h
      · rw [hk] at hi ⊢
        simp only [show ¬ ((1 : Int) = 0) by decide, if_true, if_false] at hi ⊢
        rcases hw.1.2 with h | h
        · rw [hi] at h; cases h
        · exact h
      · rw [hk] at hi ⊢
        simp only [show ¬ ((2 : Int) = 0) by decide, show ¬ ((2 : Int) = 1) by decide, if_true, if_false] at hi ⊢
        rcases hw.2 with h | h
        · rw [hi] at h; cases h
        · exact h
      · have hnum := fi.2.1 hk
        rw [hk] at hi ⊢
        simp only [show ¬ ((3 : Int) = 0) by decide, show ¬ ((3 : Int) = 1) by decide, show ¬ ((3 : Int) = 2) by decide, if_true, if_false] at hi ⊢
        rw [numsB] at hn
        cases e1 : x.nums with
        | nil => rw [e1] at hi; cases hi
        | cons s r =>
          rw [e1] at hi hn
          simp only at hi hn
          cases e2 : b.nums with
          | nil => rw [e2] at hn; cases hn
          | cons t r' =>
            rw [e2] at hn
            simp only at hn ⊢
            have b1 := p1 s (by rw [e1]; simp)
            have b2 := q1 t (by rw [e2]; simp)
            exact inSpan_mono' hn hi
      · rw [hk] at hi ⊢
        simp only [show ¬ ((4 : Int) = 0) by decide, show ¬ ((4 : Int) = 1) by decide, show ¬ ((4 : Int) = 2) by decide, show ¬ ((4 : Int) = 3) by decide, if_true, if_false] at hi ⊢
        rw [textsB] at ht
        rw [Bool.or_eq_true] at hi ⊢
        split at ht
        · exact .inl ht
        · next hc =>
          rw [Bool.or_eq_true, not_or] at hc
          exact .inr (List.all_eq_true.1 ht _ (List.contains_iff_mem.1 (hi.resolve_left hc.2)))
      · rw [hk] at hi ⊢
        simp only [show ¬ ((5 : Int) = 0) by decide, show ¬ ((5 : Int) = 1) by decide, show ¬ ((5 : Int) = 2) by decide, show ¬ ((5 : Int) = 3) by decide, show ¬ ((5 : Int) = 4) by decide, if_true, if_false] at hi ⊢
        rw [arrsB] at hr
        cases e1 : x.arrays with
        | nil => rw [e1] at hi; cases hi
        | cons p r =>
          rw [e1] at hi hr
          simp only at hi hr
          cases e2 : b.arrays with
          | nil => rw [e2] at hr; cases hr
          | cons q r' =>
            rw [e2] at hr
            simp only at hr ⊢
            have b1 := p2 p (by rw [e1]; simp)
            have b2 := q2 q (by rw [e2]; simp)
            simp only [blwA, inArB, Bool.and_eq_true, Bool.or_eq_true, Bool.not_eq_true', Bool.or_eq_false_iff, Bool.and_eq_false_iff, decide_eq_true_eq, decide_eq_false_iff_not, List.all_eq_true, List.length_map, List.mem_map, forall_exists_index, and_imp, forall_apply_eq_imp_iff₂] at hi hr ⊢
            obtain ⟨⟨i1, i2⟩, i3⟩ := hi
            obtain ⟨⟨r1, r2⟩, r3⟩ := hr
            refine ⟨⟨by omega, by omega⟩, fun y hy => ?_⟩
            rcases r3 with r3 | r3
            · have : v.items.length ≠ 0 := fun h0 => by rw [List.length_eq_zero_iff.1 h0] at hy; cases hy
              omega
            · exact ih q.item p.item b1 b2 r3 y (fi.2.2.2.2.2.2.2.2 y hy) (i3 y hy)
      · have hkl := (fi.2.2.2.2.2.2.2.1 hk)
        rw [hk] at hi ⊢
        simp only [show ¬ ((6 : Int) = 0) by decide, show ¬ ((6 : Int) = 1) by decide, show ¬ ((6 : Int) = 2) by decide, show ¬ ((6 : Int) = 3) by decide, show ¬ ((6 : Int) = 4) by decide, show ¬ ((6 : Int) = 5) by decide, if_false] at hi ⊢
        rw [List.any_eq_true] at hi ⊢
        obtain ⟨oa, hoa, hia⟩ := hi
        have q := List.all_eq_true.1 ho oa hoa
        rw [List.any_eq_true] at q
        obtain ⟨ob, hob, hlies⟩ := q
        refine ⟨ob, hob, ?_⟩
        have ka := tobj_ok hx oa hoa
        have kb := tobj_ok hb ob hob
        have asc := asc_of_rise hkl.2
        rw [inOb_iff asc (by rw [List.length_map]; exact hkl.1) ka] at hia
        rw [inOb_iff asc (by rw [List.length_map]; exact hkl.1) kb]
        intro s
        obtain ⟨m1, m2⟩ := blwO_names hlies s
        obtain ⟨n1, n2⟩ := hia s
        constructor
        · intro g hg
          have n1 := n1 g hg
          rw [lkA_map] at hg
          cases hy : lkA v.keys v.items s with
          | none => rw [hy] at hg; cases hg
          | some y =>
            rw [hy] at hg
            cases hg
            exact ih _ _ (ka.fld s) (kb.fld s) m2 y (fi.2.2.2.2.2.2.2.2 y (lkA_mem hy)) n1
        · intro hg
          have n2 := n2 hg
          cases hm : mstO ob s
          · rfl
          · rw [m1 hm] at n2; cases n2
end Hm

/- Types of kinds, kinds of types, in the reference. Conditions: see each theorem. NORMX NORMY -/
namespace Hm
open Go (IntKind)
set_option maxHeartbeats 40000000
set_option maxRecDepth 4000
/-- The number of a list of kinds. -/
def kst (acc : Int) (i : Nat) (b : Bool) : Int := if b then IntKind.wrap .u8 ((BitVec.ofInt (IntKind.bits .u8) acc ||| BitVec.ofInt (IntKind.bits .u8) (IntKind.wrap .u8 (1 * 2 ^ (min (Int.toNat (i : Int)) (IntKind.bits .u8))))).toNat : Int) else acc
def kfl : List Bool → Nat → Int → Int
  | [], _, acc => acc
  | b :: r, i, acc => kfl r (i + 1) (kst acc i b)
theorem kfl_snoc (b : Bool) : ∀ (l : List Bool) (i : Nat) (acc : Int), kfl (l ++ [b]) i acc = kst (kfl l i acc) (i + l.length) b
  | [], i, acc => rfl
  | c :: r, i, acc => by simp only [List.cons_append, kfl, kfl_snoc b r, List.length_cons]; congr 1; omega
def tKinds (t : Ty) : List Bool := [t.nul, t.fls, t.tru, decide ((t.nums.length : Int) > 0), t.anyText || decide ((t.texts.length : Int) > 0), decide ((t.arrays.length : Int) > 0), decide ((t.objects.length : Int) > 0)]
def tK (t : Ty) : Int := if t.all then 127 else kfl (tKinds t) 0 0
theorem kinds_ret {T : Tab} (h : Fn T F.shape_Kinds shape_Kinds.fn) (t : Ty) : Ret T F.shape_Kinds [.val t.av] (one (.int .u8 (tK t))) := by
  have key : ∀ l : List Bool, l.length = 7 → W T (.loop [3, 34, 35] shape_Kinds.l1) ⟨lstE [(3, .av (.int .u8 0)), (34, .av (.agg (l.map AV.bool))), (35, .av (.int .i64 0))], lstB [(3, none), (34, none), (35, none)]⟩
      (Qblk 0 (Qseq T (.seq (.reg shape_Kinds.r10 [2]) .ret) (Qend shape_Kinds.fn [.val t.av] (one (.int .u8 (kfl l 0 0)))))) := by
    intro l hl
    refine W.list l (fun i (_ : Unit) => ⟨lstE [(3, .av (.int .u8 (kfl (l.take i) 0 0))), (34, .av (.agg (l.map AV.bool))), (35, .av (.int .i64 (i : Int)))], lstB [(3, none), (34, none), (35, none)]⟩) (fun _ _ => True) () rfl trivial ?_ ?_
    · intro i b u hx hi _
      have hx' : (l.map AV.bool)[i]? = some (AV.bool b) := by rw [List.getElem?_map, hx]; rfl
      have e : kfl (l.take (i + 1)) 0 0 = kst (kfl (l.take i) 0 0) i b := by
        rw [List.take_add_one, hx, show (some b).toList = [b] from rfl, kfl_snoc, List.length_take, Nat.min_eq_left (by omega), Nat.zero_add]
      repeat' (first | refine zA ?_ | ((apply W1.idxA1; (iterate 3 exact rfl); omega; omega; exact hx')) | refine zB ?_ | (refine zC ?_ ?_ <;> intro hc; all_goals first | (cases hc; done) | ((try simp only [hc]); (try simp only [bm] at hc))) | refine zE ?_ | refine zNV ?_ | fail)
      all_goals refine ⟨(), trivial, ?_⟩
      all_goals rw [e]
      all_goals simp only [kst, if_true, if_false, Bool.false_eq_true, *]
      all_goals first | rfl | trace_state
    · intro u _
      repeat' (first | refine zA ?_ | refine zB ?_ | (refine zC ?_ ?_ <;> intro hc; all_goals first | (cases hc; done) | ((try simp only [hc]); (try simp only [bm] at hc))) | refine zE ?_ | refine zNV ?_ | fail)
      rw [List.take_length]
      exact Qend.num rfl rfl rfl
  refine Ret.mk h rfl ?_
  have hk := key (tKinds t) rfl
  clear key
  rw [Ty.av_eq] at *
  have ht : tK t = if t.all then 127 else kfl (tKinds t) 0 0 := rfl
  by_cases ha : t.all = true
  · rw [if_pos ha] at ht
    rw [ht]
    repeat' (first | refine zA ?_ | refine zB ?_ | (refine zC ?_ ?_ <;> intro hc; all_goals first | (cases hc; done) | ((try simp only [hc]); (try simp only [bm] at hc))) | refine zE ?_ | refine zNV ?_ | fail)
    all_goals first | exact Qend.num rfl rfl rfl | (exfalso; simp_all; done)
  · rw [if_neg ha] at ht
    rw [ht]
    rw [Bool.not_eq_true] at ha
    repeat' (first | refine zA ?_ | ((apply W1.buildC; exact rfl; exact rfl; (simp only [fillC, splice, cellsOf, mkV, resTV, tvOf, one, sealRow, sealRows, Cell.shut, List.map_cons, List.map_nil, List.length_cons, List.length_nil, Nat.reduceAdd, Nat.reduceLeDiff, ↓reduceIte, Bool.false_eq_true, List.take_succ_cons, List.take_zero, List.drop_succ_cons, List.drop_zero, List.nil_append, List.cons_append]; rfl))) | (exact hk) | refine zB ?_ | (refine zC ?_ ?_ <;> intro hc; all_goals first | (cases hc; done) | ((try simp only [hc]); (try simp only [bm] at hc))) | refine zE ?_ | refine zNV ?_ | fail)
    all_goals have hl : (tKinds t).map AV.bool = [.bool t.nul, .bool t.fls, .bool t.tru, .bool (decide (((sprow t.nums).length : Int) > 0)), .bool (t.anyText || decide ((t.texts.length : Int) > 0)), .bool (decide ((t.arrays.length : Int) > 0)), .bool (decide ((t.objects.length : Int) > 0))] := (by simp only [tKinds, sprow_len, List.map_cons, List.map_nil])
    all_goals rw [hl, hc] at hk
    all_goals exact hk
end Hm

/- Why a value isn't of a type: plain laws. Conditions: none (definitions and plain lemmas). -/
namespace Hm
open Go (IntKind)
set_option maxRecDepth 4000
/-- Why, from the outside in: what each level tells, and the step to what lies inside. -/
abbrev Miss := List (Int × V)
def numV (s : Str) : V := .mk 3 s [] [] []
def txtV (s : Str) : V := .mk 4 [] s [] []
def lkItems (t : Ty) : Nat → List (Ty → Miss) → Miss
  | _, [] => []
  | i, f :: fs => if (f t).isEmpty then lkItems t (i + 1) fs else (0, numV (itoa (i : Int))) :: f t
def lkArr (fs : List (Ty → Miss)) (a : Ar) : Miss :=
  if (fs.length : Int) < a.min then [(4, zeroV)] else if a.max ≥ 0 ∧ (fs.length : Int) > a.max then [(5, zeroV)] else lkItems a.item 0 fs
def lkNames (o : Ob) (ks : List Str) : List Str → Miss
  | [] => []
  | n :: ns => if mstO o n && !ks.contains n then [(6, txtV n)] else lkNames o ks ns
def lkKeys (o : Ob) : List Str → List (Ty → Miss) → Miss
  | k :: ks, f :: fs => if (f (fldO o k)).isEmpty then lkKeys o ks fs else (0, txtV k) :: f (fldO o k)
  | _, _ => []
def lkFields (fs : List (Ty → Miss)) (ks : List Str) (o : Ob) : Miss :=
  if (lkNames o ks o.names).isEmpty then lkKeys o ks fs else lkNames o ks o.names
def lkObjs (fs : List (Ty → Miss)) (ks : List Str) : List Ob → Miss
  | [o] => lkFields fs ks o
  | l => if l.any (fun o => (lkFields fs ks o).isEmpty) then [] else [(7, zeroV)]
def lookBody (k : Int) (n t : Str) (fs : List (Ty → Miss)) (ks : List Str) (ty : Ty) : Miss :=
  if ty.all then [] else if !kb (tK ty) k then [(1, zeroV)] else
    if k = 3 then (match ty.nums with | [] => [] | s :: _ => if inSpanB n s then [] else [(2, zeroV)]) else
    if k = 4 then (if ty.anyText || ty.texts.contains t then [] else [(3, zeroV)]) else
    if k = 5 then (match ty.arrays with | [] => [] | a :: _ => lkArr fs a) else
    if k = 6 then lkObjs fs ks ty.objects else []
mutual
def lookM : V → Ty → Miss
  | .mk k n t is ks => lookBody k n t (lookFs is) ks
def lookFs : List V → List (Ty → Miss)
  | [] => []
  | v :: r => lookM v :: lookFs r
end
theorem lookFs_eq (l : List V) : lookFs l = l.map lookM := by
  induction l with
  | nil => rfl
  | cons x l ih => simp only [lookFs, List.map_cons, ih]
theorem lookM_eq (v : V) : lookM v = lookBody v.kind v.num v.text (v.items.map lookM) v.keys := by
  cases v with
  | mk k n t is ks => simp only [lookM, lookFs_eq, V.kind, V.num, V.text, V.items, V.keys]
theorem kfl_kb : ∀ b0 b1 b2 b3 b4 b5 b6 : Bool, (kb (kfl [b0, b1, b2, b3, b4, b5, b6] 0 0) 0 = b0) ∧ (kb (kfl [b0, b1, b2, b3, b4, b5, b6] 0 0) 1 = b1) ∧ (kb (kfl [b0, b1, b2, b3, b4, b5, b6] 0 0) 2 = b2) ∧ (kb (kfl [b0, b1, b2, b3, b4, b5, b6] 0 0) 3 = b3) ∧
    (kb (kfl [b0, b1, b2, b3, b4, b5, b6] 0 0) 4 = b4) ∧ (kb (kfl [b0, b1, b2, b3, b4, b5, b6] 0 0) 5 = b5) ∧ (kb (kfl [b0, b1, b2, b3, b4, b5, b6] 0 0) 6 = b6) := by decide
theorem pos_len {α : Type} (l : List α) : decide ((l.length : Int) > 0) = !l.isEmpty := by cases l <;> simp <;> omega
theorem lkItems_nil {t : Ty} : ∀ {fs : List (Ty → Miss)} {i : Nat}, (lkItems t i fs).isEmpty = fs.all fun f => (f t).isEmpty
  | [], i => rfl
  | f :: fs, i => by
    rw [lkItems, List.all_cons]
    cases h : (f t).isEmpty with
    | true => rw [if_pos rfl, Bool.true_and]; exact lkItems_nil
    | false => rw [if_neg (by simp), Bool.false_and]; rfl
theorem lkNames_nil {o : Ob} {ks : List Str} : ∀ {ns : List Str}, (lkNames o ks ns).isEmpty = ns.all fun n => !(mstO o n && !ks.contains n)
  | [] => rfl
  | n :: ns => by
    rw [lkNames, List.all_cons]
    cases h : mstO o n && !ks.contains n with
    | false => rw [if_neg (by simp), Bool.not_false, Bool.true_and]; exact lkNames_nil
    | true => rw [if_pos rfl, Bool.not_true, Bool.false_and]; rfl
theorem lkKeys_nil {o : Ob} : ∀ {ks : List Str} {fs : List (Ty → Miss)}, ks.length = fs.length → ((lkKeys o ks fs).isEmpty = true ↔ ∀ (i : Nat) (k : Str) (f : Ty → Miss), ks[i]? = some k → fs[i]? = some f → (f (fldO o k)).isEmpty = true)
  | [], [], _ => by simp [lkKeys]
  | [], f :: fs, h => by simp at h
  | k :: ks, [], h => by simp at h
  | k :: ks, f :: fs, h => by
    rw [lkKeys]
    have ih := lkKeys_nil (o := o) (ks := ks) (fs := fs) (by simpa using h)
    constructor
    · intro he i k' f' hk hf
      split at he
      · rename_i hf0
        cases i with
        | zero => simp only [List.getElem?_cons_zero, Option.some.injEq] at hk hf; subst hk; subst hf; exact hf0
        | succ i => exact ih.1 he i k' f' (by simpa using hk) (by simpa using hf)
      · cases he
    · intro hall
      rw [if_pos (hall 0 k f rfl rfl)]
      exact ih.2 fun i k' f' hk hf => hall (i + 1) k' f' (by simpa using hk) (by simpa using hf)
theorem lkA_get {α : Type} : ∀ {ks : List Str} {xs : List α} {k : Str} {y : α}, lkA ks xs k = some y → ∃ i : Nat, ks[i]? = some k ∧ xs[i]? = some y
  | [], xs, k, y, h => by cases xs <;> simp [lkA] at h
  | a :: r, [], k, y, h => by simp [lkA] at h
  | a :: r, b :: xs, k, y, h => by
    rw [lkA] at h
    split at h
    · next e => cases h; exact ⟨0, by simp [e], rfl⟩
    · obtain ⟨i, h1, h2⟩ := lkA_get h
      exact ⟨i + 1, by simpa using h1, by simpa using h2⟩
/-- An object of one alternative: nothing is told just if it is of it. -/
theorem lkFields_nil {is : List V} {ks : List Str} {o : Ob} (hk : ks.Pairwise fun a b => binA.bLess a b = true) (hl : ks.length = is.length) (ho : ObOk o)
    (ih : ∀ x ∈ is, ∀ u : Ty, tformed u = true → (lookM x u).isEmpty = inT x u) : (lkFields (is.map lookM) ks o).isEmpty = inObB (is.map inT) ks o := by
  rw [Bool.eq_iff_iff, inOb_iff hk (by rw [List.length_map]; exact hl) ho, lkFields]
  have hK := lkKeys_nil (o := o) (ks := ks) (fs := is.map lookM) (by rw [List.length_map]; exact hl)
  have hN : (lkNames o ks o.names).isEmpty = true ↔ ∀ s, mstO o s = true → s ∈ ks := by
    rw [lkNames_nil, List.all_eq_true]
    constructor
    · intro h s hs
      by_cases hm : s ∈ o.names
      · have := h s hm
        simpa [hs] using this
      · rw [mstO_out hm] at hs; cases hs
    · intro h s _
      cases hs : mstO o s with
      | false => rfl
      | true => simp [h s hs]
  constructor
  · intro h s
    split at h
    · rename_i h1
      refine ⟨fun g hg => ?_, fun hn => ?_⟩
      · obtain ⟨i, e1, e2⟩ := lkA_get hg
        rw [List.getElem?_map, Option.map_eq_some_iff] at e2
        obtain ⟨x, e3, rfl⟩ := e2
        have := (hK.1 h) i s (lookM x) e1 (by rw [List.getElem?_map, e3]; rfl)
        rw [← ih x (List.mem_of_getElem? e3) _ (ho.fld s)]; exact this
      · cases hs : mstO o s with
        | false => rfl
        | true =>
          have hm := hN.1 h1 s hs
          obtain ⟨i, hi⟩ := List.mem_iff_getElem?.1 hm
          have := lkA_at (xs := is.map inT) hk hi
          rw [hn] at this
          have hlt := (List.getElem?_eq_some_iff.1 hi).1
          rw [List.getElem?_eq_getElem (by rw [List.length_map]; omega)] at this
          cases this
    · rename_i h1; exact absurd h h1
  · intro h
    have h1 : (lkNames o ks o.names).isEmpty = true := hN.2 fun s hs => by
      by_cases hm : s ∈ ks
      · exact hm
      · have := (h s).2 (lkA_out hm)
        rw [hs] at this; cases this
    rw [if_pos h1, hK]
    intro i k f e1 e2
    rw [List.getElem?_map, Option.map_eq_some_iff] at e2
    obtain ⟨x, e3, rfl⟩ := e2
    rw [ih x (List.mem_of_getElem? e3) _ (ho.fld k)]
    exact (h k).1 (inT x) (by rw [lkA_at hk e1, List.getElem?_map, e3]; rfl)
theorem any_cong {α : Type} {p q : α → Bool} : ∀ {l : List α}, (∀ x ∈ l, p x = q x) → l.any p = l.any q
  | [], _ => rfl
  | x :: l, h => by rw [List.any_cons, List.any_cons, h x (by simp), any_cong fun y hy => h y (by simp [hy])]
theorem lkObjs_nil {fs : List (Ty → Miss)} {ks : List Str} : ∀ {l : List Ob}, (lkObjs fs ks l).isEmpty = l.any fun o => (lkFields fs ks o).isEmpty
  | [] => rfl
  | [o] => by simp [lkObjs]
  | o :: p :: l => by
    rw [lkObjs]
    · split
      · rename_i h; rw [h]; rfl
      · rename_i h; rw [show (List.any _ _) = false from by simpa using h]; rfl
    · intro q h; cases h
/-- **Nothing is told just if the value is of the type.** -/
theorem lookM_nil : ∀ v : V, formed v = true → ∀ t : Ty, tformed t = true → (lookM v t).isEmpty = inT v t := by
  intro v
  induction v using V.ind with
  | h v ih =>
  intro hf t ht
  have hfi := formed_inv hf
  have ih' : ∀ x ∈ v.items, ∀ u : Ty, tformed u = true → (lookM x u).isEmpty = inT x u := fun x hx u hu => ih x hx (hfi.2.2.2.2.2.2.2.2 x hx) u hu
  obtain ⟨p1, p2, p3⟩ := tformed_parts ht
  rw [lookM_eq, inT_eq]
  unfold lookBody inBody
  cases hA : t.all
  rotate_left
  · rfl
  simp only [Bool.false_eq_true, if_false, Bool.false_or]
  have hK : tK t = kfl (tKinds t) 0 0 := by rw [tK, hA]; rfl
  rw [hK, tKinds]
  obtain ⟨k0, k1, k2, k3, k4, k5, k6⟩ := kfl_kb t.nul t.fls t.tru (decide ((t.nums.length : Int) > 0)) (t.anyText || decide ((t.texts.length : Int) > 0)) (decide ((t.arrays.length : Int) > 0)) (decide ((t.objects.length : Int) > 0))
  rcases kinds7 hf with (hk | hk | hk) | hk | hk | hk | hk
  · rw [hk, k0]; cases t.nul <;> rfl
  · rw [hk, k1]; cases t.fls <;> rfl
  · rw [hk, k2]; cases t.tru <;> rfl
  · rw [hk, k3, pos_len]
    cases t.nums with
    | nil => rfl
    | cons s r => show (if inSpanB v.num s = true then ([] : Miss) else _).isEmpty = inSpanB v.num s
                  cases inSpanB v.num s <;> rfl
  · rw [hk, k4, pos_len]
    cases t.anyText with
    | true => rfl
    | false =>
      cases h : t.texts with
      | nil => rfl
      | cons s r =>
        show (if (false || (s :: r).contains v.text) = true then ([] : Miss) else _).isEmpty = (false || (s :: r).contains v.text)
        cases (false || (s :: r).contains v.text) <;> rfl
  · rw [hk, k5, pos_len]
    cases h : t.arrays with
    | nil => rfl
    | cons a r =>
      show (lkArr (v.items.map lookM) a).isEmpty = inArB (v.items.map inT) a
      have hit : ∀ x ∈ v.items, (lookM x a.item).isEmpty = inT x a.item := fun x hx => ih' x hx _ (p2 a (by rw [h]; simp))
      rw [lkArr, inArB, List.length_map, List.length_map]
      split
      · rename_i h1; rw [show decide ((v.items.length : Int) < a.min) = true from decide_eq_true h1]; rfl
      · rename_i h1
        rw [show decide ((v.items.length : Int) < a.min) = false from decide_eq_false h1, Bool.false_or]
        split
        · rename_i h2; rw [decide_eq_true h2.1, decide_eq_true h2.2]; rfl
        · rename_i h2
          rw [show (decide (a.max ≥ 0) && decide ((v.items.length : Int) > a.max)) = false from by
            rw [Bool.and_eq_false_iff, decide_eq_false_iff_not, decide_eq_false_iff_not]; omega, Bool.not_false, Bool.true_and, lkItems_nil, List.all_map, List.all_map]
          rw [Bool.eq_iff_iff, List.all_eq_true, List.all_eq_true]
          exact ⟨fun q x hx => by have := q x hx; simp only [Function.comp] at this ⊢; rw [← hit x hx]; exact this, fun q x hx => by have := q x hx; simp only [Function.comp] at this ⊢; rw [hit x hx]; exact this⟩
  · rw [hk, k6, pos_len]
    have hl := (hfi.2.2.2.2.2.2.2.1 hk).1
    have hr := asc_of_rise (hfi.2.2.2.2.2.2.2.1 hk).2
    cases h : t.objects with
    | nil => rfl
    | cons o r =>
      show (lkObjs (v.items.map lookM) v.keys (o :: r)).isEmpty = (o :: r).any (inObB (v.items.map inT) v.keys)
      rw [lkObjs_nil]
      refine any_cong fun q hq => ?_
      exact lkFields_nil hr hl (tobj_ok ht q (by rw [h]; exact hq)) ih'
end Hm

/- Whole numbers in tens, as the program has them. Conditions: see each theorem. -/
namespace Hm
open Go (IntKind)
set_option maxHeartbeats 4000000
set_option maxRecDepth 4000
def two (v w : AV) : CR := ⟨[([.av v], false), ([.av w], false)], []⟩
theorem Qend.two {fn : AFun} {as : List Arg} {v w v' w' : AV} {st : St} (hr : results st fn.results = some [([.av v], false), ([.av w], false)]) (ho : outs st 0 as = some []) (h : v = v') (h' : w = w') : Qend fn as (Hm.two v' w') .ret st := by
  subst h h'; exact ⟨.inr rfl, hr, ho⟩
theorem tensFormed_ret {T : Tab} (h : Fn T F.tens_Formed tens_Formed.fn) (s : Str) (hb : s.length ≤ 1073741824) : Ret T F.tens_Formed [.val (.str s)] (one (.bool (number s))) := by
  refine Ret.mk h rfl ?_
  by_cases hs : s = [48]
  · subst hs
    repeat' (first | refine zA ?_ | refine zB ?_ | (refine zC ?_ ?_ <;> intro hc; all_goals first | (cases hc; done) | ((try simp only [hc]); (try simp only [bm] at hc))) | refine zE ?_ | refine zNT ?_ | fail)
    exact Qend.boo rfl rfl rfl
  have hs' : (s == [48]) = false := beq_eq_false_iff_ne.2 hs
  have hnum : number s = ((digs s).all isDig && decide (0 < (digs s).length) && !(bAt (digs s) 0 == 48)) := by simp only [number, hs', Bool.not_false, Bool.and_true]
  have fin : ∀ d : Str, d = digs s → 0 < d.length → ¬ ((bAt d 0).toNat : Int) = 48 → d.length ≤ 1073741824 → W T (AC.loop [0, 23, 24] tens_Formed.l1) ⟨lstE [(0, .av (.str d)), (23, .av (.int .i64 (d.length : Nat))), (24, .av (.int .i64 0))], lstB [(0, none), (23, none), (24, none)]⟩
      (Qblk 0 (Qseq T ((AC.reg tens_Formed.r13 [2]).seq AC.ret) (Qend tens_Formed.fn [.val (.str s)] (one (.bool (number s)))))) := by
    intro d hd hl h48 hlb
    refine W.listP d (fun i (_ : Unit) s => s.put 24 (.av (.int .i64 (i : Int)))) (fun i _ => (d.take i).all isDig = true) () (by simp) rfl ?_ ?_
    · intro i x u hx hi hp
      have e := bAt_get hx
      have e' : bAt d ((i : Int)).toNat = x := e
      repeat' (first | refine zA ?_ | refine zB ?_ | (refine zC ?_ ?_ <;> intro hc; all_goals first | (cases hc; done) | ((try simp only [hc]); (try simp only [bm] at hc))) | refine zE ?_ | refine zNT ?_ | fail)
      all_goals first
        | (refine Qend.boo rfl rfl ?_; rw [hnum, ← hd, all_false hx (by rw [← e]; simp only [isDig, Bool.and_eq_false_iff, decide_eq_false_iff_not]; simp only [Int.toNat_natCast] at *; omega)]; rfl)
        | (refine ⟨(), ?_, rfl⟩; rw [all_take_succ hx, hp, ← e]; simp only [isDig, Bool.true_and, Bool.and_eq_true, decide_eq_true_eq]; simp only [Int.toNat_natCast] at *; omega)
        | skip
    · intro u hp
      rw [List.take_length] at hp
      repeat' (first | refine zA ?_ | refine zB ?_ | (refine zC ?_ ?_ <;> intro hc; all_goals first | (cases hc; done) | ((try simp only [hc]); (try simp only [bm] at hc))) | refine zE ?_ | refine zNT ?_ | fail)
      refine Qend.boo rfl rfl ?_
      have : ¬ bAt d 0 = 48 := fun h => h48 ((u8_eq _ 48 (by omega)).2 h)
      have : (bAt d 0 == 48) = false := beq_eq_false_iff_ne.2 this
      rw [hnum, ← hd, hp, decide_eq_true hl, this]; rfl
  by_cases hm : 0 < s.length ∧ ((bAt s 0).toNat : Int) = 45
  · have hd : digs s = s.drop 1 := by rw [digs, if_pos ⟨hm.1, (u8_eq _ 45 (by omega)).1 hm.2⟩]
    have ed : List.drop (Int.toNat 1) (List.take s.length s) = s.drop 1 := by rw [List.take_length]; rfl
    have hne : ¬ s = [] := (fun h => by rw [h] at hm; simp at hm)
    have hm' : ((bAt s (Int.toNat 0)).toNat : Int) = 45 := hm.2
    by_cases hl : 0 < (s.drop 1).length
    · have hne2 : ¬ List.drop (Int.toNat 1) (List.take s.length s) = [] := by rw [ed]; exact (fun h => by rw [h] at hl; simp at hl)
      have hl2 : 0 < (List.drop (Int.toNat 1) (List.take s.length s)).length := by rw [ed]; exact hl
      by_cases h48 : ((bAt (s.drop 1) 0).toNat : Int) = 48
      · have h48' : ((bAt (List.drop (Int.toNat 1) (List.take s.length s)) (Int.toNat 0)).toNat : Int) = 48 := by rw [ed]; exact h48
        repeat' (first | refine zA ?_ | refine zB ?_ | (refine zC ?_ ?_ <;> intro hc; all_goals first | (cases hc; done) | ((try simp only [hc]); (try simp only [bm] at hc))) | refine zE ?_ | refine zNT ?_ | fail)
        refine Qend.boo rfl rfl ?_
        have : (bAt (s.drop 1) 0) = 48 := (u8_eq _ 48 (by omega)).1 h48
        rw [hnum, hd, this]; simp
      · have h48' : ¬ ((bAt (List.drop (Int.toNat 1) (List.take s.length s)) (Int.toNat 0)).toNat : Int) = 48 := by rw [ed]; exact h48
        repeat' (first | refine zA ?_ | (exact fin _ (ed.trans hd.symm) (by rw [ed]; exact hl) h48' (by rw [ed]; simp; omega)) | refine zB ?_ | (refine zC ?_ ?_ <;> intro hc; all_goals first | (cases hc; done) | ((try simp only [hc]); (try simp only [bm] at hc))) | refine zE ?_ | refine zNT ?_ | fail)
    · have e0 : s.drop 1 = [] := List.eq_nil_of_length_eq_zero (by omega)
      have hne2 : List.drop (Int.toNat 1) (List.take s.length s) = [] := by rw [ed, e0]
      repeat' (first | refine zA ?_ | refine zB ?_ | (refine zC ?_ ?_ <;> intro hc; all_goals first | (cases hc; done) | ((try simp only [hc]); (try simp only [bm] at hc))) | refine zE ?_ | refine zNT ?_ | fail)
      refine Qend.boo rfl rfl ?_
      rw [hnum, hd, e0]; rfl
  · have hd : digs s = s := by rw [digs, if_neg (fun h => hm ⟨h.1, (u8_eq _ 45 (by omega)).2 h.2⟩)]
    by_cases hl : 0 < s.length
    · have hne : ¬ s = [] := (fun h => by rw [h] at hl; simp at hl)
      have hm' : ¬ ((bAt s (Int.toNat 0)).toNat : Int) = 45 := fun h => hm ⟨hl, h⟩
      by_cases h48 : ((bAt s 0).toNat : Int) = 48
      · have h48' : ((bAt s (Int.toNat 0)).toNat : Int) = 48 := h48
        repeat' (first | refine zA ?_ | refine zB ?_ | (refine zC ?_ ?_ <;> intro hc; all_goals first | (cases hc; done) | ((try simp only [hc]); (try simp only [bm] at hc))) | refine zE ?_ | refine zNT ?_ | fail)
        refine Qend.boo rfl rfl ?_
        have : (bAt s 0) = 48 := (u8_eq _ 48 (by omega)).1 h48
        rw [hnum, hd, this]; simp
      · have h48' : ¬ ((bAt s (Int.toNat 0)).toNat : Int) = 48 := h48
        repeat' (first | refine zA ?_ | (exact fin s hd.symm hl h48 hb) | refine zB ?_ | (refine zC ?_ ?_ <;> intro hc; all_goals first | (cases hc; done) | ((try simp only [hc]); (try simp only [bm] at hc))) | refine zE ?_ | refine zNT ?_ | fail)
    · have e0 : s = [] := List.eq_nil_of_length_eq_zero (by omega)
      subst e0
      repeat' (first | refine zA ?_ | refine zB ?_ | (refine zC ?_ ?_ <;> intro hc; all_goals first | (cases hc; done) | ((try simp only [hc]); (try simp only [bm] at hc))) | refine zE ?_ | refine zNT ?_ | fail)
      exact Qend.boo rfl rfl rfl
end Hm

/- Whole numbers in tens in order, as the program has them. Conditions: see each theorem. -/
namespace Hm
open Go (IntKind)
set_option maxHeartbeats 4000000
set_option maxRecDepth 4000
theorem tensSize_ret {T : Tab} (h : Fn T F.tens_size tens_size.fn) (a b : Str) (hl : a.length ≤ 1073741824) (hl' : b.length ≤ 1073741824) : Ret T F.tens_size [.val (.str a), .val (.str b)] (one (.int .i64 (ncmp a b))) := by
  refine Ret.mk h rfl ?_
  repeat' (first | refine zA ?_ | refine zB ?_ | (refine zC ?_ ?_ <;> intro hc; all_goals first | (cases hc; done) | ((try simp only [hc]); (try simp only [bm] at hc))) | refine zE ?_ | refine zN ?_ | fail)
  all_goals refine Qend.num rfl rfl ?_
  all_goals simp only [ncmp, tcmp]
  · have hne : ¬ a.length = b.length := by omega
    simp only [hne, if_false]
    by_cases h1 : a.length < b.length
    · simp only [h1, if_true]
      by_cases h2 : (-1 : Int) > (a.length : Int) - b.length
      · simp [h2]
      · have : (a.length : Int) - b.length = -1 := by omega
        simp [this]
    · simp only [h1, if_false]
      have h2 : ¬ (-1 : Int) > (a.length : Int) - b.length := by omega
      simp only [h2, if_false]
      by_cases h3 : (1 : Int) < (a.length : Int) - b.length
      · simp [h3]
      · have : (a.length : Int) - b.length = 1 := by omega
        simp [this]
  · rw [if_pos (by omega)]; simp_all
  · rw [if_pos (by omega)]; simp_all
  · rw [if_pos (by omega)]; simp_all
theorem tensSplit_ret {T : Tab} (h : Fn T F.tens_split tens_split.fn) (a : Str) (ha : 0 < a.length) (hl : a.length ≤ 1073741824) : Ret T F.tens_split [.val (.str a)] (two (.bool (minus a)) (.str (if minus a then a.drop 1 else a))) := by
  have ed : List.drop (Int.toNat 1) (List.take a.length a) = a.drop 1 := by rw [List.take_length]; rfl
  by_cases hm : ((bAt a 0).toNat : Int) = 45
  · have hm' : ((bAt a (Int.toNat 0)).toNat : Int) = 45 := hm
    have hmm : minus a = true := by simp [minus, hm]
    rw [hmm]
    refine Ret.mk h rfl ?_
    repeat' (first | refine zA ?_ | refine zB ?_ | (refine zC ?_ ?_ <;> intro hc; all_goals first | (cases hc; done) | ((try simp only [hc]); (try simp only [bm] at hc))) | refine zE ?_ | refine zN ?_ | fail)
    refine Qend.two rfl rfl rfl ?_
    rw [ed]
  · have hm' : ¬ ((bAt a (Int.toNat 0)).toNat : Int) = 45 := hm
    have hmm : minus a = false := by simp [minus, hm]
    rw [hmm]
    refine Ret.mk h rfl ?_
    repeat' (first | refine zA ?_ | refine zB ?_ | (refine zC ?_ ?_ <;> intro hc; all_goals first | (cases hc; done) | ((try simp only [hc]); (try simp only [bm] at hc))) | refine zE ?_ | refine zN ?_ | fail)
    exact Qend.two rfl rfl rfl rfl
theorem tensCmp_ret {T : Tab} (h : Fn T F.tens_Cmp tens_Cmp.fn) (h1 : Fn T F.tens_size tens_size.fn) (h2 : Fn T F.tens_split tens_split.fn) (h3 : Fn T F.tens_Formed tens_Formed.fn) (a b : Str) (ha : number a = true) (hb : number b = true) (hl : a.length ≤ 1073741824) (hl' : b.length ≤ 1073741824) :
    Ret T F.tens_Cmp [.val (.str a), .val (.str b)] (two (.int .i64 (zcmp a b)) (.int .i64 0)) := by
  have f1 := tensFormed_ret h3 a hl
  have f2 := tensFormed_ret h3 b hl'
  rw [ha] at f1
  rw [hb] at f2
  have s1 := tensSplit_ret h2 a (number_len ha) hl
  have s2 := tensSplit_ret h2 b (number_len hb) hl'
  have z1 := tensSize_ret h1 a b hl hl'
  have z2 := tensSize_ret h1 (b.drop 1) (a.drop 1) (by simp; omega) (by simp; omega)
  refine Ret.mk h rfl ?_
  cases ma : minus a <;> cases mb : minus b <;> simp only [ma, mb, Bool.false_eq_true, if_false, if_true] at s1 s2
  repeat' (first | refine zA ?_ | refine WQ.cl h3.modes ?_ | refine W1.cl h3.modes (f1) ?_ | refine WQ.cl h3.modes ?_ | refine W1.cl h3.modes (f2) ?_ | refine WQ.cl h2.modes ?_ | refine W1.cl h2.modes (s1) ?_ | refine WQ.cl h2.modes ?_ | refine W1.cl h2.modes (s2) ?_ | refine WQ.cl h1.modes ?_ | refine W1.cl h1.modes (z1) ?_ | refine WQ.cl h1.modes ?_ | refine W1.cl h1.modes (z2) ?_ | refine zB ?_ | (refine zC ?_ ?_ <;> intro hc; all_goals first | (cases hc; done) | ((try simp only [hc]); (try simp only [bm] at hc))) | refine zE ?_ | refine zN ?_ | fail)
  all_goals refine Qend.two rfl rfl ?_ rfl
  all_goals first | (simp [zcmp, ma, mb]; done) | (simp [zcmp, ma, mb]; rfl)
end Hm

/- Whether a number lies in a span, and the text of a number, in package member. Conditions: see each theorem. -/
namespace Hm
open Go (IntKind)
set_option maxHeartbeats 4000000
set_option maxRecDepth 4000
/-- An error, as it is told: nothing, or a misfit with what lies inside. -/
def errAV : Miss → AV
  | [] => .nili
  | (r, s) :: m => .iface 1 (.vptr ([.int .i64 r] ++ s.row ++ [errAV m]))
structure TnFns (T : Tab) : Prop where
  a1 : Fn T F.tens_Cmp tens_Cmp.fn
  a2 : Fn T F.tens_size tens_size.fn
  a3 : Fn T F.tens_split tens_split.fn
  a4 : Fn T F.tens_Formed tens_Formed.fn
section
variable {T : Tab}
theorem number_nil : number [] = false := rfl
theorem tensCmpE_ret (f : TnFns T) (a : Str) (ha : number a = true) (hl : a.length ≤ 1073741824) : Ret T F.tens_Cmp [.val (.str a), .val (.str [])] (two (.int .i64 0) (.int .i64 1)) := by
  have f1 := tensFormed_ret f.a4 a hl
  have f2 := tensFormed_ret f.a4 [] (by simp)
  rw [ha] at f1
  rw [number_nil] at f2
  refine Ret.mk f.a1 rfl ?_
  repeat' (first | refine zA ?_ | refine WQ.cl f.a4.modes ?_ | refine W1.cl f.a4.modes (f1) ?_ | refine WQ.cl f.a4.modes ?_ | refine W1.cl f.a4.modes (f2) ?_ | refine zB ?_ | (refine zC ?_ ?_ <;> intro hc; all_goals first | (cases hc; done) | ((try simp only [hc]); (try simp only [bm] at hc))) | refine zE ?_ | refine zN ?_ | fail)
  all_goals first | exact Qend.two rfl rfl rfl rfl | (exfalso; simp_all; done)
def zcmpE (a b : Str) : Int := if b = [] then 0 else zcmp a b
def zerrE (b : Str) : Int := if b = [] then 1 else 0
theorem tensCmp0_ret (f : TnFns T) (a b : Str) (ha : number a = true) (hb : b ≠ [] → number b = true) (hl : a.length ≤ 1073741824) (hl' : b.length ≤ 1073741824) :
    Ret T F.tens_Cmp [.val (.str a), .val (.str b)] (two (.int .i64 (zcmpE a b)) (.int .i64 (zerrE b))) := by
  by_cases h : b = []
  · subst h; rw [zcmpE, if_pos rfl, zerrE, if_pos rfl]; exact tensCmpE_ret f a ha hl
  · rw [zcmpE, if_neg h, zerrE, if_neg h]; exact tensCmp_ret f.a1 f.a2 f.a3 f.a4 a b ha (hb h) hl hl'
theorem inSpanE (n : Str) (s : Sp) : inSpanB n s = (decide (zcmpE n s.1 ≥ 0) && decide (zcmpE n s.2 ≤ 0)) := by
  unfold inSpanB zcmpE
  by_cases h1 : s.1 = [] <;> by_cases h2 : s.2 = [] <;> simp [h1, h2]
  all_goals first | done | (intro h; exact absurd h h1) | (rw [Bool.eq_iff_iff]; simp [h1, h2])
theorem mInSpan_ret (h : Fn T F.member_inSpan member_inSpan.fn) (f : TnFns T) (n : Str) (s : Str × Str) (hn : number n = true) (hl : n.length ≤ 1073741824) (h1 : s.1 ≠ [] → number s.1 = true) (h2 : s.2 ≠ [] → number s.2 = true)
    (l1 : s.1.length ≤ 1073741824) (l2 : s.2.length ≤ 1073741824) : Ret T F.member_inSpan [.val (.str n), .val (.agg [.str s.1, .str s.2])] (one (.bool (inSpanB n s))) := by
  have r1 := tensCmp0_ret f n s.1 hn h1 hl l1
  have r2 := tensCmp0_ret f n s.2 hn h2 hl l2
  rw [inSpanE]
  generalize zcmpE n s.1 = c1 at *
  generalize zcmpE n s.2 = c2 at *
  generalize zerrE s.1 = d1 at *
  generalize zerrE s.2 = d2 at *
  refine Ret.mk h rfl ?_
  repeat' (first | refine zA ?_ | refine WQ.cl f.a1.modes ?_ | refine W1.cl f.a1.modes (r1) ?_ | refine WQ.cl f.a1.modes ?_ | refine W1.cl f.a1.modes (r2) ?_ | refine zB ?_ | (refine zC ?_ ?_ <;> intro hc; all_goals first | (cases hc; done) | ((try simp only [hc]); (try simp only [bm] at hc))) | refine zE ?_ | refine zN ?_ | fail)
  all_goals first | (refine Qend.boo rfl rfl ?_; simp_all; done) | (refine Qend.boo rfl rfl ?_; simp_all; omega) | (exfalso; simp_all; omega) | trace_state
theorem tensOf_ret (h : Fn T F.tens_Of tens_Of.fn) (hm : T.modes F.strconv_Itoa = [.val]) (hp : T.prim F.strconv_Itoa = some pItoa) (n : Int) (h0 : 0 ≤ n) (h1 : n ≤ 1073741824) : Ret T F.tens_Of [.val (.int .i64 n)] (one (.str (itoa n))) := by
  have r : Ret T F.strconv_Itoa [.val (.int .i64 n)] (one (.str (itoa n))) := Ret.prim hp (by simp only [pItoa]; rw [if_pos (by omega)]; rfl)
  refine Ret.mk h rfl ?_
  repeat' (first | refine zA ?_ | refine WQ.cl hm ?_ | refine W1.cl hm (r) ?_ | refine zB ?_ | (refine zC ?_ ?_ <;> intro hc; all_goals first | (cases hc; done) | ((try simp only [hc]); (try simp only [bm] at hc))) | refine zE ?_ | refine zN ?_ | fail)
  all_goals first | exact ⟨.inr rfl, rfl, rfl⟩ | trace_state
end
end Hm

/- Why an array isn't of a type: the program's walk. NORMX NORMY Conditions: see each theorem. -/
namespace Hm
open Go (IntKind)
set_option maxHeartbeats 4000000
set_option maxRecDepth 4000
section
variable {T : Tab}
structure ToFns (T : Tab) : Prop where
  a1 : Fn T F.tens_Of tens_Of.fn
  m1 : T.modes F.strconv_Itoa = [.val]
  p1 : T.prim F.strconv_Itoa = some pItoa
theorem errAV_cons (r : Int) (s : V) (m : Miss) : errAV ((r, s) :: m) = .iface 1 (.vptr [.int .i64 r, .int .i64 s.kind, .str s.num, .str s.text, .lst 5 (s.items.map V.row), .lst 1 (srow s.keys), errAV m]) := by
  rw [errAV, V.row_eq]; rfl
theorem lookArr_ret (h : Fn T F.member_lookArray member_lookArray.fn) (hl : T.modes F.member_look = [.val, .val]) (f : ToFns T) (v : V) (a : Ar) (hb : v.items.length ≤ 1073741824)
    (ih : ∀ x ∈ v.items, Ret T F.member_look [.val x.av, .val a.item.av] (one (errAV (lookM x a.item)))) : Ret T F.member_lookArray [.val v.av, .val (.agg a.row)] (one (errAV (lkArr (v.items.map lookM) a))) := by
  have e2 : (v.items.map V.row).length = v.items.length := List.length_map ..
  rw [lkArr, List.length_map]
  refine Ret.mk h rfl ?_
  rw [V.av_eq, Ar.row_eq]
  by_cases h1 : (v.items.length : Int) < a.min
  · rw [if_pos h1, errAV_cons]
    have d1 : decide ((v.items.length : Int) < a.min) = true := decide_eq_true h1
    repeat' (first | refine zA ?_ | refine zB ?_ | (refine zC ?_ ?_ <;> intro hc; all_goals first | (cases hc; done) | ((try simp only [hc]); (try simp only [bm] at hc))) | refine zE ?_ | refine zNV ?_ | fail)
    all_goals first | exact ⟨.inr rfl, rfl, rfl⟩ | (exfalso; simp_all; omega) | trace_state
  · rw [if_neg h1]
    by_cases h2 : a.max ≥ 0 ∧ (v.items.length : Int) > a.max
    · rw [if_pos h2, errAV_cons]
      obtain ⟨h2, h3⟩ := h2
      repeat' (first | refine zA ?_ | refine zB ?_ | (refine zC ?_ ?_ <;> intro hc; all_goals first | (cases hc; done) | ((try simp only [hc]); (try simp only [bm] at hc))) | refine zE ?_ | refine zNV ?_ | fail)
      all_goals first | exact ⟨.inr rfl, rfl, rfl⟩ | (exfalso; simp_all; omega) | trace_state
    · rw [if_neg h2]
      repeat' (first | refine zA ?_ | refine zB ?_ | (refine zC ?_ ?_ <;> intro hc; all_goals first | (cases hc; done) | ((try simp only [hc]); (try simp only [bm] at hc))) | refine zE ?_ | refine zNV ?_ | fail)
      all_goals refine W.listP v.items (fun i (_ : Unit) s => s.put 36 (.av (.int .i64 (i : Int)))) (fun i _ => lkItems a.item 0 (v.items.map lookM) = lkItems a.item i ((v.items.drop i).map lookM)) () rfl rfl ?_ ?_
      all_goals first
        | (intro u hp
           rw [List.drop_length, List.map_nil, lkItems] at hp
           rw [hp, errAV]
           repeat' (first | refine zA ?_ | refine zB ?_ | (refine zC ?_ ?_ <;> intro hc; all_goals first | (cases hc; done) | ((try simp only [hc]); (try simp only [bm] at hc))) | refine zE ?_ | refine zNV ?_ | fail)
           exact ⟨.inr rfl, rfl, rfl⟩)
        | (intro i x u hx hi hp
           have r := ih x (List.mem_of_getElem? hx)
           rw [V.av_eq, Ty.av_eq] at r
           have t := tensOf_ret f.a1 f.m1 f.p1 (i : Int) (by omega) (by omega)
           have hd : v.items.drop i = x :: v.items.drop (i + 1) := by
             rw [List.drop_eq_getElem_cons hi]
             rw [List.getElem?_eq_getElem hi, Option.some.injEq] at hx
             rw [hx]
           rw [hd, List.map_cons, lkItems] at hp
           cases hm : lookM x a.item with
           | nil =>
             rw [hm, List.isEmpty_nil, if_pos rfl] at hp
             rw [hm, errAV] at r
             repeat' (first | refine zA ?_ | refine WQ.cl hl ?_ | refine W1.cl hl (r) ?_ | refine WQ.cl f.a1.modes ?_ | refine W1.cl f.a1.modes (t) ?_ | refine zB ?_ | (refine zC ?_ ?_ <;> intro hc; all_goals first | (cases hc; done) | ((try simp only [hc]); (try simp only [bm] at hc))) | refine zE ?_ | refine zNV ?_ | fail)
             all_goals exact ⟨(), hp, rfl⟩
           | cons p m =>
             obtain ⟨q, s⟩ := p
             rw [hm, List.isEmpty_cons, if_neg (by simp)] at hp
             rw [hp, errAV_cons]
             rw [hm] at r
             rw [errAV_cons] at r ⊢
             generalize AV.vptr [.int .i64 q, .int .i64 s.kind, .str s.num, .str s.text, .lst 5 (s.items.map V.row), .lst 1 (srow s.keys), errAV m] = ew at *
             repeat' (first | refine zA ?_ | refine WQ.cl hl ?_ | refine W1.cl hl (r) ?_ | refine WQ.cl f.a1.modes ?_ | refine W1.cl f.a1.modes (t) ?_ | refine zB ?_ | (refine zC ?_ ?_ <;> intro hc; all_goals first | (cases hc; done) | ((try simp only [hc]); (try simp only [bm] at hc))) | refine zE ?_ | refine zNV ?_ | fail)
             all_goals first | exact ⟨.inr rfl, rfl, rfl⟩ | trace_state)
end
end Hm

/- Why an object isn't of one of several alternatives: the program's walk. NORMX NORMY Conditions: see each theorem. -/
namespace Hm
open Go (IntKind)
set_option maxHeartbeats 4000000
set_option maxRecDepth 4000
section
variable {T : Tab}
theorem lkObjs_many {fs : List (Ty → Miss)} {ks : List Str} {l : List Ob} (h : l.length ≠ 1) : lkObjs fs ks l = if l.any (fun o => (lkFields fs ks o).isEmpty) then [] else [(7, zeroV)] := by
  match l, h with
  | [], _ => rfl
  | [o], h => exact absurd rfl h
  | o :: p :: l, _ => rfl
theorem lookObj_ret (h : Fn T F.member_lookObject member_lookObject.fn) (hl : T.modes F.member_lookFields = [.val, .val]) (fs : List (Ty → Miss)) (ks : List Str) (v : V) (l : List Ob) (hb : l.length ≤ 1073741824)
    (ih : ∀ o ∈ l, Ret T F.member_lookFields [.val v.av, .val (.agg o.row)] (one (errAV (lkFields fs ks o)))) : Ret T F.member_lookObject [.val v.av, .val (.lst 12 (l.map Ob.row))] (one (errAV (lkObjs fs ks l))) := by
  have e2 : (l.map Ob.row).length = l.length := List.length_map ..
  by_cases h1 : l.length = 1
  · obtain ⟨o, rfl⟩ := List.length_eq_one_iff.1 h1
    have r := ih o (by simp)
    rw [V.av_eq, Ob.row_eq] at r
    rw [lkObjs]
    refine Ret.mk h rfl ?_
    rw [V.av_eq, List.map_cons, List.map_nil, Ob.row_eq]
    cases hm : lkFields fs ks o with
    | nil =>
      rw [hm, errAV] at r
      rw [errAV]
      repeat' (first | refine zA ?_ | refine WQ.cl hl ?_ | refine W1.cl hl (r) ?_ | refine zB ?_ | (refine zC ?_ ?_ <;> intro hc; all_goals first | (cases hc; done) | ((try simp only [hc]); (try simp only [bm] at hc))) | refine zE ?_ | refine zNV ?_ | fail)
      all_goals first | exact ⟨.inr rfl, rfl, rfl⟩ | (exfalso; simp_all; done) | trace_state
    | cons p m =>
      obtain ⟨q, s⟩ := p
      rw [hm, errAV_cons] at r
      rw [errAV_cons]
      generalize AV.vptr [.int .i64 q, .int .i64 s.kind, .str s.num, .str s.text, .lst 5 (s.items.map V.row), .lst 1 (srow s.keys), errAV m] = ew at *
      repeat' (first | refine zA ?_ | refine WQ.cl hl ?_ | refine W1.cl hl (r) ?_ | refine zB ?_ | (refine zC ?_ ?_ <;> intro hc; all_goals first | (cases hc; done) | ((try simp only [hc]); (try simp only [bm] at hc))) | refine zE ?_ | refine zNV ?_ | fail)
      all_goals first | exact ⟨.inr rfl, rfl, rfl⟩ | (exfalso; simp_all; done) | trace_state
  · have d1 : ((l.length : Int) == 1) = false := by simp; omega
    rw [lkObjs_many h1]
    refine Ret.mk h rfl ?_
    rw [V.av_eq]
    repeat' (first | refine zA ?_ | refine zB ?_ | (refine zC ?_ ?_ <;> intro hc; all_goals first | (cases hc; done) | ((try simp only [hc]); (try simp only [bm] at hc))) | refine zE ?_ | refine zNV ?_ | fail)
    all_goals first | (exfalso; simp_all; omega) | skip
    all_goals refine W.listP l (fun i (_ : Unit) s => s.put 17 (.av (.int .i64 (i : Int)))) (fun i _ => (l.take i).any (fun o => (lkFields fs ks o).isEmpty) = false) () rfl rfl ?_ ?_
    all_goals first
      | (intro u hp
         rw [List.take_length] at hp
         rw [hp, if_neg (by simp), errAV_cons]
         repeat' (first | refine zA ?_ | refine zB ?_ | (refine zC ?_ ?_ <;> intro hc; all_goals first | (cases hc; done) | ((try simp only [hc]); (try simp only [bm] at hc))) | refine zE ?_ | refine zNV ?_ | fail)
         exact ⟨.inr rfl, rfl, rfl⟩)
      | (intro i x u hx hi hp
         have r := ih x (List.mem_of_getElem? hx)
         rw [V.av_eq, Ob.row_eq] at r
         have hq := any_take_succ (p := fun o => (lkFields fs ks o).isEmpty) hx
         cases hm : lkFields fs ks x with
         | nil =>
           have ht := any_true (p := fun o => (lkFields fs ks o).isEmpty) hx (by simp [hm])
           rw [ht, if_pos rfl, errAV]
           rw [hm, errAV] at r
           repeat' (first | refine zA ?_ | refine WQ.cl hl ?_ | refine W1.cl hl (r) ?_ | refine zB ?_ | (refine zC ?_ ?_ <;> intro hc; all_goals first | (cases hc; done) | ((try simp only [hc]); (try simp only [bm] at hc))) | refine zE ?_ | refine zNV ?_ | fail)
           all_goals first | exact ⟨.inr rfl, rfl, rfl⟩ | trace_state
         | cons p m =>
           obtain ⟨q, s⟩ := p
           rw [hp, hm] at hq
           rw [hm, errAV_cons] at r
           generalize AV.vptr [.int .i64 q, .int .i64 s.kind, .str s.num, .str s.text, .lst 5 (s.items.map V.row), .lst 1 (srow s.keys), errAV m] = ew at *
           repeat' (first | refine zA ?_ | refine WQ.cl hl ?_ | refine W1.cl hl (r) ?_ | refine zB ?_ | (refine zC ?_ ?_ <;> intro hc; all_goals first | (cases hc; done) | ((try simp only [hc]); (try simp only [bm] at hc))) | refine zE ?_ | refine zNV ?_ | fail)
           all_goals first | exact ⟨(), by simpa using hq, rfl⟩ | trace_state)
end
end Hm

/- Copies of lists. Conditions: see each theorem. -/
namespace Hm
open Go (IntKind)
set_option maxHeartbeats 4000000
set_option maxRecDepth 4000
theorem W1.appA {T : Tab} {st : St} {K : St → Prop} {dst : Option Nat} {g : Option (Nat × Bool)} {b k : Nat} {x y : Opd} {base : List (List Cell)} {rows : List (List AV)} (hg : wanted st g = some true)
    (hy : st.opd y = .av (.lst k rows)) (hx : st.opd x = .own [.own k base] false) (hl : base.length + rows.length ≤ limit) (hk : K (putD dst (.own [.own k (base ++ rows.map (·.map .av))] false) (x.eat st).hush)) : W1 T ⟨dst, .append b k x y, g⟩ st K := by
  refine W1.go hg (WS.op (v := .own [.own k (base ++ rows.map (·.map .av))] false) (st' := (x.eat st).hush) rfl ?_ hk)
  simp only [stepOp, appNew, hy, if_true, hx, List.length_map, true_and, if_pos hl]
theorem W1.appE {T : Tab} {st : St} {K : St → Prop} {dst : Option Nat} {g : Option (Nat × Bool)} {b k : Nat} {nn : Bool} {x y : Opd} {base : List (List Cell)} (hg : wanted st g = some true)
    (hy : st.opd y = .av (.emp k nn)) (hx : st.opd x = .own [.own k base] false) (hl : base.length ≤ limit) (hk : K (putD dst (.own [.own k (base ++ [])] false) (x.eat st).hush)) : W1 T ⟨dst, .append b k x y, g⟩ st K := by
  refine W1.go hg (WS.op (v := .own [.own k (base ++ [])] false) (st' := (x.eat st).hush) rfl ?_ hk)
  simp only [stepOp, appNew, hy, if_true, hx, List.length_nil, Nat.add_zero, true_and, if_pos hl]
end Hm

/- Values in memory of their own. Conditions: see each theorem. -/
namespace Hm
open Go (IntKind)
set_option maxHeartbeats 4000000
set_option maxRecDepth 4000
def crow (l : List (List AV)) : List (List Cell) := l.map fun r => r.map .av
mutual
def twC : V → List Cell
  | .mk k n t is ks => [.av (.int .i64 k), .av (.str n), .av (.str t), .own 5 (twCs is), .own 1 (crow (srow ks))]
def twCs : List V → List (List Cell)
  | [] => []
  | v :: r => twC v :: twCs r
end
theorem twCs_eq (l : List V) : twCs l = l.map twC := by
  induction l with
  | nil => rfl
  | cons x l ih => simp only [twCs, List.map_cons, ih]
theorem twC_eq (v : V) : twC v = [.av (.int .i64 v.kind), .av (.str v.num), .av (.str v.text), .own 5 (v.items.map twC), .own 1 (crow (srow v.keys))] := by
  cases v with
  | mk k n t is ks => simp only [twC, V.kind, V.num, V.text, V.items, V.keys, twCs_eq]
theorem sealRow_av (r : List AV) : sealRow (r.map .av) = r := by
  induction r with
  | nil => rfl
  | cons x r ih => simp only [List.map_cons, sealRow, Cell.shut, ih]
theorem seal_crow (l : List (List AV)) : sealRows (crow l) = l := by
  induction l with
  | nil => rfl
  | cons x r ih => simp only [crow, List.map_cons, sealRows, sealRow_av] at *; rw [ih]
theorem sealRows_len (l : List (List Cell)) : (sealRows l).length = l.length := by
  induction l with
  | nil => rfl
  | cons x r ih => simp only [sealRows, List.length_cons, ih]
theorem sealRows_mp (l : List (List Cell)) : sealRows l = l.map sealRow := by
  induction l with
  | nil => rfl
  | cons x r ih => simp only [sealRows, List.map_cons, ih]
theorem seal_twC (v : V) : sealRow (twC v) = v.row := by
  induction v using V.ind with
  | h v ih =>
  rw [twC_eq, V.row_eq]
  have : sealRows (v.items.map twC) = v.items.map V.row := by
    generalize v.items = l at ih
    induction l with
    | nil => rfl
    | cons x r ih2 => simp only [List.map_cons, sealRows, ih x (by simp), ih2 (fun y hy => ih y (by simp [hy]))]
  simp only [sealRow, Cell.shut, this, seal_crow]
theorem seal_twCs (l : List V) : sealRows (l.map twC) = l.map V.row := by
  induction l with
  | nil => rfl
  | cons x r ih2 => simp only [List.map_cons, sealRows, seal_twC, ih2]
theorem crow_len (l : List (List AV)) : (crow l).length = l.length := by simp [crow]
/-- What Twin reaches. -/
structure TwFns (T : Tab) : Prop where
  a1 : Fn T F.value_Twin value_Twin.fn
  m1 : T.modes F.slices_Clone_Lstring_string = [.val]
  p1 : T.prim F.slices_Clone_Lstring_string = some (pClone 1)
  m2 : T.modes F.slices_Clone_LValue_Value = [.val]
  p2 : T.prim F.slices_Clone_LValue_Value = some (pClone 5)
theorem clone_prim {T : Tab} {f k : Nat} (hp : T.prim f = some (pClone k)) (rows : List (List AV)) (hl : rows.length ≤ limit) : Ret T f [.val (.lst k rows)] ⟨[([.own k (crow rows)], false)], []⟩ :=
  Ret.prim hp (by simp only [pClone]; rw [if_pos ⟨trivial, hl⟩]; rfl)
/-- The list of items while it is gone through. -/
def twR (l : List V) (i : Nat) : List (List Cell) := (l.take i).map twC ++ crow ((l.drop i).map V.row)
theorem twR_len (l : List V) (i : Nat) : (twR l i).length = l.length := by simp [twR, crow]; omega
theorem twR_get {l : List V} {i : Nat} {x : V} (h : l[i]? = some x) : (twR l i)[i]? = some (x.row.map .av) := by
  have hl : i < l.length := (List.getElem?_eq_some_iff.1 h).1
  rw [twR, crow, List.getElem?_append_right (by simp; omega), List.getElem?_map, List.getElem?_map, List.getElem?_drop, List.length_map, List.length_take, Nat.min_eq_left (by omega)]
  simp [h]
theorem twR_set {l : List V} {i : Nat} {x : V} (h : l[i]? = some x) : (twR l i).set i (twC x) = twR l (i + 1) := by
  have hl : i < l.length := (List.getElem?_eq_some_iff.1 h).1
  have e1 : ((l.take i).map twC).length = i := by rw [List.length_map, List.length_take]; omega
  rw [List.getElem?_eq_getElem hl] at h
  rw [twR, twR, crow, crow, List.set_append_right _ _ (by omega), e1, Nat.sub_self, List.drop_eq_getElem_cons hl, List.map_cons, List.map_cons, List.set_cons_zero, List.take_succ_eq_append_getElem hl, List.map_append, List.append_assoc]
  simp at h
  simp [h]
theorem twR_all (l : List V) : twR l l.length = l.map twC := by simp [twR, crow]
theorem valueTwin_ret {T : Tab} (f : TwFns T) : ∀ v : V, v.bk ≤ 1073741824 → Ret T F.value_Twin [.val v.av] ⟨[(twC v, true)], []⟩ := by
  intro v
  induction v using V.ind with
  | h v ih =>
  intro hb
  have hbk := V.bk_eq v
  have hk := len_sbk v.keys
  have hl := V.len_bks v.items
  have c1 := clone_prim f.p1 (srow v.keys) (by rw [srow_len]; show _ ≤ 4294967296; omega)
  have c2 := clone_prim f.p2 (v.items.map V.row) (by rw [List.length_map]; show _ ≤ 4294967296; omega)
  have lr := sealRows_len (crow (v.items.map V.row))
  rw [crow_len, List.length_map] at lr
  refine Ret.mk f.a1 rfl ?_
  rw [V.av_eq, twC_eq]
  repeat' (first | refine zA ?_ | refine WQ.cl f.m1 ?_ | refine W1.cl f.m1 (c1) ?_ | refine WQ.cl f.m2 ?_ | refine W1.cl f.m2 (c2) ?_ | refine zB ?_ | (refine zC ?_ ?_ <;> intro hc; all_goals first | (cases hc; done) | ((try simp only [hc]); (try simp only [bm] at hc))) | refine zE ?_ | refine zN ?_ | fail)
  refine W.list v.items (fun i (_ : Unit) => ⟨lstE [(1, .plc ⟨.box 1, [], 0⟩), (2, .plc ⟨.box 2, [], 0⟩), (14, .av (.int .i64 ((sealRows (crow (v.items.map V.row))).length : Nat))), (15, .av (.int .i64 (i : Int)))],
    lstB [(1, some [.av (.int .i64 v.kind), .av (.str v.num), .av (.str v.text), .own 5 (twR v.items i), .own 1 (crow (srow v.keys))]), (2, some [.av (.int .i64 0), .av (.str []), .av (.str []), .own 5 [], .own 1 []]), (14, none), (15, none)]⟩) (fun _ _ => True) () rfl trivial ?_ ?_
  · intro i x u hx hi _
    have r := ih x (List.mem_of_getElem? hx) (by have := V.bk_item (List.mem_of_getElem? hx); omega)
    have g1 := twR_len v.items i
    have g2 := twR_get hx
    have g3 := twR_set hx
    have g4 : (x.row.map Cell.av).length = 5 := by rw [V.row_eq]; rfl
    have g5 : x.row.length = 5 := by rw [V.row_eq]; rfl
    rw [twC_eq] at r g3
    repeat' (first | refine zA ?_ | ((apply W1.iadrO; exact rfl; exact rfl; exact rfl; exact rfl; exact rfl; omega; (rw [g1]; omega))) | ((apply W1.loadP (vs := x.row); exact rfl; exact rfl; exact rfl; exact rfl; exact g2; exact g5)) | ((apply W1.storeP (cs' := [.av (.int .i64 v.kind), .av (.str v.num), .av (.str v.text), .own 5 (twR v.items (i + 1)), .own 1 (crow (srow v.keys))]); exact rfl; exact rfl; exact rfl; exact rfl; exact rfl; exact g2; exact rfl; exact g4; (rw [← g3]; rfl))) | refine WQ.cl f.a1.modes ?_ | refine W1.cl f.a1.modes (r) ?_ | refine zB ?_ | (refine zC ?_ ?_ <;> intro hc; all_goals first | (cases hc; done) | ((try simp only [hc]); (try simp only [bm] at hc))) | refine zE ?_ | refine zN ?_ | fail)
    exact ⟨(), trivial, rfl⟩
  · intro u _
    repeat' (first | refine zA ?_ | refine zB ?_ | (refine zC ?_ ?_ <;> intro hc; all_goals first | (cases hc; done) | ((try simp only [hc]); (try simp only [bm] at hc))) | refine zE ?_ | refine zN ?_ | fail)
    exact ⟨.inr rfl, by rw [← twR_all]; rfl, rfl⟩
end Hm

/- One field got: value.Get. Conditions: see each theorem. -/
namespace Hm
open Go (IntKind)
set_option maxHeartbeats 4000000
set_option maxRecDepth 4000
structure GgFns (T : Tab) : Prop where
  a1 : Fn T F.value_Get value_Get.fn
  a4 : Fn T F.slices_Index_Lstring_string slices_Index_Lstring_string.fn
  tw : TwFns T
section
variable {T : Tab}
theorem indexS_ret (h : Fn T F.slices_Index_Lstring_string slices_Index_Lstring_string.fn) (l : List Str) (hl : l.length ≤ 1073741824) (k : Str) :
    ∃ n : Int, ((n = -1 ∧ k ∉ l) ∨ ∃ i : Nat, n = (i : Int) ∧ l[i]? = some k ∧ ∀ j, j < i → l[j]? ≠ some k) ∧ Ret T F.slices_Index_Lstring_string [.val (.lst 1 (srow l)), .val (.str k)] (one (.int .i64 n)) := by
  have e1 := srow_len l
  refine Ret.ex1 (g := fun n => AV.int .i64 n) (R := fun n => ((n = -1 ∧ k ∉ l) ∨ ∃ i : Nat, n = (i : Int) ∧ l[i]? = some k ∧ ∀ j, j < i → l[j]? ≠ some k)) h rfl ?_
  repeat' (first | refine zA ?_ | refine zB ?_ | (refine zC ?_ ?_ <;> intro hc; all_goals first | (cases hc; done) | ((try simp only [hc]); (try simp only [bm] at hc))) | refine zE ?_ | refine zN ?_ | fail)
  refine W.listP l (fun i (_ : Unit) s => s.put 8 (.av (.int .i64 (i : Int)))) (fun i _ => ∀ j, j < i → l[j]? ≠ some k) () (by simp) rfl ?_ ?_
  · intro i x u hx hi hp
    repeat' (first | refine zA ?_ | refine zB ?_ | (refine zC ?_ ?_ <;> intro hc; all_goals first | (cases hc; done) | ((try simp only [hc]); (try simp only [bm] at hc))) | refine zE ?_ | refine zN ?_ | fail)
    · refine ⟨_, .inr ⟨i, rfl, ?_, hp⟩, Qend.num rfl rfl rfl⟩
      rw [hx]; simp_all
    · refine ⟨(), fun j hj => ?_, rfl⟩
      by_cases hji : j < i
      · exact hp j hji
      · obtain rfl : j = i := by omega
        rw [hx]; intro e; simp_all
  · intro u hp
    repeat' (first | refine zA ?_ | refine zB ?_ | (refine zC ?_ ?_ <;> intro hc; all_goals first | (cases hc; done) | ((try simp only [hc]); (try simp only [bm] at hc))) | refine zE ?_ | refine zN ?_ | fail)
    refine ⟨_, .inl ⟨rfl, fun hm => ?_⟩, Qend.num rfl rfl rfl⟩
    obtain ⟨j, hj⟩ := List.mem_iff_getElem?.1 hm
    exact hp j (List.getElem?_eq_some_iff.1 hj).1 hj
theorem zeroV_row : zeroV.row = [.int .i64 0, .str [], .str [], .lst 5 [], .lst 1 []] := rfl
theorem getG_ret (f : GgFns T) (v : V) (hb : v.bk ≤ 1073741824) (k : Str) :
    ∃ C, sealRow C = ((getV v k).getD zeroV).row ∧ Ret T F.value_Get [.val v.av, .val (.str k)] ⟨[(C, true), ([.av (.bool (getV v k).isSome)], false)], []⟩ := by
  have hbk := V.bk_eq v
  have hk := len_sbk v.keys
  have hl := V.len_bks v.items
  have e2 : (v.items.map V.row).length = v.items.length := List.length_map ..
  obtain ⟨n, hn, r1⟩ := indexS_ret f.a4 v.keys (by omega) k
  have main : ∃ r : CR, (∃ C, sealRow C = ((getV v k).getD zeroV).row ∧ r = ⟨[(C, true), ([.av (.bool (getV v k).isSome)], false)], []⟩) ∧ Ret T F.value_Get [.val v.av, .val (.str k)] r := by
    refine Ret.ex f.a1 rfl ?_
    rw [V.av_eq]
    by_cases hk6 : v.kind = 6
    · by_cases hin : ∃ i : Nat, n = (i : Int) ∧ i < v.items.length
      · obtain ⟨i, rfl, hi⟩ := hin
        obtain ⟨x, hx⟩ : ∃ x, v.items[i]? = some x := ⟨v.items[i], List.getElem?_eq_getElem hi⟩
        have hg : getV v k = some x := by
          rcases hn with ⟨h, _⟩ | ⟨j, hj, h1, h2⟩
          · omega
          · obtain rfl : j = i := by omega
            rw [getV, if_pos hk6, lookL_at k h1 h2, hx]
        have rt := valueTwin_ret f.tw x (by have := V.bk_item (List.mem_of_getElem? hx); omega)
        have hC := seal_twC x
        have e0 := V.row_eq x
        rw [V.av_eq, twC_eq] at rt
        rw [twC_eq, e0] at hC
        rw [hg]
        repeat' (first | refine zA ?_ | refine WQ.cl f.a4.modes ?_ | refine W1.cl f.a4.modes (r1) ?_ | (refine W1.cd1 f.tw.a1.modes hC rt ?_) | refine zB ?_ | (refine zC ?_ ?_ <;> intro hc; all_goals first | (cases hc; done) | ((try simp only [hc]); (try simp only [bm] at hc))) | refine zE ?_ | refine zN ?_ | fail)
        all_goals first | (exfalso; omega) | (exfalso; simp_all; done) | skip
        all_goals refine ⟨_, ⟨_, ?_, rfl⟩, .inr rfl, rfl, rfl⟩
        all_goals exact e0.symm
      · have hg : getV v k = none := by
          rcases hn with ⟨_, h⟩ | ⟨j, hj, h1, h2⟩
          · rw [getV, if_pos hk6, lookL_none k h]
          · rw [getV, if_pos hk6, lookL_at k h1 h2, List.getElem?_eq_none]
            have : ¬ j < v.items.length := fun hlt => hin ⟨j, hj, hlt⟩
            omega
        have hcond : n < 0 ∨ (v.items.length : Int) ≤ n := by
          rcases hn with ⟨h, _⟩ | ⟨j, hj, h1, h2⟩
          · left; omega
          · right
            have : ¬ j < v.items.length := fun hlt => hin ⟨j, hj, hlt⟩
            omega
        rw [hg]
        repeat' (first | refine zA ?_ | refine WQ.cl f.a4.modes ?_ | refine W1.cl f.a4.modes (r1) ?_ | refine zB ?_ | (refine zC ?_ ?_ <;> intro hc; all_goals first | (cases hc; done) | ((try simp only [hc]); (try simp only [bm] at hc))) | refine zE ?_ | refine zN ?_ | fail)
        all_goals first | (exfalso; omega) | (exfalso; simp_all; done) | skip
        all_goals refine ⟨_, ⟨_, ?_, rfl⟩, .inr rfl, rfl, rfl⟩
        all_goals rfl
    · have hg : getV v k = none := by rw [getV, if_neg hk6]
      rw [hg]
      repeat' (first | refine zA ?_ | refine WQ.cl f.a4.modes ?_ | refine W1.cl f.a4.modes (r1) ?_ | refine zB ?_ | (refine zC ?_ ?_ <;> intro hc; all_goals first | (cases hc; done) | ((try simp only [hc]); (try simp only [bm] at hc))) | refine zE ?_ | refine zN ?_ | fail)
      all_goals first | (exfalso; omega) | (exfalso; simp_all; done) | skip
      all_goals refine ⟨_, ⟨_, ?_, rfl⟩, .inr rfl, rfl, rfl⟩
      all_goals rfl
  obtain ⟨r, ⟨C, hC, rfl⟩, hr⟩ := main
  exact ⟨C, hC, hr⟩
end
end Hm

/- The search in a sorted list. Conditions: see each theorem. -/
namespace Hm
open Go (IntKind)
set_option maxHeartbeats 4000000
set_option maxRecDepth 4000
theorem isNaNs_ret {T : Tab} (h : Fn T F.slices_isNaN_string slices_isNaN_string.fn) (a : Str) : Ret T F.slices_isNaN_string [.val (.str a)] (one (.bool false)) := by
  refine Ret.mk h rfl ?_
  repeat' (first | refine zA ?_ | refine zB ?_ | (refine zC ?_ ?_ <;> intro hc; all_goals first | (cases hc; done) | ((try simp only [hc]); (try simp only [bm] at hc))) | refine zE ?_ | refine zN ?_ | fail)
  exact Qend.boo rfl rfl (by simp)
theorem lessS_ret {T : Tab} (h : Fn T F.cmp_Less_string cmp_Less_string.fn) (h2 : Fn T F.cmp_isNaN_string cmp_isNaN_string.fn) (a b : Str) : Ret T F.cmp_Less_string [.val (.str a), .val (.str b)] (one (.bool (binA.bLess a b))) := by
  have r : ∀ a, Ret T F.cmp_isNaN_string [.val (.str a)] (one (.bool false)) := fun a => by
    refine Ret.mk h2 rfl ?_
    repeat' (first | refine zA ?_ | refine zB ?_ | (refine zC ?_ ?_ <;> intro hc; all_goals first | (cases hc; done) | ((try simp only [hc]); (try simp only [bm] at hc))) | refine zE ?_ | refine zN ?_ | fail)
    exact Qend.boo rfl rfl (by simp)
  refine Ret.mk h rfl ?_
  repeat' (first | refine zA ?_ | refine WQ.cl h2.modes ?_ | refine W1.cl h2.modes (r _) ?_ | refine zB ?_ | (refine zC ?_ ?_ <;> intro hc; all_goals first | (cases hc; done) | ((try simp only [hc]); (try simp only [bm] at hc))) | refine zE ?_ | refine zN ?_ | fail)
  all_goals first | (refine Qend.boo rfl rfl ?_; simp_all; done) | (exfalso; simp_all; done)
theorem binSearch_ret {T : Tab} (h : Fn T F.slices_BinarySearch_Lstring_string slices_BinarySearch_Lstring_string.fn) (hl : Fn T F.cmp_Less_string cmp_Less_string.fn) (h2 : Fn T F.cmp_isNaN_string cmp_isNaN_string.fn)
    (h3 : Fn T F.slices_isNaN_string slices_isNaN_string.fn) (l : List Str) (hb : l.length ≤ 1073741824) (k : Str) (p : Nat) (hp : p ≤ l.length) (hs : ∀ i x, l[i]? = some x → (binA.bLess x k = true ↔ i < p)) :
    Ret T F.slices_BinarySearch_Lstring_string [.val (.lst 1 (srow l)), .val (.str k)] (two (.int .i64 (p : Nat)) (.bool (decide (l[p]? = some k)))) := by
  have e1 := srow_len l
  refine Ret.mk h rfl ?_
  repeat' (first | refine zA ?_ | refine zB ?_ | (refine zC ?_ ?_ <;> intro hc; all_goals first | (cases hc; done) | ((try simp only [hc]); (try simp only [bm] at hc))) | refine zE ?_ | refine zN ?_ | fail)
  refine W.iterP (β := Nat × Nat) (fun b s => (s.put 7 (.av (.int .i64 (b.1 : Int)))).put 8 (.av (.int .i64 (b.2 : Int)))) (fun b => b.1 ≤ p ∧ p ≤ b.2 ∧ b.2 ≤ l.length) (fun b => b.2 - b.1) (0, l.length) ⟨by omega, hp, by omega⟩ ?_ ?_
  · rfl
  · rintro ⟨i, j⟩ ⟨q1, q2, q3⟩
    simp only at q1 q2 q3
    by_cases hij : i < j
    · obtain ⟨x, hx⟩ : ∃ x, l[(i + j) / 2]? = some x := ⟨l[(i + j) / 2]'(by omega), List.getElem?_eq_getElem (by omega)⟩
      have hh : (srow l)[(((i : Int) + (j : Int)) / 2).toNat]? = some [.str x] := by
        rw [show (((i : Int) + (j : Int)) / 2).toNat = (i + j) / 2 by omega]; exact get_srow hx
      have hc1 : (((i + j) / 2 + 1 : Nat) : Int) = ((i : Int) + (j : Int)) / 2 + 1 := by omega
      have hc2 : (((i + j) / 2 : Nat) : Int) = ((i : Int) + (j : Int)) / 2 := by omega
      have r := lessS_ret hl h2 x k
      have hsx := hs _ x hx
      repeat' (first | refine zA ?_ | ((apply W1.toU64; exact rfl; exact rfl; omega; omega)) | ((apply W1.half; exact rfl; exact rfl)) | ((apply W1.toI64; exact rfl; exact rfl; omega; omega)) | refine WQ.cl hl.modes ?_ | refine W1.cl hl.modes (r) ?_ | refine zB ?_ | (refine zC ?_ ?_ <;> intro hc; all_goals first | (cases hc; done) | ((try simp only [hc]); (try simp only [bm] at hc))) | refine zE ?_ | refine zN ?_ | fail)
      all_goals first
        | (refine ⟨((i + j) / 2 + 1, j), ⟨?_, ?_, ?_⟩, ?_, ?_⟩
           · show (i + j) / 2 + 1 ≤ p
             have := hsx.1 (by assumption); omega
           · exact q2
           · exact q3
           · show j - ((i + j) / 2 + 1) < j - i; omega
           · dsimp only; rw [hc1])
        | (refine ⟨(i, (i + j) / 2), ⟨?_, ?_, ?_⟩, ?_, ?_⟩
           · exact q1
           · show p ≤ (i + j) / 2
             have : ¬ (i + j) / 2 < p := fun hlt => by have := hsx.2 hlt; simp_all
             omega
           · show (i + j) / 2 ≤ l.length; omega
           · show (i + j) / 2 - i < j - i; omega
           · dsimp only; rw [hc2])
        | trace_state
    · obtain rfl : i = p := by omega
      obtain rfl : i = j := by omega
      by_cases hin : i < l.length
      · obtain ⟨x, hx⟩ : ∃ x, l[i]? = some x := ⟨l[i]'(by omega), List.getElem?_eq_getElem (by omega)⟩
        have r1 := isNaNs_ret h3 x
        have r2 := isNaNs_ret h3 k
        have hq : decide (l[i]? = some k) = (x == k) := by rw [hx, Bool.eq_iff_iff]; simp
        rw [hq]
        repeat' (first | refine zA ?_ | refine WQ.cl h3.modes ?_ | refine W1.cl h3.modes (r1) ?_ | refine WQ.cl h3.modes ?_ | refine W1.cl h3.modes (r2) ?_ | refine zB ?_ | (refine zC ?_ ?_ <;> intro hc; all_goals first | (cases hc; done) | ((try simp only [hc]); (try simp only [bm] at hc))) | refine zE ?_ | refine zN ?_ | fail)
        all_goals first
          | (refine Qend.two rfl rfl rfl ?_; simp_all; done)
          | (exfalso; simp_all; done)
          | trace_state
      · have hq : decide (l[i]? = some k) = false := by rw [List.getElem?_eq_none (by omega)]; simp
        rw [hq]
        repeat' (first | refine zA ?_ | refine zB ?_ | (refine zC ?_ ?_ <;> intro hc; all_goals first | (cases hc; done) | ((try simp only [hc]); (try simp only [bm] at hc))) | refine zE ?_ | refine zN ?_ | fail)
        all_goals first
          | (refine Qend.two rfl rfl rfl ?_; simp_all; done)
          | (exfalso; simp_all; done)
          | trace_state
end Hm

/- Rules that make states plain, in bags with stores. Conditions: see each theorem. -/
namespace Hm
open Go (IntKind)
theorem still_plc (n : Nat) (r : Root) (o : Nat) : (TV.plc ⟨r, [], o⟩).still n = true := by simp [TV.still]
theorem kc : (∀ (ss : List Nat) (st : St) (k : Nat), getE (st.calm ss).env k = if ss.all (fun n => (getE st.env k).still n) then getE st.env k else .und) ∧ (∀ (ss : List Nat) (st : St), (st.calm ss).boxes = st.boxes) ∧
    (∀ (n : Nat) (v : AV), (TV.av v).still n = true) ∧ (∀ (n : Nat) (cs : List Cell) (g : Bool), (TV.own cs g).still n = true) ∧ (∀ (n : Nat) (r : Root) (o : Nat), (TV.plc ⟨r, [], o⟩).still n = true) ∧
    (∀ n : Nat, TV.und.still n = true) ∧ (∀ n : Nat, TV.skp.still n = true) ∧ (∀ (n : Nat) (l : List (Option (List Cell × Bool))), (TV.tup l).still n = true) ∧ (∀ (n : Nat) (ss : List Nat) (p : Nat → Bool), (n :: ss).all p = (p n && ss.all p)) ∧ (∀ p : Nat → Bool, ([] : List Nat).all p = true) ∧ ((true && true) = true) :=
  ⟨fun _ _ _ => rfl, fun _ _ => rfl, fun _ _ => rfl, fun _ _ _ => rfl, still_plc, fun _ => rfl, fun _ => rfl, fun _ _ => rfl, fun _ _ _ => rfl, fun _ => rfl, rfl⟩
theorem zNZ {P Q : Prop} (q : Q) (k : Q → P := by intro q; simp only [kc, sprow_len, brow_len, srow_len, List.length_map, Qit, Int.toNat_natCast, entry, Opd.eat, cellsOf, TV.ofCells, allAv, Qseq, Qblk, List.map_cons, List.map_nil, putD, kp, Nat.reduceEqDiff, ↓reduceIte, beq_self_eq_true, Nat.reduceBEq, kr, sealRow, sealRows, Cell.shut, one, St.freeze, kq, List.drop_zero, List.drop_succ_cons, List.take_succ_cons, List.take_zero, List.cons_append, List.nil_append, Nat.zero_add, resTV, tvOf, List.length_cons, List.length_nil, Nat.reduceAdd]; exact q) : P := k q
end Hm

/- Plain lemmas, split off. NORMX NORMY Conditions: none (definitions and plain lemmas). -/
namespace Hm
open Go (IntKind)
section
variable {T : Tab}
def posS : List Str → Str → Nat
  | [], _ => 0
  | a :: r, k => if binA.bLess a k = true then posS r k + 1 else 0
theorem posS_le : ∀ (l : List Str) (k : Str), posS l k ≤ l.length
  | [], _ => Nat.le_refl _
  | a :: r, k => by have := posS_le r k; simp only [posS, List.length_cons]; split <;> omega
theorem posS_spec (k : Str) : ∀ {l : List Str}, (l.Pairwise fun a b => binA.bLess a b = true) → ∀ (i : Nat) (y : Str), l[i]? = some y → (binA.bLess y k = true ↔ i < posS l k)
  | [], _, i, y, h => by simp at h
  | f :: r, hm, i, y, h => by
    obtain ⟨h1, h2⟩ := List.pairwise_cons.1 hm
    simp only [posS]
    by_cases hf : binA.bLess f k = true
    · rw [if_pos hf]
      cases i with
      | zero => simp at h; subst h; simp [hf]
      | succ i =>
        simp only [List.getElem?_cons_succ] at h
        rw [posS_spec k h2 i y h]; omega
    · rw [if_neg hf]
      refine ⟨fun hy => ?_, fun h => by omega⟩
      cases i with
      | zero => simp at h; subst h; exact absurd hy hf
      | succ i =>
        simp only [List.getElem?_cons_succ] at h
        exact absurd (bLess_trans _ _ _ (h1 y (List.mem_of_getElem? h)) hy) hf
theorem posS_mem {l : List Str} {k : Str} (hl : l.Pairwise fun a b => binA.bLess a b = true) (h : k ∈ l) : l[posS l k]? = some k := by
  obtain ⟨i, hi⟩ := List.mem_iff_getElem?.1 h
  have h1 := posS_spec k hl i k hi
  rw [bLess_irrefl] at h1
  have hle : posS l k ≤ i := Nat.le_of_not_lt fun h => by simpa using h1.2 h
  rcases Nat.lt_or_ge (posS l k) i with hlt | hge
  · have hil := (List.getElem?_eq_some_iff.1 hi).1
    obtain ⟨y, hy⟩ : ∃ y, l[posS l k]? = some y := ⟨l[posS l k]'(by omega), List.getElem?_eq_getElem (by omega)⟩
    have h2 := posS_spec k hl (posS l k) y hy
    have h3 : binA.bLess y k = true := by
      obtain ⟨_, e1⟩ := List.getElem?_eq_some_iff.1 hy
      obtain ⟨_, e2⟩ := List.getElem?_eq_some_iff.1 hi
      have := List.pairwise_iff_getElem.1 hl (posS l k) i (by omega) hil hlt
      rw [e1, e2] at this
      exact this
    have := h2.1 h3
    omega
  · rw [show posS l k = i by omega]; exact hi
def crS (l : List Str) : List (List Cell) := (srow l).map fun r => r.map .av
theorem crS_append (a b : List Str) : crS (a ++ b) = crS a ++ crS b := by simp [crS, srow]
theorem sealRow_avp : ∀ r : List AV, sealRow (r.map .av) = r
  | [] => rfl
  | x :: r => by simp only [List.map_cons, sealRow, Cell.shut, sealRow_avp r]
theorem seal_mapav : ∀ l : List (List AV), sealRows (l.map fun r => r.map .av) = l
  | [] => rfl
  | x :: l => by simp only [List.map_cons, sealRows, sealRow_avp, seal_mapav l]
theorem seal_crS (l : List Str) : sealRows (crS l) = srow l := seal_mapav _
/-- A call whose one result, a list, is sealed. -/
theorem W1.callDL {T : Tab} {st st' : St} {K : St → Prop} {dst : Option Nat} {gd : Option (Nat × Bool)} {f : Opd} {xs : List Opd} {g k : Nat} {first cs : List AV} {t0 t : Bool} {ms : List PMode} {l : List Arg} {ks : List Nat} {rows : List (List Cell)} {rs : List (List AV)} (hC : sealRows rows = rs)
    (hg : wanted st gd = some true) (hf : (st.opd f).fn = some (g, first, cs, t0)) (hm : T.modes g = ms) (ha : args st (ms.drop first.length) xs = some (l, t, ks, st')) (hio : hasIo l = false) (hmv : hasMv l = false)
    (hr : Ret T g (first.map .val ++ l ++ cs.map .val) ⟨[([.own k rows], false)], []⟩) (ht : (t0 || t) = false) (hk : K (putD dst (.av (.lst k rs)) st')) : W1 T ⟨dst, .call .deep f xs, gd⟩ st K := by
  refine W1.callV hg hf hm ha hio hmv hr (by rw [ht]; rfl) ?_
  show K (putD dst (.av (.lst k (sealRows rows))) st')
  rw [hC]; exact hk
end
end Hm

/- Why an object isn't of an alternative: the program's walk, names first. NORMX NORMY Conditions: see each theorem. -/
namespace Hm
open Go (IntKind)
set_option maxHeartbeats 4000000
set_option maxRecDepth 4000
section
variable {T : Tab}
theorem lkA_there {α : Type} : ∀ {ks : List Str} {xs : List α} {s : Str}, ks.length = xs.length → (lkA ks xs s).isSome = ks.contains s
  | [], xs, s, _ => by cases xs <;> rfl
  | k :: ks, [], s, h => by simp at h
  | k :: ks, x :: xs, s, h => by
    rw [lkA, List.contains_cons]
    by_cases e : k = s
    · rw [if_pos e, e]; simp
    · rw [if_neg e, lkA_there (by simpa using h)]
      have : (s == k) = false := by simpa using fun h => e h.symm
      rw [this, Bool.false_or]
/-- Is there a field of that name? -/
theorem getV_some {v : V} (hk : v.kind = 6) (hl : v.keys.length = v.items.length) (k : Str) : (getV v k).isSome = v.keys.contains k := by
  rw [getV, if_pos hk, ← lkA_lookL _ _ _ hl, lkA_there hl]
/-- What the search in a sorted list reaches. -/
structure BsFns (T : Tab) : Prop where
  a1 : Fn T F.slices_BinarySearch_Lstring_string slices_BinarySearch_Lstring_string.fn
  a2 : Fn T F.cmp_Less_string cmp_Less_string.fn
  a3 : Fn T F.cmp_isNaN_string cmp_isNaN_string.fn
  a4 : Fn T F.slices_isNaN_string slices_isNaN_string.fn
theorem mstO_at {o : Ob} (ho : ObOk o) {i : Nat} {s : Str} {m : Bool} (h : o.names[i]? = some s) (hm : o.must[i]? = some m) : mstO o s = m := by rw [mstO, lkA_at ho.asc h, hm]; rfl
theorem lookFields_ret (h : Fn T F.member_lookFields member_lookFields.fn) (hl : T.modes F.member_look = [.val, .val]) (g : GgFns T) (q : BsFns T) (v : V) (o : Ob) (hk : v.kind = 6) (hlen : v.keys.length = v.items.length)
    (hb : v.bk ≤ 1073741824) (hob : o.bk ≤ 1073741824) (ho : ObOk o) (ih : ∀ x ∈ v.items, ∀ k : Str, Ret T F.member_look [.val x.av, .val (fldO o k).av] (one (errAV (lookM x (fldO o k))))) :
    Ret T F.member_lookFields [.val v.av, .val (.agg o.row)] (one (errAV (lkFields (v.items.map lookM) v.keys o))) := by
  have hbk := Ob.bk_eq o
  have hvk := V.bk_eq v
  have l1 := len_sbk o.names
  have l2 := len_sbk v.keys
  have q1 := ho.l1
  have q2 := ho.l2
  have e1 := srow_len o.names
  have e2 := srow_len v.keys
  have e3 : (o.fields.map Ty.row).length = o.fields.length := List.length_map ..
  have e4 := brow_len o.must
  have e5 : (v.items.map V.row).length = v.items.length := List.length_map ..
  refine Ret.mk h rfl ?_
  rw [V.av_eq, Ob.row_eq]
  repeat' (first | refine zA ?_ | refine zB ?_ | (refine zC ?_ ?_ <;> intro hc; all_goals first | (cases hc; done) | ((try simp only [hc]); (try simp only [bm] at hc))) | refine zE ?_ | refine zNV ?_ | fail)
  refine W.listP o.names (fun i (_ : Unit) s => s.put 18 (.av (.int .i64 (i : Int)))) (fun i _ => lkNames o v.keys o.names = lkNames o v.keys (o.names.drop i)) () rfl rfl ?_ ?_
  · intro i s u hx hi hp
    obtain ⟨m, hmi⟩ : ∃ m, o.must[i]? = some m := ⟨o.must[i]'(by omega), List.getElem?_eq_getElem (by omega)⟩
    have hm := mstO_at ho hx hmi
    have hd : o.names.drop i = s :: o.names.drop (i + 1) := by
      rw [List.drop_eq_getElem_cons hi]
      rw [List.getElem?_eq_getElem hi, Option.some.injEq] at hx
      rw [hx]
    rw [hd, lkNames, hm] at hp
    obtain ⟨C, hC, r⟩ := getG_ret g v hb s
    rw [getV_some hk hlen] at r
    rw [V.row_eq] at hC
    rw [V.av_eq] at r
    generalize (getV v s).getD zeroV = y at hC
    generalize v.keys.contains s = th at *
    cases m <;> cases th
    all_goals simp only [Bool.not_true, Bool.not_false, Bool.and_true, Bool.and_false, Bool.false_and, Bool.false_eq_true, if_true, if_false] at hp
    all_goals skip
    repeat' (first | refine zA ?_ | (refine W1.cd2 g.a1.modes hC r ?_) | (refine WQ.cl g.a1.modes ?_) | refine zB ?_ | (refine zC ?_ ?_ <;> intro hc; all_goals first | (cases hc; done) | ((try simp only [hc]); (try simp only [bm] at hc))) | refine zE ?_ | refine zNV ?_ | fail)
    all_goals first
      | (refine ⟨(), hp, rfl⟩)
      | (rw [lkFields, hp, if_neg (by simp), errAV_cons]; exact ⟨.inr rfl, rfl, rfl⟩)
      | trace_state
  · intro u hp
    rw [List.drop_length, lkNames] at hp
    have hF : lkFields (v.items.map lookM) v.keys o = lkKeys o v.keys (v.items.map lookM) := by rw [lkFields, hp]; rfl
    rw [hF]
    repeat' (first | refine zA ?_ | refine zB ?_ | (refine zC ?_ ?_ <;> intro hc; all_goals first | (cases hc; done) | ((try simp only [hc]); (try simp only [bm] at hc))) | refine zE ?_ | refine zNV ?_ | fail)
    refine W.listP v.keys (fun i (_ : Unit) s => s.put 47 (.av (.int .i64 (i : Int)))) (fun i _ => lkKeys o v.keys (v.items.map lookM) = lkKeys o (v.keys.drop i) ((v.items.drop i).map lookM)) () rfl rfl ?_ ?_
    · intro i s u hx hi hq
      obtain ⟨x, hxi⟩ : ∃ x, v.items[i]? = some x := ⟨v.items[i]'(by omega), List.getElem?_eq_getElem (by omega)⟩
      have r := ih x (List.mem_of_getElem? hxi) s
      have hd : v.keys.drop i = s :: v.keys.drop (i + 1) := by
        rw [List.drop_eq_getElem_cons hi]
        rw [List.getElem?_eq_getElem hi, Option.some.injEq] at hx
        rw [hx]
      have hd' : v.items.drop i = x :: v.items.drop (i + 1) := by
        have hi' : i < v.items.length := by omega
        rw [List.drop_eq_getElem_cons hi']
        rw [List.getElem?_eq_getElem hi', Option.some.injEq] at hxi
        rw [hxi]
      rw [hd, hd', List.map_cons, lkKeys] at hq
      have r0 := binSearch_ret q.a1 q.a2 q.a3 q.a4 o.names (by omega) s (posS o.names s) (posS_le _ _) (posS_spec s ho.asc)
      rw [V.av_eq, Ty.av_eq] at r
      by_cases hs : s ∈ o.names
      · have hps := posS_mem ho.asc hs
        have hpl := (List.getElem?_eq_some_iff.1 hps).1
        rw [hps] at r0
        simp only [decide_true] at r0
        generalize posS o.names s = p at *
        obtain ⟨t, ht⟩ : ∃ t, o.fields[p]? = some t := ⟨o.fields[p]'(by omega), List.getElem?_eq_getElem (by omega)⟩
        have g1 : fldO o s = t := by rw [fldO, lkA_at ho.asc hps, ht]; rfl
        rw [g1] at r hq
        cases hm : lookM x t with
        | nil =>
          rw [hm, List.isEmpty_nil, if_pos rfl] at hq
          rw [hm, errAV] at r
          repeat' (first | refine zA ?_ | refine WQ.cl q.a1.modes ?_ | refine W1.cl q.a1.modes (r0) ?_ | refine WQ.cl hl ?_ | refine W1.cl hl (r) ?_ | (refine WQ.cl hl ?_) | refine zB ?_ | (refine zC ?_ ?_ <;> intro hc; all_goals first | (cases hc; done) | ((try simp only [hc]); (try simp only [bm] at hc))) | refine zE ?_ | refine zNV ?_ | fail)
          all_goals first | exact ⟨(), hq, rfl⟩ | trace_state
        | cons pp m =>
          obtain ⟨z, w⟩ := pp
          rw [hm, List.isEmpty_cons, if_neg (by simp)] at hq
          rw [hq, errAV_cons]
          rw [hm] at r
          rw [errAV_cons] at r ⊢
          generalize AV.vptr [.int .i64 z, .int .i64 w.kind, .str w.num, .str w.text, .lst 5 (w.items.map V.row), .lst 1 (srow w.keys), errAV m] = ew at *
          repeat' (first | refine zA ?_ | refine WQ.cl q.a1.modes ?_ | refine W1.cl q.a1.modes (r0) ?_ | refine WQ.cl hl ?_ | refine W1.cl hl (r) ?_ | (refine WQ.cl hl ?_) | refine zB ?_ | (refine zC ?_ ?_ <;> intro hc; all_goals first | (cases hc; done) | ((try simp only [hc]); (try simp only [bm] at hc))) | refine zE ?_ | refine zNV ?_ | fail)
          all_goals first | exact ⟨.inr rfl, rfl, rfl⟩ | trace_state
      · have hps : decide (o.names[posS o.names s]? = some s) = false := decide_eq_false fun h => hs (List.mem_of_getElem? h)
        rw [hps] at r0
        rw [fldO_out hs] at r hq
        generalize posS o.names s = p at *
        generalize o.rest = t at *
        cases hm : lookM x t with
        | nil =>
          rw [hm, List.isEmpty_nil, if_pos rfl] at hq
          rw [hm, errAV] at r
          repeat' (first | refine zA ?_ | refine WQ.cl q.a1.modes ?_ | refine W1.cl q.a1.modes (r0) ?_ | refine WQ.cl hl ?_ | refine W1.cl hl (r) ?_ | (refine WQ.cl hl ?_) | refine zB ?_ | (refine zC ?_ ?_ <;> intro hc; all_goals first | (cases hc; done) | ((try simp only [hc]); (try simp only [bm] at hc))) | refine zE ?_ | refine zNV ?_ | fail)
          all_goals first | exact ⟨(), hq, rfl⟩ | trace_state
        | cons pp m =>
          obtain ⟨z, w⟩ := pp
          rw [hm, List.isEmpty_cons, if_neg (by simp)] at hq
          rw [hq, errAV_cons]
          rw [hm] at r
          rw [errAV_cons] at r ⊢
          generalize AV.vptr [.int .i64 z, .int .i64 w.kind, .str w.num, .str w.text, .lst 5 (w.items.map V.row), .lst 1 (srow w.keys), errAV m] = ew at *
          repeat' (first | refine zA ?_ | refine WQ.cl q.a1.modes ?_ | refine W1.cl q.a1.modes (r0) ?_ | refine WQ.cl hl ?_ | refine W1.cl hl (r) ?_ | (refine WQ.cl hl ?_) | refine zB ?_ | (refine zC ?_ ?_ <;> intro hc; all_goals first | (cases hc; done) | ((try simp only [hc]); (try simp only [bm] at hc))) | refine zE ?_ | refine zNV ?_ | fail)
          all_goals first | exact ⟨.inr rfl, rfl, rfl⟩ | trace_state
    · intro u hq
      have e0 : ∀ l : List (Ty → Miss), lkKeys o [] l = [] := fun l => by cases l <;> rfl
      rw [List.drop_length, e0] at hq
      rw [hq, errAV]
      repeat' (first | refine zA ?_ | refine zB ?_ | (refine zC ?_ ?_ <;> intro hc; all_goals first | (cases hc; done) | ((try simp only [hc]); (try simp only [bm] at hc))) | refine zE ?_ | refine zNV ?_ | fail)
      exact ⟨.inr rfl, rfl, rfl⟩
end
end Hm

/- Is a value of a type: the program's In, out of what look tells. NORMX NORMY Conditions: see each theorem. -/
namespace Hm
open Go (IntKind)
set_option maxHeartbeats 4000000
set_option maxRecDepth 4000
section
variable {T : Tab}
theorem mFormed_ret (h : Fn T F.member_formed member_formed.fn) (hv : T.modes F.value_Formed = [.val]) (ht : T.modes F.shape_Formed = [.val]) (v : V) (t : Ty)
    (rV : Ret T F.value_Formed [.val v.av] (one (.bool (formed v)))) (rT : Ret T F.shape_Formed [.val t.av] (one (.bool (tformed t)))) : Ret T F.member_formed [.val v.av, .val t.av] (one (.bool (formed v && tformed t))) := by
  rw [V.av_eq] at *
  rw [Ty.av_eq] at *
  generalize formed v = b1 at *
  generalize tformed t = b2 at *
  refine Ret.mk h rfl ?_
  repeat' (first | refine zA ?_ | refine WQ.cl hv ?_ | refine W1.cl hv (rV) ?_ | refine WQ.cl ht ?_ | refine W1.cl ht (rT) ?_ | refine zB ?_ | (refine zC ?_ ?_ <;> intro hc; all_goals first | (cases hc; done) | ((try simp only [hc]); (try simp only [bm] at hc))) | refine zE ?_ | refine zNV ?_ | fail)
  all_goals first | (refine Qend.boo rfl rfl ?_; simp_all; done) | exact Qend.boo rfl rfl rfl | trace_state
theorem mIn_ret (h : Fn T F.member_In member_In.fn) (hm : T.modes F.member_formed = [.val, .val]) (hl : T.modes F.member_look = [.val, .val]) (v : V) (t : Ty) (hv : formed v = true) (ht : tformed t = true)
    (rF : Ret T F.member_formed [.val v.av, .val t.av] (one (.bool true))) (rL : Ret T F.member_look [.val v.av, .val t.av] (one (errAV (lookM v t)))) :
    Ret T F.member_In [.val v.av, .val t.av] (two (.bool (inT v t)) (.int .i64 0)) := by
  rw [← lookM_nil v hv t ht]
  rw [V.av_eq, Ty.av_eq] at *
  refine Ret.mk h rfl ?_
  cases hq : lookM v t with
  | nil =>
    rw [hq, errAV] at rL
    repeat' (first | refine zA ?_ | refine WQ.cl hm ?_ | refine W1.cl hm (rF) ?_ | refine WQ.cl hl ?_ | refine W1.cl hl (rL) ?_ | refine zB ?_ | (refine zC ?_ ?_ <;> intro hc; all_goals first | (cases hc; done) | ((try simp only [hc]); (try simp only [bm] at hc))) | refine zE ?_ | refine zNV ?_ | fail)
    all_goals first | exact Qend.two rfl rfl rfl rfl | trace_state
  | cons p m =>
    obtain ⟨q, s⟩ := p
    rw [hq, errAV_cons] at rL
    generalize AV.vptr [.int .i64 q, .int .i64 s.kind, .str s.num, .str s.text, .lst 5 (s.items.map V.row), .lst 1 (srow s.keys), errAV m] = ew at *
    repeat' (first | refine zA ?_ | refine WQ.cl hm ?_ | refine W1.cl hm (rF) ?_ | refine WQ.cl hl ?_ | refine W1.cl hl (rL) ?_ | refine zB ?_ | (refine zC ?_ ?_ <;> intro hc; all_goals first | (cases hc; done) | ((try simp only [hc]); (try simp only [bm] at hc))) | refine zE ?_ | refine zNV ?_ | fail)
    all_goals first | exact Qend.two rfl rfl rfl rfl | trace_state
end
end Hm

/- Why a value isn't of a type: the program's walk, whole. NORMX NORMY NORMC Conditions: both well shaped. -/
namespace Hm
open Go (IntKind)
set_option maxHeartbeats 40000000
set_option maxRecDepth 4000
section
variable {T : Tab}
/-- What the search for a text reaches. -/
structure ChFns (T : Tab) : Prop where
  a1 : Fn T F.slices_Contains_Lstring_string slices_Contains_Lstring_string.fn
  gg : GgFns T
theorem mContains_ret (f : ChFns T) (l : List Str) (hl : l.length ≤ 1073741824) (k : Str) : Ret T F.slices_Contains_Lstring_string [.val (.lst 1 (srow l)), .val (.str k)] (one (.bool (l.contains k))) := by
  obtain ⟨n, hn, r⟩ := indexS_ret f.gg.a4 l hl k
  have hn' : 0 ≤ n ↔ l.contains k = true := by
    rw [List.contains_iff_mem]
    rcases hn with ⟨e, h⟩ | ⟨i, e, h, _⟩
    · rw [e]; exact ⟨fun h => by omega, fun h' => absurd h' h⟩
    · rw [e]; exact ⟨fun _ => List.mem_of_getElem? h, fun _ => by omega⟩
  refine Ret.mk f.a1 rfl ?_
  repeat' (first | refine zA ?_ | refine WQ.cl f.gg.a4.modes ?_ | refine W1.cl f.gg.a4.modes (r) ?_ | refine zB ?_ | (refine zC ?_ ?_ <;> intro hc; all_goals first | (cases hc; done) | ((try simp only [hc]); (try simp only [bm] at hc))) | refine zE ?_ | refine zNZ ?_ | fail)
  refine Qend.boo rfl rfl ?_
  rw [Bool.eq_iff_iff, ← hn']; simp
/-- What look reaches. -/
structure LkFns (T : Tab) : Prop where
  a1 : Fn T F.member_look member_look.fn
  a2 : Fn T F.member_lookArray member_lookArray.fn
  a3 : Fn T F.member_lookObject member_lookObject.fn
  a4 : Fn T F.member_lookFields member_lookFields.fn
  a5 : Fn T F.member_inSpan member_inSpan.fn
  a6 : Fn T F.shape_Kinds shape_Kinds.fn
  tn : TnFns T
  to : ToFns T
  ch : ChFns T
  bs : BsFns T
theorem kb_and (n k : Int) : (IntKind.wrap .u8 (((BitVec.ofInt (IntKind.bits .u8) (n.fdiv (2 ^ (min k.toNat (IntKind.bits .u8))))) &&& BitVec.ofInt (IntKind.bits .u8) 1).toNat : Int) = 0) ↔ kb n k = false := by
  unfold kb
  generalize BitVec.ofInt (IntKind.bits .u8) (n.fdiv (2 ^ (min k.toNat (IntKind.bits .u8)))) = x
  have h : (x &&& BitVec.ofInt (IntKind.bits .u8) 1).toNat = x.toNat % 2 := by
    rw [BitVec.toNat_and]
    exact Nat.and_one_is_mod _
  rw [h]
  rcases Nat.mod_two_eq_zero_or_one x.toNat with e | e
  · rw [e]; decide
  · rw [e]; decide
/-- What is told by the kind, where the type is not all. -/
theorem look_of (v : V) (t : Ty) (hA : t.all = false) (tk : Int) (hK : tK t = tk) {b : Bool} (hb : kb tk v.kind = b) (hn : b = false) : lookM v t = [(1, zeroV)] := by
  rw [lookM_eq, lookBody, hA, hK, hb, hn]; rfl
theorem look_at (v : V) (t : Ty) (hA : t.all = false) (tk : Int) (hK : tK t = tk) (hb : kb tk v.kind = true) : lookM v t =
    (if v.kind = 3 then (match t.nums with | [] => [] | s :: _ => if inSpanB v.num s then [] else [(2, zeroV)]) else
    if v.kind = 4 then (if t.anyText || t.texts.contains v.text then [] else [(3, zeroV)]) else
    if v.kind = 5 then (match t.arrays with | [] => [] | a :: _ => lkArr (v.items.map lookM) a) else
    if v.kind = 6 then lkObjs (v.items.map lookM) v.keys t.objects else []) := by
  rw [lookM_eq, lookBody, hA, hK, hb]; rfl
theorem look_lo (v : V) (t : Ty) (hA : t.all = false) (tk : Int) (hK : tK t = tk) (hb : kb tk v.kind = true) {k : Int} (hk : v.kind = k) (h3 : k < 3) : lookM v t = [] := by
  rw [look_at v t hA tk hK hb, hk, if_neg (by omega), if_neg (by omega), if_neg (by omega), if_neg (by omega)]
theorem mfld_bk {t : Ty} {o : Ob} (h : o ∈ t.objects) (s : Str) : (fldO o s).bk < t.bk := by
  have := obBk_mem h
  have := Ob.bk_eq o
  have := Ty.bk_eq t
  rcases fldO_mem o s with hm | hm
  · have := tyBk_mem hm
    omega
  · rw [hm]; omega
theorem look_ret (f : LkFns T) : ∀ v : V, v.bk ≤ 1073741824 → formed v = true → ∀ t : Ty, t.bk ≤ 1073741824 → tformed t = true → Ret T F.member_look [.val v.av, .val t.av] (one (errAV (lookM v t))) := by
  intro v
  induction v using V.ind with
  | h v ih =>
  intro hb hf t hbt hft
  obtain ⟨p1, p2, p3⟩ := tformed_parts hft
  have hfi := formed_inv hf
  have hbk := V.bk_eq v
  have hl := V.len_bks v.items
  have htk := Ty.bk_eq t
  have l1 := len_sbk t.texts
  have l2 := len_obBks t.objects
  have e1 := srow_len t.texts
  have e2 : (t.objects.map Ob.row).length = t.objects.length := List.length_map ..
  have ih' : ∀ x ∈ v.items, ∀ u : Ty, u.bk ≤ 1073741824 → tformed u = true → Ret T F.member_look [.val x.av, .val u.av] (one (errAV (lookM x u))) := fun x hx u hu hu2 => ih x hx (by have := V.bk_item hx; omega) (hfi.2.2.2.2.2.2.2.2 x hx) u hu hu2
  cases hA : t.all
  rotate_left
  · have hL : lookM v t = [] := by rw [lookM_eq, lookBody, hA]; rfl
    rw [hL, errAV]
    refine Ret.mk f.a1 rfl ?_
    rw [V.av_eq, Ty.av_eq, hA]
    repeat' (first | refine zA ?_ | refine zB ?_ | (refine zC ?_ ?_ <;> intro hc; all_goals first | (cases hc; done) | ((try simp only [hc]); (try simp only [bm] at hc))) | refine zE ?_ | refine zNZ ?_ | fail)
    all_goals exact ⟨.inr rfl, rfl, rfl⟩
  have r0 := kinds_ret f.a6 t
  rw [Ty.av_eq, hA] at r0
  obtain ⟨k0, k1, k2, k3, k4, k5, k6⟩ := kfl_kb t.nul t.fls t.tru (decide ((t.nums.length : Int) > 0)) (t.anyText || decide ((t.texts.length : Int) > 0)) (decide ((t.arrays.length : Int) > 0)) (decide ((t.objects.length : Int) > 0))
  have hK : tK t = kfl (tKinds t) 0 0 := by rw [tK, hA]; rfl
  rw [tKinds] at hK
  generalize kfl [t.nul, t.fls, t.tru, decide ((t.nums.length : Int) > 0), t.anyText || decide ((t.texts.length : Int) > 0), decide ((t.arrays.length : Int) > 0), decide ((t.objects.length : Int) > 0)] 0 0 = tk at *
  rw [hK] at r0
  rcases kinds7 hf with (hk | hk | hk) | hk | hk | hk | hk
  · have e := kb_and tk 0
    rw [k0] at e
    have hq := k0
    rw [← hk] at hq
    have hLo := look_of v t hA tk hK hq
    refine Ret.mk f.a1 rfl ?_
    rw [V.av_eq, Ty.av_eq, hk, hA]
    cases hn : t.nul
    · rw [hn] at e r0
      rw [hLo hn, errAV_cons]
      have e := e.2 rfl
      repeat' (first | refine zA ?_ | refine WQ.cl f.a6.modes ?_ | refine W1.cl f.a6.modes (r0) ?_ | (refine WQ.cl f.a6.modes ?_) | refine zB ?_ | (refine zC ?_ ?_ <;> intro hc; all_goals first | (cases hc; done) | ((try simp only [hc]); (try simp only [bm] at hc))) | refine zE ?_ | refine zNZ ?_ | fail)
      all_goals first | exact absurd e hc | exact ⟨.inr rfl, rfl, rfl⟩ | trace_state
    · rw [hn] at e r0
      have e := mt e.1 (by simp)
      rw [look_lo v t hA tk hK (hq.trans hn) hk (by decide), errAV]
      repeat' (first | refine zA ?_ | refine WQ.cl f.a6.modes ?_ | refine W1.cl f.a6.modes (r0) ?_ | (refine WQ.cl f.a6.modes ?_) | refine zB ?_ | (refine zC ?_ ?_ <;> intro hc; all_goals first | (cases hc; done) | ((try simp only [hc]); (try simp only [bm] at hc))) | refine zE ?_ | refine zNZ ?_ | fail)
      all_goals first | exact absurd hc e | exact ⟨.inr rfl, rfl, rfl⟩ | trace_state
  · have e := kb_and tk 1
    rw [k1] at e
    have hq := k1
    rw [← hk] at hq
    have hLo := look_of v t hA tk hK hq
    refine Ret.mk f.a1 rfl ?_
    rw [V.av_eq, Ty.av_eq, hk, hA]
    cases hn : t.fls
    · rw [hn] at e r0
      rw [hLo hn, errAV_cons]
      have e := e.2 rfl
      repeat' (first | refine zA ?_ | refine WQ.cl f.a6.modes ?_ | refine W1.cl f.a6.modes (r0) ?_ | (refine WQ.cl f.a6.modes ?_) | refine zB ?_ | (refine zC ?_ ?_ <;> intro hc; all_goals first | (cases hc; done) | ((try simp only [hc]); (try simp only [bm] at hc))) | refine zE ?_ | refine zNZ ?_ | fail)
      all_goals first | exact absurd e hc | exact ⟨.inr rfl, rfl, rfl⟩ | trace_state
    · rw [hn] at e r0
      have e := mt e.1 (by simp)
      rw [look_lo v t hA tk hK (hq.trans hn) hk (by decide), errAV]
      repeat' (first | refine zA ?_ | refine WQ.cl f.a6.modes ?_ | refine W1.cl f.a6.modes (r0) ?_ | (refine WQ.cl f.a6.modes ?_) | refine zB ?_ | (refine zC ?_ ?_ <;> intro hc; all_goals first | (cases hc; done) | ((try simp only [hc]); (try simp only [bm] at hc))) | refine zE ?_ | refine zNZ ?_ | fail)
      all_goals first | exact absurd hc e | exact ⟨.inr rfl, rfl, rfl⟩ | trace_state
  · have e := kb_and tk 2
    rw [k2] at e
    have hq := k2
    rw [← hk] at hq
    have hLo := look_of v t hA tk hK hq
    refine Ret.mk f.a1 rfl ?_
    rw [V.av_eq, Ty.av_eq, hk, hA]
    cases hn : t.tru
    · rw [hn] at e r0
      rw [hLo hn, errAV_cons]
      have e := e.2 rfl
      repeat' (first | refine zA ?_ | refine WQ.cl f.a6.modes ?_ | refine W1.cl f.a6.modes (r0) ?_ | (refine WQ.cl f.a6.modes ?_) | refine zB ?_ | (refine zC ?_ ?_ <;> intro hc; all_goals first | (cases hc; done) | ((try simp only [hc]); (try simp only [bm] at hc))) | refine zE ?_ | refine zNZ ?_ | fail)
      all_goals first | exact absurd e hc | exact ⟨.inr rfl, rfl, rfl⟩ | trace_state
    · rw [hn] at e r0
      have e := mt e.1 (by simp)
      rw [look_lo v t hA tk hK (hq.trans hn) hk (by decide), errAV]
      repeat' (first | refine zA ?_ | refine WQ.cl f.a6.modes ?_ | refine W1.cl f.a6.modes (r0) ?_ | (refine WQ.cl f.a6.modes ?_) | refine zB ?_ | (refine zC ?_ ?_ <;> intro hc; all_goals first | (cases hc; done) | ((try simp only [hc]); (try simp only [bm] at hc))) | refine zE ?_ | refine zNZ ?_ | fail)
      all_goals first | exact absurd hc e | exact ⟨.inr rfl, rfl, rfl⟩ | trace_state
  · have e := kb_and tk 3
    rw [k3] at e
    have hq := k3
    rw [← hk] at hq
    have hLo := look_of v t hA tk hK hq
    have hLa := look_at v t hA tk hK
    rw [hq] at hLa
    cases hN : t.nums with
    | nil =>
      rw [hN] at e hLo r0
      refine Ret.mk f.a1 rfl ?_
      rw [V.av_eq, Ty.av_eq, hk, hA, hN]
      rw [hLo rfl, errAV_cons]
      have e := e.2 rfl
      repeat' (first | refine zA ?_ | refine WQ.cl f.a6.modes ?_ | refine W1.cl f.a6.modes (r0) ?_ | (refine WQ.cl f.a6.modes ?_) | refine zB ?_ | (refine zC ?_ ?_ <;> intro hc; all_goals first | (cases hc; done) | ((try simp only [hc]); (try simp only [bm] at hc))) | refine zE ?_ | refine zNZ ?_ | fail)
      all_goals first | exact absurd e hc | exact ⟨.inr rfl, rfl, rfl⟩ | trace_state
    | cons s r =>
      have hsb := spbk_mem (show s ∈ t.nums by rw [hN]; simp)
      have hs := bounds_span (p1 s (by rw [hN]; simp)) (by omega) (by omega)
      have r1 := mInSpan_ret f.a5 f.tn v.num s (hfi.2.1 hk) (by omega) hs.lo hs.hi hs.l1 hs.l2
      have hd : decide ((((s :: r).length : Nat) : Int) > 0) = true := decide_eq_true (by simp only [List.length_cons]; omega)
      rw [hN, hd] at e hLa
      rw [hN] at r0
      have hLa := hLa rfl
      have e := mt e.1 (by simp)
      rw [hk] at hLa
      simp only [if_true] at hLa
      rw [hLa]
      refine Ret.mk f.a1 rfl ?_
      rw [V.av_eq, Ty.av_eq, hk, hA, hN]
      generalize inSpanB v.num s = c at *
      cases c
      · rw [if_neg (by simp), errAV_cons]
        repeat' (first | refine zA ?_ | refine WQ.cl f.a6.modes ?_ | refine W1.cl f.a6.modes (r0) ?_ | (refine WQ.cl f.a6.modes ?_) | ((apply W1.iadr; (iterate 3 exact rfl); omega; exact rfl)) | refine WQ.cl f.a5.modes ?_ | refine W1.cl f.a5.modes (r1) ?_ | (refine WQ.cl f.a5.modes ?_) | refine zB ?_ | (refine zC ?_ ?_ <;> intro hc; all_goals first | (cases hc; done) | ((try simp only [hc]); (try simp only [bm] at hc))) | refine zE ?_ | refine zNZ ?_ | fail)
        all_goals first | exact absurd hc e | exact ⟨.inr rfl, rfl, rfl⟩ | trace_state
      · rw [if_pos rfl, errAV]
        repeat' (first | refine zA ?_ | refine WQ.cl f.a6.modes ?_ | refine W1.cl f.a6.modes (r0) ?_ | (refine WQ.cl f.a6.modes ?_) | ((apply W1.iadr; (iterate 3 exact rfl); omega; exact rfl)) | refine WQ.cl f.a5.modes ?_ | refine W1.cl f.a5.modes (r1) ?_ | (refine WQ.cl f.a5.modes ?_) | refine zB ?_ | (refine zC ?_ ?_ <;> intro hc; all_goals first | (cases hc; done) | ((try simp only [hc]); (try simp only [bm] at hc))) | refine zE ?_ | refine zNZ ?_ | fail)
        all_goals first | exact absurd hc e | exact ⟨.inr rfl, rfl, rfl⟩ | trace_state
  · have e := kb_and tk 4
    rw [k4] at e
    have hq := k4
    rw [← hk] at hq
    have hLo := look_of v t hA tk hK hq
    have hLa := look_at v t hA tk hK
    rw [hq] at hLa
    have r1 := mContains_ret f.ch t.texts (by omega) v.text
    cases hN : t.anyText || decide ((t.texts.length : Int) > 0) with
    | false =>
      rw [hN] at e
      rw [hLo hN, errAV_cons]
      have e := e.2 rfl
      refine Ret.mk f.a1 rfl ?_
      rw [V.av_eq, Ty.av_eq, hk, hA]
      repeat' (first | refine zA ?_ | refine WQ.cl f.a6.modes ?_ | refine W1.cl f.a6.modes (r0) ?_ | (refine WQ.cl f.a6.modes ?_) | refine zB ?_ | (refine zC ?_ ?_ <;> intro hc; all_goals first | (cases hc; done) | ((try simp only [hc]); (try simp only [bm] at hc))) | refine zE ?_ | refine zNZ ?_ | fail)
      all_goals first | exact absurd e hc | exact ⟨.inr rfl, rfl, rfl⟩ | trace_state
    | true =>
      have hLa := hLa hN
      rw [hN] at e
      have e := mt e.1 (by simp)
      rw [hk, if_neg (by decide), if_pos rfl] at hLa
      rw [hLa]
      refine Ret.mk f.a1 rfl ?_
      rw [V.av_eq, Ty.av_eq, hk, hA]
      clear k4 hq hLo hN hLa
      generalize t.texts.contains v.text = c at *
      cases hT : t.anyText
      · rw [hT] at r0
        rw [Bool.false_or]
        cases c
        · rw [if_neg (by simp), errAV_cons]
          repeat' (first | refine zA ?_ | refine WQ.cl f.a6.modes ?_ | refine W1.cl f.a6.modes (r0) ?_ | (refine WQ.cl f.a6.modes ?_) | refine WQ.cl f.ch.a1.modes ?_ | refine W1.cl f.ch.a1.modes (r1) ?_ | refine zB ?_ | (refine zC ?_ ?_ <;> intro hc; all_goals first | (cases hc; done) | ((try simp only [hc]); (try simp only [bm] at hc))) | refine zE ?_ | refine zNZ ?_ | fail)
          all_goals first | exact absurd hc e | exact ⟨.inr rfl, rfl, rfl⟩ | trace_state
        · rw [if_pos rfl, errAV]
          repeat' (first | refine zA ?_ | refine WQ.cl f.a6.modes ?_ | refine W1.cl f.a6.modes (r0) ?_ | (refine WQ.cl f.a6.modes ?_) | refine WQ.cl f.ch.a1.modes ?_ | refine W1.cl f.ch.a1.modes (r1) ?_ | refine zB ?_ | (refine zC ?_ ?_ <;> intro hc; all_goals first | (cases hc; done) | ((try simp only [hc]); (try simp only [bm] at hc))) | refine zE ?_ | refine zNZ ?_ | fail)
          all_goals first | exact absurd hc e | exact ⟨.inr rfl, rfl, rfl⟩ | trace_state
      · rw [hT] at r0
        rw [Bool.true_or, if_pos rfl, errAV]
        repeat' (first | refine zA ?_ | refine WQ.cl f.a6.modes ?_ | refine W1.cl f.a6.modes (r0) ?_ | (refine WQ.cl f.a6.modes ?_) | refine WQ.cl f.ch.a1.modes ?_ | refine W1.cl f.ch.a1.modes (r1) ?_ | refine zB ?_ | (refine zC ?_ ?_ <;> intro hc; all_goals first | (cases hc; done) | ((try simp only [hc]); (try simp only [bm] at hc))) | refine zE ?_ | refine zNZ ?_ | fail)
        all_goals first | exact absurd hc e | exact ⟨.inr rfl, rfl, rfl⟩ | trace_state
  · have e := kb_and tk 5
    rw [k5] at e
    have hq := k5
    rw [← hk] at hq
    have hLo := look_of v t hA tk hK hq
    have hLa := look_at v t hA tk hK
    rw [hq] at hLa
    cases hN : t.arrays with
    | nil =>
      rw [hN] at e hLo r0
      refine Ret.mk f.a1 rfl ?_
      rw [V.av_eq, Ty.av_eq, hk, hA, hN]
      rw [hLo rfl, errAV_cons]
      have e := e.2 rfl
      repeat' (first | refine zA ?_ | refine WQ.cl f.a6.modes ?_ | refine W1.cl f.a6.modes (r0) ?_ | (refine WQ.cl f.a6.modes ?_) | refine zB ?_ | (refine zC ?_ ?_ <;> intro hc; all_goals first | (cases hc; done) | ((try simp only [hc]); (try simp only [bm] at hc))) | refine zE ?_ | refine zNZ ?_ | fail)
      all_goals first | exact absurd e hc | exact ⟨.inr rfl, rfl, rfl⟩ | trace_state
    | cons a r =>
      have ham : a ∈ t.arrays := by rw [hN]; simp
      have hab := arBk_mem ham
      have hak := Ar.bk_eq a
      have r1 := lookArr_ret f.a2 f.a1.modes f.to v a (by omega) (fun x hx => ih' x hx a.item (by omega) (p2 a ham))
      have hd : decide ((((a :: r).length : Nat) : Int) > 0) = true := decide_eq_true (by simp only [List.length_cons]; omega)
      rw [hN, hd] at e hLa
      rw [hN, List.map_cons, Ar.row_eq a] at r0
      have hLa := hLa rfl
      have e := mt e.1 (by simp)
      rw [hk, if_neg (by decide), if_neg (by decide), if_pos rfl] at hLa
      simp only [] at hLa
      rw [hLa]
      rw [V.av_eq, hk, Ar.row_eq] at r1
      refine Ret.mk f.a1 rfl ?_
      rw [V.av_eq, Ty.av_eq, hk, hA, hN, List.map_cons, Ar.row_eq a]
      generalize lkArr (v.items.map lookM) a = m at *
      cases m with
      | nil =>
        rw [errAV] at r1 ⊢
        repeat' (first | refine zA ?_ | refine WQ.cl f.a6.modes ?_ | refine W1.cl f.a6.modes (r0) ?_ | (refine WQ.cl f.a6.modes ?_) | ((apply W1.iadr; (iterate 3 exact rfl); omega; exact rfl)) | refine WQ.cl f.a2.modes ?_ | refine W1.cl f.a2.modes (r1) ?_ | (refine WQ.cl f.a2.modes ?_) | refine zB ?_ | (refine zC ?_ ?_ <;> intro hc; all_goals first | (cases hc; done) | ((try simp only [hc]); (try simp only [bm] at hc))) | refine zE ?_ | refine zNZ ?_ | fail)
        all_goals first | exact absurd hc e | exact ⟨.inr rfl, rfl, rfl⟩ | trace_state
      | cons pp m =>
        obtain ⟨z, w⟩ := pp
        rw [errAV_cons] at r1 ⊢
        generalize AV.vptr [.int .i64 z, .int .i64 w.kind, .str w.num, .str w.text, .lst 5 (w.items.map V.row), .lst 1 (srow w.keys), errAV m] = ew at *
        repeat' (first | refine zA ?_ | refine WQ.cl f.a6.modes ?_ | refine W1.cl f.a6.modes (r0) ?_ | (refine WQ.cl f.a6.modes ?_) | ((apply W1.iadr; (iterate 3 exact rfl); omega; exact rfl)) | refine WQ.cl f.a2.modes ?_ | refine W1.cl f.a2.modes (r1) ?_ | (refine WQ.cl f.a2.modes ?_) | refine zB ?_ | (refine zC ?_ ?_ <;> intro hc; all_goals first | (cases hc; done) | ((try simp only [hc]); (try simp only [bm] at hc))) | refine zE ?_ | refine zNZ ?_ | fail)
        all_goals first | exact absurd hc e | exact ⟨.inr rfl, rfl, rfl⟩ | trace_state
  · have e := kb_and tk 6
    rw [k6] at e
    have hq := k6
    rw [← hk] at hq
    have hLo := look_of v t hA tk hK hq
    have hLa := look_at v t hA tk hK
    rw [hq] at hLa
    have hlk := (hfi.2.2.2.2.2.2.2.1 hk).1
    by_cases hN : t.objects = []
    · rw [hN] at e hLo r0
      refine Ret.mk f.a1 rfl ?_
      rw [V.av_eq, Ty.av_eq, hk, hA, hN]
      rw [hLo rfl, errAV_cons]
      have e := e.2 rfl
      repeat' (first | refine zA ?_ | refine WQ.cl f.a6.modes ?_ | refine W1.cl f.a6.modes (r0) ?_ | (refine WQ.cl f.a6.modes ?_) | refine zB ?_ | (refine zC ?_ ?_ <;> intro hc; all_goals first | (cases hc; done) | ((try simp only [hc]); (try simp only [bm] at hc))) | refine zE ?_ | refine zNZ ?_ | fail)
      all_goals first | exact absurd e hc | exact ⟨.inr rfl, rfl, rfl⟩ | trace_state
    · have hd : decide (((t.objects.length : Nat) : Int) > 0) = true := decide_eq_true (by have := List.length_pos_iff.2 hN; omega)
      have r1 := lookObj_ret f.a3 f.a4.modes (v.items.map lookM) v.keys v t.objects (by omega) (fun o ho => by
        have hob := obBk_mem ho
        exact lookFields_ret f.a4 f.a1.modes f.ch.gg f.bs v o hk hlk hb (by omega) (tobj_ok hft o ho) (fun x hx k => ih' x hx (fldO o k) (by have := mfld_bk ho k; omega) ((tobj_ok hft o ho).fld k)))
      rw [hd] at e hLa
      have hLa := hLa rfl
      have e := mt e.1 (by simp)
      rw [hk, if_neg (by decide), if_neg (by decide), if_neg (by decide), if_pos rfl] at hLa
      rw [hLa]
      rw [V.av_eq, hk] at r1
      refine Ret.mk f.a1 rfl ?_
      rw [V.av_eq, Ty.av_eq, hk, hA]
      generalize lkObjs (v.items.map lookM) v.keys t.objects = m at *
      cases m with
      | nil =>
        rw [errAV] at r1 ⊢
        repeat' (first | refine zA ?_ | refine WQ.cl f.a6.modes ?_ | refine W1.cl f.a6.modes (r0) ?_ | (refine WQ.cl f.a6.modes ?_) | refine WQ.cl f.a3.modes ?_ | refine W1.cl f.a3.modes (r1) ?_ | refine zB ?_ | (refine zC ?_ ?_ <;> intro hc; all_goals first | (cases hc; done) | ((try simp only [hc]); (try simp only [bm] at hc))) | refine zE ?_ | refine zNZ ?_ | fail)
        all_goals first | exact absurd hc e | exact ⟨.inr rfl, rfl, rfl⟩ | trace_state
      | cons pp m =>
        obtain ⟨z, w⟩ := pp
        rw [errAV_cons] at r1 ⊢
        generalize AV.vptr [.int .i64 z, .int .i64 w.kind, .str w.num, .str w.text, .lst 5 (w.items.map V.row), .lst 1 (srow w.keys), errAV m] = ew at *
        repeat' (first | refine zA ?_ | refine WQ.cl f.a6.modes ?_ | refine W1.cl f.a6.modes (r0) ?_ | (refine WQ.cl f.a6.modes ?_) | refine WQ.cl f.a3.modes ?_ | refine W1.cl f.a3.modes (r1) ?_ | refine zB ?_ | (refine zC ?_ ?_ <;> intro hc; all_goals first | (cases hc; done) | ((try simp only [hc]); (try simp only [bm] at hc))) | refine zE ?_ | refine zNZ ?_ | fail)
        all_goals first | exact absurd hc e | exact ⟨.inr rfl, rfl, rfl⟩ | trace_state
end
end Hm

/- Which values the program says are well shaped, and the law. Conditions: see each theorem. -/
namespace Hm
open Go (IntKind)
set_option maxHeartbeats 4000000
set_option maxRecDepth 4000
structure VfFns (T : Tab) : Prop where
  a1 : Fn T F.value_Formed value_Formed.fn
  a2 : Fn T F.value_allFormed value_allFormed.fn
  a3 : Fn T F.value_allFormed_S1 value_allFormed_S1.fn
  a4 : Fn T F.value_empty value_empty.fn
  a5 : Fn T F.value_rise value_rise.fn
  a6 : Fn T F.utf_Valid utf_Valid.fn
  a7 : Fn T F.tens_Formed tens_Formed.fn
  a8 : Fn T F.slices_ContainsFunc_LValue_Value slices_ContainsFunc_LValue_Value.fn
  a9 : Fn T F.slices_IndexFunc_LValue_Value slices_IndexFunc_LValue_Value.fn
section
variable {T : Tab}
theorem indexFuncV_ret (h : Fn T F.slices_IndexFunc_LValue_Value slices_IndexFunc_LValue_Value.fn) {p : V → Bool} {g : Nat} (hg : T.modes g = [.val]) (l : List V) (hl : l.length ≤ 1073741824)
    (ih : ∀ x ∈ l, Ret T g [.val x.av] (one (.bool (p x)))) : ∃ n : Int, (0 ≤ n ↔ l.any p = true) ∧ Ret T F.slices_IndexFunc_LValue_Value [.val (.lst 5 (l.map V.row)), .val (.clo g [] [])] (one (.int .i64 n)) := by
  have e1 : (l.map V.row).length = l.length := List.length_map ..
  refine Ret.ex1 (g := fun n => AV.int .i64 n) (R := fun n => (0 ≤ n ↔ l.any p = true)) h rfl ?_
  repeat' (first | refine zA ?_ | refine zB ?_ | (refine zC ?_ ?_ <;> intro hc; all_goals first | (cases hc; done) | ((try simp only [hc]); (try simp only [bm] at hc))) | refine zE ?_ | refine zN ?_ | fail)
  refine W.listP l (fun i (_ : Unit) s => s.put 8 (.av (.int .i64 (i : Int)))) (fun i _ => (l.take i).any p = false) () (by simp) rfl ?_ ?_
  · intro i x u hx hi hp
    have r := ih x (List.mem_of_getElem? hx)
    rw [V.av_eq] at r
    repeat' (first | refine zA ?_ | refine WQ.cl hg ?_ | refine W1.cl hg (r) ?_ | refine zB ?_ | (refine zC ?_ ?_ <;> intro hc; all_goals first | (cases hc; done) | ((try simp only [hc]); (try simp only [bm] at hc))) | refine zE ?_ | refine zN ?_ | fail)
    all_goals clear r
    · refine ⟨_, ?_, Qend.num rfl rfl rfl⟩
      have : l.any p = true := List.any_eq_true.2 ⟨x, List.mem_of_getElem? hx, by assumption⟩
      simp [this]
    · refine ⟨(), ?_, rfl⟩
      rw [List.take_add_one, hx, List.any_append, hp]; simp_all
  · intro u hp
    rw [List.take_length] at hp
    repeat' (first | refine zA ?_ | refine zB ?_ | (refine zC ?_ ?_ <;> intro hc; all_goals first | (cases hc; done) | ((try simp only [hc]); (try simp only [bm] at hc))) | refine zE ?_ | refine zN ?_ | fail)
    refine ⟨_, ?_, Qend.num rfl rfl rfl⟩
    rw [hp]; simp
theorem containsFuncV_ret (h : Fn T F.slices_ContainsFunc_LValue_Value slices_ContainsFunc_LValue_Value.fn) (hi : Fn T F.slices_IndexFunc_LValue_Value slices_IndexFunc_LValue_Value.fn) {p : V → Bool} {g : Nat} (hg : T.modes g = [.val]) (l : List V) (hl : l.length ≤ 1073741824)
    (ih : ∀ x ∈ l, Ret T g [.val x.av] (one (.bool (p x)))) : Ret T F.slices_ContainsFunc_LValue_Value [.val (.lst 5 (l.map V.row)), .val (.clo g [] [])] (one (.bool (l.any p))) := by
  obtain ⟨n, hn, r⟩ := indexFuncV_ret hi hg l hl ih
  refine Ret.mk h rfl ?_
  repeat' (first | refine zA ?_ | refine WQ.cl hi.modes ?_ | refine W1.cl hi.modes (r) ?_ | refine zB ?_ | (refine zC ?_ ?_ <;> intro hc; all_goals first | (cases hc; done) | ((try simp only [hc]); (try simp only [bm] at hc))) | refine zE ?_ | refine zN ?_ | fail)
  refine Qend.boo rfl rfl ?_
  rw [Bool.eq_iff_iff, ← hn]; simp
theorem vrise_ret (h : Fn T F.value_rise value_rise.fn) (hu : Fn T F.utf_Valid utf_Valid.fn) (hv : ValidOk T) (l : List Str) (hb : sbk l ≤ 1073741824) : Ret T F.value_rise [.val (.lst 1 (srow l))] (one (.bool (rise l))) := by
  refine Ret.mk h rfl ?_
  have hl := len_sbk l
  have e1 := srow_len l
  repeat' (first | refine zA ?_ | refine zB ?_ | (refine zC ?_ ?_ <;> intro hc; all_goals first | (cases hc; done) | ((try simp only [hc]); (try simp only [bm] at hc))) | refine zE ?_ | refine zN ?_ | fail)
  refine W.listP l (fun i (_ : Unit) s => s.put 7 (.av (.int .i64 (i : Int)))) (fun i _ => ∀ j < i, riseAt l j = true) () (by simp) rfl ?_ ?_
  · intro i x u hx hi hp
    have hsx := sbk_mem (List.mem_of_getElem? hx)
    have hret := hv x (by omega)
    have hgx : l.getD i [] = x := by simp [List.getD, hx]
    by_cases h0 : i = 0
    · subst h0
      repeat' (first | refine zA ?_ | refine WQ.cl hu.modes ?_ | refine W1.cl hu.modes (hret) ?_ | refine zB ?_ | (refine zC ?_ ?_ <;> intro hc; all_goals first | (cases hc; done) | ((try simp only [hc]); (try simp only [bm] at hc))) | refine zE ?_ | refine zN ?_ | fail)
      all_goals clear hret hv
      all_goals first
        | (refine Qend.boo rfl rfl ?_; rw [rise_false hi (by simp_all [riseAt])]; done)
        | (refine ⟨(), fun j hj => ?_, rfl⟩; obtain rfl : j = 0 := by omega
           simp_all [riseAt]; done)
        | (exfalso; omega)
    · obtain ⟨y, hy⟩ : ∃ y, l[i - 1]? = some y := ⟨l[i - 1]'(by omega), List.getElem?_eq_getElem (by omega)⟩
      have hgy : l.getD (i - 1) [] = y := by simp [List.getD, hy]
      have hry : (srow l)[((i : Int) - 1).toNat]? = some [.str y] := by
        have : ((i : Int) - 1).toNat = i - 1 := by omega
        rw [this]; exact get_srow hy
      repeat' (first | refine zA ?_ | refine WQ.cl hu.modes ?_ | refine W1.cl hu.modes (hret) ?_ | refine zB ?_ | (refine zC ?_ ?_ <;> intro hc; all_goals first | (cases hc; done) | ((try simp only [hc]); (try simp only [bm] at hc))) | refine zE ?_ | refine zN ?_ | fail)
      all_goals clear hret hv
      all_goals first
        | (refine Qend.boo rfl rfl ?_; rw [rise_false hi (by simp_all [riseAt])]; done)
        | (refine ⟨(), fun j hj => ?_, rfl⟩
           by_cases hji : j < i
           · exact hp j hji
           · obtain rfl : j = i := by omega
             simp_all [riseAt])
        | (exfalso; omega)
  · intro u hp
    repeat' (first | refine zA ?_ | refine zB ?_ | (refine zC ?_ ?_ <;> intro hc; all_goals first | (cases hc; done) | ((try simp only [hc]); (try simp only [bm] at hc))) | refine zE ?_ | refine zN ?_ | fail)
    refine Qend.boo rfl rfl ?_
    rw [rise_true hp]
theorem vempty_ret (h : Fn T F.value_empty value_empty.fn) (v : V) (a b c d : Bool) : Ret T F.value_empty [.val v.av, .val (.bool a), .val (.bool b), .val (.bool c), .val (.bool d)]
    (one (.bool ((a || v.num == []) && (b || v.text == []) && (c || decide (v.items.length = 0)) && (d || decide (v.keys.length = 0))))) := by
  have e1 := srow_len v.keys
  have e2 : (v.items.map V.row).length = v.items.length := List.length_map ..
  have z : ∀ n : Nat, ((n : Int) == 0) = decide (n = 0) := fun n => by rw [Bool.eq_iff_iff]; simp
  refine Ret.mk h rfl ?_
  rw [V.av_eq]
  repeat' (first | refine zA ?_ | refine zB ?_ | (refine zC ?_ ?_ <;> intro hc; all_goals first | (cases hc; done) | ((try simp only [hc]); (try simp only [bm] at hc))) | refine zE ?_ | refine zN ?_ | fail)
  all_goals refine Qend.boo rfl rfl ?_
  all_goals clear h
  all_goals first | (simp_all; done) | (rw [Bool.eq_iff_iff]; simp_all; done) | (simp_all [z]; done) | (rw [Bool.eq_iff_iff]; simp_all [z]; done)
theorem vformed_eq (k : Int) (n t : Str) (is : List V) (ks : List Str) : formed (.mk k n t is ks) = (decide (0 ≤ k) && decide (k ≤ 6) && (if k = 3 then number n else decide (n = [])) && (if k = 4 then utf t else decide (t = [])) && (decide (5 ≤ k) || decide (is.length = 0)) && (decide (6 ≤ k) || decide (ks.length = 0)) &&
    (decide (k ≠ 6) || (decide (is.length = ks.length) && rise ks)) && is.all formed) := by
  have q : ∀ a b : Nat, (a == b) = decide (b = a) := fun a b => by rw [Bool.eq_iff_iff, beq_iff_eq, decide_eq_true_eq]; exact eq_comm
  simp only [formed, formedAll_eq]
  rw [Bool.eq_iff_iff]
  simp only [Bool.and_eq_true, Bool.or_eq_true, Bool.not_eq_true', Bool.or_eq_false_iff, Bool.and_eq_false_iff, decide_eq_true_eq, decide_eq_false_iff_not, q]
  grind
theorem valueFormed_ret (f : VfFns T) (hv : ValidOk T) : ∀ (v : V), v.bk ≤ 1073741824 → Ret T F.value_Formed [.val v.av] (one (.bool (formed v))) := by
  intro v
  induction v using V.ind with
  | h v ih =>
  intro hb
  have hbk := V.bk_eq v
  have hk := len_sbk v.keys
  have hl := V.len_bks v.items
  have e1 := srow_len v.keys
  have e2 : (v.items.map V.row).length = v.items.length := List.length_map ..
  have z : ∀ n : Nat, ((n : Int) == 0) = decide (n = 0) := fun n => by rw [Bool.eq_iff_iff]; simp
  have r1 := tensFormed_ret f.a7 v.num (by omega)
  have r2 := hv v.text (by omega)
  have r3 := vrise_ret f.a5 f.a6 hv v.keys (by omega)
  have r0 := vempty_ret f.a4 v
  have rc : ∀ x ∈ v.items, Ret T F.value_allFormed_S1 [.val x.av] (one (.bool (!formed x))) := fun x hx => by
    have r := ih x hx (by have := V.bk_item hx; omega)
    refine Ret.mk f.a3 rfl ?_
    rw [V.av_eq] at *
    repeat' (first | refine zA ?_ | refine WQ.cl f.a1.modes ?_ | refine W1.cl f.a1.modes (r) ?_ | refine zB ?_ | (refine zC ?_ ?_ <;> intro hc; all_goals first | (cases hc; done) | ((try simp only [hc]); (try simp only [bm] at hc))) | refine zE ?_ | refine zN ?_ | fail)
    exact Qend.boo rfl rfl rfl
  have r5 := containsFuncV_ret f.a8 f.a9 (p := fun x => !formed x) f.a3.modes v.items (by omega) rc
  have r4 : Ret T F.value_allFormed [.val (.lst 5 (v.items.map V.row))] (one (.bool (v.items.all formed))) := by
    refine Ret.mk f.a2 rfl ?_
    repeat' (first | refine zA ?_ | refine WQ.cl f.a8.modes ?_ | refine W1.cl f.a8.modes (r5) ?_ | refine zB ?_ | (refine zC ?_ ?_ <;> intro hc; all_goals first | (cases hc; done) | ((try simp only [hc]); (try simp only [bm] at hc))) | refine zE ?_ | refine zN ?_ | fail)
    refine Qend.boo rfl rfl ?_
    rw [List.all_eq_not_any_not]
  clear r5 rc ih hv
  refine Ret.mk f.a1 rfl ?_
  obtain ⟨k, n, t, is, ks⟩ := v
  rw [vformed_eq]
  rw [V.av_eq] at *
  simp only [V.kind, V.num, V.text, V.items, V.keys] at *
  repeat' (first | refine zA ?_ | refine WQ.cl f.a4.modes ?_ | refine W1.cl f.a4.modes (r0 _ _ _ _) ?_ | refine WQ.cl f.a7.modes ?_ | refine W1.cl f.a7.modes (r1) ?_ | refine WQ.cl f.a6.modes ?_ | refine W1.cl f.a6.modes (r2) ?_ | refine WQ.cl f.a5.modes ?_ | refine W1.cl f.a5.modes (r3) ?_ | refine WQ.cl f.a2.modes ?_ | refine W1.cl f.a2.modes (r4) ?_ | refine zB ?_ | (refine zC ?_ ?_ <;> intro hc; all_goals first | (cases hc; done) | ((try simp only [hc]); (try simp only [bm] at hc))) | refine zE ?_ | refine zN ?_ | fail)
  all_goals refine Qend.boo rfl rfl ?_
  all_goals clear r0 r1 r2 r3 r4 hb hbk hk hl e1 e2
  all_goals (try simp only [List.length_map, srow_len, Int.natCast_inj] at *)
  all_goals first
    | (simp_all; done)
    | (simp_all; omega)
    | (rw [Bool.eq_iff_iff]; simp_all; done)
    | (rw [Bool.eq_iff_iff]; simp_all; omega)
    | trace_state
end
end Hm

/- Well shaped types, as the program has them: words, texts. Conditions: see each theorem. -/
namespace Hm
open Go (IntKind)
set_option maxHeartbeats 4000000
set_option maxRecDepth 4000
section
variable {T : Tab}
theorem sbare_ret (h : Fn T F.shape_piece_bare shape_piece_bare.fn) (t : Ty) : Ret T F.shape_piece_bare [.val t.av] (one (.bool (bare t))) := by
  have z : ∀ n : Nat, ((n : Int) == 0) = decide (n = 0) := fun n => by rw [Bool.eq_iff_iff]; simp
  have e1 := srow_len t.texts
  have e2 := sprow_len t.nums
  have s1 : srow t.texts = [] ↔ t.texts = [] := by rw [← List.length_eq_zero_iff, ← List.length_eq_zero_iff, e1]
  have s2 : sprow t.nums = [] ↔ t.nums = [] := by rw [← List.length_eq_zero_iff, ← List.length_eq_zero_iff, e2]
  refine Ret.mk h rfl ?_
  rw [Ty.av_eq]
  repeat' (first | refine zA ?_ | refine zB ?_ | (refine zC ?_ ?_ <;> intro hc; all_goals first | (cases hc; done) | ((try simp only [hc]); (try simp only [bm] at hc))) | refine zE ?_ | refine zNT ?_ | fail)
  all_goals refine Qend.boo rfl rfl ?_
  all_goals simp only [bare]
  all_goals clear h e1 e2
  all_goals first | (simp_all; done) | (rw [Bool.eq_iff_iff]; simp_all; done) | (simp_all [z]; done)
theorem snever_ret (h : Fn T F.shape_never shape_never.fn) (h1 : Fn T F.shape_piece_bare shape_piece_bare.fn) (t : Ty) : Ret T F.shape_never [.val t.av] (one (.bool (never t))) := by
  have r := sbare_ret h1 t
  refine Ret.mk h rfl ?_
  rw [Ty.av_eq] at *
  repeat' (first | refine zA ?_ | refine WQ.cl h1.modes ?_ | refine W1.cl h1.modes (r) ?_ | refine zB ?_ | (refine zC ?_ ?_ <;> intro hc; all_goals first | (cases hc; done) | ((try simp only [hc]); (try simp only [bm] at hc))) | refine zE ?_ | refine zNT ?_ | fail)
  all_goals refine Qend.boo rfl rfl ?_
  all_goals simp only [never]
  all_goals clear r
  all_goals first | (simp_all; done) | (rw [Bool.eq_iff_iff]; simp_all; done)
theorem severy_ret (h : Fn T F.shape_piece_every shape_piece_every.fn) (h1 : Fn T F.shape_piece_bare shape_piece_bare.fn) (t : Ty) : Ret T F.shape_piece_every [.val t.av] (one (.bool (!t.all || bare t))) := by
  have r := sbare_ret h1 t
  refine Ret.mk h rfl ?_
  rw [Ty.av_eq] at *
  repeat' (first | refine zA ?_ | refine WQ.cl h1.modes ?_ | refine W1.cl h1.modes (r) ?_ | refine zB ?_ | (refine zC ?_ ?_ <;> intro hc; all_goals first | (cases hc; done) | ((try simp only [hc]); (try simp only [bm] at hc))) | refine zE ?_ | refine zNT ?_ | fail)
  all_goals refine Qend.boo rfl rfl ?_
  all_goals clear r
  all_goals first | (simp_all; done) | (rw [Bool.eq_iff_iff]; simp_all; done)
theorem srise_ret (h : Fn T F.shape_rise shape_rise.fn) (hu : Fn T F.utf_Valid utf_Valid.fn) (hv : ValidOk T) (l : List Str) (hb : sbk l ≤ 1073741824) : Ret T F.shape_rise [.val (.lst 1 (srow l))] (one (.bool (rise l))) := by
  refine Ret.mk h rfl ?_
  have hl := len_sbk l
  have e1 := srow_len l
  repeat' (first | refine zA ?_ | refine zB ?_ | (refine zC ?_ ?_ <;> intro hc; all_goals first | (cases hc; done) | ((try simp only [hc]); (try simp only [bm] at hc))) | refine zE ?_ | refine zNT ?_ | fail)
  refine W.listP l (fun i (_ : Unit) s => s.put 7 (.av (.int .i64 (i : Int)))) (fun i _ => ∀ j < i, riseAt l j = true) () (by simp) rfl ?_ ?_
  · intro i x u hx hi hp
    have hsx := sbk_mem (List.mem_of_getElem? hx)
    have hret := hv x (by omega)
    have hgx : l.getD i [] = x := by simp [List.getD, hx]
    by_cases h0 : i = 0
    · subst h0
      repeat' (first | refine zA ?_ | refine WQ.cl hu.modes ?_ | refine W1.cl hu.modes (hret) ?_ | refine zB ?_ | (refine zC ?_ ?_ <;> intro hc; all_goals first | (cases hc; done) | ((try simp only [hc]); (try simp only [bm] at hc))) | refine zE ?_ | refine zNT ?_ | fail)
      all_goals clear hret hv
      all_goals first
        | (refine Qend.boo rfl rfl ?_; rw [rise_false hi (by simp_all [riseAt])]; done)
        | (refine ⟨(), fun j hj => ?_, rfl⟩; obtain rfl : j = 0 := by omega
           simp_all [riseAt]; done)
        | (exfalso; omega)
    · obtain ⟨y, hy⟩ : ∃ y, l[i - 1]? = some y := ⟨l[i - 1]'(by omega), List.getElem?_eq_getElem (by omega)⟩
      have hgy : l.getD (i - 1) [] = y := by simp [List.getD, hy]
      have hry : (srow l)[((i : Int) - 1).toNat]? = some [.str y] := by
        have : ((i : Int) - 1).toNat = i - 1 := by omega
        rw [this]; exact get_srow hy
      repeat' (first | refine zA ?_ | refine WQ.cl hu.modes ?_ | refine W1.cl hu.modes (hret) ?_ | refine zB ?_ | (refine zC ?_ ?_ <;> intro hc; all_goals first | (cases hc; done) | ((try simp only [hc]); (try simp only [bm] at hc))) | refine zE ?_ | refine zNT ?_ | fail)
      all_goals clear hret hv
      all_goals first
        | (refine Qend.boo rfl rfl ?_; rw [rise_false hi (by simp_all [riseAt])]; done)
        | (refine ⟨(), fun j hj => ?_, rfl⟩
           by_cases hji : j < i
           · exact hp j hji
           · obtain rfl : j = i := by omega
             simp_all [riseAt])
        | (exfalso; omega)
  · intro u hp
    repeat' (first | refine zA ?_ | refine zB ?_ | (refine zC ?_ ?_ <;> intro hc; all_goals first | (cases hc; done) | ((try simp only [hc]); (try simp only [bm] at hc))) | refine zE ?_ | refine zNT ?_ | fail)
    refine Qend.boo rfl rfl ?_
    rw [rise_true hp]
theorem stexts_ret (h : Fn T F.shape_piece_texts shape_piece_texts.fn) (h1 : Fn T F.shape_rise shape_rise.fn) (hu : Fn T F.utf_Valid utf_Valid.fn) (hv : ValidOk T) (t : Ty) (hb : t.bk ≤ 1073741824) :
    Ret T F.shape_piece_texts [.val t.av] (one (.bool (rise t.texts && (!t.anyText || decide (t.texts.length = 0))))) := by
  have hk := Ty.bk_eq t
  have r := srise_ret h1 hu hv t.texts (by omega)
  refine Ret.mk h rfl ?_
  rw [Ty.av_eq]
  repeat' (first | refine zA ?_ | refine WQ.cl h1.modes ?_ | refine W1.cl h1.modes (r) ?_ | refine zB ?_ | (refine zC ?_ ?_ <;> intro hc; all_goals first | (cases hc; done) | ((try simp only [hc]); (try simp only [bm] at hc))) | refine zE ?_ | refine zNT ?_ | fail)
  all_goals refine Qend.boo rfl rfl ?_
  all_goals clear r hv
  all_goals first | (simp_all; done) | (rw [Bool.eq_iff_iff]; simp_all; done) | (simp_all; omega) | (rw [Bool.eq_iff_iff]; simp_all; omega)
end
end Hm

/- Well shaped types, as the program has them: rows and objects. Conditions: see each theorem. -/
namespace Hm
open Go (IntKind)
set_option maxHeartbeats 4000000
set_option maxRecDepth 4000
def FormedS (T : Tab) (v : Ty) : Prop := Ret T F.shape_Formed [.val v.av] (one (.bool (tformed v)))
theorem sarrays_of {T : Tab} (h : Fn T F.shape_piece_arrays shape_piece_arrays.fn) (hf : Fn T F.shape_Formed shape_Formed.fn) (h1 : Fn T F.shape_never shape_never.fn) (h2 : Fn T F.shape_piece_bare shape_piece_bare.fn)
    (t : Ty) (hb : t.bk ≤ 1073741824) (ih : ∀ x ∈ t.arrays, FormedS T x.item) : Ret T F.shape_piece_arrays [.val t.av] (one (.bool (decide (t.arrays.length ≤ 1) && t.arrays.all arOk))) := by
  refine Ret.mk h rfl ?_
  have hbk := Ty.bk_eq t
  have hl := len_arBks t.arrays
  have e1 : (t.arrays.map Ar.row).length = t.arrays.length := List.length_map ..
  have z : ∀ n : Int, (n == 0) = decide (n = 0) := fun n => by rw [Bool.eq_iff_iff]; simp
  rw [Ty.av_eq]
  repeat' (first | refine zA ?_ | refine zB ?_ | (refine zC ?_ ?_ <;> intro hc; all_goals first | (cases hc; done) | ((try simp only [hc]); (try simp only [bm] at hc))) | refine zE ?_ | refine zNT ?_ | fail)
  refine W.listP t.arrays (fun i (_ : Unit) s => s.put 8 (.av (.int .i64 (i : Int)))) (fun i _ => (t.arrays.take i).all arOk = true) () (by simp) rfl ?_ ?_
  · intro i x u hx hi hp
    have r1 := ih x (List.mem_of_getElem? hx)
    have r2 := snever_ret h1 h2 x.item
    rw [FormedS, Ty.av_eq] at r1
    rw [Ty.av_eq] at r2
    repeat' (first | refine zA ?_ | refine WQ.cl hf.modes ?_ | refine W1.cl hf.modes (r1) ?_ | refine WQ.cl h1.modes ?_ | refine W1.cl h1.modes (r2) ?_ | refine zB ?_ | (refine zC ?_ ?_ <;> intro hc; all_goals first | (cases hc; done) | ((try simp only [hc]); (try simp only [bm] at hc))) | refine zE ?_ | refine zNT ?_ | fail)
    all_goals clear r1 r2 ih
    all_goals first
      | (exfalso; simp_all; done)
      | (refine ⟨(), ?_, rfl⟩; rw [all_take_succ hx, hp, arOk_eq]; simp_all; done)
      | (refine ⟨(), ?_, rfl⟩; rw [all_take_succ hx, hp, arOk_eq]; simp_all; omega)
      | (refine Qend.boo rfl rfl ?_; rw [all_false hx (by rw [arOk_eq]; simp_all; done), Bool.and_false]; done)
      | (refine Qend.boo rfl rfl ?_; rw [all_false hx (by rw [arOk_eq]; simp_all; omega), Bool.and_false]; done)
      | skip
  · intro u hp
    rw [List.take_length] at hp
    repeat' (first | refine zA ?_ | refine zB ?_ | (refine zC ?_ ?_ <;> intro hc; all_goals first | (cases hc; done) | ((try simp only [hc]); (try simp only [bm] at hc))) | refine zE ?_ | refine zNT ?_ | fail)
    all_goals refine Qend.boo rfl rfl ?_
    all_goals rw [hp, Bool.and_true]
    all_goals first | (rw [Bool.eq_iff_iff]; simp; done) | (rw [Bool.eq_iff_iff]; simp; omega) | (simp_all; omega) | skip
end Hm

/- Well shaped types, as the program has them: objects. Conditions: see each theorem. -/
namespace Hm
open Go (IntKind)
set_option maxHeartbeats 4000000
set_option maxRecDepth 4000
theorem obOk_false {o : Ob} (hn : ¬ (o.names.length = o.fields.length ∧ o.names.length = o.must.length ∧ rise o.names = true ∧ tformed o.rest = true)) : obOk o = false := by
  rw [obOk_eq, Bool.eq_false_iff]
  intro hc
  simp only [Bool.and_eq_true, decide_eq_true_eq] at hc
  exact hn ⟨hc.1.1.1.1, hc.1.1.1.2, hc.1.1.2, hc.1.2⟩
theorem sobjects_of {T : Tab} (h : Fn T F.shape_piece_objects shape_piece_objects.fn) (hf : Fn T F.shape_Formed shape_Formed.fn) (h1 : Fn T F.shape_never shape_never.fn) (h2 : Fn T F.shape_piece_bare shape_piece_bare.fn)
    (h3 : Fn T F.shape_rise shape_rise.fn) (hu : Fn T F.utf_Valid utf_Valid.fn) (hv : ValidOk T)
    (t : Ty) (hb : t.bk ≤ 1073741824) (ih : ∀ x ∈ t.objects, FormedS T x.rest ∧ ∀ y ∈ x.fields, FormedS T y) : Ret T F.shape_piece_objects [.val t.av] (one (.bool (t.objects.all obOk))) := by
  refine Ret.mk h rfl ?_
  have hbk := Ty.bk_eq t
  have hl := len_obBks t.objects
  have e1 : (t.objects.map Ob.row).length = t.objects.length := List.length_map ..
  rw [Ty.av_eq]
  repeat' (first | refine zA ?_ | refine zB ?_ | (refine zC ?_ ?_ <;> intro hc; all_goals first | (cases hc; done) | ((try simp only [hc]); (try simp only [bm] at hc))) | refine zE ?_ | refine zN ?_ | fail)
  refine W.listP t.objects (fun i (_ : Unit) s => s.put 10 (.av (.int .i64 (i : Int)))) (fun i _ => (t.objects.take i).all obOk = true) () (by simp) rfl ?_ ?_
  · intro i o u hx hi hp
    have hbo := obBk_mem (List.mem_of_getElem? hx)
    have hbko := Ob.bk_eq o
    have l1 := len_sbk o.names
    have l2 := len_tyBks o.fields
    have e2 := srow_len o.names
    have e3 := brow_len o.must
    have e4 : (o.fields.map Ty.row).length = o.fields.length := List.length_map ..
    have r0 := srise_ret h3 hu hv o.names (by omega)
    obtain ⟨r1, ihf⟩ := ih o (List.mem_of_getElem? hx)
    rw [FormedS, Ty.av_eq] at r1
    by_cases hn : o.names.length = o.fields.length ∧ o.names.length = o.must.length ∧ rise o.names = true ∧ tformed o.rest = true
    · obtain ⟨n1, n2, n3, n4⟩ := hn
      have hoe' : obOk o = fieldsOk o.fields o.must := by rw [obOk_eq]; simp [← n1, ← n2, n3, n4]
      repeat' (first | refine zA ?_ | refine WQ.cl h3.modes ?_ | refine W1.cl h3.modes (r0) ?_ | refine WQ.cl hf.modes ?_ | refine W1.cl hf.modes (r1) ?_ | refine zB ?_ | (refine zC ?_ ?_ <;> intro hc; all_goals first | (cases hc; done) | ((try simp only [hc]); (try simp only [bm] at hc))) | refine zE ?_ | refine zN ?_ | fail)
      all_goals first | (exfalso; clear r0 r1; simp_all; done) | (exfalso; omega) | skip
      refine W.listP o.fields (fun i (_ : Unit) s => s.put 45 (.av (.int .i64 (i : Int)))) (fun i _ => fieldsOk (o.fields.take i) o.must = true) () (by simp [fieldsOk]) rfl ?_ ?_
      · intro j x u hxj hj hpj
        obtain ⟨b, hbm⟩ : ∃ b, o.must[j]? = some b := ⟨o.must[j]'(by omega), List.getElem?_eq_getElem (by omega)⟩
        have r2 := ihf x (List.mem_of_getElem? hxj)
        have r3 := snever_ret h1 h2 x
        rw [FormedS, Ty.av_eq] at r2
        rw [Ty.av_eq] at r3
        repeat' (first | refine zA ?_ | refine WQ.cl hf.modes ?_ | refine W1.cl hf.modes (r2) ?_ | refine WQ.cl h1.modes ?_ | refine W1.cl h1.modes (r3) ?_ | refine zB ?_ | (refine zC ?_ ?_ <;> intro hc; all_goals first | (cases hc; done) | ((try simp only [hc]); (try simp only [bm] at hc))) | refine zE ?_ | refine zN ?_ | fail)
        all_goals clear r0 r1 r2 r3 ih ihf
        all_goals first
          | (refine Qend.boo rfl rfl ?_; rw [all_false hx (by rw [hoe', fieldsOk_false hxj hbm (by simp_all)])]; done)
          | (refine ⟨(), ?_, rfl⟩; rw [fieldsOk_take_succ hxj hbm, hpj]; simp_all; done)
          | (exfalso; simp_all; done)
          | skip
      · intro u hpj
        rw [List.take_length] at hpj
        repeat' (first | refine zA ?_ | refine zB ?_ | (refine zC ?_ ?_ <;> intro hc; all_goals first | (cases hc; done) | ((try simp only [hc]); (try simp only [bm] at hc))) | refine zE ?_ | refine zN ?_ | fail)
        all_goals refine ⟨(), ?_, rfl⟩
        all_goals rw [all_take_succ hx, hp, hoe', hpj]; rfl
    · have hoe' := obOk_false hn
      by_cases n1 : o.names.length = o.fields.length
      · by_cases n2 : o.names.length = o.must.length
        · by_cases n3 : rise o.names = true
          · have n4 : tformed o.rest = false := by
              rw [Bool.eq_false_iff]; exact fun hc => hn ⟨n1, n2, n3, hc⟩
            repeat' (first | refine zA ?_ | refine WQ.cl h3.modes ?_ | refine W1.cl h3.modes (r0) ?_ | refine WQ.cl hf.modes ?_ | refine W1.cl hf.modes (r1) ?_ | refine zB ?_ | (refine zC ?_ ?_ <;> intro hc; all_goals first | (cases hc; done) | ((try simp only [hc]); (try simp only [bm] at hc))) | refine zE ?_ | refine zN ?_ | fail)
            all_goals clear r0 r1
            all_goals first | (refine Qend.boo rfl rfl ?_; rw [all_false hx hoe']; done) | (exfalso; omega) | (exfalso; simp_all; done) | skip
          · rw [Bool.not_eq_true] at n3
            repeat' (first | refine zA ?_ | refine WQ.cl h3.modes ?_ | refine W1.cl h3.modes (r0) ?_ | refine WQ.cl hf.modes ?_ | refine W1.cl hf.modes (r1) ?_ | refine zB ?_ | (refine zC ?_ ?_ <;> intro hc; all_goals first | (cases hc; done) | ((try simp only [hc]); (try simp only [bm] at hc))) | refine zE ?_ | refine zN ?_ | fail)
            all_goals clear r0 r1
            all_goals first | (refine Qend.boo rfl rfl ?_; rw [all_false hx hoe']; done) | (exfalso; omega) | (exfalso; simp_all; done) | skip
        · skip
          repeat' (first | refine zA ?_ | refine WQ.cl h3.modes ?_ | refine W1.cl h3.modes (r0) ?_ | refine WQ.cl hf.modes ?_ | refine W1.cl hf.modes (r1) ?_ | refine zB ?_ | (refine zC ?_ ?_ <;> intro hc; all_goals first | (cases hc; done) | ((try simp only [hc]); (try simp only [bm] at hc))) | refine zE ?_ | refine zN ?_ | fail)
          all_goals clear r0 r1
          all_goals first | (refine Qend.boo rfl rfl ?_; rw [all_false hx hoe']; done) | (exfalso; omega) | (exfalso; simp_all; done) | skip
      · skip
        repeat' (first | refine zA ?_ | refine WQ.cl h3.modes ?_ | refine W1.cl h3.modes (r0) ?_ | refine WQ.cl hf.modes ?_ | refine W1.cl hf.modes (r1) ?_ | refine zB ?_ | (refine zC ?_ ?_ <;> intro hc; all_goals first | (cases hc; done) | ((try simp only [hc]); (try simp only [bm] at hc))) | refine zE ?_ | refine zN ?_ | fail)
        all_goals clear r0 r1
        all_goals first | (refine Qend.boo rfl rfl ?_; rw [all_false hx hoe']; done) | (exfalso; omega) | (exfalso; simp_all; done) | skip
  · intro u hp
    rw [List.take_length] at hp
    repeat' (first | refine zA ?_ | refine zB ?_ | (refine zC ?_ ?_ <;> intro hc; all_goals first | (cases hc; done) | ((try simp only [hc]); (try simp only [bm] at hc))) | refine zE ?_ | refine zN ?_ | fail)
    refine Qend.boo rfl rfl ?_
    rw [hp]
end Hm
