/- What the law answers on the abstract machine. Conditions: see each theorem. -/
import Derived.Test.YtbbkcgpjieenbaaDoorVPrts1
set_option linter.unusedVariables false
set_option linter.unusedSimpArgs false
/- Which values are well shaped, as the program's reference has it. Conditions: see each theorem. -/
namespace Hm
open Go (IntKind)
set_option maxHeartbeats 4000000
set_option maxRecDepth 4000
mutual
def formed : V → Bool
  | .mk k n t is ks =>
    !(decide (k < 0) || decide (k > 6)) && !((k == 3 && !number n) || (k != 3 && !(n == []))) && !((k == 4 && !utf t) || (k != 4 && !(t == []))) &&
    !((decide (k < 5) && decide (0 < is.length)) || (decide (k < 6) && decide (0 < ks.length))) && !(k == 6 && (!(ks.length == is.length) || !rise ks)) && formedAll is
def formedAll : List V → Bool
  | [] => true
  | v :: r => formed v && formedAll r
end
theorem formedAll_eq (l : List V) : formedAll l = l.all formed := by
  induction l with
  | nil => rfl
  | cons x l ih => simp only [formedAll, List.all_cons, ih]
theorem refAll_of {T : Tab} (h : Fn T F.hallmarkref03_All hallmarkref03_All.fn) (hf : Fn T F.hallmarkref03_Formed hallmarkref03_Formed.fn) (l : List V) (hb : V.bks l ≤ 1073741824)
    (ih : ∀ x ∈ l, Ret T F.hallmarkref03_Formed [.val x.av] (one (.bool (formed x)))) : Ret T F.hallmarkref03_All [.val (.lst 5 (l.map V.row))] (one (.bool (formedAll l))) := by
  refine Ret.mk h rfl ?_
  rw [formedAll_eq]
  have hl := V.len_bks l
  have e2 : (l.map V.row).length = l.length := List.length_map ..
  repeat' (first | refine zA ?_ | refine zB ?_ | (refine zC ?_ ?_ <;> intro hc; all_goals first | (cases hc; done) | ((try simp only [hc]); (try simp only [bm] at hc))) | refine zE ?_ | refine zN ?_ | fail)
  refine W.listP l (fun i (_ : Unit) s => s.put 3 (.av (.int .i64 (i : Int)))) (fun i _ => (l.take i).all formed = true) () (by simp) rfl ?_ ?_
  · intro i x u hx hi hp
    have hret := ih x (List.mem_of_getElem? hx)
    rw [V.av_eq] at hret
    repeat' (first | refine zA ?_ | refine WQ.cl hf.modes ?_ | refine W1.cl hf.modes (hret) ?_ | refine zB ?_ | (refine zC ?_ ?_ <;> intro hc; all_goals first | (cases hc; done) | ((try simp only [hc]); (try simp only [bm] at hc))) | refine zE ?_ | refine zN ?_ | fail)
    · refine Qend.boo rfl rfl ?_
      rw [all_false hx (by simp_all)]
    · refine ⟨(), ?_, rfl⟩
      rw [all_take_succ hx, hp]; simp_all
  · intro u hp
    rw [List.take_length] at hp
    repeat' (first | refine zA ?_ | refine zB ?_ | (refine zC ?_ ?_ <;> intro hc; all_goals first | (cases hc; done) | ((try simp only [hc]); (try simp only [bm] at hc))) | refine zE ?_ | refine zN ?_ | fail)
    refine Qend.boo rfl rfl ?_
    rw [hp]
theorem refFormed_ret {T : Tab} (hf : Fn T F.hallmarkref03_Formed hallmarkref03_Formed.fn) (h : Fn T F.hallmarkref03_All hallmarkref03_All.fn) (hn : Fn T F.hallmarkref03_Number hallmarkref03_Number.fn) (hr : Fn T F.hallmarkref03_Rise hallmarkref03_Rise.fn)
    (hu : Fn T F.hallmarkref03_UTF hallmarkref03_UTF.fn) (hw : Fn T F.hallmarkref03_width hallmarkref03_width.fn) (ht : Fn T F.hallmarkref03_trail hallmarkref03_trail.fn) :
    ∀ (v : V), v.bk ≤ 1073741824 → Ret T F.hallmarkref03_Formed [.val v.av] (one (.bool (formed v))) := by
  intro v
  induction v using V.ind with
  | h v ih =>
  intro hb
  have hbk := V.bk_eq v
  have hk := len_sbk v.keys
  have hl := V.len_bks v.items
  have e1 := srow_len v.keys
  have e2 : (v.items.map V.row).length = v.items.length := List.length_map ..
  have r1 := refNumber_ret hn v.num (by omega)
  have r2 := refUTF_ret hu hw ht v.text (by omega)
  have r3 := refRise_ret hr hu hw ht v.keys (by omega)
  have r4 := refAll_of h hf v.items (by omega) (fun x hx => ih x hx (by have := V.bk_item hx; omega))
  refine Ret.mk hf rfl ?_
  obtain ⟨k, n, t, is, ks⟩ := v
  rw [V.av_eq]
  simp only [V.kind, V.num, V.text, V.items, V.keys] at *
  repeat' (first | refine zA ?_ | refine WQ.cl hn.modes ?_ | refine W1.cl hn.modes (r1) ?_ | refine WQ.cl hu.modes ?_ | refine W1.cl hu.modes (r2) ?_ | refine WQ.cl hr.modes ?_ | refine W1.cl hr.modes (r3) ?_ | refine WQ.cl h.modes ?_ | refine W1.cl h.modes (r4) ?_ | refine zB ?_ | (refine zC ?_ ?_ <;> intro hc; all_goals first | (cases hc; done) | ((try simp only [hc]); (try simp only [bm] at hc))) | refine zE ?_ | refine zN ?_ | fail)
  all_goals refine Qend.boo rfl rfl ?_
  all_goals clear r1 r2 r3 r4 ih hb hbk hk hl e1 e2
  all_goals simp only [formed]
  all_goals simp only [List.length_map, srow_len, gt_iff_lt, ge_iff_le, Bool.not_eq_true', Bool.not_eq_false', beq_iff_eq] at *
  all_goals first
    | (simp_all; done)
    | (simp_all; omega)
    | trace_state
end Hm

/- Well shaped values, taken apart. Conditions: see each theorem. -/
namespace Hm
open Go (IntKind)
set_option maxHeartbeats 4000000
set_option maxRecDepth 4000
theorem formed_inv {v : V} (h : formed v = true) : (0 ≤ v.kind ∧ v.kind ≤ 6) ∧ (v.kind = 3 → number v.num = true) ∧ (v.kind ≠ 3 → v.num = []) ∧ (v.kind = 4 → utf v.text = true) ∧ (v.kind ≠ 4 → v.text = []) ∧
    (v.kind < 5 → v.items = []) ∧ (v.kind < 6 → v.keys = []) ∧ (v.kind = 6 → v.keys.length = v.items.length ∧ rise v.keys = true) ∧ (∀ x ∈ v.items, formed x = true) := by
  obtain ⟨k, n, t, is, ks⟩ := v
  simp only [formed, formedAll_eq, Bool.and_eq_true, Bool.not_eq_true', Bool.or_eq_false_iff, Bool.and_eq_false_iff, decide_eq_false_iff_not, beq_eq_false_iff_ne, bne_eq_false_iff_eq, Bool.not_eq_false', beq_iff_eq, List.all_eq_true] at h
  simp only [V.kind, V.num, V.text, V.items, V.keys]
  obtain ⟨⟨⟨⟨⟨h1, h2⟩, h3⟩, h4⟩, h5⟩, h6⟩ := h
  refine ⟨by omega, fun hk => ?_, fun hk => ?_, fun hk => ?_, fun hk => ?_, fun hk => ?_, fun hk => ?_, fun hk => ?_, h6⟩
  · rcases h2.1 with h | h
    · exact absurd hk h
    · exact h
  · rcases h2.2 with h | h
    · exact absurd h hk
    · exact h
  · rcases h3.1 with h | h
    · exact absurd hk h
    · exact h
  · rcases h3.2 with h | h
    · exact absurd h hk
    · exact h
  · rcases h4.1 with h | h
    · exact absurd hk h
    · exact List.eq_nil_of_length_eq_zero (by omega)
  · rcases h4.2 with h | h
    · exact absurd hk h
    · exact List.eq_nil_of_length_eq_zero (by omega)
  · rcases h5 with h | h
    · exact absurd hk h
    · exact h
end Hm

/- Numbers and texts in order. Conditions: none (definitions and plain lemmas). -/
namespace Hm
open Go (IntKind)
set_option maxHeartbeats 4000000
set_option maxRecDepth 4000
def tcmp (a b : Str) : Int := if binA.bLess a b then -1 else if !(binA.bLess a b || a == b) then 1 else 0
def ncmp (a b : Str) : Int := if a.length = b.length then tcmp a b else if a.length < b.length then -1 else 1
def minus (a : Str) : Bool := decide (((bAt a 0).toNat : Int) = 45)
def zcmp (a b : Str) : Int := if minus a && !minus b then -1 else if minus b && !minus a then 1 else if minus a then ncmp (b.drop 1) (a.drop 1) else ncmp a b
theorem number_len {s : Str} (h : number s = true) : 0 < s.length := by
  cases s with
  | nil => simp [number, digs] at h
  | cons c r => simp
theorem number_drop {s : Str} (h : number s = true) (hm : ((bAt s 0).toNat : Int) = 45) : 0 < (s.drop 1).length ∧ ¬ ((bAt (s.drop 1) 0).toNat : Int) = 45 := by
  have hl := number_len h
  have hd : digs s = s.drop 1 := by rw [digs, if_pos ⟨hl, (u8_eq _ 45 (by omega)).1 hm⟩]
  simp only [number, hd, Bool.and_eq_true, decide_eq_true_eq, List.all_eq_true] at h
  refine ⟨h.1.2, fun he => ?_⟩
  have := h.1.1 (bAt (s.drop 1) 0) (by
    have hx := h.1.2
    cases hs : s.drop 1 with
    | nil => rw [hs] at hx; simp at hx
    | cons c r => simp [bAt])
  simp only [isDig, Bool.and_eq_true, decide_eq_true_eq] at this
  omega
end Hm

/- Comparisons that set things in a row. Conditions: none (definitions and plain lemmas). -/
namespace Hm
/-- A comparison is good on the things of a kind. -/
structure Good {α : Type} (P : α → Prop) (c : α → α → Int) : Prop where
  rng : ∀ a b, P a → P b → -1 ≤ c a b ∧ c a b ≤ 1
  anti : ∀ a b, P a → P b → c a b = - c b a
  trans : ∀ a b d, P a → P b → P d → c a b ≤ 0 → c b d ≤ 0 → c a d ≤ 0
  eq : ∀ a b, P a → P b → c a b = 0 → a = b
theorem Good.refl {α : Type} {P : α → Prop} {c : α → α → Int} (h : Good P c) (a : α) (ha : P a) : c a a = 0 := by
  have := h.anti a a ha ha; omega
theorem Good.lt_trans {α : Type} {P : α → Prop} {c : α → α → Int} (h : Good P c) {a b d : α} (ha : P a) (hb : P b) (hd : P d) (h1 : c a b < 0) (h2 : c b d ≤ 0) : c a d < 0 := by
  have h3 := h.trans a b d ha hb hd (by omega) h2
  by_cases h0 : c a d = 0
  · have := h.eq a d ha hd h0
    subst this
    have := h.anti a b ha hb
    omega
  · omega
theorem bLess_irrefl : ∀ a : Str, binA.bLess a a = false
  | [] => rfl
  | x :: r => by simp [binA.bLess, bLess_irrefl r]
theorem bLess_trans : ∀ a b d : Str, binA.bLess a b = true → binA.bLess b d = true → binA.bLess a d = true
  | [], [], _, h, _ => by simp [binA.bLess] at h
  | [], _ :: _, [], _, h => by simp [binA.bLess] at h
  | [], _ :: _, _ :: _, _, _ => by simp [binA.bLess]
  | _ :: _, [], _, h, _ => by simp [binA.bLess] at h
  | _ :: _, _ :: _, [], _, h => by simp [binA.bLess] at h
  | x :: a, y :: b, z :: d, h1, h2 => by
    simp only [binA.bLess, Bool.or_eq_true, Bool.and_eq_true, decide_eq_true_eq, beq_iff_eq] at *
    rcases h1 with h1 | ⟨h1, h1'⟩
    · rcases h2 with h2 | ⟨h2, _⟩
      · exact .inl (UInt8.lt_trans h1 h2)
      · subst h2; exact .inl h1
    · subst h1
      rcases h2 with h2 | ⟨h2, h2'⟩
      · exact .inl h2
      · subst h2; exact .inr ⟨rfl, bLess_trans a b d h1' h2'⟩
theorem bLess_tri : ∀ a b : Str, binA.bLess a b = true ∨ a = b ∨ binA.bLess b a = true
  | [], [] => .inr (.inl rfl)
  | [], _ :: _ => .inl rfl
  | _ :: _, [] => .inr (.inr rfl)
  | x :: a, y :: b => by
    simp only [binA.bLess, Bool.or_eq_true, Bool.and_eq_true, decide_eq_true_eq, beq_iff_eq, List.cons.injEq]
    by_cases h : x = y
    · subst h
      rcases bLess_tri a b with h | h | h
      · exact .inl (.inr ⟨rfl, h⟩)
      · exact .inr (.inl ⟨rfl, h⟩)
      · exact .inr (.inr (.inr ⟨rfl, h⟩))
    · rcases UInt8.lt_or_lt_of_ne h with h | h
      · exact .inl (.inl h)
      · exact .inr (.inr (.inl h))
end Hm

/- Texts and numbers stand in a row. Conditions: see each theorem. -/
namespace Hm
theorem tcmp_cases (a b : Str) : (tcmp a b = -1 ∧ binA.bLess a b = true) ∨ (tcmp a b = 0 ∧ a = b) ∨ (tcmp a b = 1 ∧ binA.bLess b a = true) := by
  by_cases h : binA.bLess a b = true
  · left; simp [tcmp, h]
  · rw [Bool.not_eq_true] at h
    rcases bLess_tri a b with h' | h' | h'
    · rw [h] at h'; cases h'
    · right; left; subst h'; simp [tcmp, bLess_irrefl]
    · right; right
      have hne : ¬ a = b := fun he => by subst he; rw [bLess_irrefl] at h'; cases h'
      simp [tcmp, h, h', hne]
theorem tcmp_good : Good (fun _ => True) tcmp where
  rng a b _ _ := by rcases tcmp_cases a b with h | h | h <;> omega
  anti a b _ _ := by
    rcases tcmp_cases a b with ⟨h, h1⟩ | ⟨h, h1⟩ | ⟨h, h1⟩ <;> rcases tcmp_cases b a with ⟨k, k1⟩ | ⟨k, k1⟩ | ⟨k, k1⟩ <;> try omega
    · have := bLess_trans a b a h1 k1; rw [bLess_irrefl] at this; cases this
    · subst k1; rw [bLess_irrefl] at h1; cases h1
    · subst h1; rw [bLess_irrefl] at k1; cases k1
    · subst h1; rw [bLess_irrefl] at k1; cases k1
    · subst k1; rw [bLess_irrefl] at h1; cases h1
    · have := bLess_trans b a b h1 k1; rw [bLess_irrefl] at this; cases this
  trans a b d _ _ _ h1 h2 := by
    rcases tcmp_cases a b with ⟨h, k1⟩ | ⟨h, k1⟩ | ⟨h, k1⟩
    · rcases tcmp_cases b d with ⟨h', k2⟩ | ⟨h', k2⟩ | ⟨h', k2⟩
      · have := bLess_trans a b d k1 k2
        rcases tcmp_cases a d with ⟨h'', k3⟩ | ⟨h'', k3⟩ | ⟨h'', k3⟩
        · omega
        · omega
        · have := bLess_trans a d a this k3; rw [bLess_irrefl] at this; cases this
      · subst k2; omega
      · omega
    · subst k1; omega
    · omega
  eq a b _ _ h := by rcases tcmp_cases a b with h' | h' | h' <;> first | exact h'.2 | omega
theorem ncmp_good : Good (fun _ => True) ncmp where
  rng a b _ _ := by
    simp only [ncmp]; split
    · exact tcmp_good.rng a b trivial trivial
    · split <;> omega
  anti a b _ _ := by
    simp only [ncmp]
    by_cases h : a.length = b.length
    · rw [if_pos h, if_pos h.symm]; exact tcmp_good.anti a b trivial trivial
    · have h' : ¬ b.length = a.length := fun e => h e.symm
      simp only [h, h', if_false]
      by_cases hl : a.length < b.length
      · have : ¬ b.length < a.length := by omega
        simp [hl, this]
      · have : b.length < a.length := by omega
        simp [hl, this]
  trans a b d _ _ _ h1 h2 := by
    simp only [ncmp] at *
    by_cases e1 : a.length = b.length
    · rw [if_pos e1] at h1
      by_cases e2 : b.length = d.length
      · rw [if_pos e2] at h2; rw [if_pos (by omega)]; exact tcmp_good.trans a b d trivial trivial trivial h1 h2
      · rw [if_neg e2] at h2; rw [if_neg (by omega)]; split at h2 <;> split <;> omega
    · rw [if_neg e1] at h1
      by_cases e2 : b.length = d.length
      · rw [if_neg (by omega)]; split at h1 <;> split <;> omega
      · rw [if_neg e2] at h2
        have : a.length < b.length := by split at h1 <;> omega
        have : b.length < d.length := by split at h2 <;> omega
        rw [if_neg (by omega), if_pos (by omega)]; omega
  eq a b _ _ h := by
    simp only [ncmp] at h
    by_cases e : a.length = b.length
    · rw [if_pos e] at h; exact tcmp_good.eq a b trivial trivial h
    · rw [if_neg e] at h; split at h <;> omega
theorem minus_eq {a : Str} (h : number a = true) (hm : minus a = true) : a = 45 :: a.drop 1 := by
  have hl := number_len h
  simp only [minus, decide_eq_true_eq] at hm
  have h45 := (u8_eq (bAt a 0) 45 (by omega)).1 hm
  cases a with
  | nil => simp at hl
  | cons c r => simp [bAt] at h45; simp [h45]
theorem zcmp_good : Good (fun a => number a = true) zcmp where
  rng a b _ _ := by
    have h1 := ncmp_good.rng (b.drop 1) (a.drop 1) trivial trivial
    have h2 := ncmp_good.rng a b trivial trivial
    simp only [List.drop_one] at h1
    simp only [zcmp]; cases minus a <;> cases minus b <;> simp <;> first | exact h1 | exact h2
  anti a b _ _ := by
    have h1 := ncmp_good.anti (b.drop 1) (a.drop 1) trivial trivial
    have h2 := ncmp_good.anti a b trivial trivial
    simp only [zcmp]; cases minus a <;> cases minus b <;> simp <;> first | exact h2 | simpa using h1
  trans a b d _ _ _ h1 h2 := by
    have t1 := ncmp_good.trans a b d trivial trivial trivial
    have t2 := ncmp_good.trans (d.drop 1) (b.drop 1) (a.drop 1) trivial trivial trivial
    simp only [zcmp] at *
    cases ma : minus a <;> cases mb : minus b <;> cases md : minus d <;> simp [ma, mb, md] at *
    all_goals first
      | exact t1 h1 h2
      | exact t2 h2 h1
      | omega
  eq a b ha hb h := by
    simp only [zcmp] at h
    cases ma : minus a <;> cases mb : minus b <;> simp only [ma, mb] at h
    · exact ncmp_good.eq a b trivial trivial (by simpa using h)
    · simp at h
    · simp at h
    · have := ncmp_good.eq (b.drop 1) (a.drop 1) trivial trivial (by simpa using h)
      rw [minus_eq ha ma, minus_eq hb mb, this]
end Hm

/- Comparisons part by part, and of lists. Conditions: none (definitions and plain lemmas). -/
namespace Hm
/-- A comparison that sets things in a row, up to what it does not look at. -/
structure Pre {α : Type} (P : α → Prop) (c : α → α → Int) : Prop where
  rng : ∀ a b, P a → P b → -1 ≤ c a b ∧ c a b ≤ 1
  anti : ∀ a b, P a → P b → c a b = - c b a
  trans : ∀ a b d, P a → P b → P d → c a b ≤ 0 → c b d ≤ 0 → c a d ≤ 0
def orI (x y : Int) : Int := if x = 0 then y else x
theorem orI0 (y : Int) : orI 0 y = y := rfl
theorem orI_ne {x y : Int} (h : x ≠ 0) : orI x y = x := by simp [orI, h]
theorem orI_zero {x y : Int} (h : orI x y = 0) : x = 0 ∧ y = 0 := by
  unfold orI at h
  split at h
  · exact ⟨by assumption, h⟩
  · exact absurd h (by assumption)
section
variable {α β : Type} {P : α → Prop} {Q : β → Prop} {c c1 c2 : α → α → Int}
theorem Good.pre (h : Good P c) : Pre P c := ⟨h.rng, h.anti, h.trans⟩
theorem Pre.refl (h : Pre P c) {a : α} (ha : P a) : c a a = 0 := by have := h.anti a a ha ha; omega
theorem Pre.eq0 (h : Pre P c) {a b d : α} (ha : P a) (hb : P b) (hd : P d) (h1 : c a b = 0) (h2 : c b d = 0) : c a d = 0 := by
  have k1 := h.anti a b ha hb
  have k2 := h.anti b d hb hd
  have k3 := h.anti a d ha hd
  have := h.trans a b d ha hb hd (by omega) (by omega)
  have := h.trans d b a hd hb ha (by omega) (by omega)
  omega
theorem Pre.lt (h : Pre P c) {a b d : α} (ha : P a) (hb : P b) (hd : P d) (h1 : c a b < 0) (h2 : c b d ≤ 0) : c a d < 0 := by
  have k1 := h.anti a b ha hb
  have k3 := h.anti a d ha hd
  have := h.trans a b d ha hb hd (by omega) (by omega)
  by_cases h0 : c a d = 0
  · have := h.trans b d a hb hd ha h2 (by omega); omega
  · omega
theorem Pre.lt' (h : Pre P c) {a b d : α} (ha : P a) (hb : P b) (hd : P d) (h1 : c a b ≤ 0) (h2 : c b d < 0) : c a d < 0 := by
  have k1 := h.anti b d hb hd
  have k3 := h.anti a d ha hd
  have := h.trans a b d ha hb hd (by omega) (by omega)
  by_cases h0 : c a d = 0
  · have := h.trans d a b hd ha hb (by omega) h1; omega
  · omega
theorem Pre.or_trans (h : Pre P c) {a b d : α} (ha : P a) (hb : P b) (hd : P d) {x y z : Int} (h1 : orI (c a b) x ≤ 0) (h2 : orI (c b d) y ≤ 0) (h3 : x ≤ 0 → y ≤ 0 → z ≤ 0) : orI (c a d) z ≤ 0 := by
  by_cases e1 : c a b = 0
  · rw [e1, orI0] at h1
    by_cases e2 : c b d = 0
    · rw [e2, orI0] at h2
      rw [h.eq0 ha hb hd e1 e2, orI0]; exact h3 h1 h2
    · rw [orI_ne e2] at h2
      have := h.lt' ha hb hd (by omega) (by omega : c b d < 0)
      rw [orI_ne (by omega)]; omega
  · rw [orI_ne e1] at h1
    have hbd : c b d ≤ 0 := by
      by_cases e2 : c b d = 0
      · omega
      · rw [orI_ne e2] at h2; exact h2
    have := h.lt ha hb hd (by omega : c a b < 0) hbd
    rw [orI_ne (by omega)]; omega
theorem Pre.or_anti (h : Pre P c) {a b : α} (ha : P a) (hb : P b) {x y : Int} (h1 : x = - y) : orI (c a b) x = - orI (c b a) y := by
  have := h.anti a b ha hb
  by_cases e : c a b = 0
  · have : c b a = 0 := by omega
    rw [e, this, orI0, orI0]; exact h1
  · rw [orI_ne e, orI_ne (by omega)]; exact this
theorem Pre.or_rng (h : Pre P c) {a b : α} (ha : P a) (hb : P b) {x : Int} (h1 : -1 ≤ x ∧ x ≤ 1) : -1 ≤ orI (c a b) x ∧ orI (c a b) x ≤ 1 := by
  unfold orI; split
  · exact h1
  · exact h.rng a b ha hb
theorem Pre.or (h1 : Pre P c1) (h2 : Pre P c2) : Pre P fun a b => orI (c1 a b) (c2 a b) where
  rng a b ha hb := h1.or_rng ha hb (h2.rng a b ha hb)
  anti a b ha hb := h1.or_anti ha hb (h2.anti a b ha hb)
  trans a b d ha hb hd k1 k2 := h1.or_trans ha hb hd k1 k2 (h2.trans a b d ha hb hd)
theorem Pre.comap {f : α → β} {c : β → β → Int} (h : Pre Q c) (hp : ∀ a, P a → Q (f a)) : Pre P fun a b => c (f a) (f b) where
  rng a b ha hb := h.rng _ _ (hp a ha) (hp b hb)
  anti a b ha hb := h.anti _ _ (hp a ha) (hp b hb)
  trans a b d ha hb hd := h.trans _ _ _ (hp a ha) (hp b hb) (hp d hd)
theorem Pre.mono {P' : α → Prop} (h : Pre P c) (hp : ∀ a, P' a → P a) : Pre P' c where
  rng a b ha hb := h.rng _ _ (hp a ha) (hp b hb)
  anti a b ha hb := h.anti _ _ (hp a ha) (hp b hb)
  trans a b d ha hb hd := h.trans _ _ _ (hp a ha) (hp b hb) (hp d hd)
theorem Pre.congr {c' : α → α → Int} (h : Pre P c) (e : ∀ a b, c' a b = c a b) : Pre P c' where
  rng a b ha hb := by rw [e]; exact h.rng a b ha hb
  anti a b ha hb := by rw [e, e]; exact h.anti a b ha hb
  trans a b d ha hb hd := by rw [e, e, e]; exact h.trans a b d ha hb hd
def lcmp (c : α → α → Int) : List α → List α → Int
  | [], [] => 0
  | [], _ :: _ => -1
  | _ :: _, [] => 1
  | a :: l, b :: m => orI (c a b) (lcmp c l m)
theorem Pre.list (h : Pre P c) : Pre (fun l : List α => ∀ x ∈ l, P x) (lcmp c) where
  rng := by
    intro l
    induction l with
    | nil => intro m _ _; cases m <;> simp [lcmp]
    | cons a l ih =>
      intro m hl hm
      cases m with
      | nil => simp [lcmp]
      | cons b m => exact h.or_rng (hl a (by simp)) (hm b (by simp)) (ih m (fun x hx => hl x (by simp [hx])) (fun x hx => hm x (by simp [hx])))
  anti := by
    intro l
    induction l with
    | nil => intro m _ _; cases m <;> simp [lcmp]
    | cons a l ih =>
      intro m hl hm
      cases m with
      | nil => simp [lcmp]
      | cons b m => exact h.or_anti (hl a (by simp)) (hm b (by simp)) (ih m (fun x hx => hl x (by simp [hx])) (fun x hx => hm x (by simp [hx])))
  trans := by
    intro l
    induction l with
    | nil => intro m n _ _ _ _ _; cases n <;> simp [lcmp]
    | cons a l ih =>
      intro m n hl hm hn h1 h2
      cases m with
      | nil => simp [lcmp] at h1
      | cons b m =>
        cases n with
        | nil => simp [lcmp] at h2
        | cons d n =>
          exact h.or_trans (hl a (by simp)) (hm b (by simp)) (hn d (by simp)) h1 h2 (ih m n (fun x hx => hl x (by simp [hx])) (fun x hx => hm x (by simp [hx])) (fun x hx => hn x (by simp [hx])))
theorem lcmp_eq (he : ∀ a b, P a → P b → c a b = 0 → a = b) : ∀ (l m : List α), (∀ x ∈ l, P x) → (∀ x ∈ m, P x) → lcmp c l m = 0 → l = m
  | [], [], _, _, _ => rfl
  | [], _ :: _, _, _, h => by simp [lcmp] at h
  | _ :: _, [], _, _, h => by simp [lcmp] at h
  | a :: l, b :: m, hl, hm, h => by
    obtain ⟨h1, h2⟩ := orI_zero (show orI (c a b) (lcmp c l m) = 0 from h)
    rw [he a b (hl a (by simp)) (hm b (by simp)) h1, lcmp_eq he l m (fun x hx => hl x (by simp [hx])) (fun x hx => hm x (by simp [hx])) h2]
end
def icmp (a b : Int) : Int := if a < b then -1 else if a > b then 1 else 0
theorem icmp_pre : Pre (fun _ => True) icmp where
  rng a b _ _ := by unfold icmp; split <;> (try split) <;> omega
  anti a b _ _ := by unfold icmp; split <;> split <;> (try split) <;> (try split) <;> omega
  trans a b d _ _ _ h1 h2 := by
    unfold icmp at *
    by_cases e1 : a < b
    · by_cases e2 : b < d
      · rw [if_pos (by omega)]; omega
      · rw [if_neg e2] at h2
        split at h2
        · omega
        · rw [if_pos (by omega)]; omega
    · rw [if_neg e1] at h1
      split at h1
      · omega
      · by_cases e2 : b < d
        · rw [if_pos (by omega)]; omega
        · rw [if_neg e2] at h2
          split at h2
          · omega
          · rw [if_neg (by omega), if_neg (by omega)]; omega
theorem icmp_eq {a b : Int} (h : icmp a b = 0) : a = b := by
  unfold icmp at h
  split at h
  · omega
  · split at h <;> omega
theorem zcmp_pre : Pre (fun _ => True) zcmp where
  rng a b _ _ := by
    have h1 := ncmp_good.rng (b.drop 1) (a.drop 1) trivial trivial
    have h2 := ncmp_good.rng a b trivial trivial
    simp only [List.drop_one] at h1
    simp only [zcmp]; cases minus a <;> cases minus b <;> simp <;> first | exact h1 | exact h2
  anti a b _ _ := by
    have h1 := ncmp_good.anti (b.drop 1) (a.drop 1) trivial trivial
    have h2 := ncmp_good.anti a b trivial trivial
    simp only [zcmp]; cases minus a <;> cases minus b <;> simp <;> first | exact h2 | simpa using h1
  trans a b d _ _ _ h1 h2 := by
    have t1 := ncmp_good.trans a b d trivial trivial trivial
    have t2 := ncmp_good.trans (d.drop 1) (b.drop 1) (a.drop 1) trivial trivial trivial
    simp only [zcmp] at *
    cases ma : minus a <;> cases mb : minus b <;> cases md : minus d <;> simp [ma, mb, md] at *
    all_goals first
      | exact t1 h1 h2
      | exact t2 h2 h1
      | omega
end Hm

/- Whole numbers in tens, as the program has them. Conditions: see each theorem. -/
namespace Hm
open Go (IntKind)
set_option maxHeartbeats 4000000
set_option maxRecDepth 4000
def two (v w : AV) : CR := ⟨[([.av v], false), ([.av w], false)], []⟩
theorem Qend.two {fn : AFun} {as : List Arg} {v w v' w' : AV} {st : St} (hr : results st fn.results = some [([.av v], false), ([.av w], false)]) (ho : outs st 0 as = some []) (h : v = v') (h' : w = w') : Qend fn as (Hm.two v' w') .ret st := by
  subst h h'; exact ⟨.inr rfl, hr, ho⟩
theorem tensFormed_ret {T : Tab} (h : Fn T F.tens_Formed tens_Formed.fn) (s : Str) (hb : s.length ≤ 1073741824) : Ret T F.tens_Formed [.val (.str s)] (one (.bool (number s))) := by
  refine Ret.mk h rfl ?_
  by_cases hs : s = [48]
  · subst hs
    repeat' (first | refine zA ?_ | refine zB ?_ | (refine zC ?_ ?_ <;> intro hc; all_goals first | (cases hc; done) | ((try simp only [hc]); (try simp only [bm] at hc))) | refine zE ?_ | refine zNT ?_ | fail)
    exact Qend.boo rfl rfl rfl
  have hs' : (s == [48]) = false := beq_eq_false_iff_ne.2 hs
  have hnum : number s = ((digs s).all isDig && decide (0 < (digs s).length) && !(bAt (digs s) 0 == 48)) := by simp only [number, hs', Bool.not_false, Bool.and_true]
  have fin : ∀ d : Str, d = digs s → 0 < d.length → ¬ ((bAt d 0).toNat : Int) = 48 → d.length ≤ 1073741824 → W T (AC.loop [0, 23, 24] tens_Formed.l1) ⟨lstE [(0, .av (.str d)), (23, .av (.int .i64 (d.length : Nat))), (24, .av (.int .i64 0))], lstB [(0, none), (23, none), (24, none)]⟩
      (Qblk 0 (Qseq T ((AC.reg tens_Formed.r13 [2]).seq AC.ret) (Qend tens_Formed.fn [.val (.str s)] (one (.bool (number s)))))) := by
    intro d hd hl h48 hlb
    refine W.listP d (fun i (_ : Unit) s => s.put 24 (.av (.int .i64 (i : Int)))) (fun i _ => (d.take i).all isDig = true) () (by simp) rfl ?_ ?_
    · intro i x u hx hi hp
      have e := bAt_get hx
      have e' : bAt d ((i : Int)).toNat = x := e
      repeat' (first | refine zA ?_ | refine zB ?_ | (refine zC ?_ ?_ <;> intro hc; all_goals first | (cases hc; done) | ((try simp only [hc]); (try simp only [bm] at hc))) | refine zE ?_ | refine zNT ?_ | fail)
      all_goals first
        | (refine Qend.boo rfl rfl ?_; rw [hnum, ← hd, all_false hx (by rw [← e]; simp only [isDig, Bool.and_eq_false_iff, decide_eq_false_iff_not]; simp only [Int.toNat_natCast] at *; omega)]; rfl)
        | (refine ⟨(), ?_, rfl⟩; rw [all_take_succ hx, hp, ← e]; simp only [isDig, Bool.true_and, Bool.and_eq_true, decide_eq_true_eq]; simp only [Int.toNat_natCast] at *; omega)
        | skip
    · intro u hp
      rw [List.take_length] at hp
      repeat' (first | refine zA ?_ | refine zB ?_ | (refine zC ?_ ?_ <;> intro hc; all_goals first | (cases hc; done) | ((try simp only [hc]); (try simp only [bm] at hc))) | refine zE ?_ | refine zNT ?_ | fail)
      refine Qend.boo rfl rfl ?_
      have : ¬ bAt d 0 = 48 := fun h => h48 ((u8_eq _ 48 (by omega)).2 h)
      have : (bAt d 0 == 48) = false := beq_eq_false_iff_ne.2 this
      rw [hnum, ← hd, hp, decide_eq_true hl, this]; rfl
  by_cases hm : 0 < s.length ∧ ((bAt s 0).toNat : Int) = 45
  · have hd : digs s = s.drop 1 := by rw [digs, if_pos ⟨hm.1, (u8_eq _ 45 (by omega)).1 hm.2⟩]
    have ed : List.drop (Int.toNat 1) (List.take s.length s) = s.drop 1 := by rw [List.take_length]; rfl
    have hne : ¬ s = [] := (fun h => by rw [h] at hm; simp at hm)
    have hm' : ((bAt s (Int.toNat 0)).toNat : Int) = 45 := hm.2
    by_cases hl : 0 < (s.drop 1).length
    · have hne2 : ¬ List.drop (Int.toNat 1) (List.take s.length s) = [] := by rw [ed]; exact (fun h => by rw [h] at hl; simp at hl)
      have hl2 : 0 < (List.drop (Int.toNat 1) (List.take s.length s)).length := by rw [ed]; exact hl
      by_cases h48 : ((bAt (s.drop 1) 0).toNat : Int) = 48
      · have h48' : ((bAt (List.drop (Int.toNat 1) (List.take s.length s)) (Int.toNat 0)).toNat : Int) = 48 := by rw [ed]; exact h48
        repeat' (first | refine zA ?_ | refine zB ?_ | (refine zC ?_ ?_ <;> intro hc; all_goals first | (cases hc; done) | ((try simp only [hc]); (try simp only [bm] at hc))) | refine zE ?_ | refine zNT ?_ | fail)
        refine Qend.boo rfl rfl ?_
        have : (bAt (s.drop 1) 0) = 48 := (u8_eq _ 48 (by omega)).1 h48
        rw [hnum, hd, this]; simp
      · have h48' : ¬ ((bAt (List.drop (Int.toNat 1) (List.take s.length s)) (Int.toNat 0)).toNat : Int) = 48 := by rw [ed]; exact h48
        repeat' (first | refine zA ?_ | (exact fin _ (ed.trans hd.symm) (by rw [ed]; exact hl) h48' (by rw [ed]; simp; omega)) | refine zB ?_ | (refine zC ?_ ?_ <;> intro hc; all_goals first | (cases hc; done) | ((try simp only [hc]); (try simp only [bm] at hc))) | refine zE ?_ | refine zNT ?_ | fail)
    · have e0 : s.drop 1 = [] := List.eq_nil_of_length_eq_zero (by omega)
      have hne2 : List.drop (Int.toNat 1) (List.take s.length s) = [] := by rw [ed, e0]
      repeat' (first | refine zA ?_ | refine zB ?_ | (refine zC ?_ ?_ <;> intro hc; all_goals first | (cases hc; done) | ((try simp only [hc]); (try simp only [bm] at hc))) | refine zE ?_ | refine zNT ?_ | fail)
      refine Qend.boo rfl rfl ?_
      rw [hnum, hd, e0]; rfl
  · have hd : digs s = s := by rw [digs, if_neg (fun h => hm ⟨h.1, (u8_eq _ 45 (by omega)).2 h.2⟩)]
    by_cases hl : 0 < s.length
    · have hne : ¬ s = [] := (fun h => by rw [h] at hl; simp at hl)
      have hm' : ¬ ((bAt s (Int.toNat 0)).toNat : Int) = 45 := fun h => hm ⟨hl, h⟩
      by_cases h48 : ((bAt s 0).toNat : Int) = 48
      · have h48' : ((bAt s (Int.toNat 0)).toNat : Int) = 48 := h48
        repeat' (first | refine zA ?_ | refine zB ?_ | (refine zC ?_ ?_ <;> intro hc; all_goals first | (cases hc; done) | ((try simp only [hc]); (try simp only [bm] at hc))) | refine zE ?_ | refine zNT ?_ | fail)
        refine Qend.boo rfl rfl ?_
        have : (bAt s 0) = 48 := (u8_eq _ 48 (by omega)).1 h48
        rw [hnum, hd, this]; simp
      · have h48' : ¬ ((bAt s (Int.toNat 0)).toNat : Int) = 48 := h48
        repeat' (first | refine zA ?_ | (exact fin s hd.symm hl h48 hb) | refine zB ?_ | (refine zC ?_ ?_ <;> intro hc; all_goals first | (cases hc; done) | ((try simp only [hc]); (try simp only [bm] at hc))) | refine zE ?_ | refine zNT ?_ | fail)
    · have e0 : s = [] := List.eq_nil_of_length_eq_zero (by omega)
      subst e0
      repeat' (first | refine zA ?_ | refine zB ?_ | (refine zC ?_ ?_ <;> intro hc; all_goals first | (cases hc; done) | ((try simp only [hc]); (try simp only [bm] at hc))) | refine zE ?_ | refine zNT ?_ | fail)
      exact Qend.boo rfl rfl rfl
end Hm

/- Whole numbers in tens in order, as the program has them. Conditions: see each theorem. -/
namespace Hm
open Go (IntKind)
set_option maxHeartbeats 4000000
set_option maxRecDepth 4000
theorem tensSize_ret {T : Tab} (h : Fn T F.tens_size tens_size.fn) (a b : Str) (hl : a.length ≤ 1073741824) (hl' : b.length ≤ 1073741824) : Ret T F.tens_size [.val (.str a), .val (.str b)] (one (.int .i64 (ncmp a b))) := by
  refine Ret.mk h rfl ?_
  repeat' (first | refine zA ?_ | refine zB ?_ | (refine zC ?_ ?_ <;> intro hc; all_goals first | (cases hc; done) | ((try simp only [hc]); (try simp only [bm] at hc))) | refine zE ?_ | refine zN ?_ | fail)
  all_goals refine Qend.num rfl rfl ?_
  all_goals simp only [ncmp, tcmp]
  · have hne : ¬ a.length = b.length := by omega
    simp only [hne, if_false]
    by_cases h1 : a.length < b.length
    · simp only [h1, if_true]
      by_cases h2 : (-1 : Int) > (a.length : Int) - b.length
      · simp [h2]
      · have : (a.length : Int) - b.length = -1 := by omega
        simp [this]
    · simp only [h1, if_false]
      have h2 : ¬ (-1 : Int) > (a.length : Int) - b.length := by omega
      simp only [h2, if_false]
      by_cases h3 : (1 : Int) < (a.length : Int) - b.length
      · simp [h3]
      · have : (a.length : Int) - b.length = 1 := by omega
        simp [this]
  · rw [if_pos (by omega)]; simp_all
  · rw [if_pos (by omega)]; simp_all
  · rw [if_pos (by omega)]; simp_all
theorem tensSplit_ret {T : Tab} (h : Fn T F.tens_split tens_split.fn) (a : Str) (ha : 0 < a.length) (hl : a.length ≤ 1073741824) : Ret T F.tens_split [.val (.str a)] (two (.bool (minus a)) (.str (if minus a then a.drop 1 else a))) := by
  have ed : List.drop (Int.toNat 1) (List.take a.length a) = a.drop 1 := by rw [List.take_length]; rfl
  by_cases hm : ((bAt a 0).toNat : Int) = 45
  · have hm' : ((bAt a (Int.toNat 0)).toNat : Int) = 45 := hm
    have hmm : minus a = true := by simp [minus, hm]
    rw [hmm]
    refine Ret.mk h rfl ?_
    repeat' (first | refine zA ?_ | refine zB ?_ | (refine zC ?_ ?_ <;> intro hc; all_goals first | (cases hc; done) | ((try simp only [hc]); (try simp only [bm] at hc))) | refine zE ?_ | refine zN ?_ | fail)
    refine Qend.two rfl rfl rfl ?_
    rw [ed]
  · have hm' : ¬ ((bAt a (Int.toNat 0)).toNat : Int) = 45 := hm
    have hmm : minus a = false := by simp [minus, hm]
    rw [hmm]
    refine Ret.mk h rfl ?_
    repeat' (first | refine zA ?_ | refine zB ?_ | (refine zC ?_ ?_ <;> intro hc; all_goals first | (cases hc; done) | ((try simp only [hc]); (try simp only [bm] at hc))) | refine zE ?_ | refine zN ?_ | fail)
    exact Qend.two rfl rfl rfl rfl
theorem tensCmp_ret {T : Tab} (h : Fn T F.tens_Cmp tens_Cmp.fn) (h1 : Fn T F.tens_size tens_size.fn) (h2 : Fn T F.tens_split tens_split.fn) (h3 : Fn T F.tens_Formed tens_Formed.fn) (a b : Str) (ha : number a = true) (hb : number b = true) (hl : a.length ≤ 1073741824) (hl' : b.length ≤ 1073741824) :
    Ret T F.tens_Cmp [.val (.str a), .val (.str b)] (two (.int .i64 (zcmp a b)) (.int .i64 0)) := by
  have f1 := tensFormed_ret h3 a hl
  have f2 := tensFormed_ret h3 b hl'
  rw [ha] at f1
  rw [hb] at f2
  have s1 := tensSplit_ret h2 a (number_len ha) hl
  have s2 := tensSplit_ret h2 b (number_len hb) hl'
  have z1 := tensSize_ret h1 a b hl hl'
  have z2 := tensSize_ret h1 (b.drop 1) (a.drop 1) (by simp; omega) (by simp; omega)
  refine Ret.mk h rfl ?_
  cases ma : minus a <;> cases mb : minus b <;> simp only [ma, mb, Bool.false_eq_true, if_false, if_true] at s1 s2
  repeat' (first | refine zA ?_ | refine WQ.cl h3.modes ?_ | refine W1.cl h3.modes (f1) ?_ | refine WQ.cl h3.modes ?_ | refine W1.cl h3.modes (f2) ?_ | refine WQ.cl h2.modes ?_ | refine W1.cl h2.modes (s1) ?_ | refine WQ.cl h2.modes ?_ | refine W1.cl h2.modes (s2) ?_ | refine WQ.cl h1.modes ?_ | refine W1.cl h1.modes (z1) ?_ | refine WQ.cl h1.modes ?_ | refine W1.cl h1.modes (z2) ?_ | refine zB ?_ | (refine zC ?_ ?_ <;> intro hc; all_goals first | (cases hc; done) | ((try simp only [hc]); (try simp only [bm] at hc))) | refine zE ?_ | refine zN ?_ | fail)
  all_goals refine Qend.two rfl rfl ?_ rfl
  all_goals first | (simp [zcmp, ma, mb]; done) | (simp [zcmp, ma, mb]; rfl)
end Hm

/- Comparisons of Go's library. Conditions: see each theorem. -/
namespace Hm
open Go (IntKind)
set_option maxHeartbeats 4000000
set_option maxRecDepth 4000
theorem isNaNInt_ret {T : Tab} (h : Fn T F.cmp_isNaN_int cmp_isNaN_int.fn) (a : Int) : Ret T F.cmp_isNaN_int [.val (.int .i64 a)] (one (.bool false)) := by
  refine Ret.mk h rfl ?_
  repeat' (first | refine zA ?_ | refine zB ?_ | (refine zC ?_ ?_ <;> intro hc; all_goals first | (cases hc; done) | ((try simp only [hc]); (try simp only [bm] at hc))) | refine zE ?_ | refine zN ?_ | fail)
  refine Qend.boo rfl rfl ?_
  simp
theorem isNaNStr_ret {T : Tab} (h : Fn T F.cmp_isNaN_string cmp_isNaN_string.fn) (a : Str) : Ret T F.cmp_isNaN_string [.val (.str a)] (one (.bool false)) := by
  refine Ret.mk h rfl ?_
  repeat' (first | refine zA ?_ | refine zB ?_ | (refine zC ?_ ?_ <;> intro hc; all_goals first | (cases hc; done) | ((try simp only [hc]); (try simp only [bm] at hc))) | refine zE ?_ | refine zN ?_ | fail)
  refine Qend.boo rfl rfl ?_
  simp
theorem cmpInt_ret {T : Tab} (h : Fn T F.cmp_Compare_int cmp_Compare_int.fn) (h1 : Fn T F.cmp_isNaN_int cmp_isNaN_int.fn) (a b : Int) : Ret T F.cmp_Compare_int [.val (.int .i64 a), .val (.int .i64 b)] (one (.int .i64 (icmp a b))) := by
  have r1 := isNaNInt_ret h1 a
  have r2 := isNaNInt_ret h1 b
  refine Ret.mk h rfl ?_
  repeat' (first | refine zA ?_ | refine WQ.cl h1.modes ?_ | refine W1.cl h1.modes (r1) ?_ | refine WQ.cl h1.modes ?_ | refine W1.cl h1.modes (r2) ?_ | refine zB ?_ | (refine zC ?_ ?_ <;> intro hc; all_goals first | (cases hc; done) | ((try simp only [hc]); (try simp only [bm] at hc))) | refine zE ?_ | refine zN ?_ | fail)
  all_goals refine Qend.num rfl rfl ?_
  all_goals simp only [icmp]
  all_goals first
    | rw [if_pos (by omega)]
    | (rw [if_neg (by omega), if_pos (by omega)]; done)
    | (rw [if_neg (by omega), if_neg (by omega)]; done)
theorem cmpStr_ret {T : Tab} (h : Fn T F.cmp_Compare_string cmp_Compare_string.fn) (h1 : Fn T F.cmp_isNaN_string cmp_isNaN_string.fn) (a b : Str) : Ret T F.cmp_Compare_string [.val (.str a), .val (.str b)] (one (.int .i64 (tcmp a b))) := by
  have r1 := isNaNStr_ret h1 a
  have r2 := isNaNStr_ret h1 b
  refine Ret.mk h rfl ?_
  repeat' (first | refine zA ?_ | refine WQ.cl h1.modes ?_ | refine W1.cl h1.modes (r1) ?_ | refine WQ.cl h1.modes ?_ | refine W1.cl h1.modes (r2) ?_ | refine zB ?_ | (refine zC ?_ ?_ <;> intro hc; all_goals first | (cases hc; done) | ((try simp only [hc]); (try simp only [bm] at hc))) | refine zE ?_ | refine zN ?_ | fail)
  all_goals refine Qend.num rfl rfl ?_
  all_goals simp_all [tcmp]
theorem lcmp_drop {α : Type} {c : α → α → Int} {l m : List α} {i : Nat} {x y : α} (hx : l[i]? = some x) (hy : m[i]? = some y) : lcmp c (l.drop i) (m.drop i) = orI (c x y) (lcmp c (l.drop (i + 1)) (m.drop (i + 1))) := by
  have h1 := (List.getElem?_eq_some_iff.1 hx)
  have h2 := (List.getElem?_eq_some_iff.1 hy)
  obtain ⟨h1, rfl⟩ := h1
  obtain ⟨h2, rfl⟩ := h2
  rw [List.drop_eq_getElem_cons h1, List.drop_eq_getElem_cons h2, lcmp]
theorem lcmp_more {α : Type} {c : α → α → Int} {l m : List α} {i : Nat} (h1 : i < l.length) (h2 : m.length ≤ i) : lcmp c (l.drop i) (m.drop i) = 1 := by
  rw [List.drop_eq_getElem_cons h1, List.drop_eq_nil_of_le h2, lcmp]
theorem lcmp_end {α : Type} {c : α → α → Int} {l m : List α} : lcmp c (l.drop l.length) (m.drop l.length) = if l.length < m.length then -1 else 0 := by
  rw [List.drop_length]
  by_cases h : l.length < m.length
  · rw [if_pos h, List.drop_eq_getElem_cons h, lcmp]
  · rw [if_neg h, List.drop_eq_nil_of_le (by omega), lcmp]
theorem cmpStrs_ret {T : Tab} (h : Fn T F.slices_Compare_Lstring_string slices_Compare_Lstring_string.fn) (h0 : Fn T F.cmp_Compare_string cmp_Compare_string.fn) (h1 : Fn T F.cmp_isNaN_string cmp_isNaN_string.fn) (l m : List Str) (hl : l.length ≤ 1073741824) (hm : m.length ≤ 1073741824) :
    Ret T F.slices_Compare_Lstring_string [.val (.lst 1 (srow l)), .val (.lst 1 (srow m))] (one (.int .i64 (lcmp tcmp l m))) := by
  have e1 := srow_len l
  have e2 := srow_len m
  refine Ret.mk h rfl ?_
  repeat' (first | refine zA ?_ | refine zB ?_ | (refine zC ?_ ?_ <;> intro hc; all_goals first | (cases hc; done) | ((try simp only [hc]); (try simp only [bm] at hc))) | refine zE ?_ | refine zN ?_ | fail)
  refine W.listP l (fun i (_ : Unit) s => s.put 11 (.av (.int .i64 (i : Int)))) (fun i _ => i ≤ m.length ∧ lcmp tcmp (l.drop i) (m.drop i) = lcmp tcmp l m) () ⟨by omega, rfl⟩ rfl ?_ ?_
  · intro i x u hx hi hp
    obtain ⟨hp1, hp2⟩ := hp
    by_cases him : i < m.length
    · obtain ⟨y, hy⟩ : ∃ y, m[i]? = some y := ⟨m[i], List.getElem?_eq_getElem him⟩
      have r := cmpStr_ret h0 h1 x y
      have e := lcmp_drop (c := tcmp) hx hy
      repeat' (first | refine zA ?_ | refine WQ.cl h0.modes ?_ | refine W1.cl h0.modes (r) ?_ | refine zB ?_ | (refine zC ?_ ?_ <;> intro hc; all_goals first | (cases hc; done) | ((try simp only [hc]); (try simp only [bm] at hc))) | refine zE ?_ | refine zN ?_ | fail)
      · exact Qend.num rfl rfl (by rw [← hp2, e, orI_ne (by assumption)])
      · exact ⟨(), ⟨by omega, by rw [← hp2, e, show tcmp x y = 0 by omega, orI0]⟩, rfl⟩
    · skip
      repeat' (first | refine zA ?_ | refine zB ?_ | (refine zC ?_ ?_ <;> intro hc; all_goals first | (cases hc; done) | ((try simp only [hc]); (try simp only [bm] at hc))) | refine zE ?_ | refine zN ?_ | fail)
      exact Qend.num rfl rfl (by rw [← hp2, lcmp_more hi (by omega)])
  · intro u hp
    have e := lcmp_end (c := tcmp) (l := l) (m := m)
    rw [hp.2] at e
    repeat' (first | refine zA ?_ | refine zB ?_ | (refine zC ?_ ?_ <;> intro hc; all_goals first | (cases hc; done) | ((try simp only [hc]); (try simp only [bm] at hc))) | refine zE ?_ | refine zN ?_ | fail)
    · exact Qend.num rfl rfl (by rw [e, if_pos (by omega)])
    · exact Qend.num rfl rfl (by rw [e, if_neg (by omega)])
def orL : List Int → Int
  | [] => 0
  | x :: r => orI x (orL r)
def irow (l : List Int) : List (List AV) := l.map fun n => [AV.int .i64 n]
theorem irow_len (l : List Int) : (irow l).length = l.length := by simp [irow]
theorem get_irow {l : List Int} {i : Nat} {x : Int} (h : l[i]? = some x) : (irow l)[i]? = some [.int .i64 x] := by simp only [irow, List.getElem?_map, h, Option.map_some]
theorem cmpOr_ret {T : Tab} (h : Fn T F.cmp_Or_int cmp_Or_int.fn) (l : List Int) (hl : l.length ≤ 1000) : Ret T F.cmp_Or_int [.val (.lst 1 (irow l))] (one (.int .i64 (orL l))) := by
  have e1 := irow_len l
  refine Ret.mk h rfl ?_
  repeat' (first | refine zA ?_ | refine zB ?_ | (refine zC ?_ ?_ <;> intro hc; all_goals first | (cases hc; done) | ((try simp only [hc]); (try simp only [bm] at hc))) | refine zE ?_ | refine zN ?_ | fail)
  refine W.listP l (fun i (_ : Unit) s => s.put 8 (.av (.int .i64 (i : Int)))) (fun i _ => orL (l.drop i) = orL l) () rfl rfl ?_ ?_
  · intro i x u hx hi hp
    have hg := get_irow hx
    have e : l.drop i = x :: l.drop (i + 1) := by
      obtain ⟨h1, rfl⟩ := List.getElem?_eq_some_iff.1 hx
      exact List.drop_eq_getElem_cons h1
    rw [e, orL] at hp
    repeat' (first | refine zA ?_ | refine zB ?_ | (refine zC ?_ ?_ <;> intro hc; all_goals first | (cases hc; done) | ((try simp only [hc]); (try simp only [bm] at hc))) | refine zE ?_ | refine zN ?_ | fail)
    · exact Qend.num rfl rfl (by rw [← hp, orI_ne (by assumption)])
    · exact ⟨(), by rw [← hp, show x = 0 by omega, orI0], rfl⟩
  · intro u hp
    rw [List.drop_length] at hp
    repeat' (first | refine zA ?_ | refine zB ?_ | (refine zC ?_ ?_ <;> intro hc; all_goals first | (cases hc; done) | ((try simp only [hc]); (try simp only [bm] at hc))) | refine zE ?_ | refine zN ?_ | fail)
    exact Qend.num rfl rfl (by rw [← hp]; rfl)
end Hm

/- The order of values, as the program has it. Conditions: see each theorem. -/
namespace Hm
open Go (IntKind)
set_option maxHeartbeats 4000000
set_option maxRecDepth 4000
theorem W1.neg64 {T : Tab} {st : St} {K : St → Prop} {dst : Option Nat} {g : Option (Nat × Bool)} {x : Opd} {a : Int} (hg : wanted st g = some true) (hx : st.opd x = .av (.int .i64 a)) (h1 : -9223372036854775808 ≤ 0 - a) (h2 : 0 - a < 9223372036854775808)
    (hk : K (putD dst (.av (.int .i64 (0 - a))) st)) : W1 T ⟨dst, .un .neg x, g⟩ st K :=
  W1.go hg (WS.op (v := .av (.int .i64 (0 - a))) rfl (by simp only [stepOp, hx, unA, inRange, wrap64 h1 h2]) hk)
mutual
def vc : V → V → Int
  | .mk k n t is ks, w => orI (icmp k w.kind) (orI (zcmp n w.num) (orI (tcmp t w.text) (orI (lcmp tcmp ks w.keys) (vcs is w.items))))
def vcs : List V → List V → Int
  | [], [] => 0
  | [], _ :: _ => -1
  | _ :: _, [] => 1
  | a :: l, b :: m => orI (vc a b) (vcs l m)
end
theorem vcs_eq : ∀ l m : List V, vcs l m = lcmp vc l m
  | [], [] => rfl
  | [], _ :: _ => rfl
  | _ :: _, [] => rfl
  | a :: l, b :: m => by rw [vcs, lcmp, vcs_eq l m]
theorem vc_eq (a b : V) : vc a b = orI (icmp a.kind b.kind) (orI (zcmp a.num b.num) (orI (tcmp a.text b.text) (orI (lcmp tcmp a.keys b.keys) (lcmp vc a.items b.items)))) := by
  cases a with
  | mk k n t is ks => rw [vc, vcs_eq]; rfl
theorem vc_pre : Pre (fun _ : V => True) vc := by
  have key : ∀ n, Pre (fun v : V => v.bk < n) vc := by
    intro n
    induction n with
    | zero => exact ⟨fun a _ h => by omega, fun a _ h => by omega, fun a _ _ h => by omega⟩
    | succ n ih =>
      refine Pre.congr ?_ vc_eq
      refine Pre.or (Pre.comap (f := V.kind) icmp_pre fun _ _ => trivial) (Pre.or (Pre.comap (f := V.num) zcmp_pre fun _ _ => trivial) (Pre.or (Pre.comap (f := V.text) tcmp_good.pre fun _ _ => trivial)
        (Pre.or (Pre.comap (f := V.keys) (Pre.list tcmp_good.pre) fun _ _ _ _ => trivial) (Pre.comap (f := V.items) (Pre.list ih) fun a ha x hx => by have := V.bk_item hx; omega))))
  refine ⟨fun a b _ _ => ?_, fun a b _ _ => ?_, fun a b d _ _ _ => ?_⟩
  · exact (key (a.bk + b.bk + 1)).rng a b (by omega) (by omega)
  · exact (key (a.bk + b.bk + 1)).anti a b (by omega) (by omega)
  · exact (key (a.bk + b.bk + d.bk + 1)).trans a b d (by omega) (by omega) (by omega)
theorem zcmp_zero {a b : Str} (h : zcmp a b = 0) : a = b := by
  simp only [zcmp] at h
  have mm : ∀ s : Str, minus s = true → s = 45 :: s.drop 1 := fun s hm => by
    simp only [minus, decide_eq_true_eq] at hm
    have h45 := (u8_eq (bAt s 0) 45 (by omega)).1 hm
    cases s with
    | nil => simp [bAt] at hm
    | cons c r => simp [bAt] at h45; simp [h45]
  cases ma : minus a <;> cases mb : minus b <;> simp only [ma, mb] at h
  · exact ncmp_good.eq a b trivial trivial (by simpa using h)
  · simp at h
  · simp at h
  · have := ncmp_good.eq (b.drop 1) (a.drop 1) trivial trivial (by simpa using h)
    rw [mm a ma, mm b mb, this]
theorem lcmp_eq2 {α : Type} {c : α → α → Int} : ∀ {l m : List α}, (∀ a ∈ l, ∀ b, c a b = 0 → a = b) → lcmp c l m = 0 → l = m
  | [], [], _, _ => rfl
  | [], _ :: _, _, h => by simp [lcmp] at h
  | _ :: _, [], _, h => by simp [lcmp] at h
  | a :: l, b :: m, he, h => by
    obtain ⟨h1, h2⟩ := orI_zero (show orI (c a b) (lcmp c l m) = 0 from h)
    rw [he a (by simp) b h1, lcmp_eq2 (fun x hx => he x (by simp [hx])) h2]
theorem vc_zero : ∀ {a b : V}, vc a b = 0 → a = b := by
  intro a
  induction a using V.ind with
  | h a ih =>
  intro b h
  rw [vc_eq] at h
  obtain ⟨h1, h⟩ := orI_zero h
  obtain ⟨h2, h⟩ := orI_zero h
  obtain ⟨h3, h⟩ := orI_zero h
  obtain ⟨h4, h5⟩ := orI_zero h
  have e1 := icmp_eq h1
  have e2 := zcmp_zero h2
  have e3 := tcmp_good.eq _ _ trivial trivial h3
  have e4 := lcmp_eq (P := fun _ => True) (fun a b _ _ => tcmp_good.eq a b trivial trivial) _ _ (fun _ _ => trivial) (fun _ _ => trivial) h4
  have e5 := lcmp_eq2 (l := a.items) (fun x hx b h => ih x hx h) h5
  cases a; cases b
  simp only [V.kind, V.num, V.text, V.keys, V.items] at *
  subst e1; subst e2; subst e3; subst e4; subst e5; rfl
theorem vc_self (a : V) : vc a a = 0 := vc_pre.refl trivial
theorem cmpFuncV_ret {T : Tab} (h : Fn T F.slices_CompareFunc_LValue_LValue_Value_Value slices_CompareFunc_LValue_LValue_Value_Value.fn) {c : V → V → Int} {g : Nat} (hg : T.modes g = [.val, .val]) (l m : List V) (hl : l.length ≤ 1073741824) (hm : m.length ≤ 1073741824)
    (ih : ∀ x ∈ l, ∀ y ∈ m, Ret T g [.val x.av, .val y.av] (one (.int .i64 (c x y)))) : Ret T F.slices_CompareFunc_LValue_LValue_Value_Value [.val (.lst 5 (l.map V.row)), .val (.lst 5 (m.map V.row)), .val (.clo g [] [])] (one (.int .i64 (lcmp c l m))) := by
  have e1 : (l.map V.row).length = l.length := List.length_map ..
  have e2 : (m.map V.row).length = m.length := List.length_map ..
  refine Ret.mk h rfl ?_
  repeat' (first | refine zA ?_ | refine zB ?_ | (refine zC ?_ ?_ <;> intro hc; all_goals first | (cases hc; done) | ((try simp only [hc]); (try simp only [bm] at hc))) | refine zE ?_ | refine zN ?_ | fail)
  refine W.listP l (fun i (_ : Unit) s => s.put 13 (.av (.int .i64 (i : Int)))) (fun i _ => i ≤ m.length ∧ lcmp c (l.drop i) (m.drop i) = lcmp c l m) () ⟨by omega, rfl⟩ rfl ?_ ?_
  · intro i x u hx hi hp
    obtain ⟨hp1, hp2⟩ := hp
    by_cases him : i < m.length
    · obtain ⟨y, hy⟩ : ∃ y, m[i]? = some y := ⟨m[i], List.getElem?_eq_getElem him⟩
      have r := ih x (List.mem_of_getElem? hx) y (List.mem_of_getElem? hy)
      have e := lcmp_drop (c := c) hx hy
      rw [V.av_eq, V.av_eq] at r
      repeat' (first | refine zA ?_ | refine WQ.cl hg ?_ | refine W1.cl hg (r) ?_ | refine zB ?_ | (refine zC ?_ ?_ <;> intro hc; all_goals first | (cases hc; done) | ((try simp only [hc]); (try simp only [bm] at hc))) | refine zE ?_ | refine zN ?_ | fail)
      · exact Qend.num rfl rfl (by rw [← hp2, e, orI_ne (by assumption)])
      · exact ⟨(), ⟨by omega, by rw [← hp2, e, show c x y = 0 by omega, orI0]⟩, rfl⟩
    · skip
      repeat' (first | refine zA ?_ | refine zB ?_ | (refine zC ?_ ?_ <;> intro hc; all_goals first | (cases hc; done) | ((try simp only [hc]); (try simp only [bm] at hc))) | refine zE ?_ | refine zN ?_ | fail)
      exact Qend.num rfl rfl (by rw [← hp2, lcmp_more hi (by omega)])
  · intro u hp
    have e := lcmp_end (c := c) (l := l) (m := m)
    rw [hp.2] at e
    repeat' (first | refine zA ?_ | refine zB ?_ | (refine zC ?_ ?_ <;> intro hc; all_goals first | (cases hc; done) | ((try simp only [hc]); (try simp only [bm] at hc))) | refine zE ?_ | refine zN ?_ | fail)
    · exact Qend.num rfl rfl (by rw [e, if_pos (by omega)])
    · exact Qend.num rfl rfl (by rw [e, if_neg (by omega)])
theorem cmpBytes_eq (a b : Str) : cmpBytes a b = tcmp a b := by
  rcases tcmp_cases a b with ⟨h, h1⟩ | ⟨h, h1⟩ | ⟨h, h1⟩
  · rw [h]; simp [cmpBytes, h1]
  · rw [h]; subst h1; simp [cmpBytes, bLess_irrefl]
  · rw [h]
    have : binA.bLess a b = false := by
      cases hb : binA.bLess a b with
      | false => rfl
      | true => have := bLess_trans a b a hb h1; rw [bLess_irrefl] at this; cases this
    have hne : ¬ a = b := fun e => by subst e; rw [bLess_irrefl] at h1; cases h1
    simp [cmpBytes, this, hne]
theorem strCompare_ret {T : Tab} (h : Fn T F.strings_Compare strings_Compare.fn) (hm : T.modes F.internal_bytealg_CompareString = [.val, .val]) (hp : T.prim F.internal_bytealg_CompareString = some pCompare) (a b : Str) :
    Ret T F.strings_Compare [.val (.str a), .val (.str b)] (one (.int .i64 (tcmp a b))) := by
  have r : Ret T F.internal_bytealg_CompareString [.val (.str a), .val (.str b)] (one (.int .i64 (tcmp a b))) := Ret.prim hp (by rw [← cmpBytes_eq]; rfl)
  refine Ret.mk h rfl ?_
  repeat' (first | refine zA ?_ | refine WQ.cl hm ?_ | refine W1.cl hm (r) ?_ | refine zB ?_ | (refine zC ?_ ?_ <;> intro hc; all_goals first | (cases hc; done) | ((try simp only [hc]); (try simp only [bm] at hc))) | refine zE ?_ | refine zN ?_ | fail)
  exact Qend.num rfl rfl rfl
/-- What the order of values reaches. -/
structure VcFns (T : Tab) : Prop where
  a1 : Fn T F.value_Cmp value_Cmp.fn
  a2 : Fn T F.value_side_alike value_side_alike.fn
  a3 : Fn T F.value_side_number value_side_number.fn
  a4 : Fn T F.value_side_text value_side_text.fn
  a5 : Fn T F.value_side_array value_side_array.fn
  a6 : Fn T F.value_side_object value_side_object.fn
  a7 : Fn T F.cmp_Compare_int cmp_Compare_int.fn
  a8 : Fn T F.cmp_isNaN_int cmp_isNaN_int.fn
  a9 : Fn T F.cmp_Compare_string cmp_Compare_string.fn
  b1 : Fn T F.cmp_isNaN_string cmp_isNaN_string.fn
  b2 : Fn T F.slices_Compare_Lstring_string slices_Compare_Lstring_string.fn
  b3 : Fn T F.slices_CompareFunc_LValue_LValue_Value_Value slices_CompareFunc_LValue_LValue_Value_Value.fn
  b4 : Fn T F.cmp_Or_int cmp_Or_int.fn
  b5 : Fn T F.tens_Cmp tens_Cmp.fn
  b6 : Fn T F.tens_size tens_size.fn
  b7 : Fn T F.tens_split tens_split.fn
  b8 : Fn T F.tens_Formed tens_Formed.fn
  b9 : Fn T F.strings_Compare strings_Compare.fn
  c1 : T.modes F.internal_bytealg_CompareString = [.val, .val]
  c2 : T.prim F.internal_bytealg_CompareString = some pCompare
section
variable {T : Tab}
theorem alike_ret (h : Fn T F.value_side_alike value_side_alike.fn) (a b : V) : Ret T F.value_side_alike [.val a.av, .val b.av] (one (.int .i64 0)) := by
  refine Ret.mk h rfl ?_
  rw [V.av_eq, V.av_eq]
  repeat' (first | refine zA ?_ | refine zB ?_ | (refine zC ?_ ?_ <;> intro hc; all_goals first | (cases hc; done) | ((try simp only [hc]); (try simp only [bm] at hc))) | refine zE ?_ | refine zN ?_ | fail)
  exact Qend.num rfl rfl rfl
theorem sideNumber_ret (f : VcFns T) (a b : V) (ha : number a.num = true) (hb : number b.num = true) (hl : a.bk ≤ 1073741824) (hl' : b.bk ≤ 1073741824) : Ret T F.value_side_number [.val a.av, .val b.av] (one (.int .i64 (zcmp a.num b.num))) := by
  have k1 := V.bk_eq a
  have k2 := V.bk_eq b
  have r := tensCmp_ret f.b5 f.b6 f.b7 f.b8 a.num b.num ha hb (by omega) (by omega)
  refine Ret.mk f.a3 rfl ?_
  rw [V.av_eq, V.av_eq]
  repeat' (first | refine zA ?_ | refine WQ.cl f.b5.modes ?_ | refine W1.cl f.b5.modes (r) ?_ | refine zB ?_ | (refine zC ?_ ?_ <;> intro hc; all_goals first | (cases hc; done) | ((try simp only [hc]); (try simp only [bm] at hc))) | refine zE ?_ | refine zN ?_ | fail)
  exact Qend.num rfl rfl rfl
theorem sideText_ret (f : VcFns T) (a b : V) : Ret T F.value_side_text [.val a.av, .val b.av] (one (.int .i64 (tcmp a.text b.text))) := by
  have r := strCompare_ret f.b9 f.c1 f.c2 a.text b.text
  refine Ret.mk f.a4 rfl ?_
  rw [V.av_eq, V.av_eq]
  repeat' (first | refine zA ?_ | refine WQ.cl f.b9.modes ?_ | refine W1.cl f.b9.modes (r) ?_ | refine zB ?_ | (refine zC ?_ ?_ <;> intro hc; all_goals first | (cases hc; done) | ((try simp only [hc]); (try simp only [bm] at hc))) | refine zE ?_ | refine zN ?_ | fail)
  exact Qend.num rfl rfl rfl
theorem sideArray_ret (f : VcFns T) (a b : V) (hl : a.bk ≤ 1073741824) (hl' : b.bk ≤ 1073741824) (ih : ∀ x ∈ a.items, ∀ y ∈ b.items, Ret T F.value_Cmp [.val x.av, .val y.av] (one (.int .i64 (vc x y)))) :
    Ret T F.value_side_array [.val a.av, .val b.av] (one (.int .i64 (lcmp vc a.items b.items))) := by
  have k1 := V.bk_eq a
  have k2 := V.bk_eq b
  have k3 := V.len_bks a.items
  have k4 := V.len_bks b.items
  have r := cmpFuncV_ret f.b3 (c := vc) (g := F.value_Cmp) f.a1.modes a.items b.items (by omega) (by omega) ih
  refine Ret.mk f.a5 rfl ?_
  rw [V.av_eq, V.av_eq]
  repeat' (first | refine zA ?_ | refine WQ.cl f.b3.modes ?_ | refine W1.cl f.b3.modes (r) ?_ | refine zB ?_ | (refine zC ?_ ?_ <;> intro hc; all_goals first | (cases hc; done) | ((try simp only [hc]); (try simp only [bm] at hc))) | refine zE ?_ | refine zN ?_ | fail)
  exact Qend.num rfl rfl rfl
theorem sideObject_ret (f : VcFns T) (a b : V) (hl : a.bk ≤ 1073741824) (hl' : b.bk ≤ 1073741824) (ih : ∀ x ∈ a.items, ∀ y ∈ b.items, Ret T F.value_Cmp [.val x.av, .val y.av] (one (.int .i64 (vc x y)))) :
    Ret T F.value_side_object [.val a.av, .val b.av] (one (.int .i64 (orI (lcmp tcmp a.keys b.keys) (lcmp vc a.items b.items)))) := by
  have k1 := V.bk_eq a
  have k2 := V.bk_eq b
  have k3 := len_sbk a.keys
  have k4 := len_sbk b.keys
  have r1 := sideArray_ret f a b hl hl' ih
  have r2 := cmpStrs_ret f.b2 f.a9 f.b1 a.keys b.keys (by omega) (by omega)
  have r3 := cmpOr_ret f.b4 [lcmp tcmp a.keys b.keys, lcmp vc a.items b.items] (by simp)
  refine Ret.mk f.a6 rfl ?_
  rw [V.av_eq, V.av_eq] at *
  repeat' (first | refine zA ?_ | refine WQ.cl f.b2.modes ?_ | refine W1.cl f.b2.modes (r2) ?_ | refine WQ.cl f.a5.modes ?_ | refine W1.cl f.a5.modes (r1) ?_ | refine WQ.cl f.b4.modes ?_ | refine W1.cl f.b4.modes (r3) ?_ | refine zB ?_ | (refine zC ?_ ?_ <;> intro hc; all_goals first | (cases hc; done) | ((try simp only [hc]); (try simp only [bm] at hc))) | refine zE ?_ | refine zN ?_ | fail)
  refine Qend.num rfl rfl ?_
  simp only [orL, orI]
  split <;> (try split) <;> omega
end
end Hm

/- Values stand in a row. Conditions: see each theorem. -/
namespace Hm
open Go (IntKind)
set_option maxHeartbeats 4000000
set_option maxRecDepth 4000
theorem valueCmp_ret {T : Tab} (f : VcFns T) : ∀ (a : V), a.bk ≤ 1073741824 → formed a = true → ∀ b : V, b.bk ≤ 1073741824 → formed b = true → Ret T F.value_Cmp [.val a.av, .val b.av] (one (.int .i64 (vc a b))) := by
  intro a
  induction a using V.ind with
  | h a ih =>
  intro hla hfa b hlb hfb
  have ga := formed_inv hfa
  have gb := formed_inv hfb
  have ih' : ∀ x ∈ a.items, ∀ y ∈ b.items, Ret T F.value_Cmp [.val x.av, .val y.av] (one (.int .i64 (vc x y))) := fun x hx y hy =>
    ih x hx (by have := V.bk_item hx; omega) (ga.2.2.2.2.2.2.2.2 x hx) y (by have := V.bk_item hy; omega) (gb.2.2.2.2.2.2.2.2 y hy)
  have r0 := cmpInt_ret f.a7 f.a8 a.kind b.kind
  have r1 := alike_ret f.a2 a b
  have r2 := fun p q => sideNumber_ret f a b p q hla hlb
  have r3 := sideText_ret f a b
  have r4 := sideArray_ret f a b hla hlb ih'
  have r5 := sideObject_ret f a b hla hlb ih'
  have e := vc_eq a b
  refine Ret.mk f.a1 rfl ?_
  clear ih ih' hfa hfb hla hlb
  obtain ⟨k, n, t, is, ks⟩ := a
  obtain ⟨k', n', t', is', ks'⟩ := b
  rw [V.av_eq, V.av_eq] at *
  simp only [V.kind, V.num, V.text, V.items, V.keys] at *
  by_cases hk : k = k'
  · subst hk
    obtain ⟨⟨h0, h6⟩, f2, f3, f4, f5, f6, f7, f8, f9⟩ := ga
    obtain ⟨-, g2, g3, g4, g5, g6, g7, g8, g9⟩ := gb
    have z1 : zcmp [] [] = 0 := zcmp_pre.refl trivial
    have z2 : tcmp [] [] = 0 := tcmp_good.pre.refl trivial
    have z3 : lcmp tcmp [] [] = 0 := rfl
    have z4 : lcmp vc [] [] = 0 := rfl
    rw [show icmp k k = 0 from icmp_pre.refl trivial, orI0] at e
    have hcase : k = 0 ∨ k = 1 ∨ k = 2 ∨ k = 3 ∨ k = 4 ∨ k = 5 ∨ k = 6 := by omega
    rcases hcase with rfl | rfl | rfl | rfl | rfl | rfl | rfl
    · obtain rfl := f3 (by decide)
      obtain rfl := g3 (by decide)
      obtain rfl := f5 (by decide)
      obtain rfl := g5 (by decide)
      obtain rfl := f6 (by decide)
      obtain rfl := g6 (by decide)
      obtain rfl := f7 (by decide)
      obtain rfl := g7 (by decide)
      rw [z1, z2, z3, z4] at e
      clear r2 r3 r4 r5
      repeat' (first | refine zA ?_ | refine WQ.cl f.a2.modes ?_ | refine W1.cl f.a2.modes (r1) ?_ | refine zB ?_ | (refine zC ?_ ?_ <;> intro hc; all_goals first | (cases hc; done) | ((try simp only [hc]); (try simp only [bm] at hc))) | refine zE ?_ | refine zN ?_ | fail)
      exact Qend.num rfl rfl (by rw [e]; rfl)
    · obtain rfl := f3 (by decide)
      obtain rfl := g3 (by decide)
      obtain rfl := f5 (by decide)
      obtain rfl := g5 (by decide)
      obtain rfl := f6 (by decide)
      obtain rfl := g6 (by decide)
      obtain rfl := f7 (by decide)
      obtain rfl := g7 (by decide)
      rw [z1, z2, z3, z4] at e
      clear r2 r3 r4 r5
      repeat' (first | refine zA ?_ | refine WQ.cl f.a2.modes ?_ | refine W1.cl f.a2.modes (r1) ?_ | refine zB ?_ | (refine zC ?_ ?_ <;> intro hc; all_goals first | (cases hc; done) | ((try simp only [hc]); (try simp only [bm] at hc))) | refine zE ?_ | refine zN ?_ | fail)
      exact Qend.num rfl rfl (by rw [e]; rfl)
    · obtain rfl := f3 (by decide)
      obtain rfl := g3 (by decide)
      obtain rfl := f5 (by decide)
      obtain rfl := g5 (by decide)
      obtain rfl := f6 (by decide)
      obtain rfl := g6 (by decide)
      obtain rfl := f7 (by decide)
      obtain rfl := g7 (by decide)
      rw [z1, z2, z3, z4] at e
      clear r2 r3 r4 r5
      repeat' (first | refine zA ?_ | refine WQ.cl f.a2.modes ?_ | refine W1.cl f.a2.modes (r1) ?_ | refine zB ?_ | (refine zC ?_ ?_ <;> intro hc; all_goals first | (cases hc; done) | ((try simp only [hc]); (try simp only [bm] at hc))) | refine zE ?_ | refine zN ?_ | fail)
      exact Qend.num rfl rfl (by rw [e]; rfl)
    · obtain rfl := f5 (by decide)
      obtain rfl := g5 (by decide)
      obtain rfl := f6 (by decide)
      obtain rfl := g6 (by decide)
      obtain rfl := f7 (by decide)
      obtain rfl := g7 (by decide)
      rw [z2, z3, z4] at e
      have r2' := r2 (f2 rfl) (g2 rfl)
      clear r1 r2 r3 r4 r5
      repeat' (first | refine zA ?_ | refine WQ.cl f.a3.modes ?_ | refine W1.cl f.a3.modes (r2') ?_ | refine zB ?_ | (refine zC ?_ ?_ <;> intro hc; all_goals first | (cases hc; done) | ((try simp only [hc]); (try simp only [bm] at hc))) | refine zE ?_ | refine zN ?_ | fail)
      exact Qend.num rfl rfl (by rw [e]; simp only [orI]; split <;> simp_all)
    · obtain rfl := f3 (by decide)
      obtain rfl := g3 (by decide)
      obtain rfl := f6 (by decide)
      obtain rfl := g6 (by decide)
      obtain rfl := f7 (by decide)
      obtain rfl := g7 (by decide)
      rw [z1, z3, z4] at e
      clear r1 r2 r4 r5
      repeat' (first | refine zA ?_ | refine WQ.cl f.a4.modes ?_ | refine W1.cl f.a4.modes (r3) ?_ | refine zB ?_ | (refine zC ?_ ?_ <;> intro hc; all_goals first | (cases hc; done) | ((try simp only [hc]); (try simp only [bm] at hc))) | refine zE ?_ | refine zN ?_ | fail)
      exact Qend.num rfl rfl (by rw [e]; simp only [orI]; split <;> simp_all)
    · obtain rfl := f3 (by decide)
      obtain rfl := g3 (by decide)
      obtain rfl := f5 (by decide)
      obtain rfl := g5 (by decide)
      obtain rfl := f7 (by decide)
      obtain rfl := g7 (by decide)
      rw [z1, z2, z3] at e
      clear r1 r2 r3 r5
      repeat' (first | refine zA ?_ | refine WQ.cl f.a5.modes ?_ | refine W1.cl f.a5.modes (r4) ?_ | refine zB ?_ | (refine zC ?_ ?_ <;> intro hc; all_goals first | (cases hc; done) | ((try simp only [hc]); (try simp only [bm] at hc))) | refine zE ?_ | refine zN ?_ | fail)
      exact Qend.num rfl rfl (by rw [e]; simp [orI])
    · obtain rfl := f3 (by decide)
      obtain rfl := g3 (by decide)
      obtain rfl := f5 (by decide)
      obtain rfl := g5 (by decide)
      rw [z1, z2] at e
      clear r1 r2 r3 r4
      repeat' (first | refine zA ?_ | refine WQ.cl f.a6.modes ?_ | refine W1.cl f.a6.modes (r5) ?_ | refine zB ?_ | (refine zC ?_ ?_ <;> intro hc; all_goals first | (cases hc; done) | ((try simp only [hc]); (try simp only [bm] at hc))) | refine zE ?_ | refine zN ?_ | fail)
      exact Qend.num rfl rfl (by rw [e]; simp [orI])
  · clear r1 r2 r3 r4 r5
    have hne : icmp k k' ≠ 0 := fun h => hk (icmp_eq h)
    rw [orI_ne hne] at e
    rw [e]
    repeat' (first | refine zA ?_ | refine WQ.cl f.a7.modes ?_ | refine W1.cl f.a7.modes (r0) ?_ | refine zB ?_ | (refine zC ?_ ?_ <;> intro hc; all_goals first | (cases hc; done) | ((try simp only [hc]); (try simp only [bm] at hc))) | refine zE ?_ | refine zN ?_ | fail)
    exact Qend.num rfl rfl rfl
end Hm
