/- What the law answers on the abstract machine. Conditions: see each theorem. -/
import Derived.Test.YtkhikkdhpidohaaVBRow2
set_option linter.unusedVariables false
set_option linter.unusedSimpArgs false
/- Lying in, and being apart, from type to type. Conditions: none (plain lemmas). -/
namespace Hm
open Go (IntKind)
set_option maxRecDepth 4000
theorem zc_zero {a b : Str} (h : zcmp a b = 0) : a = b := by
  simp only [zcmp] at h
  have mm : ∀ s : Str, minus s = true → s = 45 :: s.drop 1 := fun s hm => by
    simp only [minus, decide_eq_true_eq] at hm
    have h45 := (u8_eq (bAt s 0) 45 (by omega)).1 hm
    cases s with
    | nil => simp [bAt] at hm
    | cons c r => simp [bAt] at h45; simp [h45]
  cases ma : minus a <;> cases mb : minus b <;> simp only [ma, mb] at h
  · exact ncmp_good.eq a b trivial trivial (by simpa using h)
  · simp at h
  · simp at h
  · have := ncmp_good.eq (b.drop 1) (a.drop 1) trivial trivial (by simpa using h)
    rw [mm a ma, mm b mb, this]
theorem zc_refl (a : Str) : zcmp a a = 0 := zcmp_pre.refl trivial
theorem zc_trans {a b c : Str} (h1 : zcmp a b ≤ 0) (h2 : zcmp b c ≤ 0) : zcmp a c ≤ 0 := zcmp_pre.trans a b c trivial trivial trivial h1 h2
theorem zc_anti (a b : Str) : zcmp a b = - zcmp b a := zcmp_pre.anti a b trivial trivial
theorem span_iff (a b : Sp) : spanIn a b = true ↔ hollowB a = true ∨ ((b.1 = [] ∨ (a.1 ≠ [] ∧ zcmp b.1 a.1 ≤ 0)) ∧ (b.2 = [] ∨ (a.2 ≠ [] ∧ zcmp a.2 b.2 ≤ 0))) := by
  simp only [spanIn, Bool.and_eq_true, Bool.or_eq_true, Bool.not_eq_true', beq_eq_false_iff_ne, beq_iff_eq, decide_eq_true_eq, ne_eq]
theorem hollow_iff (s : Sp) : hollowB s = true ↔ s.1 ≠ [] ∧ s.2 ≠ [] ∧ zcmp s.1 s.2 > 0 := by
  simp only [hollowB, Bool.and_eq_true, Bool.not_eq_true', beq_eq_false_iff_ne, decide_eq_true_eq, ne_eq, and_assoc]
theorem span_refl (s : Sp) : spanIn s s = true := by
  rw [span_iff]
  right
  constructor
  · cases Classical.em (s.1 = []) with
    | inl h => exact .inl h
    | inr h => exact .inr ⟨h, by rw [zc_refl]; omega⟩
  · cases Classical.em (s.2 = []) with
    | inl h => exact .inl h
    | inr h => exact .inr ⟨h, by rw [zc_refl]; omega⟩
theorem spanOk_full {s : Sp} (h : spanOk s = true) : hollowB s = false := by
  simp only [spanOk, Bool.and_eq_true, Bool.not_eq_true'] at h
  exact h.2
theorem span_trans {a b c : Sp} (hb : hollowB b = false) (h1 : spanIn a b = true) (h2 : spanIn b c = true) : spanIn a c = true := by
  rw [span_iff] at *
  rcases h1 with h1 | ⟨h1, h3⟩
  · exact .inl h1
  · rcases h2 with h2 | ⟨h2, h4⟩
    · rw [hb] at h2; cases h2
    · right
      constructor
      · rcases h2 with h2 | ⟨h2, h5⟩
        · exact .inl h2
        · rcases h1 with h1 | ⟨h1, h6⟩
          · exact absurd h1 h2
          · exact .inr ⟨h1, zc_trans h5 h6⟩
      · rcases h4 with h4 | ⟨h4, h5⟩
        · exact .inl h4
        · rcases h3 with h3 | ⟨h3, h6⟩
          · exact absurd h3 h4
          · exact .inr ⟨h3, zc_trans h6 h5⟩
theorem low_ge1 {a b : Str} (h : a ≠ []) : lowS a b ≠ [] ∧ zcmp a (lowS a b) ≤ 0 := by
  unfold lowS
  split
  · next hc =>
    simp only [Bool.or_eq_true, beq_iff_eq, Bool.and_eq_true, Bool.not_eq_true', beq_eq_false_iff_ne, decide_eq_true_eq] at hc
    have hc := hc.resolve_left h
    exact ⟨hc.1, by omega⟩
  · exact ⟨h, by rw [zc_refl]; omega⟩
theorem low_ge2 {a b : Str} (h : b ≠ []) : lowS a b ≠ [] ∧ zcmp b (lowS a b) ≤ 0 := by
  unfold lowS
  split
  · exact ⟨h, by rw [zc_refl]; omega⟩
  · next hc =>
    simp only [Bool.or_eq_true, beq_iff_eq, Bool.and_eq_true, Bool.not_eq_true', beq_eq_false_iff_ne, decide_eq_true_eq, not_or, not_and] at hc
    refine ⟨hc.1, ?_⟩
    have := hc.2 h
    have := zc_anti a b
    omega
theorem upp_le1 {a b : Str} (h : a ≠ []) : uppS a b ≠ [] ∧ zcmp (uppS a b) a ≤ 0 := by
  unfold uppS
  split
  · next hc =>
    simp only [Bool.or_eq_true, beq_iff_eq, Bool.and_eq_true, Bool.not_eq_true', beq_eq_false_iff_ne, decide_eq_true_eq] at hc
    have hc := hc.resolve_left h
    have := zc_anti a b
    exact ⟨hc.1, by omega⟩
  · exact ⟨h, by rw [zc_refl]; omega⟩
theorem upp_le2 {a b : Str} (h : b ≠ []) : uppS a b ≠ [] ∧ zcmp (uppS a b) b ≤ 0 := by
  unfold uppS
  split
  · exact ⟨h, by rw [zc_refl]; omega⟩
  · next hc =>
    simp only [Bool.or_eq_true, beq_iff_eq, Bool.and_eq_true, Bool.not_eq_true', beq_eq_false_iff_ne, decide_eq_true_eq, not_or, not_and] at hc
    refine ⟨hc.1, ?_⟩
    have := hc.2 h
    omega
/-! ### A type lies in itself -/
theorem item_bk {t : Ty} {a : Ar} (h : a ∈ t.arrays) : a.item.bk < t.bk := by
  have := arBk_mem h
  have := Ar.bk_eq a
  have := Ty.bk_eq t
  omega
theorem fld_bk {t : Ty} {o : Ob} (h : o ∈ t.objects) (s : Str) : (fldO o s).bk < t.bk ∧ o.rest.bk < t.bk := by
  have := obBk_mem h
  have := Ob.bk_eq o
  have := Ty.bk_eq t
  rcases fldO_mem o s with hm | hm
  · have := tyBk_mem hm
    omega
  · rw [hm]; omega
theorem blwN_refl (n : Nat) : ∀ a : Ty, a.bk < n → blwN n a a = true := by
  induction n with
  | zero => intro a h; omega
  | succ n ih =>
    intro a h
    rw [blwN]
    cases hA : a.all
    rotate_left
    · simp
    have e : laidT a = a := by rw [laidT, hA]; rfl
    rw [e, Bool.or_eq_true]
    right
    simp only [bodyB, Bool.and_eq_true]
    refine ⟨⟨⟨⟨?_, ?_⟩, ?_⟩, ?_⟩, ?_⟩
    · simp [wordsB]
    · rw [numsB]
      cases e1 : a.nums with
      | nil => rfl
      | cons s r => exact span_refl s
    · rw [textsB, Bool.or_self]
      split
      · next h => exact h
      · rw [List.all_eq_true]
        intro x hx
        exact List.contains_iff_mem.2 hx
    · rw [arrsB]
      cases e1 : a.arrays with
      | nil => rfl
      | cons p r =>
        show blwA (blwN n) p p = true
        have hm : p ∈ a.arrays := by rw [e1]; simp
        have hi := ih p.item (by have := item_bk hm; omega)
        simp only [blwA, hi, Bool.or_true, Bool.and_true, Bool.not_eq_true', Bool.or_eq_false_iff, Bool.and_eq_false_iff, decide_eq_false_iff_not]
        omega
    · rw [objsB, List.all_eq_true]
      intro o ho
      rw [List.any_eq_true]
      refine ⟨o, ho, blwO_of (fun s => ⟨fun h => h, ih _ ?_⟩) (ih _ ?_)⟩
      · have := (fld_bk ho s).1; omega
      · have := (fld_bk ho []).2; omega
/-! ### Apart from itself is what has no value -/
theorem never_iff (t : Ty) : never t = true ↔ t.all = false ∧ t.nul = false ∧ t.fls = false ∧ t.tru = false ∧ t.anyText = false ∧ t.nums = [] ∧ t.texts = [] ∧ t.arrays = [] ∧ t.objects = [] := by
  simp only [never, bare, Bool.and_eq_true, Bool.not_eq_true', Bool.or_eq_false_iff, decide_eq_true_eq, List.length_eq_zero_iff, and_assoc]
theorem aptN_never (n : Nat) {a : Ty} (h : never a = true) (b : Ty) (hb : tformed b = true) : aptN (n + 1) a b = true := by
  rw [never_iff] at h
  obtain ⟨h0, h1, h2, h3, h4, h5, h6, h7, h8⟩ := h
  have e : laidT a = a := by rw [laidT, h0]; rfl
  have hb' := laid_formed hb
  rw [aptN, e]
  generalize laidT b = y at *
  rw [tformed_eq] at hb'
  simp only [Bool.and_eq_true, Bool.not_eq_true', Bool.or_eq_false_iff, Bool.and_eq_false_iff, decide_eq_false_iff_not] at hb'
  simp only [aptB, aptW, aptI, aptX, aptA, aptO, h1, h2, h3, h4, h5, h6, h7, h8, Bool.not_false, Bool.true_or, Bool.and_true, Bool.true_and, Bool.false_or, Bool.false_and, List.length_nil, decide_true, List.any_nil, List.all_nil]
  split
  · next h =>
    have := hb'.1.2.2
    rw [h] at this
    simpa using this
  · rfl
theorem aptN_self (n : Nat) : ∀ a : Ty, tformed a = true → aptN n a a = true → never a = true := by
  induction n with
  | zero => intro a _ h; cases h
  | succ n ih =>
    intro a ha h
    rw [aptN] at h
    simp only [aptB, Bool.and_eq_true] at h
    obtain ⟨⟨⟨⟨hw, hn⟩, ht⟩, hr⟩, ho⟩ := h
    simp only [aptW, Bool.and_eq_true, Bool.or_self, Bool.not_eq_true'] at hw
    cases hA : a.all
    rotate_left
    · have e : laidT a = openT := by rw [laidT, hA]; rfl
      rw [e] at hw
      exact absurd hw.1.1 (by decide)
    have e : laidT a = a := by rw [laidT, hA]; rfl
    rw [e] at hw hn ht hr ho
    obtain ⟨p1, p2, p3⟩ := tformed_parts ha
    rw [never_iff]
    have hT : a.anyText = false ∧ a.texts = [] := by
      rw [aptX, Bool.or_self, Bool.and_self] at ht
      split at ht
      · next h => rw [h] at ht; cases ht
      · next h =>
        refine ⟨by simpa using h, ?_⟩
        rw [Bool.not_eq_true', List.any_eq_false] at ht
        cases e1 : a.texts with
        | nil => rfl
        | cons s r => exact absurd (List.contains_iff_mem.2 (by rw [e1]; simp)) (ht s (by rw [e1]; simp))
    refine ⟨hA, hw.1.1, hw.1.2, hw.2, hT.1, ?_, hT.2, ?_, ?_⟩
    · rw [aptI] at hn
      cases e1 : a.nums with
      | nil => rfl
      | cons s r =>
        rw [e1] at hn
        simp only at hn
        have := spanOk_full (p1 s (by rw [e1]; simp))
        have e2 : (lowS s.1 s.1, uppS s.2 s.2) = s := by
          have q1 := lowS_cases s.1 s.1
          have q2 := uppS_cases s.2 s.2
          rw [or_self] at q1 q2
          rw [q1, q2]
        rw [e2, this] at hn
        cases hn
    · rw [aptA] at hr
      cases e1 : a.arrays with
      | nil => rfl
      | cons p r =>
        rw [e1] at hr
        simp only at hr
        have hm : p ∈ a.arrays := by rw [e1]; simp
        exfalso
        rw [tformed_eq] at ha
        simp only [Bool.and_eq_true, List.all_eq_true] at ha
        have ok := ha.2.2.1.2 p hm
        rw [arOk_eq] at ok
        simp only [Bool.and_eq_true, Bool.not_eq_true', Bool.or_eq_false_iff, Bool.and_eq_false_iff, decide_eq_false_iff_not, beq_iff_eq] at ok
        simp only [aptR, Int.max_self, Bool.or_self, Bool.or_eq_true, Bool.and_eq_true, decide_eq_true_eq] at hr
        rcases hr with hr | hr
        · omega
        · have hN := ih p.item (p2 p hm) hr.2
          rw [hN] at ok
          have := of_decide_eq_true ok.2.2.symm
          omega
    · rw [aptO] at ho
      cases e1 : a.objects with
      | nil => rfl
      | cons o r =>
        exfalso
        have hm : o ∈ a.objects := by rw [e1]; simp
        obtain ⟨s, m1, m2⟩ := aptU_inv (List.all_eq_true.1 (List.all_eq_true.1 ho o hm) o hm)
        have ok := tobj_ok ha o hm
        have hN := ih _ (ok.fld s) m2
        rw [or_self] at m1
        rw [ok.must m1] at hN
        cases hN
/-! ### Lying in goes on -/
theorem open_body {n : Nat} {x : Ty} (h : tformed x = true) : bodyB (blwN n) openT x = true := by
  have hE : ∀ t : Ty, blwN n everyT t = true := fun t => by cases n <;> simp [blwN, everyT, Ty.all]
  have hN : ∀ t : Ty, tformed t = true → True := fun _ _ => trivial
  simp only [bodyB, Bool.and_eq_true]
  refine ⟨⟨⟨⟨?_, ?_⟩, ?_⟩, ?_⟩, ?_⟩
  · simp [wordsB, openT, kindT, Ty.nul, Ty.fls, Ty.tru]
  · rw [numsB]
    cases x.nums with
    | nil => rfl
    | cons s r =>
      show spanIn s ([], []) = true
      rw [span_iff]
      exact .inr ⟨.inl rfl, .inl rfl⟩
  · rw [textsB]; rfl
  · rw [arrsB]
    cases e1 : x.arrays with
    | nil => rfl
    | cons p r =>
      show blwA (blwN n) (.mk everyT 0 (-1)) p = true
      rw [tformed_eq] at h
      simp only [Bool.and_eq_true, List.all_eq_true] at h
      have ok := h.2.2.1.2 p (by rw [e1]; simp)
      rw [arOk_eq] at ok
      simp only [Bool.and_eq_true, Bool.not_eq_true', Bool.or_eq_false_iff, Bool.and_eq_false_iff, decide_eq_false_iff_not, beq_iff_eq] at ok
      have q1 : (Ar.mk everyT 0 (-1)).min = 0 := rfl
      have q2 : (Ar.mk everyT 0 (-1)).max = -1 := rfl
      have q3 : (Ar.mk everyT 0 (-1)).item = everyT := rfl
      simp [blwA, q1, q2, q3, hE]
      omega
  · rw [objsB, List.all_eq_true]
    intro o ho
    show ([Ob.mk [] [] [] everyT].any fun q => blwO (blwN n) q o) = true
    rw [List.any_cons, List.any_nil, Bool.or_false]
    refine blwO_of (fun s => ⟨fun h => ?_, ?_⟩) (hE _)
    · rw [mstO_out (by simp [Ob.names])] at h; cases h
    · rw [fldO_out (o := Ob.mk [] [] [] everyT) (by simp [Ob.names])]; exact hE _
theorem body_never {F : Ty → Ty → Bool} {b x : Ty} (hb : never b = true) (hx : x.all = false) (h : bodyB F b x = true) : never x = true := by
  rw [never_iff] at *
  obtain ⟨h0, h1, h2, h3, h4, h5, h6, h7, h8⟩ := hb
  simp only [bodyB, wordsB, numsB, textsB, arrsB, objsB, h1, h2, h3, h4, h5, h6, h7, h8, Bool.and_eq_true, Bool.or_false, Bool.not_eq_true', Bool.false_or, List.any_nil, List.all_eq_true, List.contains_nil] at h
  obtain ⟨⟨⟨⟨⟨⟨w1, w2⟩, w3⟩, hn⟩, ht⟩, hr⟩, ho⟩ := h
  have hT : x.anyText = false ∧ x.texts = [] := by
    split at ht
    · cases ht
    · next hc =>
      refine ⟨by simpa using hc, ?_⟩
      cases e1 : x.texts with
      | nil => rfl
      | cons s r => rw [e1] at ht; simp at ht
  refine ⟨hx, w1, w2, w3, hT.1, ?_, hT.2, ?_, ?_⟩
  · cases e1 : x.nums with
    | nil => rfl
    | cons s r => rw [e1] at hn; cases hn
  · cases e1 : x.arrays with
    | nil => rfl
    | cons s r => rw [e1] at hr; cases hr
  · cases e1 : x.objects with
    | nil => rfl
    | cons s r => exact absurd (ho s (by rw [e1]; simp)) (by simp)
theorem never_laid {a : Ty} (h : never (laidT a) = true) : never a = true := by
  unfold laidT at h
  split at h
  · exact absurd h (by decide)
  · exact h
theorem body_trans {F : Ty → Ty → Bool} {x y z : Ty} (hy : tformed y = true) (hz : tformed z = true) (hx : tformed x = true)
    (hF : ∀ a b c : Ty, tformed a = true → tformed b = true → tformed c = true → F b a = true → F c b = true → F c a = true) (h1 : bodyB F y x = true) (h2 : bodyB F z y = true) : bodyB F z x = true := by
  obtain ⟨p1, p2, p3⟩ := tformed_parts hx
  obtain ⟨q1, q2, q3⟩ := tformed_parts hy
  obtain ⟨r1, r2, r3⟩ := tformed_parts hz
  simp only [bodyB, Bool.and_eq_true] at *
  obtain ⟨⟨⟨⟨w1, n1⟩, t1⟩, a1⟩, o1⟩ := h1
  obtain ⟨⟨⟨⟨w2, n2⟩, t2⟩, a2⟩, o2⟩ := h2
  refine ⟨⟨⟨⟨?_, ?_⟩, ?_⟩, ?_⟩, ?_⟩
  · simp only [wordsB, Bool.and_eq_true, Bool.or_eq_true, Bool.not_eq_true'] at *
    obtain ⟨⟨u1, u2⟩, u3⟩ := w1
    obtain ⟨⟨v1, v2⟩, v3⟩ := w2
    refine ⟨⟨?_, ?_⟩, ?_⟩
    · rcases u1 with u | u
      · exact .inl u
      · rcases v1 with v | v
        · rw [u] at v; cases v
        · exact .inr v
    · rcases u2 with u | u
      · exact .inl u
      · rcases v2 with v | v
        · rw [u] at v; cases v
        · exact .inr v
    · rcases u3 with u | u
      · exact .inl u
      · rcases v3 with v | v
        · rw [u] at v; cases v
        · exact .inr v
  · rw [numsB] at *
    cases e1 : x.nums with
    | nil => rfl
    | cons s r =>
      rw [e1] at n1
      cases e2 : y.nums with
      | nil => rw [e2] at n1; cases n1
      | cons t r' =>
        rw [e2] at n1 n2
        cases e3 : z.nums with
        | nil => rw [e3] at n2; cases n2
        | cons u r'' =>
          rw [e3] at n2
          exact span_trans (spanOk_full (q1 t (by rw [e2]; simp))) n1 n2
  · rw [textsB] at *
    cases hz' : z.anyText
    · rw [hz'] at t2
      cases hy' : y.anyText
      · rw [hy'] at t1 t2
        cases hx' : x.anyText
        · rw [hx'] at t1
          simp only [Bool.or_self, Bool.false_eq_true, if_false, List.all_eq_true] at *
          intro s hs
          exact t2 s (List.contains_iff_mem.1 (t1 s hs))
        · rw [hx'] at t1; cases t1
      · rw [hy'] at t2; cases t2
    · rfl
  · rw [arrsB] at *
    cases e1 : x.arrays with
    | nil => rfl
    | cons p r =>
      rw [e1] at a1
      cases e2 : y.arrays with
      | nil => rw [e2] at a1; cases a1
      | cons q r' =>
        rw [e2] at a1 a2
        cases e3 : z.arrays with
        | nil => rw [e3] at a2; cases a2
        | cons t r'' =>
          rw [e3] at a2
          simp only at a1 a2 ⊢
          have f1 := p2 p (by rw [e1]; simp)
          have f2 := q2 q (by rw [e2]; simp)
          have f3 := r2 t (by rw [e3]; simp)
          simp only [blwA, Bool.and_eq_true, Bool.or_eq_true, Bool.not_eq_true', Bool.or_eq_false_iff, Bool.and_eq_false_iff, decide_eq_true_eq, decide_eq_false_iff_not] at *
          obtain ⟨⟨u1, u2⟩, u3⟩ := a1
          obtain ⟨⟨v1, v2⟩, v3⟩ := a2
          refine ⟨⟨by omega, by omega⟩, ?_⟩
          rcases u3 with u3 | u3
          · exact .inl u3
          · rcases v3 with v3 | v3
            · left; omega
            · exact .inr (hF _ _ _ f1 f2 f3 u3 v3)
  · rw [objsB, List.all_eq_true] at *
    intro oa ha
    obtain ⟨ob, hb, l1⟩ := List.any_eq_true.1 (o1 oa ha)
    obtain ⟨oc, hc, l2⟩ := List.any_eq_true.1 (o2 ob hb)
    rw [List.any_eq_true]
    have ka := tobj_ok hx oa ha
    have kb := tobj_ok hy ob hb
    have kc := tobj_ok hz oc hc
    refine ⟨oc, hc, blwO_of (fun s => ?_) ?_⟩
    · obtain ⟨m1, m2⟩ := blwO_names l1 s
      obtain ⟨k1, k2⟩ := blwO_names l2 s
      exact ⟨fun h => m1 (k1 h), hF _ _ _ (ka.fld s) (kb.fld s) (kc.fld s) m2 k2⟩
    · rw [blwO, Bool.and_eq_true] at l1 l2
      exact hF _ _ _ ka.rest kb.rest kc.rest l1.2 l2.2
theorem blwN_trans (n : Nat) : ∀ a b c : Ty, tformed a = true → tformed b = true → tformed c = true → blwN n b a = true → blwN n c b = true → blwN n c a = true := by
  induction n with
  | zero =>
    intro a b c ha hb hc h1 h2
    rw [blwN, Bool.or_eq_true] at *
    rcases h1 with h1 | h1
    · exact .inl h1
    · rcases h2 with h2 | h2
      · rw [never_iff] at h2; rw [h2.1] at h1; cases h1
      · exact .inr h2
  | succ n ih =>
    intro a b c ha hb hc h1 h2
    rw [blwN, Bool.or_eq_true, Bool.or_eq_true] at *
    rcases h2 with (h2 | h2) | h2
    · rcases h1 with (h1 | h1) | h1
      · exact .inl (.inl h1)
      · rw [never_iff] at h2; rw [h2.1] at h1; cases h1
      · exact .inl (.inl (never_laid (body_never h2 (laid_all a) h1)))
    · exact .inl (.inr h2)
    · rcases h1 with (h1 | h1) | h1
      · exact .inl (.inl h1)
      · right
        have e : laidT b = openT := by rw [laidT, h1]; rfl
        rw [e] at h2
        exact body_trans (y := openT) (by decide) hc (laid_formed ha) ih (open_body (laid_formed ha)) h2
      · cases hB : b.all
        · have e : laidT b = b := by rw [laidT, hB]; rfl
          rw [e] at h2
          exact .inr (body_trans hb hc (laid_formed ha) ih h1 h2)
        · right
          have e : laidT b = openT := by rw [laidT, hB]; rfl
          rw [e] at h2
          exact body_trans (y := openT) (by decide) hc (laid_formed ha) ih (open_body (laid_formed ha)) h2
/-! ### Apart goes both ways -/
theorem lowS_comm (a b : Str) : lowS a b = lowS b a := by
  unfold lowS
  by_cases h1 : a = []
  · by_cases h2 : b = []
    · rw [h1, h2]
    · simp [h1, h2]
  · by_cases h2 : b = []
    · simp [h1, h2]
    · have := zc_anti a b
      simp only [beq_eq_false_iff_ne.2 h1, beq_eq_false_iff_ne.2 h2, Bool.not_false, Bool.true_and, Bool.false_or, decide_eq_true_eq]
      split
      · rw [if_neg (by omega)]
      · split
        · rfl
        · exact zc_zero (by omega)
theorem uppS_comm (a b : Str) : uppS a b = uppS b a := by
  unfold uppS
  by_cases h1 : a = []
  · by_cases h2 : b = []
    · rw [h1, h2]
    · simp [h1, h2]
  · by_cases h2 : b = []
    · simp [h1, h2]
    · have := zc_anti a b
      simp only [beq_eq_false_iff_ne.2 h1, beq_eq_false_iff_ne.2 h2, Bool.not_false, Bool.true_and, Bool.false_or, decide_eq_true_eq]
      split
      · rw [if_neg (by omega)]
      · split
        · rfl
        · exact zc_zero (by omega)
theorem any_contains_comm (a b : List Str) : (a.any fun s => b.contains s) = (b.any fun s => a.contains s) := by
  rw [Bool.eq_iff_iff, List.any_eq_true, List.any_eq_true]
  constructor <;> (rintro ⟨s, h1, h2⟩; exact ⟨s, List.contains_iff_mem.1 h2, List.contains_iff_mem.2 h1⟩)
theorem all_all_comm {α β : Type} (a : List α) (b : List β) (p : α → β → Bool) : (a.all fun x => b.all fun y => p x y) = (b.all fun y => a.all fun x => p x y) := by
  rw [Bool.eq_iff_iff]
  simp only [List.all_eq_true]
  exact ⟨fun h y hy x hx => h x hx y hy, fun h x hx y hy => h y hy x hx⟩
theorem aptB_comm {F : Ty → Ty → Bool} (hF : ∀ a b, F a b = F b a) (x y : Ty) : aptB F x y = aptB F y x := by
  unfold aptB
  congr 1
  · congr 1
    · congr 1
      · congr 1
        · unfold aptW
          cases x.nul <;> cases y.nul <;> cases x.fls <;> cases y.fls <;> cases x.tru <;> cases y.tru <;> rfl
        · unfold aptI
          cases x.nums <;> cases y.nums <;> first | rfl | (simp only []; rw [lowS_comm, uppS_comm])
      · unfold aptX
        rw [any_contains_comm x.texts y.texts, Bool.or_comm x.anyText, Bool.and_comm x.anyText, Bool.and_assoc, Bool.and_assoc, Bool.and_comm (decide (x.texts.length = 0))]
    · unfold aptA
      cases x.arrays with
      | nil => cases y.arrays <;> rfl
      | cons p r =>
        cases y.arrays with
        | nil => rfl
        | cons q r' =>
          simp only [aptR]
          rw [hF p.item, Int.max_comm p.min, Bool.or_comm (decide (p.max ≥ 0) && _)]
  · unfold aptO
    rw [all_all_comm]
    congr 1
    funext b
    congr 1
    funext a
    rw [Bool.eq_iff_iff]
    constructor
    · intro h
      obtain ⟨s, m1, m2⟩ := aptU_inv h
      exact aptU_of m1.symm (by rw [hF]; exact m2)
    · intro h
      obtain ⟨s, m1, m2⟩ := aptU_inv h
      exact aptU_of m1.symm (by rw [hF]; exact m2)
theorem aptN_comm (n : Nat) : ∀ a b : Ty, aptN n a b = aptN n b a := by
  induction n with
  | zero => intro a b; rfl
  | succ n ih => intro a b; rw [aptN, aptN]; exact aptB_comm ih _ _
/-! ### What lies in what is apart is apart -/
theorem anyText_ok {t : Ty} (h : tformed t = true) (ha : t.anyText = true) : t.texts = [] := by
  rw [tformed_eq] at h
  simp only [Bool.and_eq_true, Bool.not_eq_true', Bool.or_eq_false_iff, Bool.and_eq_false_iff, decide_eq_false_iff_not] at h
  have := h.1.2.2
  rw [ha] at this
  rcases this with h | h
  · cases h
  · exact List.length_eq_zero_iff.1 (by omega)
theorem apt_mono {F G : Ty → Ty → Bool} {x y z : Ty} (hx : tformed x = true) (hy : tformed y = true) (hz : tformed z = true)
    (hF : ∀ a b c : Ty, tformed a = true → tformed b = true → tformed c = true → F b a = true → G b c = true → G a c = true) (h1 : bodyB F y x = true) (h2 : aptB G y z = true) : aptB G x z = true := by
  obtain ⟨p1, p2, p3⟩ := tformed_parts hx
  obtain ⟨q1, q2, q3⟩ := tformed_parts hy
  obtain ⟨r1, r2, r3⟩ := tformed_parts hz
  simp only [bodyB, aptB, Bool.and_eq_true] at *
  obtain ⟨⟨⟨⟨w1, n1⟩, t1⟩, a1⟩, o1⟩ := h1
  obtain ⟨⟨⟨⟨w2, n2⟩, t2⟩, a2⟩, o2⟩ := h2
  refine ⟨⟨⟨⟨?_, ?_⟩, ?_⟩, ?_⟩, ?_⟩
  · simp only [wordsB, aptW, Bool.and_eq_true, Bool.or_eq_true, Bool.not_eq_true'] at *
    obtain ⟨⟨u1, u2⟩, u3⟩ := w1
    obtain ⟨⟨v1, v2⟩, v3⟩ := w2
    refine ⟨⟨?_, ?_⟩, ?_⟩
    · rcases u1 with u | u
      · exact .inl u
      · rcases v1 with v | v
        · rw [u] at v; cases v
        · exact .inr v
    · rcases u2 with u | u
      · exact .inl u
      · rcases v2 with v | v
        · rw [u] at v; cases v
        · exact .inr v
    · rcases u3 with u | u
      · exact .inl u
      · rcases v3 with v | v
        · rw [u] at v; cases v
        · exact .inr v
  · rw [numsB] at n1
    rw [aptI] at *
    cases e1 : x.nums with
    | nil => rfl
    | cons s r =>
      rw [e1] at n1
      cases e2 : y.nums with
      | nil => rw [e2] at n1; cases n1
      | cons t r' =>
        rw [e2] at n1 n2
        cases e3 : z.nums with
        | nil => rfl
        | cons u r'' =>
          rw [e3] at n2
          simp only at n1 n2 ⊢
          have hs := spanOk_full (p1 s (by rw [e1]; simp))
          rw [span_iff] at n1
          rw [hollow_iff] at n2 ⊢
          obtain ⟨n1, n1'⟩ := n1.resolve_left (by rw [hs]; simp)
          obtain ⟨m1, m2, m3⟩ := n2
          simp only at m1 m2 m3 ⊢
          have k1 : lowS s.1 u.1 ≠ [] ∧ zcmp (lowS t.1 u.1) (lowS s.1 u.1) ≤ 0 := by
            rcases lowS_cases t.1 u.1 with e | e
            · rw [e] at m1 ⊢
              obtain ⟨n2, n3⟩ := n1.resolve_left m1
              obtain ⟨g1, g2⟩ := low_ge1 (b := u.1) n2
              exact ⟨g1, zc_trans n3 g2⟩
            · rw [e] at m1 ⊢
              exact low_ge2 m1
          have k2 : uppS s.2 u.2 ≠ [] ∧ zcmp (uppS s.2 u.2) (uppS t.2 u.2) ≤ 0 := by
            rcases uppS_cases t.2 u.2 with e | e
            · rw [e] at m2 ⊢
              obtain ⟨n2, n3⟩ := n1'.resolve_left m2
              obtain ⟨g1, g2⟩ := upp_le1 (b := u.2) n2
              exact ⟨g1, zc_trans g2 n3⟩
            · rw [e] at m2 ⊢
              exact upp_le2 m2
          refine ⟨k1.1, k2.1, ?_⟩
          apply Int.lt_of_not_ge
          intro hle
          have := zc_trans k1.2 (zc_trans hle k2.2)
          omega
  · have tx := fun h => anyText_ok hx h
    have ty := fun h => anyText_ok hy h
    have tz := fun h => anyText_ok hz h
    rw [textsB] at t1
    rw [aptX] at *
    cases hy' : y.anyText
    · rw [hy'] at t1 t2 ty
      cases hx' : x.anyText
      · rw [hx'] at t1
        simp only [Bool.or_self, Bool.false_eq_true, if_false, List.all_eq_true, Bool.false_or] at t1
        cases hz' : z.anyText
        · rw [hz'] at t2
          simp only [Bool.or_self, Bool.false_eq_true, if_false, Bool.not_eq_true', List.any_eq_false] at t2 ⊢
          intro s hs
          exact t2 s (List.contains_iff_mem.1 (t1 s hs))
        · rw [hz'] at t2
          simp only [Bool.or_true, if_true, Bool.false_and, Bool.not_false, Bool.true_and, Bool.and_eq_true, decide_eq_true_eq] at t2 ⊢
          refine ⟨?_, t2.2⟩
          have h0 := List.length_eq_zero_iff.1 t2.1
          cases e : x.texts with
          | nil => rfl
          | cons s r =>
            have := t1 s (by rw [e]; simp)
            rw [h0] at this
            cases this
      · rw [hx'] at t1; cases t1
    · rw [hy'] at t2
      simp only [Bool.true_or, if_true, Bool.true_and, Bool.and_eq_true, Bool.not_eq_true', decide_eq_true_eq] at t2
      obtain ⟨⟨t3, t4⟩, t5⟩ := t2
      rw [t3, List.length_eq_zero_iff.1 t5]
      cases hx' : x.anyText
      · simp
      · rw [tx hx']; rfl
  · rw [arrsB] at a1
    rw [aptA] at *
    cases e1 : x.arrays with
    | nil => rfl
    | cons p r =>
      rw [e1] at a1
      cases e2 : y.arrays with
      | nil => rw [e2] at a1; cases a1
      | cons q r' =>
        rw [e2] at a1 a2
        cases e3 : z.arrays with
        | nil => rfl
        | cons t r'' =>
          rw [e3] at a2
          simp only at a1 a2 ⊢
          have f1 := p2 p (by rw [e1]; simp)
          have f2 := q2 q (by rw [e2]; simp)
          have f3 := r2 t (by rw [e3]; simp)
          simp only [blwA, aptR, Bool.and_eq_true, Bool.or_eq_true, Bool.not_eq_true', Bool.or_eq_false_iff, Bool.and_eq_false_iff, decide_eq_true_eq, decide_eq_false_iff_not] at *
          obtain ⟨⟨u1, u2⟩, u3⟩ := a1
          rcases a2 with (a2 | a2) | a2
          · left; left; omega
          · left; right; omega
          · rcases u3 with u3 | u3
            · left; left; omega
            · right
              exact ⟨by omega, hF _ _ _ f1 f2 f3 u3 a2.2⟩
  · rw [objsB, List.all_eq_true] at o1
    rw [aptO, List.all_eq_true] at *
    intro oa ha
    rw [List.all_eq_true]
    intro oc hc
    obtain ⟨ob, hb, l1⟩ := List.any_eq_true.1 (o1 oa ha)
    have l2 := List.all_eq_true.1 (o2 ob hb) oc hc
    obtain ⟨s, m1, m2⟩ := aptU_inv l2
    obtain ⟨k1, k2⟩ := blwO_names l1 s
    have ka := tobj_ok hx oa ha
    have kb := tobj_ok hy ob hb
    have kc := tobj_ok hz oc hc
    refine aptU_of (s := s) ?_ (hF _ _ _ (ka.fld s) (kb.fld s) (kc.fld s) k2 m2)
    rcases m1 with m1 | m1
    · exact .inl (k1 m1)
    · exact .inr m1
theorem aptN_mono (n : Nat) : ∀ a b c : Ty, tformed a = true → tformed b = true → tformed c = true → blwN n b a = true → aptN n b c = true → aptN n a c = true := by
  induction n with
  | zero => intro a b c _ _ _ _ h; cases h
  | succ n ih =>
    intro a b c ha hb hc h1 h2
    rw [blwN, Bool.or_eq_true, Bool.or_eq_true] at h1
    rcases h1 with (h1 | h1) | h1
    · exact aptN_never n h1 c hc
    · have e : laidT b = openT := by rw [laidT, h1]; rfl
      rw [aptN, e] at h2
      rw [aptN]
      exact apt_mono (y := openT) (laid_formed ha) (by decide) (laid_formed hc) ih (open_body (laid_formed ha)) h2
    · cases hB : b.all
      · have e : laidT b = b := by rw [laidT, hB]; rfl
        rw [aptN, e] at h2
        rw [aptN]
        exact apt_mono (laid_formed ha) hb (laid_formed hc) ih h1 h2
      · have e : laidT b = openT := by rw [laidT, hB]; rfl
        rw [aptN, e] at h2
        rw [aptN]
        exact apt_mono (y := openT) (laid_formed ha) (by decide) (laid_formed hc) ih (open_body (laid_formed ha)) h2
end Hm

/- The law of Below and Apart in a row. NORMX NORMY Conditions: see each theorem. -/
namespace Hm
open Go (IntKind)
set_option maxHeartbeats 40000000
set_option maxRecDepth 4000
section
variable {T : Tab}
theorem single_ret (h : Fn T F.hallmarkref12_Single hallmarkref12_Single.fn) : ∀ t : Ty, t.bk ≤ 1073741824 → ∃ c : Bool, True ∧ Ret T F.hallmarkref12_Single [.val t.av] (one (.bool c)) := by
  intro t
  induction t using Ty.ind with
  | h t ih =>
  intro hb
  have hbk := Ty.bk_eq t
  have l3 := len_arBks t.arrays
  have l4 := len_obBks t.objects
  have e3 : (t.arrays.map Ar.row).length = t.arrays.length := List.length_map ..
  have e4 : (t.objects.map Ob.row).length = t.objects.length := List.length_map ..
  refine Ret.ex1 (g := AV.bool) (R := fun _ => True) h rfl ?_
  rw [Ty.av_eq]
  repeat' (first | refine zA ?_ | refine zB ?_ | (refine zC ?_ ?_ <;> intro hc; all_goals first | (cases hc; done) | ((try simp only [hc]); (try simp only [bm] at hc))) | refine zE ?_ | refine zNV ?_ | fail)
  · exact ⟨_, trivial, Qend.boo rfl rfl rfl⟩
  · refine W.listP t.arrays (fun i (_ : Unit) s => s.put 3 (.av (.int .i64 (i : Int)))) (fun _ _ => True) () trivial rfl ?_ ?_
    · intro i x u hx hi _
      have hm := List.mem_of_getElem? hx
      have q1 := arBk_mem hm
      have q2 := Ar.bk_eq x
      obtain ⟨c, -, r⟩ := ih x.item (by omega) (by omega)
      rw [Ty.av_eq] at r
      repeat' (first | refine zA ?_ | refine WQ.cl h.modes ?_ | refine W1.cl h.modes (r) ?_ | refine zB ?_ | (refine zC ?_ ?_ <;> intro hc; all_goals first | (cases hc; done) | ((try simp only [hc]); (try simp only [bm] at hc))) | refine zE ?_ | refine zNV ?_ | fail)
      all_goals first
        | exact ⟨(), trivial, rfl⟩
        | exact ⟨_, trivial, Qend.boo rfl rfl rfl⟩
        | trace_state
    · intro u _
      repeat' (first | refine zA ?_ | refine zB ?_ | (refine zC ?_ ?_ <;> intro hc; all_goals first | (cases hc; done) | ((try simp only [hc]); (try simp only [bm] at hc))) | refine zE ?_ | refine zNV ?_ | fail)
      refine W.listP t.objects (fun i (_ : Unit) s => s.put 4 (.av (.int .i64 (i : Int)))) (fun _ _ => True) () trivial rfl ?_ ?_
      · intro i x u hx hi _
        have hm := List.mem_of_getElem? hx
        have q1 := obBk_mem hm
        have q2 := Ob.bk_eq x
        have q3 := len_tyBks x.fields
        have e5 : (x.fields.map Ty.row).length = x.fields.length := List.length_map ..
        obtain ⟨c, -, r⟩ := ih x.rest (by omega) (by omega)
        rw [Ty.av_eq] at r
        repeat' (first | refine zA ?_ | refine WQ.cl h.modes ?_ | refine W1.cl h.modes (r) ?_ | refine zB ?_ | (refine zC ?_ ?_ <;> intro hc; all_goals first | (cases hc; done) | ((try simp only [hc]); (try simp only [bm] at hc))) | refine zE ?_ | refine zNV ?_ | fail)
        · exact ⟨_, trivial, Qend.boo rfl rfl rfl⟩
        · refine W.listP x.fields (fun j (_ : Unit) s => s.put 5 (.av (.int .i64 (j : Int)))) (fun _ _ => True) () trivial rfl ?_ ?_
          · intro j y v hy hj _
            have hm2 := List.mem_of_getElem? hy
            have q4 := tyBk_mem hm2
            obtain ⟨d, -, r'⟩ := ih y (by omega) (by omega)
            rw [Ty.av_eq] at r'
            clear r
            repeat' (first | refine zA ?_ | refine WQ.cl h.modes ?_ | refine W1.cl h.modes (r') ?_ | refine zB ?_ | (refine zC ?_ ?_ <;> intro hc; all_goals first | (cases hc; done) | ((try simp only [hc]); (try simp only [bm] at hc))) | refine zE ?_ | refine zNV ?_ | fail)
            all_goals first
              | exact ⟨(), trivial, rfl⟩
              | exact ⟨_, trivial, Qend.boo rfl rfl rfl⟩
              | trace_state
          · intro v _
            clear r
            repeat' (first | refine zA ?_ | refine zB ?_ | (refine zC ?_ ?_ <;> intro hc; all_goals first | (cases hc; done) | ((try simp only [hc]); (try simp only [bm] at hc))) | refine zE ?_ | refine zNV ?_ | fail)
            all_goals first
              | exact ⟨(), trivial, rfl⟩
              | trace_state
      · intro u _
        repeat' (first | refine zA ?_ | refine zB ?_ | (refine zC ?_ ?_ <;> intro hc; all_goals first | (cases hc; done) | ((try simp only [hc]); (try simp only [bm] at hc))) | refine zE ?_ | refine zNV ?_ | fail)
        exact ⟨_, trivial, Qend.boo rfl rfl rfl⟩
theorem Ty.cells (t : Ty) : ∃ x1 x2 x3 x4 x5 x6 x7 x8 x9 : AV, t.av = .agg [x1, x2, x3, x4, x5, x6, x7, x8, x9] := ⟨_, _, _, _, _, _, _, _, _, Ty.av_eq t⟩
theorem BelowRow_ret (h : Fn T F.hallmarklaw12_BelowRow hallmarklaw12_BelowRow.fn) (hl : Fn T F.hallmarklaw12_lives hallmarklaw12_lives.fn) (rl : Ret T F.hallmarklaw12_lives [] (one (.bool true)))
    (f : TfFns T) (p : ApFns T) (s1 : Fn T F.hallmarkref12_Single hallmarkref12_Single.fn) (a b c : Ty) (ha : a.bk ≤ 10000000) (hb : b.bk ≤ 10000000) (hc : c.bk ≤ 10000000) : Ret T F.hallmarklaw12_BelowRow [.val a.av, .val b.av, .val c.av] (one (.bool true)) := by
  obtain ⟨ca, hca, r1⟩ := formed12_ret f a (by omega)
  obtain ⟨cb, hcb, r2⟩ := formed12_ret f b (by omega)
  obtain ⟨cc, hcc, r3⟩ := formed12_ret f c (by omega)
  obtain ⟨sb, -, r4⟩ := single_ret s1 b (by omega)
  obtain ⟨sc, -, r5⟩ := single_ret s1 c (by omega)
  by_cases hgood : ca = true ∧ cb = true ∧ cc = true
  · obtain ⟨g1, g2, g3⟩ := hgood
    have fa := hca g1
    have fb := hcb g2
    have fc := hcc g3
    subst g1 g2 g3
    have q1 := below_ret p.b 100000000 a a (by omega) (by omega) fa fa (by omega)
    have q2 := apart_ret p 100000000 a a (by omega) (by omega) fa fa (by omega)
    have q3 := refNever_ret f.a3 f.a4 a
    have q4 := below_ret p.b 100000000 a b (by omega) (by omega) fa fb (by omega)
    have q5 := below_ret p.b 100000000 b c (by omega) (by omega) fb fc (by omega)
    have q6 := below_ret p.b 100000000 a c (by omega) (by omega) fa fc (by omega)
    have q7 := apart_ret p 100000000 b c (by omega) (by omega) fb fc (by omega)
    have q8 := apart_ret p 100000000 c b (by omega) (by omega) fc fb (by omega)
    have q9 := apart_ret p 100000000 a c (by omega) (by omega) fa fc (by omega)
    have k1 : blwN 100000000 a a = true := blwN_refl _ a (by omega)
    have k2 : aptN 100000000 a a = never a := by
      cases hN : never a
      · cases hP : aptN 100000000 a a
        · rfl
        · have := aptN_self _ a fa hP
          rw [hN] at this; cases this
      · exact aptN_never 99999999 hN a fa
    have k3 := blwN_trans 100000000 a b c fa fb fc
    have k4 := aptN_comm 100000000 b c
    have k5 := aptN_mono 100000000 a b c fa fb fc
    rw [k1] at q1
    rw [k2] at q2
    rw [← k4] at q8
    clear hca hcb hcc fa fb fc k1 k2 k4
    generalize never a = na at *
    generalize blwN 100000000 b a = ab at *
    generalize blwN 100000000 c b = bc at *
    generalize blwN 100000000 c a = ac at *
    generalize aptN 100000000 b c = x at *
    generalize aptN 100000000 a c = y at *
    obtain ⟨a1, a2, a3, a4, a5, a6, a7, a8, a9, ea⟩ := Ty.cells a
    obtain ⟨b1, b2, b3, b4, b5, b6, b7, b8, b9, eb⟩ := Ty.cells b
    obtain ⟨c1, c2, c3, c4, c5, c6, c7, c8, c9, ec⟩ := Ty.cells c
    rw [ea] at r1 q1 q2 q3 q4 q6 q9 ⊢
    rw [eb] at r2 r4 q4 q5 q7 q8 ⊢
    rw [ec] at r3 r5 q5 q6 q7 q8 q9 ⊢
    clear ea eb ec
    refine Ret.mk h rfl ?_
    repeat' (first | refine zA ?_ | (refine WQ.cl p.b.a1.modes ?_) | (refine WQ.cl p.a1.modes ?_) | (refine WQ.cl f.a3.modes ?_) | refine WQ.cl hl.modes ?_ | refine W1.cl hl.modes (rl) ?_ | refine WQ.cl f.d0.modes ?_ | refine W1.cl f.d0.modes (r1) ?_ | refine WQ.cl f.d0.modes ?_ | refine W1.cl f.d0.modes (r2) ?_ | refine WQ.cl f.d0.modes ?_ | refine W1.cl f.d0.modes (r3) ?_ | refine WQ.cl s1.modes ?_ | refine W1.cl s1.modes (r4) ?_ | refine WQ.cl s1.modes ?_ | refine W1.cl s1.modes (r5) ?_ | refine WQ.cl p.b.a1.modes ?_ | refine W1.cl p.b.a1.modes (q1) ?_ | refine WQ.cl p.a1.modes ?_ | refine W1.cl p.a1.modes (q2) ?_ | refine WQ.cl f.a3.modes ?_ | refine W1.cl f.a3.modes (q3) ?_ | refine WQ.cl p.b.a1.modes ?_ | refine W1.cl p.b.a1.modes (q4) ?_ | refine WQ.cl p.b.a1.modes ?_ | refine W1.cl p.b.a1.modes (q5) ?_ | refine WQ.cl p.b.a1.modes ?_ | refine W1.cl p.b.a1.modes (q6) ?_ | refine WQ.cl p.a1.modes ?_ | refine W1.cl p.a1.modes (q7) ?_ | refine WQ.cl p.a1.modes ?_ | refine W1.cl p.a1.modes (q8) ?_ | refine WQ.cl p.a1.modes ?_ | refine W1.cl p.a1.modes (q9) ?_ | refine zB ?_ | (refine zC ?_ ?_ <;> intro hc; all_goals first | (cases hc; done) | ((try simp only [hc]); (try simp only [bm] at hc))) | refine zE ?_ | refine zNV ?_ | fail)
    all_goals clear r1 r2 r3 r4 r5 rl q1 q2 q3 q4 q5 q6 q7 q8 q9
    all_goals first | exact Qend.boo rfl rfl rfl | (refine Qend.boo rfl rfl ?_; simp_all; done) | (exfalso; simp_all; done) | trace_state
  · have hbad : ca = true → cb = true → cc = false := fun x1 x2 => by
      cases hp : cc
      · rfl
      · exact absurd ⟨x1, x2, hp⟩ hgood
    clear hgood hca hcb hcc
    refine Ret.mk h rfl ?_
    rw [Ty.av_eq, Ty.av_eq, Ty.av_eq] at *
    repeat' (first | refine zA ?_ | refine WQ.cl hl.modes ?_ | refine W1.cl hl.modes (rl) ?_ | refine WQ.cl f.d0.modes ?_ | refine W1.cl f.d0.modes (r1) ?_ | refine WQ.cl f.d0.modes ?_ | refine W1.cl f.d0.modes (r2) ?_ | refine WQ.cl f.d0.modes ?_ | refine W1.cl f.d0.modes (r3) ?_ | refine zB ?_ | (refine zC ?_ ?_ <;> intro hc; all_goals first | (cases hc; done) | ((try simp only [hc]); (try simp only [bm] at hc))) | refine zE ?_ | refine zNV ?_ | fail)
    all_goals clear r1 r2 r3 r4 r5 rl
    all_goals first | exact Qend.boo rfl rfl rfl | (exfalso; simp_all; done) | trace_state
end
end Hm
