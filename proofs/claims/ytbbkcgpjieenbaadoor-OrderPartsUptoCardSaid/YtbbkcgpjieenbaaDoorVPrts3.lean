/- What the law answers on the abstract machine. Conditions: see each theorem. -/
import Derived.Test.YtbbkcgpjieenbaaDoorVPrts1
set_option linter.unusedVariables false
set_option linter.unusedSimpArgs false
/- Texts eight bytes at once. Conditions: see each theorem. -/
namespace Hm
open Go (IntKind)
set_option maxHeartbeats 4000000
set_option maxRecDepth 4000
def H64 : BitVec 64 := BitVec.ofInt 64 9259542123273814144
theorem wrapU {n : Int} (h1 : 0 ≤ n) (h2 : n < 18446744073709551616) : IntKind.wrap .u64 n = n := by
  have e : n % (2 ^ 64 : Int) = n := Int.emod_eq_of_lt h1 (by omega)
  simp only [IntKind.wrap, IntKind.bits, IntKind.signed, Bool.false_and, Bool.false_eq_true, if_false]
  exact e
theorem ofInt_nat (x : BitVec 64) : BitVec.ofInt 64 (IntKind.wrap .u64 (x.toNat : Int)) = x := by
  rw [wrapU (by omega) (by have := x.isLt; omega)]
  simp
def P8 (s : Str) (r : Int) : Prop := BitVec.ofInt 64 r &&& H64 = 0#64 → ∀ i, i < 8 → (bAt s i).toNat < 128
theorem or_hi {x y h : BitVec 64} (e : (x ||| y) &&& h = 0#64) : x &&& h = 0#64 ∧ y &&& h = 0#64 := by
  have key : ∀ i, i < 64 → ((x ||| y) &&& h).getLsbD i = false := fun i _ => by rw [e]; simp
  constructor
  · apply BitVec.eq_of_getLsbD_eq
    intro i hi
    have := key i hi
    simp only [BitVec.getLsbD_and, BitVec.getLsbD_or, BitVec.getLsbD_zero] at this ⊢
    cases h1 : x.getLsbD i <;> cases h2 : y.getLsbD i <;> cases h3 : h.getLsbD i <;> simp_all
  · apply BitVec.eq_of_getLsbD_eq
    intro i hi
    have := key i hi
    simp only [BitVec.getLsbD_and, BitVec.getLsbD_or, BitVec.getLsbD_zero] at this ⊢
    cases h1 : x.getLsbD i <;> cases h2 : y.getLsbD i <;> cases h3 : h.getLsbD i <;> simp_all
theorem byte_tab : ∀ k, k < 8 → ∀ n, n < 256 → (BitVec.ofNat 64 (n * 2 ^ (8 * k)) &&& H64 = 0#64) → n < 128 := by decide +kernel
theorem byte_of {c : UInt8} (k : Nat) (hk : k < 8) (h : BitVec.ofInt 64 (IntKind.wrap .u64 (IntKind.wrap .u64 (c.toNat : Int) * 2 ^ (8 * k))) &&& H64 = 0#64) : c.toNat < 128 := by
  have hc : c.toNat < 256 := c.toNat_lt
  have hp : 2 ^ (8 * k) ≤ 2 ^ 56 := Nat.pow_le_pow_right (by omega) (by omega)
  have hm : c.toNat * 2 ^ (8 * k) < 18446744073709551616 := Nat.lt_of_lt_of_le (Nat.mul_lt_mul_of_lt_of_le hc hp (by omega)) (by decide)
  have e1 : IntKind.wrap .u64 (c.toNat : Int) = c.toNat := wrapU (by omega) (by omega)
  have e2 : ((c.toNat : Int) * 2 ^ (8 * k)) = ((c.toNat * 2 ^ (8 * k) : Nat) : Int) := by push_cast; rfl
  rw [e1, e2, wrapU (by omega) (by omega), BitVec.ofInt_natCast] at h
  exact byte_tab k hk c.toNat hc h
def orW (a b : Int) : Int := IntKind.wrap .u64 ((BitVec.ofInt 64 a ||| BitVec.ofInt 64 b).toNat : Int)
def shW (s : Str) (i : Nat) : Int := IntKind.wrap .u64 (IntKind.wrap .u64 ((bAt s i).toNat : Int) * 2 ^ (8 * i))
def wordW (s : Str) : Int := orW (orW (orW (orW (orW (orW (orW (IntKind.wrap .u64 ((bAt s 0).toNat : Int)) (shW s 1)) (shW s 2)) (shW s 3)) (shW s 4)) (shW s 5)) (shW s 6)) (shW s 7)
theorem ofInt_orW (a b : Int) : BitVec.ofInt 64 (orW a b) = BitVec.ofInt 64 a ||| BitVec.ofInt 64 b := ofInt_nat _
theorem P8_word (s : Str) : P8 s (wordW s) := by
  intro h0
  simp only [wordW, ofInt_orW] at h0
  obtain ⟨h0, h7⟩ := or_hi h0
  obtain ⟨h0, h6⟩ := or_hi h0
  obtain ⟨h0, h5⟩ := or_hi h0
  obtain ⟨h0, h4⟩ := or_hi h0
  obtain ⟨h0, h3⟩ := or_hi h0
  obtain ⟨h0, h2⟩ := or_hi h0
  obtain ⟨h0, h1⟩ := or_hi h0
  have hb : (bAt s 0).toNat < 256 := (bAt s 0).toNat_lt
  have q0 : (bAt s 0).toNat < 128 := by
    refine byte_of 0 (by decide) ?_
    rw [show (2 : Int) ^ (8 * 0) = 1 from rfl, Int.mul_one, wrapU (n := IntKind.wrap .u64 ((bAt s 0).toNat : Int)) (by rw [wrapU (by omega) (by omega)]; omega) (by rw [wrapU (by omega) (by omega)]; omega)]
    exact h0
  intro i hi
  have hcase : i = 0 ∨ i = 1 ∨ i = 2 ∨ i = 3 ∨ i = 4 ∨ i = 5 ∨ i = 6 ∨ i = 7 := by omega
  rcases hcase with rfl | rfl | rfl | rfl | rfl | rfl | rfl | rfl
  · exact q0
  · exact byte_of 1 (by decide) h1
  · exact byte_of 2 (by decide) h2
  · exact byte_of 3 (by decide) h3
  · exact byte_of 4 (by decide) h4
  · exact byte_of 5 (by decide) h5
  · exact byte_of 6 (by decide) h6
  · exact byte_of 7 (by decide) h7
theorem word_ret {T : Tab} (h : Fn T F.unicode_utf8_word_string unicode_utf8_word_string.fn) (s : Str) (hl : 8 ≤ s.length) : Ret T F.unicode_utf8_word_string [.val (.str s)] (one (.int .u64 (wordW s))) := by
  refine Ret.mk h rfl ?_
  repeat' (first | refine zA ?_ | refine zB ?_ | (refine zC ?_ ?_ <;> intro hc; all_goals first | (cases hc; done) | ((try simp only [hc]); (try simp only [bm] at hc))) | refine zE ?_ | refine zN ?_ | fail)
  exact ⟨.inr rfl, rfl, rfl⟩
theorem utfF_more : ∀ (f : Nat) (s : Str), s.length ≤ f → utfF (f + 1) s = utfF f s
  | 0, s, h => by
    have : s = [] := List.eq_nil_of_length_eq_zero (by omega)
    subst this; rfl
  | f + 1, s, h => by
    show (s.isEmpty || (!(wd s == 0) && utfF (f + 1) (s.drop (wd s)))) = (s.isEmpty || (!(wd s == 0) && utfF f (s.drop (wd s))))
    by_cases hw : wd s = 0
    · simp [hw]
    · rw [utfF_more f (s.drop (wd s)) (by simp; omega)]
theorem utf_of : ∀ (f : Nat) (s : Str), s.length ≤ f → utfF f s = utf s := by
  intro f
  induction f with
  | zero =>
    intro s h
    have : s = [] := List.eq_nil_of_length_eq_zero (by omega)
    subst this; rfl
  | succ f ih =>
    intro s h
    by_cases he : s.length = f + 1
    · rw [utf, he]
    · rw [utfF_more f s (by omega), ih s (by omega)]
theorem utf_nil : utf [] = true := rfl
theorem utf_cons {s : Str} (h : s ≠ []) : utf s = (!(wd s == 0) && utf (s.drop (wd s))) := by
  cases s with
  | nil => exact absurd rfl h
  | cons c r =>
    rw [utf, List.length_cons, utfF]
    simp only [List.isEmpty_cons, Bool.false_or]
    by_cases hw : wd (c :: r) = 0
    · simp [hw]
    · rw [utf_of _ _ (by simp; omega)]
theorem utf_one {s : Str} (h : 0 < s.length) (hc : (bAt s 0).toNat < 128) : utf (s.drop 1) = utf s := by
  cases s with
  | nil => simp at h
  | cons c r =>
    have hw : wd (c :: r) = 1 := by
      simp only [bAt, List.getD_cons_zero] at hc
      simp only [wd]
      rw [if_pos (by omega)]
    have e := utf_cons (s := c :: r) (by simp)
    rw [hw] at e
    rw [e]; simp
theorem utf_asc : ∀ (k : Nat) (s : Str), k ≤ s.length → (∀ i, i < k → (bAt s i).toNat < 128) → utf (s.drop k) = utf s
  | 0, s, _, _ => by simp
  | k + 1, s, hk, h => by
    rw [← utf_one (s := s) (by omega) (h 0 (by omega)), ← utf_asc k (s.drop 1) (by simp; omega) (fun i hi => by rw [bAt_drop]; exact h (1 + i) (by omega)), List.drop_drop, Nat.add_comm]
end Hm

/- What begins an encoding. Conditions: see each theorem. -/
namespace Hm
open Go (IntKind)
set_option maxHeartbeats 4000000
set_option maxRecDepth 4000
theorem W1.slcD {T : Tab} {st : St} {K : St → Prop} {dst : Option Nat} {g : Option (Nat × Bool)} {k : Nat} {x : Opd} {lo : Option Opd} {s : Str} {l : Nat} (hg : wanted st g = some true) (hx : st.opd x = .av (.str s)) (hl : st.bnd 0 lo = some l) (hc : l ≤ s.length)
    (hk : K (putD dst (.av (.str (s.drop l))) st)) : W1 T ⟨dst, .slc true k x lo none, g⟩ st K :=
  W1.slcS hg hx hl rfl ⟨hc, Nat.le_refl _⟩ (by rw [List.take_length]; exact hk)
theorem W1.slcN (n : Nat) {T : Tab} {st : St} {K : St → Prop} {dst : Option Nat} {g : Option (Nat × Bool)} {k : Nat} {x : Opd} {s : Str} (hg : wanted st g = some true) (hx : st.opd x = .av (.str s)) (hc : n ≤ s.length)
    (hk : K (putD dst (.av (.str (s.drop n))) st)) : W1 T ⟨dst, .slc true k x (some (.v (.int .i64 (n : Int)))) none, g⟩ st K := by
  refine W1.slcD hg hx (l := n) ?_ hc hk
  show idx (.int .i64 (n : Int)) = some n
  simp only [idx, if_pos (Int.natCast_nonneg n), Int.toNat_natCast]
theorem W1.tabA {T : Tab} {st : St} {K : St → Prop} {dst : Option Nat} {g : Option (Nat × Bool)} {n k : Nat} {x i : Opd} {ik : IntKind} {c : Int} {cs r : List AV} (hg : wanted st g = some true) (hi : st.opd i = .av (.int ik c)) (hx : st.opd x = .av (.vptr cs))
    (hr : cs.drop (c.toNat * k) = r) (h0 : 0 ≤ c) (hn : c.toNat < n) (hl : c.toNat * k ≤ cs.length) (hk : K (putD dst (.av (.vptr r)) st)) : W1 T ⟨dst, .iadrA n k x i, g⟩ st K := by
  refine W1.go hg (WS.op (v := .av (.vptr r)) (st' := st) rfl ?_ hk)
  simp only [stepOp, hi, idx, if_pos h0, if_neg (Nat.not_le.2 hn), hx, if_pos hl, hr]
theorem W1.load1 {T : Tab} {st : St} {K : St → Prop} {dst : Option Nat} {g : Option (Nat × Bool)} {a : Opd} {v : AV} {rest : List AV} (hg : wanted st g = some true) (hx : st.opd a = .av (.vptr (v :: rest))) (hk : K (putD dst (.av v) st)) : W1 T ⟨dst, .load 1 false a, g⟩ st K := by
  refine W1.go hg (WS.op (v := .av v) (st' := st) rfl ?_ hk)
  simp only [stepOp, hx, List.length_cons, if_pos (show 1 ≤ rest.length + 1 by omega)]
  rfl
def firB (n : Nat) : Bool := decide (n < 128) || ((firZ[n]? == some 2 && decide (194 ≤ n) && decide (n ≤ 223)) || ((firZ[n]? == some 19 && n == 224) || ((firZ[n]? == some 3 && decide (225 ≤ n) && decide (n ≤ 239) && n != 237) || ((firZ[n]? == some 35 && n == 237) ||
  ((firZ[n]? == some 52 && n == 240) || ((firZ[n]? == some 4 && decide (241 ≤ n) && decide (n ≤ 243)) || ((firZ[n]? == some 68 && n == 244) || (firZ[n]? == some 241 && (decide (n < 194) || decide (244 < n))))))))))
theorem firB_all : ((List.range 256).all firB) = true := by decide +kernel
theorem fir_cases (n : Nat) (hn : n < 256) (h1 : 128 ≤ n) : (firZ[n]? = some 2 ∧ 194 ≤ n ∧ n ≤ 223) ∨ (firZ[n]? = some 19 ∧ n = 224) ∨ (firZ[n]? = some 3 ∧ 225 ≤ n ∧ n ≤ 239 ∧ n ≠ 237) ∨ (firZ[n]? = some 35 ∧ n = 237) ∨
    (firZ[n]? = some 52 ∧ n = 240) ∨ (firZ[n]? = some 4 ∧ 241 ≤ n ∧ n ≤ 243) ∨ (firZ[n]? = some 68 ∧ n = 244) ∨ (firZ[n]? = some 241 ∧ (n < 194 ∨ 244 < n)) := by
  have h := List.all_eq_true.1 firB_all n (List.mem_range.2 hn)
  simp only [firB, Bool.or_eq_true, Bool.and_eq_true, decide_eq_true_eq, beq_iff_eq, bne_iff_ne, ne_eq, and_assoc] at h
  rcases h with h | h
  · omega
  · exact h
theorem fir_drop {n : Nat} {x : Int} (h : firZ[n]? = some x) : ∃ rest, (zavs firZ).drop n = .int .u8 x :: rest := by
  have hz : (zavs firZ)[n]? = some (.int .u8 x) := by simp [zavs, h]
  obtain ⟨h1, h2⟩ := List.getElem?_eq_some_iff.1 hz
  exact ⟨_, by rw [List.drop_eq_getElem_cons h1, h2]⟩
theorem fir_len : (zavs firZ).length = 256 := by decide +kernel
theorem bAt_succ (c : UInt8) (r : Str) (i : Nat) : bAt (c :: r) (i + 1) = bAt r i := by simp [bAt, List.getD]
theorem tr1 (r : Str) (lo hi : Int) (h1 : 128 ≤ lo) (h2 : hi ≤ 191) : (tr r 1 lo hi = true) ↔ (1 ≤ r.length ∧ lo ≤ (bAt r 0).toNat ∧ ((bAt r 0).toNat : Int) ≤ hi) := by
  cases r with
  | nil => simp [tr]
  | cons d r =>
    have e : bAt (d :: r) 0 = d := rfl
    simp only [tr, cont, e, List.length_cons, List.take_succ_cons, List.take_zero, List.all_cons, List.all_nil, Bool.and_true, Bool.and_eq_true, decide_eq_true_eq, ge_iff_le]
    omega
theorem tr2 (r : Str) (lo hi : Int) (h1 : 128 ≤ lo) (h2 : hi ≤ 191) : (tr r 2 lo hi = true) ↔ (2 ≤ r.length ∧ (lo ≤ (bAt r 0).toNat ∧ ((bAt r 0).toNat : Int) ≤ hi) ∧ (128 ≤ (bAt r 1).toNat ∧ (bAt r 1).toNat ≤ 191)) := by
  match r with
  | [] => simp [tr]
  | [d] => simp [tr]
  | d :: e :: r =>
    have e0 : bAt (d :: e :: r) 0 = d := rfl
    have e1 : bAt (d :: e :: r) 1 = e := rfl
    simp only [tr, cont, e0, e1, List.length_cons, List.take_succ_cons, List.take_zero, List.all_cons, List.all_nil, Bool.and_true, Bool.and_eq_true, decide_eq_true_eq, ge_iff_le]
    omega
theorem tr3 (r : Str) (lo hi : Int) (h1 : 128 ≤ lo) (h2 : hi ≤ 191) : (tr r 3 lo hi = true) ↔ (3 ≤ r.length ∧ (lo ≤ (bAt r 0).toNat ∧ ((bAt r 0).toNat : Int) ≤ hi) ∧ (128 ≤ (bAt r 1).toNat ∧ (bAt r 1).toNat ≤ 191) ∧ (128 ≤ (bAt r 2).toNat ∧ (bAt r 2).toNat ≤ 191)) := by
  match r with
  | [] => simp [tr]
  | [d] => simp [tr]
  | [d, e] => simp [tr]
  | d :: e :: f :: r =>
    have e0 : bAt (d :: e :: f :: r) 0 = d := rfl
    have e1 : bAt (d :: e :: f :: r) 1 = e := rfl
    have e2 : bAt (d :: e :: f :: r) 2 = f := rfl
    simp only [tr, cont, e0, e1, e2, List.length_cons, List.take_succ_cons, List.take_zero, List.all_cons, List.all_nil, Bool.and_true, Bool.and_eq_true, decide_eq_true_eq, ge_iff_le]
    omega
/-- The length of what begins with c, if at most the bytes behind it are as they must be. -/
theorem wd_two {t : Str} (h1 : 194 ≤ (bAt t 0).toNat) (h2 : (bAt t 0).toNat ≤ 223) : wd t = if 2 ≤ t.length ∧ 128 ≤ (bAt t 1).toNat ∧ (bAt t 1).toNat ≤ 191 then 2 else 0 := by
  cases t with
  | nil => simp [bAt] at h1
  | cons c r =>
    have e0 : bAt (c :: r) 0 = c := rfl
    rw [e0] at h1 h2
    rw [bAt_succ]
    simp only [wd, tr1 r 128 191 (by omega) (by omega), List.length_cons]
    rw [if_neg (by omega)]
    by_cases h : 1 ≤ r.length ∧ 128 ≤ (bAt r 0).toNat ∧ (bAt r 0).toNat ≤ 191
    · rw [if_pos (by omega), if_pos (by omega)]
    · rw [if_neg (by omega), if_neg (by omega), if_neg (by omega), if_neg (by omega)]
theorem wd_three {t : Str} (lo hi : Nat) (h1 : 224 ≤ (bAt t 0).toNat) (h2 : (bAt t 0).toNat ≤ 239) (hlo : lo = if (bAt t 0).toNat = 224 then 160 else 128) (hhi : hi = if (bAt t 0).toNat = 237 then 159 else 191) :
    wd t = if 3 ≤ t.length ∧ (lo ≤ (bAt t 1).toNat ∧ (bAt t 1).toNat ≤ hi) ∧ 128 ≤ (bAt t 2).toNat ∧ (bAt t 2).toNat ≤ 191 then 3 else 0 := by
  cases t with
  | nil => simp [bAt] at h1
  | cons c r =>
    have e0 : bAt (c :: r) 0 = c := rfl
    rw [e0] at h1 h2 hlo hhi
    rw [bAt_succ, bAt_succ]
    have el : (if (c.toNat : Int) = 224 then (160 : Int) else 128) = (lo : Int) := by rw [hlo]; split <;> split <;> omega
    have eh : (if (c.toNat : Int) = 237 then (159 : Int) else 191) = (hi : Int) := by rw [hhi]; split <;> split <;> omega
    have l1 : 128 ≤ lo := by rw [hlo]; split <;> omega
    have l2 : hi ≤ 191 := by rw [hhi]; split <;> omega
    simp only [wd, el, eh, tr2 r lo hi (by omega) (by omega), List.length_cons]
    rw [if_neg (by omega), if_neg (by omega)]
    by_cases h : 2 ≤ r.length ∧ (lo ≤ (bAt r 0).toNat ∧ (bAt r 0).toNat ≤ hi) ∧ 128 ≤ (bAt r 1).toNat ∧ (bAt r 1).toNat ≤ 191
    · rw [if_pos (by omega), if_pos (by omega)]
    · rw [if_neg (by omega), if_neg (by omega), if_neg (by omega)]
theorem wd_four {t : Str} (lo hi : Nat) (h1 : 240 ≤ (bAt t 0).toNat) (h2 : (bAt t 0).toNat ≤ 244) (hlo : lo = if (bAt t 0).toNat = 240 then 144 else 128) (hhi : hi = if (bAt t 0).toNat = 244 then 143 else 191) :
    wd t = if 4 ≤ t.length ∧ (lo ≤ (bAt t 1).toNat ∧ (bAt t 1).toNat ≤ hi) ∧ (128 ≤ (bAt t 2).toNat ∧ (bAt t 2).toNat ≤ 191) ∧ 128 ≤ (bAt t 3).toNat ∧ (bAt t 3).toNat ≤ 191 then 4 else 0 := by
  cases t with
  | nil => simp [bAt] at h1
  | cons c r =>
    have e0 : bAt (c :: r) 0 = c := rfl
    rw [e0] at h1 h2 hlo hhi
    rw [bAt_succ, bAt_succ, bAt_succ]
    have el : (if (c.toNat : Int) = 240 then (144 : Int) else 128) = (lo : Int) := by rw [hlo]; split <;> split <;> omega
    have eh : (if (c.toNat : Int) = 244 then (143 : Int) else 191) = (hi : Int) := by rw [hhi]; split <;> split <;> omega
    have l1 : 128 ≤ lo := by rw [hlo]; split <;> omega
    have l2 : hi ≤ 191 := by rw [hhi]; split <;> omega
    simp only [wd, el, eh, tr3 r lo hi (by omega) (by omega), List.length_cons]
    rw [if_neg (by omega), if_neg (by omega), if_neg (by omega)]
    by_cases h : 3 ≤ r.length ∧ (lo ≤ (bAt r 0).toNat ∧ (bAt r 0).toNat ≤ hi) ∧ (128 ≤ (bAt r 1).toNat ∧ (bAt r 1).toNat ≤ 191) ∧ 128 ≤ (bAt r 2).toNat ∧ (bAt r 2).toNat ≤ 191
    · rw [if_pos (by omega), if_pos (by omega)]
    · rw [if_neg (by omega), if_neg (by omega)]
theorem wd_none {t : Str} (h1 : 128 ≤ (bAt t 0).toNat) (h2 : (bAt t 0).toNat < 194 ∨ 244 < (bAt t 0).toNat) : wd t = 0 := by
  cases t with
  | nil => rfl
  | cons c r =>
    have e0 : bAt (c :: r) 0 = c := rfl
    rw [e0] at h1 h2
    simp only [wd]
    rw [if_neg (by omega), if_neg (by omega), if_neg (by omega), if_neg (by omega)]
end Hm

/- Which texts are UTF-8, as Go's library has it. Conditions: see each theorem. -/
namespace Hm
open Go (IntKind)
set_option maxHeartbeats 4000000
set_option maxRecDepth 4000
theorem and_zero {w : Int} (h : IntKind.wrap .u64 ((BitVec.ofInt 64 w &&& BitVec.ofInt 64 9259542123273814144).toNat : Int) = 0) : BitVec.ofInt 64 w &&& H64 = 0#64 := by
  rw [wrapU (by omega) (by have := (BitVec.ofInt 64 w &&& BitVec.ofInt 64 9259542123273814144).isLt; omega)] at h
  apply BitVec.eq_of_toNat_eq
  show (BitVec.ofInt 64 w &&& BitVec.ofInt 64 9259542123273814144).toNat = 0
  omega
abbrev hiZ (w : Int) : Prop := IntKind.wrap .u64 ((BitVec.ofInt 64 w &&& BitVec.ofInt 64 9259542123273814144).toNat : Int) = 0
theorem hi1 {t : Str} (h : hiZ (wordW t)) (hl : 8 ≤ t.length) : utf (t.drop 8) = utf t := utf_asc 8 t hl (P8_word t (and_zero h))
theorem hi2' {t : Str} (h : BitVec.ofInt 64 (orW (wordW t) (wordW (t.drop 8))) &&& H64 = 0#64) (hl : 16 ≤ t.length) : utf (t.drop 16) = utf t := by
  rw [ofInt_orW] at h
  obtain ⟨a, b⟩ := or_hi h
  have e1 := utf_asc 8 t (by omega) (P8_word t a)
  have e2 := utf_asc 8 (t.drop 8) (by simp; omega) (P8_word _ b)
  rw [List.drop_drop] at e2
  rw [show (16 : Nat) = 8 + 8 from rfl, e2, e1]
theorem hi2 {t : Str} (h : hiZ (orW (wordW t) (wordW (t.drop 8)))) (hl : 16 ≤ t.length) : utf (t.drop 16) = utf t := hi2' (and_zero h) hl
theorem hi4 {t : Str} (h : hiZ (orW (orW (wordW t) (wordW (t.drop 8))) (orW (wordW (t.drop 16)) (wordW (t.drop 24))))) (hl : 32 ≤ t.length) : utf (t.drop 32) = utf t := by
  have h := and_zero h
  rw [ofInt_orW] at h
  obtain ⟨a, b⟩ := or_hi h
  have e1 := hi2' a (by omega)
  have e2 := hi2' (t := t.drop 16) (by rw [List.drop_drop]; exact b) (by simp; omega)
  rw [List.drop_drop] at e2
  rw [show (32 : Nat) = 16 + 16 from rfl, e2, e1]
/-- What the loop of ValidString owes at a text. -/
def VStep (T : Tab) (s t : Str) : Prop := W T unicode_utf8_ValidString.l1 (St.keep [0] (St.put ⟨lstE [(0, .av (.str s))], lstB [(0, none)]⟩ 0 (.av (.str t))))
  (Qit [0] (fun st' => ∃ b' : Str, (utf b' = utf s ∧ b'.length ≤ 1073741824) ∧ b'.length < t.length ∧ st' = St.keep [0] (St.put ⟨lstE [(0, .av (.str s))], lstB [(0, none)]⟩ 0 (.av (.str b'))))
    (Qblk 0 (Qseq T (.seq (.reg unicode_utf8_ValidString.r28 [2]) .ret) (Qend unicode_utf8_ValidString.fn [.val (.str s)] (one (.bool (utf s)))))))
end Hm

/- Which texts are UTF-8: the class of ASCII. Conditions: see each theorem. -/
namespace Hm
open Go (IntKind)
set_option maxHeartbeats 40000000
set_option maxRecDepth 4000
theorem vs_nil {T : Tab} {s t : Str} (hp1 : utf t = utf s) (hp2 : t.length ≤ 1073741824) (hne : t = []) : VStep T s t := by
  unfold VStep
  subst hne
  have hz : ([] : Str).length = 0 := rfl
  repeat' (first | refine WO.cons ?_ | refine WB.cons ?_ | refine WP.one ?_ | ((first | apply W1.add64 | apply W1.sub64); (iterate 3 exact rfl); omega; omega) | (apply W1.iadr; (iterate 3 exact rfl); omega; first | assumption | ((first | apply V.get_row | apply get_srow | apply get_ty | apply get_ar | apply get_ob | apply get_sprow | apply get_brow); assumption)) | (apply W1.idxS; (iterate 3 exact rfl); omega; omega) | (apply W1.slcS; (iterate 4 exact rfl); omega) | (apply W1.pickT; exact rfl; exact rfl; (first | with_reducible rfl | assumption | (simp only [bn]; first | omega | assumption | decide)); exact rfl) | (apply W1.pickF; exact rfl; exact rfl; (first | with_reducible rfl | assumption | (simp only [bn]; first | omega | assumption | decide)); exact rfl) | (apply W1.op; (iterate 3 exact rfl)) | (apply W1.no; exact rfl) | ((first | apply W1.knowT | apply W1.knowFn | apply WQ.knowT | apply WQ.knowFn | apply W.condT); exact rfl; (first | with_reducible rfl | assumption | (simp only [bn]; first | omega | assumption | decide))) | ((first | apply W1.knowTn | apply W1.knowF | apply WQ.knowTn | apply WQ.knowF | apply W.condF); exact rfl; (first | with_reducible rfl | assumption | (simp only [bn]; first | omega | assumption | decide))) | (apply WQ.go; exact rfl; exact rfl) | (apply WQ.no; exact rfl) | ((first | apply W1.bothT | apply W1.bothF | apply WQ.bothT | apply WQ.bothF | apply W.cond); exact rfl; all_goals intro hc; all_goals first | (cases hc; done) | ((try simp only [hc]); (try simp only [bm] at hc))) | refine WO.nil ?_ | refine WB.nil ?_ | refine WP.bag rfl ?_ | refine WP.nil ?_ | refine W.seq ?_ | refine W.reg ?_ | refine W.dreg ?_ | refine W.block ?_ | refine W.ret ?_ | refine W.skip ?_ | refine W.exit ?_ | (simp only [srow_len, List.length_map, Qit, Int.toNat_natCast, entry, Opd.eat, cellsOf, TV.ofCells, allAv, Qseq, Qblk, List.map_cons, List.map_nil, putD, kp, Nat.reduceEqDiff, ↓reduceIte, beq_self_eq_true, Nat.reduceBEq]))
  all_goals first | exact Qend.boo rfl rfl (by rw [← hp1]; rfl) | (exfalso; omega)
theorem vs_inner {T : Tab} {u : Str} (hw : Fn T F.unicode_utf8_word_string unicode_utf8_word_string.fn) (hu : u.length ≤ 1073741824) {N : St → Prop} {Q : Ex → St → Prop}
    (hN : 32 < u.length → utf (u.drop 32) = utf u → N ⟨lstE [(0, .av (.str (u.drop 32)))], lstB [(0, none)]⟩) (hQ : ∀ st, getE st.env 0 = .av (.str u) → getB st.boxes 0 = none → Q (.exit 2) st) :
    W T unicode_utf8_ValidString.l2 ⟨lstE [(0, .av (.str u))], lstB [(0, none)]⟩ (Qit [0] N Q) := by
  have g1 : (u.drop 8).length = u.length - 8 := List.length_drop
  have g2 : (u.drop 16).length = u.length - 16 := List.length_drop
  have g3 : (u.drop 24).length = u.length - 24 := List.length_drop
  have g4 : (u.drop 32).length = u.length - 32 := List.length_drop
  repeat' (first | refine WO.cons ?_ | refine WB.cons ?_ | refine WP.one ?_ | (((first | apply W1.slcN 8 | apply W1.slcN 16 | apply W1.slcN 24 | apply W1.slcN 32); exact rfl; exact rfl; omega)) | (first | (apply WQ.call (hm := hw.modes); (iterate 4 exact rfl)) | (apply W1.callV (hm := hw.modes); (iterate 5 exact rfl); exact (word_ret hw _ (by omega)); exact rfl)) | ((first | apply W1.add64 | apply W1.sub64); (iterate 3 exact rfl); omega; omega) | (apply W1.iadr; (iterate 3 exact rfl); omega; first | assumption | ((first | apply V.get_row | apply get_srow | apply get_ty | apply get_ar | apply get_ob | apply get_sprow | apply get_brow); assumption)) | (apply W1.idxS; (iterate 3 exact rfl); omega; omega) | (apply W1.slcS; (iterate 4 exact rfl); omega) | (apply W1.pickT; exact rfl; exact rfl; (first | with_reducible rfl | assumption | (simp only [bn]; first | omega | assumption | decide)); exact rfl) | (apply W1.pickF; exact rfl; exact rfl; (first | with_reducible rfl | assumption | (simp only [bn]; first | omega | assumption | decide)); exact rfl) | (apply W1.op; (iterate 3 exact rfl)) | (apply W1.no; exact rfl) | ((first | apply W1.knowT | apply W1.knowFn | apply WQ.knowT | apply WQ.knowFn | apply W.condT); exact rfl; (first | with_reducible rfl | assumption | (simp only [bn]; first | omega | assumption | decide))) | ((first | apply W1.knowTn | apply W1.knowF | apply WQ.knowTn | apply WQ.knowF | apply W.condF); exact rfl; (first | with_reducible rfl | assumption | (simp only [bn]; first | omega | assumption | decide))) | (apply WQ.go; exact rfl; exact rfl) | (apply WQ.no; exact rfl) | ((first | apply W1.bothT | apply W1.bothF | apply WQ.bothT | apply WQ.bothF | apply W.cond); exact rfl; all_goals intro hc; all_goals first | (cases hc; done) | ((try simp only [hc]); (try simp only [bm] at hc))) | refine WO.nil ?_ | refine WB.nil ?_ | refine WP.bag rfl ?_ | refine WP.nil ?_ | refine W.seq ?_ | refine W.reg ?_ | refine W.dreg ?_ | refine W.block ?_ | refine W.ret ?_ | refine W.skip ?_ | refine W.exit ?_ | (simp only [srow_len, List.length_map, Qit, Int.toNat_natCast, entry, Opd.eat, cellsOf, TV.ofCells, allAv, Qseq, Qblk, List.map_cons, List.map_nil, putD, kp, Nat.reduceEqDiff, ↓reduceIte, beq_self_eq_true, Nat.reduceBEq]))
  all_goals first
    | exact hQ _ rfl rfl
    | exact hN (by omega) (hi4 (t := u) (by assumption) (by omega))
    | trace_state
theorem keep0 {st' : St} {u : Str} {X : TV} (h0 : getE st'.env 0 = .av (.str u)) (h1 : getB st'.boxes 0 = none) : st'.keep [0] = St.keep [0] (St.put ⟨lstE [(0, X)], lstB [(0, none)]⟩ 0 (.av (.str u))) := by
  simp only [keep_eq, List.map_cons, List.map_nil, h0, h1]; rfl
theorem vs_asc {T : Tab} {s t : Str} (hp1 : utf t = utf s) (hp2 : t.length ≤ 1073741824) (hw : Fn T F.unicode_utf8_word_string unicode_utf8_word_string.fn) (hne : t ≠ []) (hasc : (bAt t 0).toNat < 128) : VStep T s t := by
  unfold VStep
  have hlen : 0 < t.length := List.length_pos_iff.2 hne
  have hc256 : (bAt t 0).toNat < 256 := (bAt t 0).toNat_lt
  have z0 : Int.toNat 0 = 0 := rfl
  have z1 : Int.toNat 1 = 1 := rfl
  have z2 : Int.toNat 2 = 2 := rfl
  have z3 : Int.toNat 3 = 3 := rfl
  have z4 : Int.toNat 4 = 4 := rfl
  have z8 : Int.toNat 8 = 8 := rfl
  have z16 : Int.toNat 16 = 16 := rfl
  have z24 : Int.toNat 24 = 24 := rfl
  have z32 : Int.toNat 32 = 32 := rfl
  have hasc' : ((bAt t 0).toNat : Int) < 128 := by omega
  have e1 := utf_one hlen hasc
  have d1 : (t.drop 1).length = t.length - 1 := List.length_drop
  have d2 : ((t.drop 1).drop 8).length = t.length - 9 := by simp
  have d3 : (((t.drop 1).drop 8).drop 8).length = t.length - 17 := by simp
  have d4 : (((t.drop 1).drop 8).drop 16).length = t.length - 25 := by simp
  repeat' (first | refine WO.cons ?_ | refine WB.cons ?_ | refine WP.one ?_ | (((first | apply W1.slcN 8 | apply W1.slcN 1 | apply W1.slcN 16 | apply W1.slcN 24 | apply W1.slcN 32); exact rfl; exact rfl; omega)) | (first | (apply WQ.call (hm := hw.modes); (iterate 4 exact rfl)) | (apply W1.callV (hm := hw.modes); (iterate 5 exact rfl); exact (word_ret hw _ (by omega)); exact rfl)) | ((first | apply W1.add64 | apply W1.sub64); (iterate 3 exact rfl); omega; omega) | (apply W1.iadr; (iterate 3 exact rfl); omega; first | assumption | ((first | apply V.get_row | apply get_srow | apply get_ty | apply get_ar | apply get_ob | apply get_sprow | apply get_brow); assumption)) | (apply W1.idxS; (iterate 3 exact rfl); omega; omega) | (apply W1.slcS; (iterate 4 exact rfl); omega) | (apply W1.pickT; exact rfl; exact rfl; (first | with_reducible rfl | assumption | (simp only [bn]; first | omega | assumption | decide)); exact rfl) | (apply W1.pickF; exact rfl; exact rfl; (first | with_reducible rfl | assumption | (simp only [bn]; first | omega | assumption | decide)); exact rfl) | (apply W1.op; (iterate 3 exact rfl)) | (apply W1.no; exact rfl) | ((first | apply W1.knowT | apply W1.knowFn | apply WQ.knowT | apply WQ.knowFn | apply W.condT); exact rfl; (first | with_reducible rfl | assumption | (simp only [bn]; first | omega | assumption | decide))) | ((first | apply W1.knowTn | apply W1.knowF | apply WQ.knowTn | apply WQ.knowF | apply W.condF); exact rfl; (first | with_reducible rfl | assumption | (simp only [bn]; first | omega | assumption | decide))) | (apply WQ.go; exact rfl; exact rfl) | (apply WQ.no; exact rfl) | ((first | apply W1.bothT | apply W1.bothF | apply WQ.bothT | apply WQ.bothF | apply W.cond); exact rfl; all_goals intro hc; all_goals first | (cases hc; done) | ((try simp only [hc]); (try simp only [bm] at hc))) | refine WO.nil ?_ | refine WB.nil ?_ | refine WP.bag rfl ?_ | refine WP.nil ?_ | refine W.seq ?_ | refine W.reg ?_ | refine W.dreg ?_ | refine W.block ?_ | refine W.ret ?_ | refine W.skip ?_ | refine W.exit ?_ | (simp only [srow_len, List.length_map, Qit, Int.toNat_natCast, entry, Opd.eat, cellsOf, TV.ofCells, allAv, Qseq, Qblk, List.map_cons, List.map_nil, putD, kp, Nat.reduceEqDiff, ↓reduceIte, beq_self_eq_true, Nat.reduceBEq]))
  all_goals (try have e2 := (hi1 (t := t.drop 1) (by assumption) (by omega)).trans (e1.trans hp1))
  all_goals first
    | (refine ⟨_, ⟨?_, ?_⟩, ?_, rfl⟩ <;> first | exact e1.trans hp1 | exact e2 | omega)
    | (have e3 := (hi2 (t := (t.drop 1).drop 8) (by assumption) (by omega)).trans e2
       refine W.iterP (β := Str) (fun u s0 => s0.put 0 (.av (.str u))) (fun u => utf u = utf s ∧ u.length ≤ 1073741824 ∧ u.length < t.length) List.length (((t.drop 1).drop 8).drop 16) ⟨e3, by omega, by omega⟩ rfl ?_
       rintro u ⟨q1, q2, q3⟩
       refine vs_inner hw q2 (fun hl hu => ⟨u.drop 32, ⟨hu.trans q1, by rw [List.length_drop]; omega, by rw [List.length_drop]; omega⟩, by rw [List.length_drop]; omega, rfl⟩) ?_
       intro st' h0 h1
       simp only [Qblk, Qseq, ↓reduceIte]
       refine W.exit ?_
       simp only [Qblk, Qseq, Qit, ↓reduceIte, Nat.reduceEqDiff]
       exact ⟨u, ⟨q1, q2⟩, q3, keep0 (X := .av (.str s)) h0 h1⟩)
end Hm

/- Which texts are UTF-8: classes. Conditions: see each theorem. -/
namespace Hm
open Go (IntKind)
set_option maxHeartbeats 40000000
set_option maxRecDepth 4000
theorem vs_c0 {T : Tab} {s t : Str} (hp1 : utf t = utf s) (hp2 : t.length ≤ 1073741824) (hne : t ≠ []) (hasc : ¬ (bAt t 0).toNat < 128) (hf : firZ[(bAt t 0).toNat]? = some 2) (c1 : 194 ≤ (bAt t 0).toNat) (c2 : (bAt t 0).toNat ≤ 223) : VStep T s t := by
  unfold VStep
  have hlen : 0 < t.length := List.length_pos_iff.2 hne
  have hc256 : (bAt t 0).toNat < 256 := (bAt t 0).toNat_lt
  have z0 : Int.toNat 0 = 0 := rfl
  have z1 : Int.toNat 1 = 1 := rfl
  have z2 : Int.toNat 2 = 2 := rfl
  have z3 : Int.toNat 3 = 3 := rfl
  have z4 : Int.toNat 4 = 4 := rfl
  have z8 : Int.toNat 8 = 8 := rfl
  have z16 : Int.toNat 16 = 16 := rfl
  have z24 : Int.toNat 24 = 24 := rfl
  have z32 : Int.toNat 32 = 32 := rfl
  have hasc' : ¬ ((bAt t 0).toNat : Int) < 128 := by omega
  have hwt := utf_cons hne
  have d2 : (t.drop 2).length = t.length - 2 := List.length_drop
  have d3 : (t.drop 3).length = t.length - 3 := List.length_drop
  have d4 : (t.drop 4).length = t.length - 4 := List.length_drop
  obtain ⟨rest, hr⟩ := fir_drop hf
  have hr' : (zavs firZ).drop (Int.toNat ((bAt t 0).toNat : Int) * 1) = .int .u8 2 :: rest := by rw [Int.toNat_natCast, Nat.mul_one]; exact hr
  have hwd := wd_two c1 c2
  repeat' (first | refine zA ?_ | ((simp only [z0, z1, z2, z3, z4])) | ((apply W1.tabA; exact rfl; exact rfl; exact rfl; exact hr'; omega; omega; (rw [fir_len]; omega))) | ((apply W1.load1; exact rfl; exact rfl)) | ((apply W1.slcD; exact rfl; exact rfl; exact rfl; omega)) | refine zB ?_ | (refine zC ?_ ?_ <;> intro hc; all_goals first | (cases hc; done) | ((try simp only [hc]); (try simp only [bm] at hc))) | refine zE ?_ | refine zN ?_ | fail)
  all_goals first
    | (refine Qend.boo rfl rfl ?_; rw [← hp1, hwt, hwd, if_neg (by omega)]; rfl)
    | (have hk : wd t = 2 := by rw [hwd, if_pos (by omega)]
       rw [hk] at hwt
       refine ⟨_, ⟨?_, ?_⟩, ?_, rfl⟩
       · rw [← hp1, hwt]; rfl
       · omega
       · omega)
theorem vs_c1 {T : Tab} {s t : Str} (hp1 : utf t = utf s) (hp2 : t.length ≤ 1073741824) (hne : t ≠ []) (hasc : ¬ (bAt t 0).toNat < 128) (hf : firZ[(bAt t 0).toNat]? = some 19) (c1 : (bAt t 0).toNat = 224) : VStep T s t := by
  unfold VStep
  have hlen : 0 < t.length := List.length_pos_iff.2 hne
  have hc256 : (bAt t 0).toNat < 256 := (bAt t 0).toNat_lt
  have z0 : Int.toNat 0 = 0 := rfl
  have z1 : Int.toNat 1 = 1 := rfl
  have z2 : Int.toNat 2 = 2 := rfl
  have z3 : Int.toNat 3 = 3 := rfl
  have z4 : Int.toNat 4 = 4 := rfl
  have z8 : Int.toNat 8 = 8 := rfl
  have z16 : Int.toNat 16 = 16 := rfl
  have z24 : Int.toNat 24 = 24 := rfl
  have z32 : Int.toNat 32 = 32 := rfl
  have hasc' : ¬ ((bAt t 0).toNat : Int) < 128 := by omega
  have hwt := utf_cons hne
  have d2 : (t.drop 2).length = t.length - 2 := List.length_drop
  have d3 : (t.drop 3).length = t.length - 3 := List.length_drop
  have d4 : (t.drop 4).length = t.length - 4 := List.length_drop
  obtain ⟨rest, hr⟩ := fir_drop hf
  have hr' : (zavs firZ).drop (Int.toNat ((bAt t 0).toNat : Int) * 1) = .int .u8 19 :: rest := by rw [Int.toNat_natCast, Nat.mul_one]; exact hr
  have hwd := wd_three (t := t) 160 191 (by omega) (by omega) (by rw [if_pos (by omega)]) (by rw [if_neg (by omega)])
  repeat' (first | refine zA ?_ | ((simp only [z0, z1, z2, z3, z4])) | ((apply W1.tabA; exact rfl; exact rfl; exact rfl; exact hr'; omega; omega; (rw [fir_len]; omega))) | ((apply W1.load1; exact rfl; exact rfl)) | ((apply W1.slcD; exact rfl; exact rfl; exact rfl; omega)) | refine zB ?_ | (refine zC ?_ ?_ <;> intro hc; all_goals first | (cases hc; done) | ((try simp only [hc]); (try simp only [bm] at hc))) | refine zE ?_ | refine zN ?_ | fail)
  all_goals first
    | (refine Qend.boo rfl rfl ?_; rw [← hp1, hwt, hwd, if_neg (by omega)]; rfl)
    | (have hk : wd t = 3 := by rw [hwd, if_pos (by omega)]
       rw [hk] at hwt
       refine ⟨_, ⟨?_, ?_⟩, ?_, rfl⟩
       · rw [← hp1, hwt]; rfl
       · omega
       · omega)
theorem vs_c2 {T : Tab} {s t : Str} (hp1 : utf t = utf s) (hp2 : t.length ≤ 1073741824) (hne : t ≠ []) (hasc : ¬ (bAt t 0).toNat < 128) (hf : firZ[(bAt t 0).toNat]? = some 3) (c1 : 225 ≤ (bAt t 0).toNat) (c2 : (bAt t 0).toNat ≤ 239) (c3 : (bAt t 0).toNat ≠ 237) : VStep T s t := by
  unfold VStep
  have hlen : 0 < t.length := List.length_pos_iff.2 hne
  have hc256 : (bAt t 0).toNat < 256 := (bAt t 0).toNat_lt
  have z0 : Int.toNat 0 = 0 := rfl
  have z1 : Int.toNat 1 = 1 := rfl
  have z2 : Int.toNat 2 = 2 := rfl
  have z3 : Int.toNat 3 = 3 := rfl
  have z4 : Int.toNat 4 = 4 := rfl
  have z8 : Int.toNat 8 = 8 := rfl
  have z16 : Int.toNat 16 = 16 := rfl
  have z24 : Int.toNat 24 = 24 := rfl
  have z32 : Int.toNat 32 = 32 := rfl
  have hasc' : ¬ ((bAt t 0).toNat : Int) < 128 := by omega
  have hwt := utf_cons hne
  have d2 : (t.drop 2).length = t.length - 2 := List.length_drop
  have d3 : (t.drop 3).length = t.length - 3 := List.length_drop
  have d4 : (t.drop 4).length = t.length - 4 := List.length_drop
  obtain ⟨rest, hr⟩ := fir_drop hf
  have hr' : (zavs firZ).drop (Int.toNat ((bAt t 0).toNat : Int) * 1) = .int .u8 3 :: rest := by rw [Int.toNat_natCast, Nat.mul_one]; exact hr
  have hwd := wd_three (t := t) 128 191 (by omega) (by omega) (by rw [if_neg (by omega)]) (by rw [if_neg (by omega)])
  repeat' (first | refine zA ?_ | ((simp only [z0, z1, z2, z3, z4])) | ((apply W1.tabA; exact rfl; exact rfl; exact rfl; exact hr'; omega; omega; (rw [fir_len]; omega))) | ((apply W1.load1; exact rfl; exact rfl)) | ((apply W1.slcD; exact rfl; exact rfl; exact rfl; omega)) | refine zB ?_ | (refine zC ?_ ?_ <;> intro hc; all_goals first | (cases hc; done) | ((try simp only [hc]); (try simp only [bm] at hc))) | refine zE ?_ | refine zN ?_ | fail)
  all_goals first
    | (refine Qend.boo rfl rfl ?_; rw [← hp1, hwt, hwd, if_neg (by omega)]; rfl)
    | (have hk : wd t = 3 := by rw [hwd, if_pos (by omega)]
       rw [hk] at hwt
       refine ⟨_, ⟨?_, ?_⟩, ?_, rfl⟩
       · rw [← hp1, hwt]; rfl
       · omega
       · omega)
end Hm

/- Which texts are UTF-8: classes. Conditions: see each theorem. -/
namespace Hm
open Go (IntKind)
set_option maxHeartbeats 40000000
set_option maxRecDepth 4000
theorem vs_c3 {T : Tab} {s t : Str} (hp1 : utf t = utf s) (hp2 : t.length ≤ 1073741824) (hne : t ≠ []) (hasc : ¬ (bAt t 0).toNat < 128) (hf : firZ[(bAt t 0).toNat]? = some 35) (c1 : (bAt t 0).toNat = 237) : VStep T s t := by
  unfold VStep
  have hlen : 0 < t.length := List.length_pos_iff.2 hne
  have hc256 : (bAt t 0).toNat < 256 := (bAt t 0).toNat_lt
  have z0 : Int.toNat 0 = 0 := rfl
  have z1 : Int.toNat 1 = 1 := rfl
  have z2 : Int.toNat 2 = 2 := rfl
  have z3 : Int.toNat 3 = 3 := rfl
  have z4 : Int.toNat 4 = 4 := rfl
  have z8 : Int.toNat 8 = 8 := rfl
  have z16 : Int.toNat 16 = 16 := rfl
  have z24 : Int.toNat 24 = 24 := rfl
  have z32 : Int.toNat 32 = 32 := rfl
  have hasc' : ¬ ((bAt t 0).toNat : Int) < 128 := by omega
  have hwt := utf_cons hne
  have d2 : (t.drop 2).length = t.length - 2 := List.length_drop
  have d3 : (t.drop 3).length = t.length - 3 := List.length_drop
  have d4 : (t.drop 4).length = t.length - 4 := List.length_drop
  obtain ⟨rest, hr⟩ := fir_drop hf
  have hr' : (zavs firZ).drop (Int.toNat ((bAt t 0).toNat : Int) * 1) = .int .u8 35 :: rest := by rw [Int.toNat_natCast, Nat.mul_one]; exact hr
  have hwd := wd_three (t := t) 128 159 (by omega) (by omega) (by rw [if_neg (by omega)]) (by rw [if_pos (by omega)])
  repeat' (first | refine zA ?_ | ((simp only [z0, z1, z2, z3, z4])) | ((apply W1.tabA; exact rfl; exact rfl; exact rfl; exact hr'; omega; omega; (rw [fir_len]; omega))) | ((apply W1.load1; exact rfl; exact rfl)) | ((apply W1.slcD; exact rfl; exact rfl; exact rfl; omega)) | refine zB ?_ | (refine zC ?_ ?_ <;> intro hc; all_goals first | (cases hc; done) | ((try simp only [hc]); (try simp only [bm] at hc))) | refine zE ?_ | refine zN ?_ | fail)
  all_goals first
    | (refine Qend.boo rfl rfl ?_; rw [← hp1, hwt, hwd, if_neg (by omega)]; rfl)
    | (have hk : wd t = 3 := by rw [hwd, if_pos (by omega)]
       rw [hk] at hwt
       refine ⟨_, ⟨?_, ?_⟩, ?_, rfl⟩
       · rw [← hp1, hwt]; rfl
       · omega
       · omega)
theorem vs_c4 {T : Tab} {s t : Str} (hp1 : utf t = utf s) (hp2 : t.length ≤ 1073741824) (hne : t ≠ []) (hasc : ¬ (bAt t 0).toNat < 128) (hf : firZ[(bAt t 0).toNat]? = some 52) (c1 : (bAt t 0).toNat = 240) : VStep T s t := by
  unfold VStep
  have hlen : 0 < t.length := List.length_pos_iff.2 hne
  have hc256 : (bAt t 0).toNat < 256 := (bAt t 0).toNat_lt
  have z0 : Int.toNat 0 = 0 := rfl
  have z1 : Int.toNat 1 = 1 := rfl
  have z2 : Int.toNat 2 = 2 := rfl
  have z3 : Int.toNat 3 = 3 := rfl
  have z4 : Int.toNat 4 = 4 := rfl
  have z8 : Int.toNat 8 = 8 := rfl
  have z16 : Int.toNat 16 = 16 := rfl
  have z24 : Int.toNat 24 = 24 := rfl
  have z32 : Int.toNat 32 = 32 := rfl
  have hasc' : ¬ ((bAt t 0).toNat : Int) < 128 := by omega
  have hwt := utf_cons hne
  have d2 : (t.drop 2).length = t.length - 2 := List.length_drop
  have d3 : (t.drop 3).length = t.length - 3 := List.length_drop
  have d4 : (t.drop 4).length = t.length - 4 := List.length_drop
  obtain ⟨rest, hr⟩ := fir_drop hf
  have hr' : (zavs firZ).drop (Int.toNat ((bAt t 0).toNat : Int) * 1) = .int .u8 52 :: rest := by rw [Int.toNat_natCast, Nat.mul_one]; exact hr
  have hwd := wd_four (t := t) 144 191 (by omega) (by omega) (by rw [if_pos (by omega)]) (by rw [if_neg (by omega)])
  repeat' (first | refine zA ?_ | ((simp only [z0, z1, z2, z3, z4])) | ((apply W1.tabA; exact rfl; exact rfl; exact rfl; exact hr'; omega; omega; (rw [fir_len]; omega))) | ((apply W1.load1; exact rfl; exact rfl)) | ((apply W1.slcD; exact rfl; exact rfl; exact rfl; omega)) | refine zB ?_ | (refine zC ?_ ?_ <;> intro hc; all_goals first | (cases hc; done) | ((try simp only [hc]); (try simp only [bm] at hc))) | refine zE ?_ | refine zN ?_ | fail)
  all_goals first
    | (refine Qend.boo rfl rfl ?_; rw [← hp1, hwt, hwd, if_neg (by omega)]; rfl)
    | (have hk : wd t = 4 := by rw [hwd, if_pos (by omega)]
       rw [hk] at hwt
       refine ⟨_, ⟨?_, ?_⟩, ?_, rfl⟩
       · rw [← hp1, hwt]; rfl
       · omega
       · omega)
end Hm

/- Which texts are UTF-8: classes. Conditions: see each theorem. -/
namespace Hm
open Go (IntKind)
set_option maxHeartbeats 40000000
set_option maxRecDepth 4000
theorem vs_c5 {T : Tab} {s t : Str} (hp1 : utf t = utf s) (hp2 : t.length ≤ 1073741824) (hne : t ≠ []) (hasc : ¬ (bAt t 0).toNat < 128) (hf : firZ[(bAt t 0).toNat]? = some 4) (c1 : 241 ≤ (bAt t 0).toNat) (c2 : (bAt t 0).toNat ≤ 243) : VStep T s t := by
  unfold VStep
  have hlen : 0 < t.length := List.length_pos_iff.2 hne
  have hc256 : (bAt t 0).toNat < 256 := (bAt t 0).toNat_lt
  have z0 : Int.toNat 0 = 0 := rfl
  have z1 : Int.toNat 1 = 1 := rfl
  have z2 : Int.toNat 2 = 2 := rfl
  have z3 : Int.toNat 3 = 3 := rfl
  have z4 : Int.toNat 4 = 4 := rfl
  have z8 : Int.toNat 8 = 8 := rfl
  have z16 : Int.toNat 16 = 16 := rfl
  have z24 : Int.toNat 24 = 24 := rfl
  have z32 : Int.toNat 32 = 32 := rfl
  have hasc' : ¬ ((bAt t 0).toNat : Int) < 128 := by omega
  have hwt := utf_cons hne
  have d2 : (t.drop 2).length = t.length - 2 := List.length_drop
  have d3 : (t.drop 3).length = t.length - 3 := List.length_drop
  have d4 : (t.drop 4).length = t.length - 4 := List.length_drop
  obtain ⟨rest, hr⟩ := fir_drop hf
  have hr' : (zavs firZ).drop (Int.toNat ((bAt t 0).toNat : Int) * 1) = .int .u8 4 :: rest := by rw [Int.toNat_natCast, Nat.mul_one]; exact hr
  have hwd := wd_four (t := t) 128 191 (by omega) (by omega) (by rw [if_neg (by omega)]) (by rw [if_neg (by omega)])
  repeat' (first | refine zA ?_ | ((simp only [z0, z1, z2, z3, z4])) | ((apply W1.tabA; exact rfl; exact rfl; exact rfl; exact hr'; omega; omega; (rw [fir_len]; omega))) | ((apply W1.load1; exact rfl; exact rfl)) | ((apply W1.slcD; exact rfl; exact rfl; exact rfl; omega)) | refine zB ?_ | (refine zC ?_ ?_ <;> intro hc; all_goals first | (cases hc; done) | ((try simp only [hc]); (try simp only [bm] at hc))) | refine zE ?_ | refine zN ?_ | fail)
  all_goals first
    | (refine Qend.boo rfl rfl ?_; rw [← hp1, hwt, hwd, if_neg (by omega)]; rfl)
    | (have hk : wd t = 4 := by rw [hwd, if_pos (by omega)]
       rw [hk] at hwt
       refine ⟨_, ⟨?_, ?_⟩, ?_, rfl⟩
       · rw [← hp1, hwt]; rfl
       · omega
       · omega)
theorem vs_c6 {T : Tab} {s t : Str} (hp1 : utf t = utf s) (hp2 : t.length ≤ 1073741824) (hne : t ≠ []) (hasc : ¬ (bAt t 0).toNat < 128) (hf : firZ[(bAt t 0).toNat]? = some 68) (c1 : (bAt t 0).toNat = 244) : VStep T s t := by
  unfold VStep
  have hlen : 0 < t.length := List.length_pos_iff.2 hne
  have hc256 : (bAt t 0).toNat < 256 := (bAt t 0).toNat_lt
  have z0 : Int.toNat 0 = 0 := rfl
  have z1 : Int.toNat 1 = 1 := rfl
  have z2 : Int.toNat 2 = 2 := rfl
  have z3 : Int.toNat 3 = 3 := rfl
  have z4 : Int.toNat 4 = 4 := rfl
  have z8 : Int.toNat 8 = 8 := rfl
  have z16 : Int.toNat 16 = 16 := rfl
  have z24 : Int.toNat 24 = 24 := rfl
  have z32 : Int.toNat 32 = 32 := rfl
  have hasc' : ¬ ((bAt t 0).toNat : Int) < 128 := by omega
  have hwt := utf_cons hne
  have d2 : (t.drop 2).length = t.length - 2 := List.length_drop
  have d3 : (t.drop 3).length = t.length - 3 := List.length_drop
  have d4 : (t.drop 4).length = t.length - 4 := List.length_drop
  obtain ⟨rest, hr⟩ := fir_drop hf
  have hr' : (zavs firZ).drop (Int.toNat ((bAt t 0).toNat : Int) * 1) = .int .u8 68 :: rest := by rw [Int.toNat_natCast, Nat.mul_one]; exact hr
  have hwd := wd_four (t := t) 128 143 (by omega) (by omega) (by rw [if_neg (by omega)]) (by rw [if_pos (by omega)])
  repeat' (first | refine zA ?_ | ((simp only [z0, z1, z2, z3, z4])) | ((apply W1.tabA; exact rfl; exact rfl; exact rfl; exact hr'; omega; omega; (rw [fir_len]; omega))) | ((apply W1.load1; exact rfl; exact rfl)) | ((apply W1.slcD; exact rfl; exact rfl; exact rfl; omega)) | refine zB ?_ | (refine zC ?_ ?_ <;> intro hc; all_goals first | (cases hc; done) | ((try simp only [hc]); (try simp only [bm] at hc))) | refine zE ?_ | refine zN ?_ | fail)
  all_goals first
    | (refine Qend.boo rfl rfl ?_; rw [← hp1, hwt, hwd, if_neg (by omega)]; rfl)
    | (have hk : wd t = 4 := by rw [hwd, if_pos (by omega)]
       rw [hk] at hwt
       refine ⟨_, ⟨?_, ?_⟩, ?_, rfl⟩
       · rw [← hp1, hwt]; rfl
       · omega
       · omega)
theorem vs_c7 {T : Tab} {s t : Str} (hp1 : utf t = utf s) (hp2 : t.length ≤ 1073741824) (hne : t ≠ []) (hasc : ¬ (bAt t 0).toNat < 128) (hf : firZ[(bAt t 0).toNat]? = some 241) (c1 : (bAt t 0).toNat < 194 ∨ 244 < (bAt t 0).toNat) : VStep T s t := by
  unfold VStep
  have hlen : 0 < t.length := List.length_pos_iff.2 hne
  have hc256 : (bAt t 0).toNat < 256 := (bAt t 0).toNat_lt
  have z0 : Int.toNat 0 = 0 := rfl
  have z1 : Int.toNat 1 = 1 := rfl
  have z2 : Int.toNat 2 = 2 := rfl
  have z3 : Int.toNat 3 = 3 := rfl
  have z4 : Int.toNat 4 = 4 := rfl
  have z8 : Int.toNat 8 = 8 := rfl
  have z16 : Int.toNat 16 = 16 := rfl
  have z24 : Int.toNat 24 = 24 := rfl
  have z32 : Int.toNat 32 = 32 := rfl
  have hasc' : ¬ ((bAt t 0).toNat : Int) < 128 := by omega
  have hwt := utf_cons hne
  have d2 : (t.drop 2).length = t.length - 2 := List.length_drop
  have d3 : (t.drop 3).length = t.length - 3 := List.length_drop
  have d4 : (t.drop 4).length = t.length - 4 := List.length_drop
  obtain ⟨rest, hr⟩ := fir_drop hf
  have hr' : (zavs firZ).drop (Int.toNat ((bAt t 0).toNat : Int) * 1) = .int .u8 241 :: rest := by rw [Int.toNat_natCast, Nat.mul_one]; exact hr
  have hwd := wd_none (t := t) (by omega) c1
  repeat' (first | refine zA ?_ | ((simp only [z0, z1, z2, z3, z4])) | ((apply W1.tabA; exact rfl; exact rfl; exact rfl; exact hr'; omega; omega; (rw [fir_len]; omega))) | ((apply W1.load1; exact rfl; exact rfl)) | ((apply W1.slcD; exact rfl; exact rfl; exact rfl; omega)) | refine zB ?_ | (refine zC ?_ ?_ <;> intro hc; all_goals first | (cases hc; done) | ((try simp only [hc]); (try simp only [bm] at hc))) | refine zE ?_ | refine zN ?_ | fail)
  all_goals (refine Qend.boo rfl rfl ?_; rw [← hp1, hwt, hwd]; rfl)
end Hm

/- Which texts are UTF-8, as Go's library has it. Conditions: see each theorem. -/
namespace Hm
open Go (IntKind)
set_option maxHeartbeats 4000000
set_option maxRecDepth 4000
theorem validString_ret {T : Tab} (h : Fn T F.unicode_utf8_ValidString unicode_utf8_ValidString.fn) (hw : Fn T F.unicode_utf8_word_string unicode_utf8_word_string.fn) (s : Str) (hb : s.length ≤ 1073741824) :
    Ret T F.unicode_utf8_ValidString [.val (.str s)] (one (.bool (utf s))) := by
  refine Ret.mk h rfl ?_
  repeat' (first | refine zA ?_ | refine zB ?_ | (refine zC ?_ ?_ <;> intro hc; all_goals first | (cases hc; done) | ((try simp only [hc]); (try simp only [bm] at hc))) | refine zE ?_ | refine zN ?_ | fail)
  refine W.iterP (β := Str) (fun t s0 => s0.put 0 (.av (.str t))) (fun t => utf t = utf s ∧ t.length ≤ 1073741824) List.length s ⟨rfl, hb⟩ rfl ?_
  rintro t ⟨hp1, hp2⟩
  show VStep T s t
  by_cases hne : t = []
  · exact vs_nil hp1 hp2 hne
  · by_cases hasc : (bAt t 0).toNat < 128
    · exact vs_asc hp1 hp2 hw hne hasc
    · rcases fir_cases _ (bAt t 0).toNat_lt (by omega) with ⟨hf, c1, c2⟩ | ⟨hf, c1⟩ | ⟨hf, c1, c2, c3⟩ | ⟨hf, c1⟩ | ⟨hf, c1⟩ | ⟨hf, c1, c2⟩ | ⟨hf, c1⟩ | ⟨hf, c1⟩
      · exact vs_c0 hp1 hp2 hne hasc hf c1 c2
      · exact vs_c1 hp1 hp2 hne hasc hf c1
      · exact vs_c2 hp1 hp2 hne hasc hf c1 c2 c3
      · exact vs_c3 hp1 hp2 hne hasc hf c1
      · exact vs_c4 hp1 hp2 hne hasc hf c1
      · exact vs_c5 hp1 hp2 hne hasc hf c1 c2
      · exact vs_c6 hp1 hp2 hne hasc hf c1
      · exact vs_c7 hp1 hp2 hne hasc hf c1
end Hm

/- The contract of the program's test for UTF-8, by name. Conditions: none (a definition). -/
namespace Hm
def ValidOk (T : Tab) : Prop := ∀ s : Str, s.length ≤ 1073741824 → Ret T F.utf_Valid [.val (.str s)] (one (.bool (utf s)))
end Hm

/- Which texts the program says are UTF-8. Conditions: see each theorem. -/
namespace Hm
open Go (IntKind)
set_option maxHeartbeats 4000000
set_option maxRecDepth 4000
theorem validOk {T : Tab} (hu : Fn T F.utf_Valid utf_Valid.fn) (h : Fn T F.unicode_utf8_ValidString unicode_utf8_ValidString.fn) (hw : Fn T F.unicode_utf8_word_string unicode_utf8_word_string.fn) : ValidOk T := by
  intro s hb
  have r := validString_ret h hw s hb
  refine Ret.mk hu rfl ?_
  repeat' (first | refine zA ?_ | refine WQ.cl h.modes ?_ | refine W1.cl h.modes (r) ?_ | refine zB ?_ | (refine zC ?_ ?_ <;> intro hc; all_goals first | (cases hc; done) | ((try simp only [hc]); (try simp only [bm] at hc))) | refine zE ?_ | refine zN ?_ | fail)
  exact Qend.boo rfl rfl rfl
end Hm
