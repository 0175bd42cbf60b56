/- What the law answers on the abstract machine. Conditions: see each theorem. -/
import Derived.Test.YtkjppfdcnfiaeaaDoorVOfT2
set_option linter.unusedVariables false
set_option linter.unusedSimpArgs false
/- What begins an encoding. Conditions: see each theorem. -/
namespace Hm
open Go (IntKind)
set_option maxHeartbeats 4000000
set_option maxRecDepth 4000
theorem W1.slcD {T : Tab} {st : St} {K : St → Prop} {dst : Option Nat} {g : Option (Nat × Bool)} {k : Nat} {x : Opd} {lo : Option Opd} {s : Str} {l : Nat} (hg : wanted st g = some true) (hx : st.opd x = .av (.str s)) (hl : st.bnd 0 lo = some l) (hc : l ≤ s.length)
    (hk : K (putD dst (.av (.str (s.drop l))) st)) : W1 T ⟨dst, .slc true k x lo none, g⟩ st K :=
  W1.slcS hg hx hl rfl ⟨hc, Nat.le_refl _⟩ (by rw [List.take_length]; exact hk)
theorem W1.slcN (n : Nat) {T : Tab} {st : St} {K : St → Prop} {dst : Option Nat} {g : Option (Nat × Bool)} {k : Nat} {x : Opd} {s : Str} (hg : wanted st g = some true) (hx : st.opd x = .av (.str s)) (hc : n ≤ s.length)
    (hk : K (putD dst (.av (.str (s.drop n))) st)) : W1 T ⟨dst, .slc true k x (some (.v (.int .i64 (n : Int)))) none, g⟩ st K := by
  refine W1.slcD hg hx (l := n) ?_ hc hk
  show idx (.int .i64 (n : Int)) = some n
  simp only [idx, if_pos (Int.natCast_nonneg n), Int.toNat_natCast]
theorem W1.tabA {T : Tab} {st : St} {K : St → Prop} {dst : Option Nat} {g : Option (Nat × Bool)} {n k : Nat} {x i : Opd} {ik : IntKind} {c : Int} {cs r : List AV} (hg : wanted st g = some true) (hi : st.opd i = .av (.int ik c)) (hx : st.opd x = .av (.vptr cs))
    (hr : cs.drop (c.toNat * k) = r) (h0 : 0 ≤ c) (hn : c.toNat < n) (hl : c.toNat * k ≤ cs.length) (hk : K (putD dst (.av (.vptr r)) st)) : W1 T ⟨dst, .iadrA n k x i, g⟩ st K := by
  refine W1.go hg (WS.op (v := .av (.vptr r)) (st' := st) rfl ?_ hk)
  simp only [stepOp, hi, idx, if_pos h0, if_neg (Nat.not_le.2 hn), hx, if_pos hl, hr]
theorem W1.load1 {T : Tab} {st : St} {K : St → Prop} {dst : Option Nat} {g : Option (Nat × Bool)} {a : Opd} {v : AV} {rest : List AV} (hg : wanted st g = some true) (hx : st.opd a = .av (.vptr (v :: rest))) (hk : K (putD dst (.av v) st)) : W1 T ⟨dst, .load 1 false a, g⟩ st K := by
  refine W1.go hg (WS.op (v := .av v) (st' := st) rfl ?_ hk)
  simp only [stepOp, hx, List.length_cons, if_pos (show 1 ≤ rest.length + 1 by omega)]
  rfl
def firB (n : Nat) : Bool := decide (n < 128) || ((firZ[n]? == some 2 && decide (194 ≤ n) && decide (n ≤ 223)) || ((firZ[n]? == some 19 && n == 224) || ((firZ[n]? == some 3 && decide (225 ≤ n) && decide (n ≤ 239) && n != 237) || ((firZ[n]? == some 35 && n == 237) ||
  ((firZ[n]? == some 52 && n == 240) || ((firZ[n]? == some 4 && decide (241 ≤ n) && decide (n ≤ 243)) || ((firZ[n]? == some 68 && n == 244) || (firZ[n]? == some 241 && (decide (n < 194) || decide (244 < n))))))))))
theorem firB_all : ((List.range 256).all firB) = true := by decide +kernel
theorem fir_cases (n : Nat) (hn : n < 256) (h1 : 128 ≤ n) : (firZ[n]? = some 2 ∧ 194 ≤ n ∧ n ≤ 223) ∨ (firZ[n]? = some 19 ∧ n = 224) ∨ (firZ[n]? = some 3 ∧ 225 ≤ n ∧ n ≤ 239 ∧ n ≠ 237) ∨ (firZ[n]? = some 35 ∧ n = 237) ∨
    (firZ[n]? = some 52 ∧ n = 240) ∨ (firZ[n]? = some 4 ∧ 241 ≤ n ∧ n ≤ 243) ∨ (firZ[n]? = some 68 ∧ n = 244) ∨ (firZ[n]? = some 241 ∧ (n < 194 ∨ 244 < n)) := by
  have h := List.all_eq_true.1 firB_all n (List.mem_range.2 hn)
  simp only [firB, Bool.or_eq_true, Bool.and_eq_true, decide_eq_true_eq, beq_iff_eq, bne_iff_ne, ne_eq, and_assoc] at h
  rcases h with h | h
  · omega
  · exact h
theorem fir_drop {n : Nat} {x : Int} (h : firZ[n]? = some x) : ∃ rest, (zavs firZ).drop n = .int .u8 x :: rest := by
  have hz : (zavs firZ)[n]? = some (.int .u8 x) := by simp [zavs, h]
  obtain ⟨h1, h2⟩ := List.getElem?_eq_some_iff.1 hz
  exact ⟨_, by rw [List.drop_eq_getElem_cons h1, h2]⟩
theorem fir_len : (zavs firZ).length = 256 := by decide +kernel
theorem bAt_succ (c : UInt8) (r : Str) (i : Nat) : bAt (c :: r) (i + 1) = bAt r i := by simp [bAt, List.getD]
theorem tr1 (r : Str) (lo hi : Int) (h1 : 128 ≤ lo) (h2 : hi ≤ 191) : (tr r 1 lo hi = true) ↔ (1 ≤ r.length ∧ lo ≤ (bAt r 0).toNat ∧ ((bAt r 0).toNat : Int) ≤ hi) := by
  cases r with
  | nil => simp [tr]
  | cons d r =>
    have e : bAt (d :: r) 0 = d := rfl
    simp only [tr, cont, e, List.length_cons, List.take_succ_cons, List.take_zero, List.all_cons, List.all_nil, Bool.and_true, Bool.and_eq_true, decide_eq_true_eq, ge_iff_le]
    omega
theorem tr2 (r : Str) (lo hi : Int) (h1 : 128 ≤ lo) (h2 : hi ≤ 191) : (tr r 2 lo hi = true) ↔ (2 ≤ r.length ∧ (lo ≤ (bAt r 0).toNat ∧ ((bAt r 0).toNat : Int) ≤ hi) ∧ (128 ≤ (bAt r 1).toNat ∧ (bAt r 1).toNat ≤ 191)) := by
  match r with
  | [] => simp [tr]
  | [d] => simp [tr]
  | d :: e :: r =>
    have e0 : bAt (d :: e :: r) 0 = d := rfl
    have e1 : bAt (d :: e :: r) 1 = e := rfl
    simp only [tr, cont, e0, e1, List.length_cons, List.take_succ_cons, List.take_zero, List.all_cons, List.all_nil, Bool.and_true, Bool.and_eq_true, decide_eq_true_eq, ge_iff_le]
    omega
theorem tr3 (r : Str) (lo hi : Int) (h1 : 128 ≤ lo) (h2 : hi ≤ 191) : (tr r 3 lo hi = true) ↔ (3 ≤ r.length ∧ (lo ≤ (bAt r 0).toNat ∧ ((bAt r 0).toNat : Int) ≤ hi) ∧ (128 ≤ (bAt r 1).toNat ∧ (bAt r 1).toNat ≤ 191) ∧ (128 ≤ (bAt r 2).toNat ∧ (bAt r 2).toNat ≤ 191)) := by
  match r with
  | [] => simp [tr]
  | [d] => simp [tr]
  | [d, e] => simp [tr]
  | d :: e :: f :: r =>
    have e0 : bAt (d :: e :: f :: r) 0 = d := rfl
    have e1 : bAt (d :: e :: f :: r) 1 = e := rfl
    have e2 : bAt (d :: e :: f :: r) 2 = f := rfl
    simp only [tr, cont, e0, e1, e2, List.length_cons, List.take_succ_cons, List.take_zero, List.all_cons, List.all_nil, Bool.and_true, Bool.and_eq_true, decide_eq_true_eq, ge_iff_le]
    omega
/-- The length of what begins with c, if at most the bytes behind it are as they must be. -/
theorem wd_two {t : Str} (h1 : 194 ≤ (bAt t 0).toNat) (h2 : (bAt t 0).toNat ≤ 223) : wd t = if 2 ≤ t.length ∧ 128 ≤ (bAt t 1).toNat ∧ (bAt t 1).toNat ≤ 191 then 2 else 0 := by
  cases t with
  | nil => simp [bAt] at h1
  | cons c r =>
    have e0 : bAt (c :: r) 0 = c := rfl
    rw [e0] at h1 h2
    rw [bAt_succ]
    simp only [wd, tr1 r 128 191 (by omega) (by omega), List.length_cons]
    rw [if_neg (by omega)]
    by_cases h : 1 ≤ r.length ∧ 128 ≤ (bAt r 0).toNat ∧ (bAt r 0).toNat ≤ 191
    · rw [if_pos (by omega), if_pos (by omega)]
    · rw [if_neg (by omega), if_neg (by omega), if_neg (by omega), if_neg (by omega)]
theorem wd_three {t : Str} (lo hi : Nat) (h1 : 224 ≤ (bAt t 0).toNat) (h2 : (bAt t 0).toNat ≤ 239) (hlo : lo = if (bAt t 0).toNat = 224 then 160 else 128) (hhi : hi = if (bAt t 0).toNat = 237 then 159 else 191) :
    wd t = if 3 ≤ t.length ∧ (lo ≤ (bAt t 1).toNat ∧ (bAt t 1).toNat ≤ hi) ∧ 128 ≤ (bAt t 2).toNat ∧ (bAt t 2).toNat ≤ 191 then 3 else 0 := by
  cases t with
  | nil => simp [bAt] at h1
  | cons c r =>
    have e0 : bAt (c :: r) 0 = c := rfl
    rw [e0] at h1 h2 hlo hhi
    rw [bAt_succ, bAt_succ]
    have el : (if (c.toNat : Int) = 224 then (160 : Int) else 128) = (lo : Int) := by rw [hlo]; split <;> split <;> omega
    have eh : (if (c.toNat : Int) = 237 then (159 : Int) else 191) = (hi : Int) := by rw [hhi]; split <;> split <;> omega
    have l1 : 128 ≤ lo := by rw [hlo]; split <;> omega
    have l2 : hi ≤ 191 := by rw [hhi]; split <;> omega
    simp only [wd, el, eh, tr2 r lo hi (by omega) (by omega), List.length_cons]
    rw [if_neg (by omega), if_neg (by omega)]
    by_cases h : 2 ≤ r.length ∧ (lo ≤ (bAt r 0).toNat ∧ (bAt r 0).toNat ≤ hi) ∧ 128 ≤ (bAt r 1).toNat ∧ (bAt r 1).toNat ≤ 191
    · rw [if_pos (by omega), if_pos (by omega)]
    · rw [if_neg (by omega), if_neg (by omega), if_neg (by omega)]
theorem wd_four {t : Str} (lo hi : Nat) (h1 : 240 ≤ (bAt t 0).toNat) (h2 : (bAt t 0).toNat ≤ 244) (hlo : lo = if (bAt t 0).toNat = 240 then 144 else 128) (hhi : hi = if (bAt t 0).toNat = 244 then 143 else 191) :
    wd t = if 4 ≤ t.length ∧ (lo ≤ (bAt t 1).toNat ∧ (bAt t 1).toNat ≤ hi) ∧ (128 ≤ (bAt t 2).toNat ∧ (bAt t 2).toNat ≤ 191) ∧ 128 ≤ (bAt t 3).toNat ∧ (bAt t 3).toNat ≤ 191 then 4 else 0 := by
  cases t with
  | nil => simp [bAt] at h1
  | cons c r =>
    have e0 : bAt (c :: r) 0 = c := rfl
    rw [e0] at h1 h2 hlo hhi
    rw [bAt_succ, bAt_succ, bAt_succ]
    have el : (if (c.toNat : Int) = 240 then (144 : Int) else 128) = (lo : Int) := by rw [hlo]; split <;> split <;> omega
    have eh : (if (c.toNat : Int) = 244 then (143 : Int) else 191) = (hi : Int) := by rw [hhi]; split <;> split <;> omega
    have l1 : 128 ≤ lo := by rw [hlo]; split <;> omega
    have l2 : hi ≤ 191 := by rw [hhi]; split <;> omega
    simp only [wd, el, eh, tr3 r lo hi (by omega) (by omega), List.length_cons]
    rw [if_neg (by omega), if_neg (by omega), if_neg (by omega)]
    by_cases h : 3 ≤ r.length ∧ (lo ≤ (bAt r 0).toNat ∧ (bAt r 0).toNat ≤ hi) ∧ (128 ≤ (bAt r 1).toNat ∧ (bAt r 1).toNat ≤ 191) ∧ 128 ≤ (bAt r 2).toNat ∧ (bAt r 2).toNat ≤ 191
    · rw [if_pos (by omega), if_pos (by omega)]
    · rw [if_neg (by omega), if_neg (by omega)]
theorem wd_none {t : Str} (h1 : 128 ≤ (bAt t 0).toNat) (h2 : (bAt t 0).toNat < 194 ∨ 244 < (bAt t 0).toNat) : wd t = 0 := by
  cases t with
  | nil => rfl
  | cons c r =>
    have e0 : bAt (c :: r) 0 = c := rfl
    rw [e0] at h1 h2
    simp only [wd]
    rw [if_neg (by omega), if_neg (by omega), if_neg (by omega), if_neg (by omega)]
end Hm

/- Which texts are UTF-8, as Go's library has it. Conditions: see each theorem. -/
namespace Hm
open Go (IntKind)
set_option maxHeartbeats 4000000
set_option maxRecDepth 4000
theorem and_zero {w : Int} (h : IntKind.wrap .u64 ((BitVec.ofInt 64 w &&& BitVec.ofInt 64 9259542123273814144).toNat : Int) = 0) : BitVec.ofInt 64 w &&& H64 = 0#64 := by
  rw [wrapU (by omega) (by have := (BitVec.ofInt 64 w &&& BitVec.ofInt 64 9259542123273814144).isLt; omega)] at h
  apply BitVec.eq_of_toNat_eq
  show (BitVec.ofInt 64 w &&& BitVec.ofInt 64 9259542123273814144).toNat = 0
  omega
abbrev hiZ (w : Int) : Prop := IntKind.wrap .u64 ((BitVec.ofInt 64 w &&& BitVec.ofInt 64 9259542123273814144).toNat : Int) = 0
theorem hi1 {t : Str} (h : hiZ (wordW t)) (hl : 8 ≤ t.length) : utf (t.drop 8) = utf t := utf_asc 8 t hl (P8_word t (and_zero h))
theorem hi2' {t : Str} (h : BitVec.ofInt 64 (orW (wordW t) (wordW (t.drop 8))) &&& H64 = 0#64) (hl : 16 ≤ t.length) : utf (t.drop 16) = utf t := by
  rw [ofInt_orW] at h
  obtain ⟨a, b⟩ := or_hi h
  have e1 := utf_asc 8 t (by omega) (P8_word t a)
  have e2 := utf_asc 8 (t.drop 8) (by simp; omega) (P8_word _ b)
  rw [List.drop_drop] at e2
  rw [show (16 : Nat) = 8 + 8 from rfl, e2, e1]
theorem hi2 {t : Str} (h : hiZ (orW (wordW t) (wordW (t.drop 8)))) (hl : 16 ≤ t.length) : utf (t.drop 16) = utf t := hi2' (and_zero h) hl
theorem hi4 {t : Str} (h : hiZ (orW (orW (wordW t) (wordW (t.drop 8))) (orW (wordW (t.drop 16)) (wordW (t.drop 24))))) (hl : 32 ≤ t.length) : utf (t.drop 32) = utf t := by
  have h := and_zero h
  rw [ofInt_orW] at h
  obtain ⟨a, b⟩ := or_hi h
  have e1 := hi2' a (by omega)
  have e2 := hi2' (t := t.drop 16) (by rw [List.drop_drop]; exact b) (by simp; omega)
  rw [List.drop_drop] at e2
  rw [show (32 : Nat) = 16 + 16 from rfl, e2, e1]
/-- What the loop of ValidString owes at a text. -/
def VStep (T : Tab) (s t : Str) : Prop := W T unicode_utf8_ValidString.l1 (St.keep [0] (St.put ⟨lstE [(0, .av (.str s))], lstB [(0, none)]⟩ 0 (.av (.str t))))
  (Qit [0] (fun st' => ∃ b' : Str, (utf b' = utf s ∧ b'.length ≤ 1073741824) ∧ b'.length < t.length ∧ st' = St.keep [0] (St.put ⟨lstE [(0, .av (.str s))], lstB [(0, none)]⟩ 0 (.av (.str b'))))
    (Qblk 0 (Qseq T (.seq (.reg unicode_utf8_ValidString.r28 [2]) .ret) (Qend unicode_utf8_ValidString.fn [.val (.str s)] (one (.bool (utf s)))))))
end Hm

/- Which texts are UTF-8: the class of ASCII. Conditions: see each theorem. -/
namespace Hm
open Go (IntKind)
set_option maxHeartbeats 40000000
set_option maxRecDepth 4000
theorem vs_nil {T : Tab} {s t : Str} (hp1 : utf t = utf s) (hp2 : t.length ≤ 1073741824) (hne : t = []) : VStep T s t := by
  unfold VStep
  subst hne
  have hz : ([] : Str).length = 0 := rfl
  repeat' (first | refine WO.cons ?_ | refine WB.cons ?_ | refine WP.one ?_ | ((first | apply W1.add64 | apply W1.sub64); (iterate 3 exact rfl); omega; omega) | (apply W1.iadr; (iterate 3 exact rfl); omega; first | assumption | ((first | apply V.get_row | apply get_srow | apply get_ty | apply get_ar | apply get_ob | apply get_sprow | apply get_brow); assumption)) | (apply W1.idxS; (iterate 3 exact rfl); omega; omega) | (apply W1.slcS; (iterate 4 exact rfl); omega) | (apply W1.pickT; exact rfl; exact rfl; (first | with_reducible rfl | assumption | (simp only [bn]; first | omega | assumption | decide)); exact rfl) | (apply W1.pickF; exact rfl; exact rfl; (first | with_reducible rfl | assumption | (simp only [bn]; first | omega | assumption | decide)); exact rfl) | (apply W1.op; (iterate 3 exact rfl)) | (apply W1.no; exact rfl) | ((first | apply W1.knowT | apply W1.knowFn | apply WQ.knowT | apply WQ.knowFn | apply W.condT); exact rfl; (first | with_reducible rfl | assumption | (simp only [bn]; first | omega | assumption | decide))) | ((first | apply W1.knowTn | apply W1.knowF | apply WQ.knowTn | apply WQ.knowF | apply W.condF); exact rfl; (first | with_reducible rfl | assumption | (simp only [bn]; first | omega | assumption | decide))) | (apply WQ.go; exact rfl; exact rfl) | (apply WQ.no; exact rfl) | ((first | apply W1.bothT | apply W1.bothF | apply WQ.bothT | apply WQ.bothF | apply W.cond); exact rfl; all_goals intro hc; all_goals first | (cases hc; done) | ((try simp only [hc]); (try simp only [bm] at hc))) | refine WO.nil ?_ | refine WB.nil ?_ | refine WP.bag rfl ?_ | refine WP.nil ?_ | refine W.seq ?_ | refine W.reg ?_ | refine W.dreg ?_ | refine W.block ?_ | refine W.ret ?_ | refine W.skip ?_ | refine W.exit ?_ | (simp only [srow_len, List.length_map, Qit, Int.toNat_natCast, entry, Opd.eat, cellsOf, TV.ofCells, allAv, Qseq, Qblk, List.map_cons, List.map_nil, putD, kp, Nat.reduceEqDiff, ↓reduceIte, beq_self_eq_true, Nat.reduceBEq]))
  all_goals first | exact Qend.boo rfl rfl (by rw [← hp1]; rfl) | (exfalso; omega)
theorem vs_inner {T : Tab} {u : Str} (hw : Fn T F.unicode_utf8_word_string unicode_utf8_word_string.fn) (hu : u.length ≤ 1073741824) {N : St → Prop} {Q : Ex → St → Prop}
    (hN : 32 < u.length → utf (u.drop 32) = utf u → N ⟨lstE [(0, .av (.str (u.drop 32)))], lstB [(0, none)]⟩) (hQ : ∀ st, getE st.env 0 = .av (.str u) → getB st.boxes 0 = none → Q (.exit 2) st) :
    W T unicode_utf8_ValidString.l2 ⟨lstE [(0, .av (.str u))], lstB [(0, none)]⟩ (Qit [0] N Q) := by
  have g1 : (u.drop 8).length = u.length - 8 := List.length_drop
  have g2 : (u.drop 16).length = u.length - 16 := List.length_drop
  have g3 : (u.drop 24).length = u.length - 24 := List.length_drop
  have g4 : (u.drop 32).length = u.length - 32 := List.length_drop
  repeat' (first | refine WO.cons ?_ | refine WB.cons ?_ | refine WP.one ?_ | (((first | apply W1.slcN 8 | apply W1.slcN 16 | apply W1.slcN 24 | apply W1.slcN 32); exact rfl; exact rfl; omega)) | (first | (apply WQ.call (hm := hw.modes); (iterate 4 exact rfl)) | (apply W1.callV (hm := hw.modes); (iterate 5 exact rfl); exact (word_ret hw _ (by omega)); exact rfl)) | ((first | apply W1.add64 | apply W1.sub64); (iterate 3 exact rfl); omega; omega) | (apply W1.iadr; (iterate 3 exact rfl); omega; first | assumption | ((first | apply V.get_row | apply get_srow | apply get_ty | apply get_ar | apply get_ob | apply get_sprow | apply get_brow); assumption)) | (apply W1.idxS; (iterate 3 exact rfl); omega; omega) | (apply W1.slcS; (iterate 4 exact rfl); omega) | (apply W1.pickT; exact rfl; exact rfl; (first | with_reducible rfl | assumption | (simp only [bn]; first | omega | assumption | decide)); exact rfl) | (apply W1.pickF; exact rfl; exact rfl; (first | with_reducible rfl | assumption | (simp only [bn]; first | omega | assumption | decide)); exact rfl) | (apply W1.op; (iterate 3 exact rfl)) | (apply W1.no; exact rfl) | ((first | apply W1.knowT | apply W1.knowFn | apply WQ.knowT | apply WQ.knowFn | apply W.condT); exact rfl; (first | with_reducible rfl | assumption | (simp only [bn]; first | omega | assumption | decide))) | ((first | apply W1.knowTn | apply W1.knowF | apply WQ.knowTn | apply WQ.knowF | apply W.condF); exact rfl; (first | with_reducible rfl | assumption | (simp only [bn]; first | omega | assumption | decide))) | (apply WQ.go; exact rfl; exact rfl) | (apply WQ.no; exact rfl) | ((first | apply W1.bothT | apply W1.bothF | apply WQ.bothT | apply WQ.bothF | apply W.cond); exact rfl; all_goals intro hc; all_goals first | (cases hc; done) | ((try simp only [hc]); (try simp only [bm] at hc))) | refine WO.nil ?_ | refine WB.nil ?_ | refine WP.bag rfl ?_ | refine WP.nil ?_ | refine W.seq ?_ | refine W.reg ?_ | refine W.dreg ?_ | refine W.block ?_ | refine W.ret ?_ | refine W.skip ?_ | refine W.exit ?_ | (simp only [srow_len, List.length_map, Qit, Int.toNat_natCast, entry, Opd.eat, cellsOf, TV.ofCells, allAv, Qseq, Qblk, List.map_cons, List.map_nil, putD, kp, Nat.reduceEqDiff, ↓reduceIte, beq_self_eq_true, Nat.reduceBEq]))
  all_goals first
    | exact hQ _ rfl rfl
    | exact hN (by omega) (hi4 (t := u) (by assumption) (by omega))
    | trace_state
theorem keep0 {st' : St} {u : Str} {X : TV} (h0 : getE st'.env 0 = .av (.str u)) (h1 : getB st'.boxes 0 = none) : st'.keep [0] = St.keep [0] (St.put ⟨lstE [(0, X)], lstB [(0, none)]⟩ 0 (.av (.str u))) := by
  simp only [keep_eq, List.map_cons, List.map_nil, h0, h1]; rfl
theorem vs_asc {T : Tab} {s t : Str} (hp1 : utf t = utf s) (hp2 : t.length ≤ 1073741824) (hw : Fn T F.unicode_utf8_word_string unicode_utf8_word_string.fn) (hne : t ≠ []) (hasc : (bAt t 0).toNat < 128) : VStep T s t := by
  unfold VStep
  have hlen : 0 < t.length := List.length_pos_iff.2 hne
  have hc256 : (bAt t 0).toNat < 256 := (bAt t 0).toNat_lt
  have z0 : Int.toNat 0 = 0 := rfl
  have z1 : Int.toNat 1 = 1 := rfl
  have z2 : Int.toNat 2 = 2 := rfl
  have z3 : Int.toNat 3 = 3 := rfl
  have z4 : Int.toNat 4 = 4 := rfl
  have z8 : Int.toNat 8 = 8 := rfl
  have z16 : Int.toNat 16 = 16 := rfl
  have z24 : Int.toNat 24 = 24 := rfl
  have z32 : Int.toNat 32 = 32 := rfl
  have hasc' : ((bAt t 0).toNat : Int) < 128 := by omega
  have e1 := utf_one hlen hasc
  have d1 : (t.drop 1).length = t.length - 1 := List.length_drop
  have d2 : ((t.drop 1).drop 8).length = t.length - 9 := by simp
  have d3 : (((t.drop 1).drop 8).drop 8).length = t.length - 17 := by simp
  have d4 : (((t.drop 1).drop 8).drop 16).length = t.length - 25 := by simp
  repeat' (first | refine WO.cons ?_ | refine WB.cons ?_ | refine WP.one ?_ | (((first | apply W1.slcN 8 | apply W1.slcN 1 | apply W1.slcN 16 | apply W1.slcN 24 | apply W1.slcN 32); exact rfl; exact rfl; omega)) | (first | (apply WQ.call (hm := hw.modes); (iterate 4 exact rfl)) | (apply W1.callV (hm := hw.modes); (iterate 5 exact rfl); exact (word_ret hw _ (by omega)); exact rfl)) | ((first | apply W1.add64 | apply W1.sub64); (iterate 3 exact rfl); omega; omega) | (apply W1.iadr; (iterate 3 exact rfl); omega; first | assumption | ((first | apply V.get_row | apply get_srow | apply get_ty | apply get_ar | apply get_ob | apply get_sprow | apply get_brow); assumption)) | (apply W1.idxS; (iterate 3 exact rfl); omega; omega) | (apply W1.slcS; (iterate 4 exact rfl); omega) | (apply W1.pickT; exact rfl; exact rfl; (first | with_reducible rfl | assumption | (simp only [bn]; first | omega | assumption | decide)); exact rfl) | (apply W1.pickF; exact rfl; exact rfl; (first | with_reducible rfl | assumption | (simp only [bn]; first | omega | assumption | decide)); exact rfl) | (apply W1.op; (iterate 3 exact rfl)) | (apply W1.no; exact rfl) | ((first | apply W1.knowT | apply W1.knowFn | apply WQ.knowT | apply WQ.knowFn | apply W.condT); exact rfl; (first | with_reducible rfl | assumption | (simp only [bn]; first | omega | assumption | decide))) | ((first | apply W1.knowTn | apply W1.knowF | apply WQ.knowTn | apply WQ.knowF | apply W.condF); exact rfl; (first | with_reducible rfl | assumption | (simp only [bn]; first | omega | assumption | decide))) | (apply WQ.go; exact rfl; exact rfl) | (apply WQ.no; exact rfl) | ((first | apply W1.bothT | apply W1.bothF | apply WQ.bothT | apply WQ.bothF | apply W.cond); exact rfl; all_goals intro hc; all_goals first | (cases hc; done) | ((try simp only [hc]); (try simp only [bm] at hc))) | refine WO.nil ?_ | refine WB.nil ?_ | refine WP.bag rfl ?_ | refine WP.nil ?_ | refine W.seq ?_ | refine W.reg ?_ | refine W.dreg ?_ | refine W.block ?_ | refine W.ret ?_ | refine W.skip ?_ | refine W.exit ?_ | (simp only [srow_len, List.length_map, Qit, Int.toNat_natCast, entry, Opd.eat, cellsOf, TV.ofCells, allAv, Qseq, Qblk, List.map_cons, List.map_nil, putD, kp, Nat.reduceEqDiff, ↓reduceIte, beq_self_eq_true, Nat.reduceBEq]))
  all_goals (try have e2 := (hi1 (t := t.drop 1) (by assumption) (by omega)).trans (e1.trans hp1))
  all_goals first
    | (refine ⟨_, ⟨?_, ?_⟩, ?_, rfl⟩ <;> first | exact e1.trans hp1 | exact e2 | omega)
    | (have e3 := (hi2 (t := (t.drop 1).drop 8) (by assumption) (by omega)).trans e2
       refine W.iterP (β := Str) (fun u s0 => s0.put 0 (.av (.str u))) (fun u => utf u = utf s ∧ u.length ≤ 1073741824 ∧ u.length < t.length) List.length (((t.drop 1).drop 8).drop 16) ⟨e3, by omega, by omega⟩ rfl ?_
       rintro u ⟨q1, q2, q3⟩
       refine vs_inner hw q2 (fun hl hu => ⟨u.drop 32, ⟨hu.trans q1, by rw [List.length_drop]; omega, by rw [List.length_drop]; omega⟩, by rw [List.length_drop]; omega, rfl⟩) ?_
       intro st' h0 h1
       simp only [Qblk, Qseq, ↓reduceIte]
       refine W.exit ?_
       simp only [Qblk, Qseq, Qit, ↓reduceIte, Nat.reduceEqDiff]
       exact ⟨u, ⟨q1, q2⟩, q3, keep0 (X := .av (.str s)) h0 h1⟩)
end Hm

/- Which texts are UTF-8: classes. Conditions: see each theorem. -/
namespace Hm
open Go (IntKind)
set_option maxHeartbeats 40000000
set_option maxRecDepth 4000
theorem vs_c0 {T : Tab} {s t : Str} (hp1 : utf t = utf s) (hp2 : t.length ≤ 1073741824) (hne : t ≠ []) (hasc : ¬ (bAt t 0).toNat < 128) (hf : firZ[(bAt t 0).toNat]? = some 2) (c1 : 194 ≤ (bAt t 0).toNat) (c2 : (bAt t 0).toNat ≤ 223) : VStep T s t := by
  unfold VStep
  have hlen : 0 < t.length := List.length_pos_iff.2 hne
  have hc256 : (bAt t 0).toNat < 256 := (bAt t 0).toNat_lt
  have z0 : Int.toNat 0 = 0 := rfl
  have z1 : Int.toNat 1 = 1 := rfl
  have z2 : Int.toNat 2 = 2 := rfl
  have z3 : Int.toNat 3 = 3 := rfl
  have z4 : Int.toNat 4 = 4 := rfl
  have z8 : Int.toNat 8 = 8 := rfl
  have z16 : Int.toNat 16 = 16 := rfl
  have z24 : Int.toNat 24 = 24 := rfl
  have z32 : Int.toNat 32 = 32 := rfl
  have hasc' : ¬ ((bAt t 0).toNat : Int) < 128 := by omega
  have hwt := utf_cons hne
  have d2 : (t.drop 2).length = t.length - 2 := List.length_drop
  have d3 : (t.drop 3).length = t.length - 3 := List.length_drop
  have d4 : (t.drop 4).length = t.length - 4 := List.length_drop
  obtain ⟨rest, hr⟩ := fir_drop hf
  have hr' : (zavs firZ).drop (Int.toNat ((bAt t 0).toNat : Int) * 1) = .int .u8 2 :: rest := by rw [Int.toNat_natCast, Nat.mul_one]; exact hr
  have hwd := wd_two c1 c2
  repeat' (first | refine zA ?_ | ((simp only [z0, z1, z2, z3, z4])) | ((apply W1.tabA; exact rfl; exact rfl; exact rfl; exact hr'; omega; omega; (rw [fir_len]; omega))) | ((apply W1.load1; exact rfl; exact rfl)) | ((apply W1.slcD; exact rfl; exact rfl; exact rfl; omega)) | refine zB ?_ | (refine zC ?_ ?_ <;> intro hc; all_goals first | (cases hc; done) | ((try simp only [hc]); (try simp only [bm] at hc))) | refine zE ?_ | refine zN ?_ | fail)
  all_goals first
    | (refine Qend.boo rfl rfl ?_; rw [← hp1, hwt, hwd, if_neg (by omega)]; rfl)
    | (have hk : wd t = 2 := by rw [hwd, if_pos (by omega)]
       rw [hk] at hwt
       refine ⟨_, ⟨?_, ?_⟩, ?_, rfl⟩
       · rw [← hp1, hwt]; rfl
       · omega
       · omega)
theorem vs_c1 {T : Tab} {s t : Str} (hp1 : utf t = utf s) (hp2 : t.length ≤ 1073741824) (hne : t ≠ []) (hasc : ¬ (bAt t 0).toNat < 128) (hf : firZ[(bAt t 0).toNat]? = some 19) (c1 : (bAt t 0).toNat = 224) : VStep T s t := by
  unfold VStep
  have hlen : 0 < t.length := List.length_pos_iff.2 hne
  have hc256 : (bAt t 0).toNat < 256 := (bAt t 0).toNat_lt
  have z0 : Int.toNat 0 = 0 := rfl
  have z1 : Int.toNat 1 = 1 := rfl
  have z2 : Int.toNat 2 = 2 := rfl
  have z3 : Int.toNat 3 = 3 := rfl
  have z4 : Int.toNat 4 = 4 := rfl
  have z8 : Int.toNat 8 = 8 := rfl
  have z16 : Int.toNat 16 = 16 := rfl
  have z24 : Int.toNat 24 = 24 := rfl
  have z32 : Int.toNat 32 = 32 := rfl
  have hasc' : ¬ ((bAt t 0).toNat : Int) < 128 := by omega
  have hwt := utf_cons hne
  have d2 : (t.drop 2).length = t.length - 2 := List.length_drop
  have d3 : (t.drop 3).length = t.length - 3 := List.length_drop
  have d4 : (t.drop 4).length = t.length - 4 := List.length_drop
  obtain ⟨rest, hr⟩ := fir_drop hf
  have hr' : (zavs firZ).drop (Int.toNat ((bAt t 0).toNat : Int) * 1) = .int .u8 19 :: rest := by rw [Int.toNat_natCast, Nat.mul_one]; exact hr
  have hwd := wd_three (t := t) 160 191 (by omega) (by omega) (by rw [if_pos (by omega)]) (by rw [if_neg (by omega)])
  repeat' (first | refine zA ?_ | ((simp only [z0, z1, z2, z3, z4])) | ((apply W1.tabA; exact rfl; exact rfl; exact rfl; exact hr'; omega; omega; (rw [fir_len]; omega))) | ((apply W1.load1; exact rfl; exact rfl)) | ((apply W1.slcD; exact rfl; exact rfl; exact rfl; omega)) | refine zB ?_ | (refine zC ?_ ?_ <;> intro hc; all_goals first | (cases hc; done) | ((try simp only [hc]); (try simp only [bm] at hc))) | refine zE ?_ | refine zN ?_ | fail)
  all_goals first
    | (refine Qend.boo rfl rfl ?_; rw [← hp1, hwt, hwd, if_neg (by omega)]; rfl)
    | (have hk : wd t = 3 := by rw [hwd, if_pos (by omega)]
       rw [hk] at hwt
       refine ⟨_, ⟨?_, ?_⟩, ?_, rfl⟩
       · rw [← hp1, hwt]; rfl
       · omega
       · omega)
theorem vs_c2 {T : Tab} {s t : Str} (hp1 : utf t = utf s) (hp2 : t.length ≤ 1073741824) (hne : t ≠ []) (hasc : ¬ (bAt t 0).toNat < 128) (hf : firZ[(bAt t 0).toNat]? = some 3) (c1 : 225 ≤ (bAt t 0).toNat) (c2 : (bAt t 0).toNat ≤ 239) (c3 : (bAt t 0).toNat ≠ 237) : VStep T s t := by
  unfold VStep
  have hlen : 0 < t.length := List.length_pos_iff.2 hne
  have hc256 : (bAt t 0).toNat < 256 := (bAt t 0).toNat_lt
  have z0 : Int.toNat 0 = 0 := rfl
  have z1 : Int.toNat 1 = 1 := rfl
  have z2 : Int.toNat 2 = 2 := rfl
  have z3 : Int.toNat 3 = 3 := rfl
  have z4 : Int.toNat 4 = 4 := rfl
  have z8 : Int.toNat 8 = 8 := rfl
  have z16 : Int.toNat 16 = 16 := rfl
  have z24 : Int.toNat 24 = 24 := rfl
  have z32 : Int.toNat 32 = 32 := rfl
  have hasc' : ¬ ((bAt t 0).toNat : Int) < 128 := by omega
  have hwt := utf_cons hne
  have d2 : (t.drop 2).length = t.length - 2 := List.length_drop
  have d3 : (t.drop 3).length = t.length - 3 := List.length_drop
  have d4 : (t.drop 4).length = t.length - 4 := List.length_drop
  obtain ⟨rest, hr⟩ := fir_drop hf
  have hr' : (zavs firZ).drop (Int.toNat ((bAt t 0).toNat : Int) * 1) = .int .u8 3 :: rest := by rw [Int.toNat_natCast, Nat.mul_one]; exact hr
  have hwd := wd_three (t := t) 128 191 (by omega) (by omega) (by rw [if_neg (by omega)]) (by rw [if_neg (by omega)])
  repeat' (first | refine zA ?_ | ((simp only [z0, z1, z2, z3, z4])) | ((apply W1.tabA; exact rfl; exact rfl; exact rfl; exact hr'; omega; omega; (rw [fir_len]; omega))) | ((apply W1.load1; exact rfl; exact rfl)) | ((apply W1.slcD; exact rfl; exact rfl; exact rfl; omega)) | refine zB ?_ | (refine zC ?_ ?_ <;> intro hc; all_goals first | (cases hc; done) | ((try simp only [hc]); (try simp only [bm] at hc))) | refine zE ?_ | refine zN ?_ | fail)
  all_goals first
    | (refine Qend.boo rfl rfl ?_; rw [← hp1, hwt, hwd, if_neg (by omega)]; rfl)
    | (have hk : wd t = 3 := by rw [hwd, if_pos (by omega)]
       rw [hk] at hwt
       refine ⟨_, ⟨?_, ?_⟩, ?_, rfl⟩
       · rw [← hp1, hwt]; rfl
       · omega
       · omega)
end Hm

/- Which texts are UTF-8: classes. Conditions: see each theorem. -/
namespace Hm
open Go (IntKind)
set_option maxHeartbeats 40000000
set_option maxRecDepth 4000
theorem vs_c3 {T : Tab} {s t : Str} (hp1 : utf t = utf s) (hp2 : t.length ≤ 1073741824) (hne : t ≠ []) (hasc : ¬ (bAt t 0).toNat < 128) (hf : firZ[(bAt t 0).toNat]? = some 35) (c1 : (bAt t 0).toNat = 237) : VStep T s t := by
  unfold VStep
  have hlen : 0 < t.length := List.length_pos_iff.2 hne
  have hc256 : (bAt t 0).toNat < 256 := (bAt t 0).toNat_lt
  have z0 : Int.toNat 0 = 0 := rfl
  have z1 : Int.toNat 1 = 1 := rfl
  have z2 : Int.toNat 2 = 2 := rfl
  have z3 : Int.toNat 3 = 3 := rfl
  have z4 : Int.toNat 4 = 4 := rfl
  have z8 : Int.toNat 8 = 8 := rfl
  have z16 : Int.toNat 16 = 16 := rfl
  have z24 : Int.toNat 24 = 24 := rfl
  have z32 : Int.toNat 32 = 32 := rfl
  have hasc' : ¬ ((bAt t 0).toNat : Int) < 128 := by omega
  have hwt := utf_cons hne
  have d2 : (t.drop 2).length = t.length - 2 := List.length_drop
  have d3 : (t.drop 3).length = t.length - 3 := List.length_drop
  have d4 : (t.drop 4).length = t.length - 4 := List.length_drop
  obtain ⟨rest, hr⟩ := fir_drop hf
  have hr' : (zavs firZ).drop (Int.toNat ((bAt t 0).toNat : Int) * 1) = .int .u8 35 :: rest := by rw [Int.toNat_natCast, Nat.mul_one]; exact hr
  have hwd := wd_three (t := t) 128 159 (by omega) (by omega) (by rw [if_neg (by omega)]) (by rw [if_pos (by omega)])
  repeat' (first | refine zA ?_ | ((simp only [z0, z1, z2, z3, z4])) | ((apply W1.tabA; exact rfl; exact rfl; exact rfl; exact hr'; omega; omega; (rw [fir_len]; omega))) | ((apply W1.load1; exact rfl; exact rfl)) | ((apply W1.slcD; exact rfl; exact rfl; exact rfl; omega)) | refine zB ?_ | (refine zC ?_ ?_ <;> intro hc; all_goals first | (cases hc; done) | ((try simp only [hc]); (try simp only [bm] at hc))) | refine zE ?_ | refine zN ?_ | fail)
  all_goals first
    | (refine Qend.boo rfl rfl ?_; rw [← hp1, hwt, hwd, if_neg (by omega)]; rfl)
    | (have hk : wd t = 3 := by rw [hwd, if_pos (by omega)]
       rw [hk] at hwt
       refine ⟨_, ⟨?_, ?_⟩, ?_, rfl⟩
       · rw [← hp1, hwt]; rfl
       · omega
       · omega)
theorem vs_c4 {T : Tab} {s t : Str} (hp1 : utf t = utf s) (hp2 : t.length ≤ 1073741824) (hne : t ≠ []) (hasc : ¬ (bAt t 0).toNat < 128) (hf : firZ[(bAt t 0).toNat]? = some 52) (c1 : (bAt t 0).toNat = 240) : VStep T s t := by
  unfold VStep
  have hlen : 0 < t.length := List.length_pos_iff.2 hne
  have hc256 : (bAt t 0).toNat < 256 := (bAt t 0).toNat_lt
  have z0 : Int.toNat 0 = 0 := rfl
  have z1 : Int.toNat 1 = 1 := rfl
  have z2 : Int.toNat 2 = 2 := rfl
  have z3 : Int.toNat 3 = 3 := rfl
  have z4 : Int.toNat 4 = 4 := rfl
  have z8 : Int.toNat 8 = 8 := rfl
  have z16 : Int.toNat 16 = 16 := rfl
  have z24 : Int.toNat 24 = 24 := rfl
  have z32 : Int.toNat 32 = 32 := rfl
  have hasc' : ¬ ((bAt t 0).toNat : Int) < 128 := by omega
  have hwt := utf_cons hne
  have d2 : (t.drop 2).length = t.length - 2 := List.length_drop
  have d3 : (t.drop 3).length = t.length - 3 := List.length_drop
  have d4 : (t.drop 4).length = t.length - 4 := List.length_drop
  obtain ⟨rest, hr⟩ := fir_drop hf
  have hr' : (zavs firZ).drop (Int.toNat ((bAt t 0).toNat : Int) * 1) = .int .u8 52 :: rest := by rw [Int.toNat_natCast, Nat.mul_one]; exact hr
  have hwd := wd_four (t := t) 144 191 (by omega) (by omega) (by rw [if_pos (by omega)]) (by rw [if_neg (by omega)])
  repeat' (first | refine zA ?_ | ((simp only [z0, z1, z2, z3, z4])) | ((apply W1.tabA; exact rfl; exact rfl; exact rfl; exact hr'; omega; omega; (rw [fir_len]; omega))) | ((apply W1.load1; exact rfl; exact rfl)) | ((apply W1.slcD; exact rfl; exact rfl; exact rfl; omega)) | refine zB ?_ | (refine zC ?_ ?_ <;> intro hc; all_goals first | (cases hc; done) | ((try simp only [hc]); (try simp only [bm] at hc))) | refine zE ?_ | refine zN ?_ | fail)
  all_goals first
    | (refine Qend.boo rfl rfl ?_; rw [← hp1, hwt, hwd, if_neg (by omega)]; rfl)
    | (have hk : wd t = 4 := by rw [hwd, if_pos (by omega)]
       rw [hk] at hwt
       refine ⟨_, ⟨?_, ?_⟩, ?_, rfl⟩
       · rw [← hp1, hwt]; rfl
       · omega
       · omega)
end Hm

/- Which texts are UTF-8: classes. Conditions: see each theorem. -/
namespace Hm
open Go (IntKind)
set_option maxHeartbeats 40000000
set_option maxRecDepth 4000
theorem vs_c5 {T : Tab} {s t : Str} (hp1 : utf t = utf s) (hp2 : t.length ≤ 1073741824) (hne : t ≠ []) (hasc : ¬ (bAt t 0).toNat < 128) (hf : firZ[(bAt t 0).toNat]? = some 4) (c1 : 241 ≤ (bAt t 0).toNat) (c2 : (bAt t 0).toNat ≤ 243) : VStep T s t := by
  unfold VStep
  have hlen : 0 < t.length := List.length_pos_iff.2 hne
  have hc256 : (bAt t 0).toNat < 256 := (bAt t 0).toNat_lt
  have z0 : Int.toNat 0 = 0 := rfl
  have z1 : Int.toNat 1 = 1 := rfl
  have z2 : Int.toNat 2 = 2 := rfl
  have z3 : Int.toNat 3 = 3 := rfl
  have z4 : Int.toNat 4 = 4 := rfl
  have z8 : Int.toNat 8 = 8 := rfl
  have z16 : Int.toNat 16 = 16 := rfl
  have z24 : Int.toNat 24 = 24 := rfl
  have z32 : Int.toNat 32 = 32 := rfl
  have hasc' : ¬ ((bAt t 0).toNat : Int) < 128 := by omega
  have hwt := utf_cons hne
  have d2 : (t.drop 2).length = t.length - 2 := List.length_drop
  have d3 : (t.drop 3).length = t.length - 3 := List.length_drop
  have d4 : (t.drop 4).length = t.length - 4 := List.length_drop
  obtain ⟨rest, hr⟩ := fir_drop hf
  have hr' : (zavs firZ).drop (Int.toNat ((bAt t 0).toNat : Int) * 1) = .int .u8 4 :: rest := by rw [Int.toNat_natCast, Nat.mul_one]; exact hr
  have hwd := wd_four (t := t) 128 191 (by omega) (by omega) (by rw [if_neg (by omega)]) (by rw [if_neg (by omega)])
  repeat' (first | refine zA ?_ | ((simp only [z0, z1, z2, z3, z4])) | ((apply W1.tabA; exact rfl; exact rfl; exact rfl; exact hr'; omega; omega; (rw [fir_len]; omega))) | ((apply W1.load1; exact rfl; exact rfl)) | ((apply W1.slcD; exact rfl; exact rfl; exact rfl; omega)) | refine zB ?_ | (refine zC ?_ ?_ <;> intro hc; all_goals first | (cases hc; done) | ((try simp only [hc]); (try simp only [bm] at hc))) | refine zE ?_ | refine zN ?_ | fail)
  all_goals first
    | (refine Qend.boo rfl rfl ?_; rw [← hp1, hwt, hwd, if_neg (by omega)]; rfl)
    | (have hk : wd t = 4 := by rw [hwd, if_pos (by omega)]
       rw [hk] at hwt
       refine ⟨_, ⟨?_, ?_⟩, ?_, rfl⟩
       · rw [← hp1, hwt]; rfl
       · omega
       · omega)
theorem vs_c6 {T : Tab} {s t : Str} (hp1 : utf t = utf s) (hp2 : t.length ≤ 1073741824) (hne : t ≠ []) (hasc : ¬ (bAt t 0).toNat < 128) (hf : firZ[(bAt t 0).toNat]? = some 68) (c1 : (bAt t 0).toNat = 244) : VStep T s t := by
  unfold VStep
  have hlen : 0 < t.length := List.length_pos_iff.2 hne
  have hc256 : (bAt t 0).toNat < 256 := (bAt t 0).toNat_lt
  have z0 : Int.toNat 0 = 0 := rfl
  have z1 : Int.toNat 1 = 1 := rfl
  have z2 : Int.toNat 2 = 2 := rfl
  have z3 : Int.toNat 3 = 3 := rfl
  have z4 : Int.toNat 4 = 4 := rfl
  have z8 : Int.toNat 8 = 8 := rfl
  have z16 : Int.toNat 16 = 16 := rfl
  have z24 : Int.toNat 24 = 24 := rfl
  have z32 : Int.toNat 32 = 32 := rfl
  have hasc' : ¬ ((bAt t 0).toNat : Int) < 128 := by omega
  have hwt := utf_cons hne
  have d2 : (t.drop 2).length = t.length - 2 := List.length_drop
  have d3 : (t.drop 3).length = t.length - 3 := List.length_drop
  have d4 : (t.drop 4).length = t.length - 4 := List.length_drop
  obtain ⟨rest, hr⟩ := fir_drop hf
  have hr' : (zavs firZ).drop (Int.toNat ((bAt t 0).toNat : Int) * 1) = .int .u8 68 :: rest := by rw [Int.toNat_natCast, Nat.mul_one]; exact hr
  have hwd := wd_four (t := t) 128 143 (by omega) (by omega) (by rw [if_neg (by omega)]) (by rw [if_pos (by omega)])
  repeat' (first | refine zA ?_ | ((simp only [z0, z1, z2, z3, z4])) | ((apply W1.tabA; exact rfl; exact rfl; exact rfl; exact hr'; omega; omega; (rw [fir_len]; omega))) | ((apply W1.load1; exact rfl; exact rfl)) | ((apply W1.slcD; exact rfl; exact rfl; exact rfl; omega)) | refine zB ?_ | (refine zC ?_ ?_ <;> intro hc; all_goals first | (cases hc; done) | ((try simp only [hc]); (try simp only [bm] at hc))) | refine zE ?_ | refine zN ?_ | fail)
  all_goals first
    | (refine Qend.boo rfl rfl ?_; rw [← hp1, hwt, hwd, if_neg (by omega)]; rfl)
    | (have hk : wd t = 4 := by rw [hwd, if_pos (by omega)]
       rw [hk] at hwt
       refine ⟨_, ⟨?_, ?_⟩, ?_, rfl⟩
       · rw [← hp1, hwt]; rfl
       · omega
       · omega)
theorem vs_c7 {T : Tab} {s t : Str} (hp1 : utf t = utf s) (hp2 : t.length ≤ 1073741824) (hne : t ≠ []) (hasc : ¬ (bAt t 0).toNat < 128) (hf : firZ[(bAt t 0).toNat]? = some 241) (c1 : (bAt t 0).toNat < 194 ∨ 244 < (bAt t 0).toNat) : VStep T s t := by
  unfold VStep
  have hlen : 0 < t.length := List.length_pos_iff.2 hne
  have hc256 : (bAt t 0).toNat < 256 := (bAt t 0).toNat_lt
  have z0 : Int.toNat 0 = 0 := rfl
  have z1 : Int.toNat 1 = 1 := rfl
  have z2 : Int.toNat 2 = 2 := rfl
  have z3 : Int.toNat 3 = 3 := rfl
  have z4 : Int.toNat 4 = 4 := rfl
  have z8 : Int.toNat 8 = 8 := rfl
  have z16 : Int.toNat 16 = 16 := rfl
  have z24 : Int.toNat 24 = 24 := rfl
  have z32 : Int.toNat 32 = 32 := rfl
  have hasc' : ¬ ((bAt t 0).toNat : Int) < 128 := by omega
  have hwt := utf_cons hne
  have d2 : (t.drop 2).length = t.length - 2 := List.length_drop
  have d3 : (t.drop 3).length = t.length - 3 := List.length_drop
  have d4 : (t.drop 4).length = t.length - 4 := List.length_drop
  obtain ⟨rest, hr⟩ := fir_drop hf
  have hr' : (zavs firZ).drop (Int.toNat ((bAt t 0).toNat : Int) * 1) = .int .u8 241 :: rest := by rw [Int.toNat_natCast, Nat.mul_one]; exact hr
  have hwd := wd_none (t := t) (by omega) c1
  repeat' (first | refine zA ?_ | ((simp only [z0, z1, z2, z3, z4])) | ((apply W1.tabA; exact rfl; exact rfl; exact rfl; exact hr'; omega; omega; (rw [fir_len]; omega))) | ((apply W1.load1; exact rfl; exact rfl)) | ((apply W1.slcD; exact rfl; exact rfl; exact rfl; omega)) | refine zB ?_ | (refine zC ?_ ?_ <;> intro hc; all_goals first | (cases hc; done) | ((try simp only [hc]); (try simp only [bm] at hc))) | refine zE ?_ | refine zN ?_ | fail)
  all_goals (refine Qend.boo rfl rfl ?_; rw [← hp1, hwt, hwd]; rfl)
end Hm

/- Which texts are UTF-8, as Go's library has it. Conditions: see each theorem. -/
namespace Hm
open Go (IntKind)
set_option maxHeartbeats 4000000
set_option maxRecDepth 4000
theorem validString_ret {T : Tab} (h : Fn T F.unicode_utf8_ValidString unicode_utf8_ValidString.fn) (hw : Fn T F.unicode_utf8_word_string unicode_utf8_word_string.fn) (s : Str) (hb : s.length ≤ 1073741824) :
    Ret T F.unicode_utf8_ValidString [.val (.str s)] (one (.bool (utf s))) := by
  refine Ret.mk h rfl ?_
  repeat' (first | refine zA ?_ | refine zB ?_ | (refine zC ?_ ?_ <;> intro hc; all_goals first | (cases hc; done) | ((try simp only [hc]); (try simp only [bm] at hc))) | refine zE ?_ | refine zN ?_ | fail)
  refine W.iterP (β := Str) (fun t s0 => s0.put 0 (.av (.str t))) (fun t => utf t = utf s ∧ t.length ≤ 1073741824) List.length s ⟨rfl, hb⟩ rfl ?_
  rintro t ⟨hp1, hp2⟩
  show VStep T s t
  by_cases hne : t = []
  · exact vs_nil hp1 hp2 hne
  · by_cases hasc : (bAt t 0).toNat < 128
    · exact vs_asc hp1 hp2 hw hne hasc
    · rcases fir_cases _ (bAt t 0).toNat_lt (by omega) with ⟨hf, c1, c2⟩ | ⟨hf, c1⟩ | ⟨hf, c1, c2, c3⟩ | ⟨hf, c1⟩ | ⟨hf, c1⟩ | ⟨hf, c1, c2⟩ | ⟨hf, c1⟩ | ⟨hf, c1⟩
      · exact vs_c0 hp1 hp2 hne hasc hf c1 c2
      · exact vs_c1 hp1 hp2 hne hasc hf c1
      · exact vs_c2 hp1 hp2 hne hasc hf c1 c2 c3
      · exact vs_c3 hp1 hp2 hne hasc hf c1
      · exact vs_c4 hp1 hp2 hne hasc hf c1
      · exact vs_c5 hp1 hp2 hne hasc hf c1 c2
      · exact vs_c6 hp1 hp2 hne hasc hf c1
      · exact vs_c7 hp1 hp2 hne hasc hf c1
end Hm

/- The contract of the program's test for UTF-8, by name. Conditions: none (a definition). -/
namespace Hm
def ValidOk (T : Tab) : Prop := ∀ s : Str, s.length ≤ 1073741824 → Ret T F.utf_Valid [.val (.str s)] (one (.bool (utf s)))
end Hm

/- Which texts the program says are UTF-8. Conditions: see each theorem. -/
namespace Hm
open Go (IntKind)
set_option maxHeartbeats 4000000
set_option maxRecDepth 4000
theorem validOk {T : Tab} (hu : Fn T F.utf_Valid utf_Valid.fn) (h : Fn T F.unicode_utf8_ValidString unicode_utf8_ValidString.fn) (hw : Fn T F.unicode_utf8_word_string unicode_utf8_word_string.fn) : ValidOk T := by
  intro s hb
  have r := validString_ret h hw s hb
  refine Ret.mk hu rfl ?_
  repeat' (first | refine zA ?_ | refine WQ.cl h.modes ?_ | refine W1.cl h.modes (r) ?_ | refine zB ?_ | (refine zC ?_ ?_ <;> intro hc; all_goals first | (cases hc; done) | ((try simp only [hc]); (try simp only [bm] at hc))) | refine zE ?_ | refine zN ?_ | fail)
  exact Qend.boo rfl rfl rfl
end Hm

/- Which values the program says are well shaped, and the law. Conditions: see each theorem. -/
namespace Hm
open Go (IntKind)
set_option maxHeartbeats 4000000
set_option maxRecDepth 4000
structure VfFns (T : Tab) : Prop where
  a1 : Fn T F.value_Formed value_Formed.fn
  a2 : Fn T F.value_allFormed value_allFormed.fn
  a3 : Fn T F.value_allFormed_S1 value_allFormed_S1.fn
  a4 : Fn T F.value_empty value_empty.fn
  a5 : Fn T F.value_rise value_rise.fn
  a6 : Fn T F.utf_Valid utf_Valid.fn
  a7 : Fn T F.tens_Formed tens_Formed.fn
  a8 : Fn T F.slices_ContainsFunc_LValue_Value slices_ContainsFunc_LValue_Value.fn
  a9 : Fn T F.slices_IndexFunc_LValue_Value slices_IndexFunc_LValue_Value.fn
section
variable {T : Tab}
theorem indexFuncV_ret (h : Fn T F.slices_IndexFunc_LValue_Value slices_IndexFunc_LValue_Value.fn) {p : V → Bool} {g : Nat} (hg : T.modes g = [.val]) (l : List V) (hl : l.length ≤ 1073741824)
    (ih : ∀ x ∈ l, Ret T g [.val x.av] (one (.bool (p x)))) : ∃ n : Int, (0 ≤ n ↔ l.any p = true) ∧ Ret T F.slices_IndexFunc_LValue_Value [.val (.lst 5 (l.map V.row)), .val (.clo g [] [])] (one (.int .i64 n)) := by
  have e1 : (l.map V.row).length = l.length := List.length_map ..
  refine Ret.ex1 (g := fun n => AV.int .i64 n) (R := fun n => (0 ≤ n ↔ l.any p = true)) h rfl ?_
  repeat' (first | refine zA ?_ | refine zB ?_ | (refine zC ?_ ?_ <;> intro hc; all_goals first | (cases hc; done) | ((try simp only [hc]); (try simp only [bm] at hc))) | refine zE ?_ | refine zN ?_ | fail)
  refine W.listP l (fun i (_ : Unit) s => s.put 8 (.av (.int .i64 (i : Int)))) (fun i _ => (l.take i).any p = false) () (by simp) rfl ?_ ?_
  · intro i x u hx hi hp
    have r := ih x (List.mem_of_getElem? hx)
    rw [V.av_eq] at r
    repeat' (first | refine zA ?_ | refine WQ.cl hg ?_ | refine W1.cl hg (r) ?_ | refine zB ?_ | (refine zC ?_ ?_ <;> intro hc; all_goals first | (cases hc; done) | ((try simp only [hc]); (try simp only [bm] at hc))) | refine zE ?_ | refine zN ?_ | fail)
    all_goals clear r
    · refine ⟨_, ?_, Qend.num rfl rfl rfl⟩
      have : l.any p = true := List.any_eq_true.2 ⟨x, List.mem_of_getElem? hx, by assumption⟩
      simp [this]
    · refine ⟨(), ?_, rfl⟩
      rw [List.take_add_one, hx, List.any_append, hp]; simp_all
  · intro u hp
    rw [List.take_length] at hp
    repeat' (first | refine zA ?_ | refine zB ?_ | (refine zC ?_ ?_ <;> intro hc; all_goals first | (cases hc; done) | ((try simp only [hc]); (try simp only [bm] at hc))) | refine zE ?_ | refine zN ?_ | fail)
    refine ⟨_, ?_, Qend.num rfl rfl rfl⟩
    rw [hp]; simp
theorem containsFuncV_ret (h : Fn T F.slices_ContainsFunc_LValue_Value slices_ContainsFunc_LValue_Value.fn) (hi : Fn T F.slices_IndexFunc_LValue_Value slices_IndexFunc_LValue_Value.fn) {p : V → Bool} {g : Nat} (hg : T.modes g = [.val]) (l : List V) (hl : l.length ≤ 1073741824)
    (ih : ∀ x ∈ l, Ret T g [.val x.av] (one (.bool (p x)))) : Ret T F.slices_ContainsFunc_LValue_Value [.val (.lst 5 (l.map V.row)), .val (.clo g [] [])] (one (.bool (l.any p))) := by
  obtain ⟨n, hn, r⟩ := indexFuncV_ret hi hg l hl ih
  refine Ret.mk h rfl ?_
  repeat' (first | refine zA ?_ | refine WQ.cl hi.modes ?_ | refine W1.cl hi.modes (r) ?_ | refine zB ?_ | (refine zC ?_ ?_ <;> intro hc; all_goals first | (cases hc; done) | ((try simp only [hc]); (try simp only [bm] at hc))) | refine zE ?_ | refine zN ?_ | fail)
  refine Qend.boo rfl rfl ?_
  rw [Bool.eq_iff_iff, ← hn]; simp
theorem vrise_ret (h : Fn T F.value_rise value_rise.fn) (hu : Fn T F.utf_Valid utf_Valid.fn) (hv : ValidOk T) (l : List Str) (hb : sbk l ≤ 1073741824) : Ret T F.value_rise [.val (.lst 1 (srow l))] (one (.bool (rise l))) := by
  refine Ret.mk h rfl ?_
  have hl := len_sbk l
  have e1 := srow_len l
  repeat' (first | refine zA ?_ | refine zB ?_ | (refine zC ?_ ?_ <;> intro hc; all_goals first | (cases hc; done) | ((try simp only [hc]); (try simp only [bm] at hc))) | refine zE ?_ | refine zN ?_ | fail)
  refine W.listP l (fun i (_ : Unit) s => s.put 7 (.av (.int .i64 (i : Int)))) (fun i _ => ∀ j < i, riseAt l j = true) () (by simp) rfl ?_ ?_
  · intro i x u hx hi hp
    have hsx := sbk_mem (List.mem_of_getElem? hx)
    have hret := hv x (by omega)
    have hgx : l.getD i [] = x := by simp [List.getD, hx]
    by_cases h0 : i = 0
    · subst h0
      repeat' (first | refine zA ?_ | refine WQ.cl hu.modes ?_ | refine W1.cl hu.modes (hret) ?_ | refine zB ?_ | (refine zC ?_ ?_ <;> intro hc; all_goals first | (cases hc; done) | ((try simp only [hc]); (try simp only [bm] at hc))) | refine zE ?_ | refine zN ?_ | fail)
      all_goals clear hret hv
      all_goals first
        | (refine Qend.boo rfl rfl ?_; rw [rise_false hi (by simp_all [riseAt])]; done)
        | (refine ⟨(), fun j hj => ?_, rfl⟩; obtain rfl : j = 0 := by omega
           simp_all [riseAt]; done)
        | (exfalso; omega)
    · obtain ⟨y, hy⟩ : ∃ y, l[i - 1]? = some y := ⟨l[i - 1]'(by omega), List.getElem?_eq_getElem (by omega)⟩
      have hgy : l.getD (i - 1) [] = y := by simp [List.getD, hy]
      have hry : (srow l)[((i : Int) - 1).toNat]? = some [.str y] := by
        have : ((i : Int) - 1).toNat = i - 1 := by omega
        rw [this]; exact get_srow hy
      repeat' (first | refine zA ?_ | refine WQ.cl hu.modes ?_ | refine W1.cl hu.modes (hret) ?_ | refine zB ?_ | (refine zC ?_ ?_ <;> intro hc; all_goals first | (cases hc; done) | ((try simp only [hc]); (try simp only [bm] at hc))) | refine zE ?_ | refine zN ?_ | fail)
      all_goals clear hret hv
      all_goals first
        | (refine Qend.boo rfl rfl ?_; rw [rise_false hi (by simp_all [riseAt])]; done)
        | (refine ⟨(), fun j hj => ?_, rfl⟩
           by_cases hji : j < i
           · exact hp j hji
           · obtain rfl : j = i := by omega
             simp_all [riseAt])
        | (exfalso; omega)
  · intro u hp
    repeat' (first | refine zA ?_ | refine zB ?_ | (refine zC ?_ ?_ <;> intro hc; all_goals first | (cases hc; done) | ((try simp only [hc]); (try simp only [bm] at hc))) | refine zE ?_ | refine zN ?_ | fail)
    refine Qend.boo rfl rfl ?_
    rw [rise_true hp]
theorem vempty_ret (h : Fn T F.value_empty value_empty.fn) (v : V) (a b c d : Bool) : Ret T F.value_empty [.val v.av, .val (.bool a), .val (.bool b), .val (.bool c), .val (.bool d)]
    (one (.bool ((a || v.num == []) && (b || v.text == []) && (c || decide (v.items.length = 0)) && (d || decide (v.keys.length = 0))))) := by
  have e1 := srow_len v.keys
  have e2 : (v.items.map V.row).length = v.items.length := List.length_map ..
  have z : ∀ n : Nat, ((n : Int) == 0) = decide (n = 0) := fun n => by rw [Bool.eq_iff_iff]; simp
  refine Ret.mk h rfl ?_
  rw [V.av_eq]
  repeat' (first | refine zA ?_ | refine zB ?_ | (refine zC ?_ ?_ <;> intro hc; all_goals first | (cases hc; done) | ((try simp only [hc]); (try simp only [bm] at hc))) | refine zE ?_ | refine zN ?_ | fail)
  all_goals refine Qend.boo rfl rfl ?_
  all_goals clear h
  all_goals first | (simp_all; done) | (rw [Bool.eq_iff_iff]; simp_all; done) | (simp_all [z]; done) | (rw [Bool.eq_iff_iff]; simp_all [z]; done)
theorem vformed_eq (k : Int) (n t : Str) (is : List V) (ks : List Str) : formed (.mk k n t is ks) = (decide (0 ≤ k) && decide (k ≤ 6) && (if k = 3 then number n else decide (n = [])) && (if k = 4 then utf t else decide (t = [])) && (decide (5 ≤ k) || decide (is.length = 0)) && (decide (6 ≤ k) || decide (ks.length = 0)) &&
    (decide (k ≠ 6) || (decide (is.length = ks.length) && rise ks)) && is.all formed) := by
  have q : ∀ a b : Nat, (a == b) = decide (b = a) := fun a b => by rw [Bool.eq_iff_iff, beq_iff_eq, decide_eq_true_eq]; exact eq_comm
  simp only [formed, formedAll_eq]
  rw [Bool.eq_iff_iff]
  simp only [Bool.and_eq_true, Bool.or_eq_true, Bool.not_eq_true', Bool.or_eq_false_iff, Bool.and_eq_false_iff, decide_eq_true_eq, decide_eq_false_iff_not, q]
  grind
theorem valueFormed_ret (f : VfFns T) (hv : ValidOk T) : ∀ (v : V), v.bk ≤ 1073741824 → Ret T F.value_Formed [.val v.av] (one (.bool (formed v))) := by
  intro v
  induction v using V.ind with
  | h v ih =>
  intro hb
  have hbk := V.bk_eq v
  have hk := len_sbk v.keys
  have hl := V.len_bks v.items
  have e1 := srow_len v.keys
  have e2 : (v.items.map V.row).length = v.items.length := List.length_map ..
  have z : ∀ n : Nat, ((n : Int) == 0) = decide (n = 0) := fun n => by rw [Bool.eq_iff_iff]; simp
  have r1 := tensFormed_ret f.a7 v.num (by omega)
  have r2 := hv v.text (by omega)
  have r3 := vrise_ret f.a5 f.a6 hv v.keys (by omega)
  have r0 := vempty_ret f.a4 v
  have rc : ∀ x ∈ v.items, Ret T F.value_allFormed_S1 [.val x.av] (one (.bool (!formed x))) := fun x hx => by
    have r := ih x hx (by have := V.bk_item hx; omega)
    refine Ret.mk f.a3 rfl ?_
    rw [V.av_eq] at *
    repeat' (first | refine zA ?_ | refine WQ.cl f.a1.modes ?_ | refine W1.cl f.a1.modes (r) ?_ | refine zB ?_ | (refine zC ?_ ?_ <;> intro hc; all_goals first | (cases hc; done) | ((try simp only [hc]); (try simp only [bm] at hc))) | refine zE ?_ | refine zN ?_ | fail)
    exact Qend.boo rfl rfl rfl
  have r5 := containsFuncV_ret f.a8 f.a9 (p := fun x => !formed x) f.a3.modes v.items (by omega) rc
  have r4 : Ret T F.value_allFormed [.val (.lst 5 (v.items.map V.row))] (one (.bool (v.items.all formed))) := by
    refine Ret.mk f.a2 rfl ?_
    repeat' (first | refine zA ?_ | refine WQ.cl f.a8.modes ?_ | refine W1.cl f.a8.modes (r5) ?_ | refine zB ?_ | (refine zC ?_ ?_ <;> intro hc; all_goals first | (cases hc; done) | ((try simp only [hc]); (try simp only [bm] at hc))) | refine zE ?_ | refine zN ?_ | fail)
    refine Qend.boo rfl rfl ?_
    rw [List.all_eq_not_any_not]
  clear r5 rc ih hv
  refine Ret.mk f.a1 rfl ?_
  obtain ⟨k, n, t, is, ks⟩ := v
  rw [vformed_eq]
  rw [V.av_eq] at *
  simp only [V.kind, V.num, V.text, V.items, V.keys] at *
  repeat' (first | refine zA ?_ | refine WQ.cl f.a4.modes ?_ | refine W1.cl f.a4.modes (r0 _ _ _ _) ?_ | refine WQ.cl f.a7.modes ?_ | refine W1.cl f.a7.modes (r1) ?_ | refine WQ.cl f.a6.modes ?_ | refine W1.cl f.a6.modes (r2) ?_ | refine WQ.cl f.a5.modes ?_ | refine W1.cl f.a5.modes (r3) ?_ | refine WQ.cl f.a2.modes ?_ | refine W1.cl f.a2.modes (r4) ?_ | refine zB ?_ | (refine zC ?_ ?_ <;> intro hc; all_goals first | (cases hc; done) | ((try simp only [hc]); (try simp only [bm] at hc))) | refine zE ?_ | refine zN ?_ | fail)
  all_goals refine Qend.boo rfl rfl ?_
  all_goals clear r0 r1 r2 r3 r4 hb hbk hk hl e1 e2
  all_goals (try simp only [List.length_map, srow_len, Int.natCast_inj] at *)
  all_goals first
    | (simp_all; done)
    | (simp_all; omega)
    | (rw [Bool.eq_iff_iff]; simp_all; done)
    | (rw [Bool.eq_iff_iff]; simp_all; omega)
    | trace_state
end
end Hm

/- The law of the near type of any value. Conditions: see each theorem. NORMX NORMY -/
namespace Hm
open Go (IntKind)
set_option maxHeartbeats 40000000
set_option maxRecDepth 4000
noncomputable def ofT (v : V) : Ty := if formed v then nearT v 8 else neverT
def ofE (v : V) : Int := if formed v then 0 else 1
section
variable {T : Tab}
theorem ex2 {f : Nat} {fn : AFun} {as : List Arg} {row : List AV} {e : Int} (h : Fn T f fn) (hfit : fits fn.params as = true) (hw : W T fn.body ⟨lstE (entry 0 as).1, lstB (entry 0 as).2⟩ (fun x st => ∃ C, sealRow C = row ∧ Qend fn as ⟨[(C, true), ([.av (.int .i64 e)], false)], []⟩ x st)) : ∃ C, sealRow C = row ∧ Ret T f as ⟨[(C, true), ([.av (.int .i64 e)], false)], []⟩ := by
  have main : ∃ r : CR, (∃ C, sealRow C = row ∧ r = ⟨[(C, true), ([.av (.int .i64 e)], false)], []⟩) ∧ Ret T f as r := by
    refine Ret.ex h hfit (hw.mono fun e st hq => ?_)
    obtain ⟨C, hC, hq⟩ := hq
    exact ⟨_, ⟨C, hC, rfl⟩, hq⟩
  obtain ⟨r, ⟨C, hC, rfl⟩, hr⟩ := main
  exact ⟨C, hC, hr⟩
theorem shapeOf_ret (h : Fn T F.shape_Of shape_Of.fn) (f : NrFns T) (c : TcFns T) (q : VfFns T) (hv : ValidOk T) (v : V) (hb : v.bk ≤ 10000000) :
    ∃ C, sealRow C = (ofT v).row ∧ Ret T F.shape_Of [.val v.av] ⟨[(C, true), ([.av (.int .i64 (ofE v))], false)], []⟩ := by
  have r1 := valueFormed_ret q hv v (by omega)
  refine ex2 h rfl ?_
  unfold ofT ofE
  cases hf : formed v
  · rw [hf] at r1
    rw [V.av_eq] at *
    repeat' (first | refine zA ?_ | (refine W1.bC ?_) | refine WQ.cl q.a1.modes ?_ | refine W1.cl q.a1.modes (r1) ?_ | refine zB ?_ | (refine zC ?_ ?_ <;> intro hc; all_goals first | (cases hc; done) | ((try simp only [hc]); (try simp only [bm] at hc))) | refine zE ?_ | refine zNV ?_ | fail)
    all_goals first | exact ⟨_, rfl, .inr rfl, rfl, rfl⟩ | (exfalso; simp_all; done)
  · rw [hf] at r1
    obtain ⟨C, hC, r2⟩ := near_ret f c v hb hf 8 (by omega)
    rw [if_pos rfl, if_pos rfl]
    rw [Ty.row_eq] at *
    generalize nearT v 8 = w at *
    rw [V.av_eq] at *
    repeat' (first | refine zA ?_ | (refine W1.cd1 f.a1.modes hC r2 ?_) | refine WQ.cl q.a1.modes ?_ | refine W1.cl q.a1.modes (r1) ?_ | refine zB ?_ | (refine zC ?_ ?_ <;> intro hc; all_goals first | (cases hc; done) | ((try simp only [hc]); (try simp only [bm] at hc))) | refine zE ?_ | refine zNV ?_ | fail)
    all_goals first | exact ⟨_, rfl, .inr rfl, rfl, rfl⟩ | (exfalso; simp_all; done)
end
end Hm

/- The law of the near type of any value: the reference. Conditions: see each theorem. NORMX NORMY -/
namespace Hm
open Go (IntKind)
set_option maxHeartbeats 40000000
set_option maxRecDepth 4000
section
variable {T : Tab}
theorem refOf_ret (h : Fn T F.hallmarkref09_Of hallmarkref09_Of.fn) (f : NeFns T) (c : RcFns T) (p8 : Fn T F.hallmarkref03_Formed hallmarkref03_Formed.fn) (p9 : Fn T F.hallmarkref03_All hallmarkref03_All.fn)
    (a5 : Fn T F.hallmarkref03_Rise hallmarkref03_Rise.fn) (a6 : Fn T F.hallmarkref03_UTF hallmarkref03_UTF.fn) (a7 : Fn T F.hallmarkref03_width hallmarkref03_width.fn) (a8 : Fn T F.hallmarkref03_trail hallmarkref03_trail.fn) (b5 : Fn T F.hallmarkref03_Number hallmarkref03_Number.fn) (v : V) (hb : v.bk ≤ 10000000) :
    ∃ C, sealRow C = (ofT v).row ∧ Ret T F.hallmarkref09_Of [.val v.av] ⟨[(C, true), ([.av (.int .i64 (ofE v))], false)], []⟩ := by
  have r1 := refFormed_ret p8 p9 b5 a5 a6 a7 a8 v (by omega)
  refine ex2 h rfl ?_
  unfold ofT ofE
  cases hf : formed v
  · rw [hf] at r1
    rw [V.av_eq] at *
    repeat' (first | refine zA ?_ | (refine W1.bC ?_) | refine WQ.cl p8.modes ?_ | refine W1.cl p8.modes (r1) ?_ | refine zB ?_ | (refine zC ?_ ?_ <;> intro hc; all_goals first | (cases hc; done) | ((try simp only [hc]); (try simp only [bm] at hc))) | refine zE ?_ | refine zNV ?_ | fail)
    all_goals first | exact ⟨_, rfl, .inr rfl, rfl, rfl⟩ | (exfalso; simp_all; done)
  · rw [hf] at r1
    obtain ⟨C, hC, r2⟩ := refNear_ret f c v hb hf 8 (by omega)
    rw [if_pos rfl, if_pos rfl]
    rw [Ty.row_eq] at *
    generalize nearT v 8 = w at *
    rw [V.av_eq] at *
    repeat' (first | refine zA ?_ | (refine W1.cd1 f.a1.modes hC r2 ?_) | refine WQ.cl p8.modes ?_ | refine W1.cl p8.modes (r1) ?_ | refine zB ?_ | (refine zC ?_ ?_ <;> intro hc; all_goals first | (cases hc; done) | ((try simp only [hc]); (try simp only [bm] at hc))) | refine zE ?_ | refine zNV ?_ | fail)
    all_goals first | exact ⟨_, rfl, .inr rfl, rfl, rfl⟩ | (exfalso; simp_all; done)
end
end Hm

/- Types alike. Conditions: see each theorem. -/
namespace Hm
open Go (IntKind)
set_option maxHeartbeats 4000000
set_option maxRecDepth 4000
theorem arav6_eq (x : Ar) : AV.agg x.row = .agg [.bool x.item.all, .bool x.item.nul, .bool x.item.fls, .bool x.item.tru, .lst 2 (sprow x.item.nums), .bool x.item.anyText, .lst 1 (srow x.item.texts), .lst 11 (x.item.arrays.map Ar.row), .lst 12 (x.item.objects.map Ob.row), .int .i64 x.min, .int .i64 x.max] := by rw [Ar.row_eq]
theorem obav6_eq (x : Ob) : AV.agg x.row = .agg [.lst 1 (srow x.names), .lst 9 (x.fields.map Ty.row), .lst 1 (brow x.must), .bool x.rest.all, .bool x.rest.nul, .bool x.rest.fls, .bool x.rest.tru, .lst 2 (sprow x.rest.nums), .bool x.rest.anyText, .lst 1 (srow x.rest.texts), .lst 11 (x.rest.arrays.map Ar.row), .lst 12 (x.rest.objects.map Ob.row)] := by rw [Ob.row_eq]
theorem sameStrings_ret {T : Tab} (h : Fn T F.hallmarkkit_SameStrings hallmarkkit_SameStrings.fn) (l m : List Str) (hl : l.length ≤ 1073741824) (hm : m.length ≤ 1073741824) :
    Ret T F.hallmarkkit_SameStrings [.val (.lst 1 (srow l)), .val (.lst 1 (srow m))] (one (.bool (eqB l m))) := by
  have e1 : (srow l).length = l.length := srow_len l
  have e2 : (srow m).length = m.length := srow_len m
  refine Ret.mk h rfl ?_
  by_cases hlen : l.length = m.length
  · skip
    repeat' (first | refine zA ?_ | refine zB ?_ | (refine zC ?_ ?_ <;> intro hc; all_goals first | (cases hc; done) | ((try simp only [hc]); (try simp only [bm] at hc))) | refine zE ?_ | refine zN ?_ | fail)
    refine W.listP l (fun i (_ : Unit) s => s.put 5 (.av (.int .i64 (i : Int)))) (fun i _ => l.take i = m.take i) () rfl rfl ?_ ?_
    · intro i x u hx hi hp
      obtain ⟨y, hy⟩ : ∃ y, m[i]? = some y := ⟨m[i]'(by omega), List.getElem?_eq_getElem (by omega)⟩
      by_cases hxy : x = y
      · subst hxy
        repeat' (first | refine zA ?_ | refine zB ?_ | (refine zC ?_ ?_ <;> intro hc; all_goals first | (cases hc; done) | ((try simp only [hc]); (try simp only [bm] at hc))) | refine zE ?_ | refine zN ?_ | fail)
        all_goals first | exact ⟨(), by rw [List.take_add_one, List.take_add_one, hp, hx, hy], rfl⟩ | (exfalso; simp_all; done)
      · have hne : ¬ l = m := fun e => by rw [e, hy] at hx; cases hx; exact hxy rfl
        repeat' (first | refine zA ?_ | refine zB ?_ | (refine zC ?_ ?_ <;> intro hc; all_goals first | (cases hc; done) | ((try simp only [hc]); (try simp only [bm] at hc))) | refine zE ?_ | refine zN ?_ | fail)
        all_goals first | exact Qend.boo rfl rfl (eqB_ne hne).symm | (exfalso; simp_all; done)
    · intro u hp
      rw [List.take_length, hlen, List.take_length] at hp
      subst hp
      repeat' (first | refine zA ?_ | refine zB ?_ | (refine zC ?_ ?_ <;> intro hc; all_goals first | (cases hc; done) | ((try simp only [hc]); (try simp only [bm] at hc))) | refine zE ?_ | refine zN ?_ | fail)
      exact Qend.boo rfl rfl (eqB_self l).symm
  · have hne : ¬ l = m := fun e => hlen (by rw [e])
    repeat' (first | refine zA ?_ | refine zB ?_ | (refine zC ?_ ?_ <;> intro hc; all_goals first | (cases hc; done) | ((try simp only [hc]); (try simp only [bm] at hc))) | refine zE ?_ | refine zN ?_ | fail)
    all_goals first | exact Qend.boo rfl rfl (eqB_ne hne).symm | (exfalso; omega)
theorem sameBools_ret {T : Tab} (h : Fn T F.hallmarkkit_SameBools hallmarkkit_SameBools.fn) (l m : List Bool) (hl : l.length ≤ 1073741824) (hm : m.length ≤ 1073741824) :
    Ret T F.hallmarkkit_SameBools [.val (.lst 1 (brow l)), .val (.lst 1 (brow m))] (one (.bool (eqB l m))) := by
  have e1 : (brow l).length = l.length := brow_len l
  have e2 : (brow m).length = m.length := brow_len m
  refine Ret.mk h rfl ?_
  by_cases hlen : l.length = m.length
  · skip
    repeat' (first | refine zA ?_ | refine zB ?_ | (refine zC ?_ ?_ <;> intro hc; all_goals first | (cases hc; done) | ((try simp only [hc]); (try simp only [bm] at hc))) | refine zE ?_ | refine zN ?_ | fail)
    refine W.listP l (fun i (_ : Unit) s => s.put 5 (.av (.int .i64 (i : Int)))) (fun i _ => l.take i = m.take i) () rfl rfl ?_ ?_
    · intro i x u hx hi hp
      obtain ⟨y, hy⟩ : ∃ y, m[i]? = some y := ⟨m[i]'(by omega), List.getElem?_eq_getElem (by omega)⟩
      by_cases hxy : x = y
      · subst hxy
        repeat' (first | refine zA ?_ | refine zB ?_ | (refine zC ?_ ?_ <;> intro hc; all_goals first | (cases hc; done) | ((try simp only [hc]); (try simp only [bm] at hc))) | refine zE ?_ | refine zN ?_ | fail)
        all_goals first | exact ⟨(), by rw [List.take_add_one, List.take_add_one, hp, hx, hy], rfl⟩ | (exfalso; simp_all; done)
      · have hne : ¬ l = m := fun e => by rw [e, hy] at hx; cases hx; exact hxy rfl
        repeat' (first | refine zA ?_ | refine zB ?_ | (refine zC ?_ ?_ <;> intro hc; all_goals first | (cases hc; done) | ((try simp only [hc]); (try simp only [bm] at hc))) | refine zE ?_ | refine zN ?_ | fail)
        all_goals first | exact Qend.boo rfl rfl (eqB_ne hne).symm | (exfalso; simp_all; done)
    · intro u hp
      rw [List.take_length, hlen, List.take_length] at hp
      subst hp
      repeat' (first | refine zA ?_ | refine zB ?_ | (refine zC ?_ ?_ <;> intro hc; all_goals first | (cases hc; done) | ((try simp only [hc]); (try simp only [bm] at hc))) | refine zE ?_ | refine zN ?_ | fail)
      exact Qend.boo rfl rfl (eqB_self l).symm
  · have hne : ¬ l = m := fun e => hlen (by rw [e])
    repeat' (first | refine zA ?_ | refine zB ?_ | (refine zC ?_ ?_ <;> intro hc; all_goals first | (cases hc; done) | ((try simp only [hc]); (try simp only [bm] at hc))) | refine zE ?_ | refine zN ?_ | fail)
    all_goals first | exact Qend.boo rfl rfl (eqB_ne hne).symm | (exfalso; omega)
theorem sameSpans_ret {T : Tab} (h : Fn T F.hallmarkkit_SameSpans hallmarkkit_SameSpans.fn) (l m : List Spn) (hl : l.length ≤ 1073741824) (hm : m.length ≤ 1073741824)
    (hg : Fn T F.hallmarkkit_SameSpan hallmarkkit_SameSpan.fn) (ih : ∀ x ∈ l, ∀ y ∈ m, Ret T F.hallmarkkit_SameSpan [.val (.agg [.str x.1, .str x.2]), .val (.agg [.str y.1, .str y.2])] (one (.bool (eqB x y)))) :
    Ret T F.hallmarkkit_SameSpans [.val (.lst 2 (sprow l)), .val (.lst 2 (sprow m))] (one (.bool (eqB l m))) := by
  have e1 : (sprow l).length = l.length := sprow_len l
  have e2 : (sprow m).length = m.length := sprow_len m
  refine Ret.mk h rfl ?_
  by_cases hlen : l.length = m.length
  · skip
    repeat' (first | refine zA ?_ | refine zB ?_ | (refine zC ?_ ?_ <;> intro hc; all_goals first | (cases hc; done) | ((try simp only [hc]); (try simp only [bm] at hc))) | refine zE ?_ | refine zN ?_ | fail)
    refine W.listP l (fun i (_ : Unit) s => s.put 5 (.av (.int .i64 (i : Int)))) (fun i _ => l.take i = m.take i) () rfl rfl ?_ ?_
    · intro i x u hx hi hp
      obtain ⟨y, hy⟩ : ∃ y, m[i]? = some y := ⟨m[i]'(by omega), List.getElem?_eq_getElem (by omega)⟩
      have r := ih x (List.mem_of_getElem? hx) y (List.mem_of_getElem? hy)
      by_cases hxy : x = y
      · subst hxy
        rw [eqB_self] at r
        repeat' (first | refine zA ?_ | refine WQ.cl hg.modes ?_ | refine W1.cl hg.modes (r) ?_ | refine zB ?_ | (refine zC ?_ ?_ <;> intro hc; all_goals first | (cases hc; done) | ((try simp only [hc]); (try simp only [bm] at hc))) | refine zE ?_ | refine zN ?_ | fail)
        all_goals first | exact ⟨(), by rw [List.take_add_one, List.take_add_one, hp, hx, hy], rfl⟩ | (exfalso; simp_all; done)
      · have hne : ¬ l = m := fun e => by rw [e, hy] at hx; cases hx; exact hxy rfl
        rw [eqB_ne hxy] at r
        repeat' (first | refine zA ?_ | refine WQ.cl hg.modes ?_ | refine W1.cl hg.modes (r) ?_ | refine zB ?_ | (refine zC ?_ ?_ <;> intro hc; all_goals first | (cases hc; done) | ((try simp only [hc]); (try simp only [bm] at hc))) | refine zE ?_ | refine zN ?_ | fail)
        all_goals first | exact Qend.boo rfl rfl (eqB_ne hne).symm | (exfalso; simp_all; done)
    · intro u hp
      rw [List.take_length, hlen, List.take_length] at hp
      subst hp
      repeat' (first | refine zA ?_ | refine zB ?_ | (refine zC ?_ ?_ <;> intro hc; all_goals first | (cases hc; done) | ((try simp only [hc]); (try simp only [bm] at hc))) | refine zE ?_ | refine zN ?_ | fail)
      exact Qend.boo rfl rfl (eqB_self l).symm
  · have hne : ¬ l = m := fun e => hlen (by rw [e])
    repeat' (first | refine zA ?_ | refine zB ?_ | (refine zC ?_ ?_ <;> intro hc; all_goals first | (cases hc; done) | ((try simp only [hc]); (try simp only [bm] at hc))) | refine zE ?_ | refine zN ?_ | fail)
    all_goals first | exact Qend.boo rfl rfl (eqB_ne hne).symm | (exfalso; omega)
theorem sameArrs_ret {T : Tab} (h : Fn T F.hallmarkkit_SameArrs hallmarkkit_SameArrs.fn) (l m : List Ar) (hl : l.length ≤ 1073741824) (hm : m.length ≤ 1073741824)
    (hg : Fn T F.hallmarkkit_SameArr hallmarkkit_SameArr.fn) (ih : ∀ x ∈ l, ∀ y ∈ m, Ret T F.hallmarkkit_SameArr [.val (.agg x.row), .val (.agg y.row)] (one (.bool (eqB x y)))) :
    Ret T F.hallmarkkit_SameArrs [.val (.lst 11 (l.map Ar.row)), .val (.lst 11 (m.map Ar.row))] (one (.bool (eqB l m))) := by
  have e1 : (l.map Ar.row).length = l.length := List.length_map ..
  have e2 : (m.map Ar.row).length = m.length := List.length_map ..
  refine Ret.mk h rfl ?_
  by_cases hlen : l.length = m.length
  · skip
    repeat' (first | refine zA ?_ | refine zB ?_ | (refine zC ?_ ?_ <;> intro hc; all_goals first | (cases hc; done) | ((try simp only [hc]); (try simp only [bm] at hc))) | refine zE ?_ | refine zN ?_ | fail)
    refine W.listP l (fun i (_ : Unit) s => s.put 5 (.av (.int .i64 (i : Int)))) (fun i _ => l.take i = m.take i) () rfl rfl ?_ ?_
    · intro i x u hx hi hp
      obtain ⟨y, hy⟩ : ∃ y, m[i]? = some y := ⟨m[i]'(by omega), List.getElem?_eq_getElem (by omega)⟩
      have r := ih x (List.mem_of_getElem? hx) y (List.mem_of_getElem? hy)
      rw [arav6_eq, arav6_eq] at r
      by_cases hxy : x = y
      · subst hxy
        rw [eqB_self] at r
        repeat' (first | refine zA ?_ | refine WQ.cl hg.modes ?_ | refine W1.cl hg.modes (r) ?_ | refine zB ?_ | (refine zC ?_ ?_ <;> intro hc; all_goals first | (cases hc; done) | ((try simp only [hc]); (try simp only [bm] at hc))) | refine zE ?_ | refine zN ?_ | fail)
        all_goals first | exact ⟨(), by rw [List.take_add_one, List.take_add_one, hp, hx, hy], rfl⟩ | (exfalso; simp_all; done)
      · have hne : ¬ l = m := fun e => by rw [e, hy] at hx; cases hx; exact hxy rfl
        rw [eqB_ne hxy] at r
        repeat' (first | refine zA ?_ | refine WQ.cl hg.modes ?_ | refine W1.cl hg.modes (r) ?_ | refine zB ?_ | (refine zC ?_ ?_ <;> intro hc; all_goals first | (cases hc; done) | ((try simp only [hc]); (try simp only [bm] at hc))) | refine zE ?_ | refine zN ?_ | fail)
        all_goals first | exact Qend.boo rfl rfl (eqB_ne hne).symm | (exfalso; simp_all; done)
    · intro u hp
      rw [List.take_length, hlen, List.take_length] at hp
      subst hp
      repeat' (first | refine zA ?_ | refine zB ?_ | (refine zC ?_ ?_ <;> intro hc; all_goals first | (cases hc; done) | ((try simp only [hc]); (try simp only [bm] at hc))) | refine zE ?_ | refine zN ?_ | fail)
      exact Qend.boo rfl rfl (eqB_self l).symm
  · have hne : ¬ l = m := fun e => hlen (by rw [e])
    repeat' (first | refine zA ?_ | refine zB ?_ | (refine zC ?_ ?_ <;> intro hc; all_goals first | (cases hc; done) | ((try simp only [hc]); (try simp only [bm] at hc))) | refine zE ?_ | refine zN ?_ | fail)
    all_goals first | exact Qend.boo rfl rfl (eqB_ne hne).symm | (exfalso; omega)
theorem sameObjs_ret {T : Tab} (h : Fn T F.hallmarkkit_SameObjs hallmarkkit_SameObjs.fn) (l m : List Ob) (hl : l.length ≤ 1073741824) (hm : m.length ≤ 1073741824)
    (hg : Fn T F.hallmarkkit_SameObj hallmarkkit_SameObj.fn) (ih : ∀ x ∈ l, ∀ y ∈ m, Ret T F.hallmarkkit_SameObj [.val (.agg x.row), .val (.agg y.row)] (one (.bool (eqB x y)))) :
    Ret T F.hallmarkkit_SameObjs [.val (.lst 12 (l.map Ob.row)), .val (.lst 12 (m.map Ob.row))] (one (.bool (eqB l m))) := by
  have e1 : (l.map Ob.row).length = l.length := List.length_map ..
  have e2 : (m.map Ob.row).length = m.length := List.length_map ..
  refine Ret.mk h rfl ?_
  by_cases hlen : l.length = m.length
  · skip
    repeat' (first | refine zA ?_ | refine zB ?_ | (refine zC ?_ ?_ <;> intro hc; all_goals first | (cases hc; done) | ((try simp only [hc]); (try simp only [bm] at hc))) | refine zE ?_ | refine zN ?_ | fail)
    refine W.listP l (fun i (_ : Unit) s => s.put 5 (.av (.int .i64 (i : Int)))) (fun i _ => l.take i = m.take i) () rfl rfl ?_ ?_
    · intro i x u hx hi hp
      obtain ⟨y, hy⟩ : ∃ y, m[i]? = some y := ⟨m[i]'(by omega), List.getElem?_eq_getElem (by omega)⟩
      have r := ih x (List.mem_of_getElem? hx) y (List.mem_of_getElem? hy)
      rw [obav6_eq, obav6_eq] at r
      by_cases hxy : x = y
      · subst hxy
        rw [eqB_self] at r
        repeat' (first | refine zA ?_ | refine WQ.cl hg.modes ?_ | refine W1.cl hg.modes (r) ?_ | refine zB ?_ | (refine zC ?_ ?_ <;> intro hc; all_goals first | (cases hc; done) | ((try simp only [hc]); (try simp only [bm] at hc))) | refine zE ?_ | refine zN ?_ | fail)
        all_goals first | exact ⟨(), by rw [List.take_add_one, List.take_add_one, hp, hx, hy], rfl⟩ | (exfalso; simp_all; done)
      · have hne : ¬ l = m := fun e => by rw [e, hy] at hx; cases hx; exact hxy rfl
        rw [eqB_ne hxy] at r
        repeat' (first | refine zA ?_ | refine WQ.cl hg.modes ?_ | refine W1.cl hg.modes (r) ?_ | refine zB ?_ | (refine zC ?_ ?_ <;> intro hc; all_goals first | (cases hc; done) | ((try simp only [hc]); (try simp only [bm] at hc))) | refine zE ?_ | refine zN ?_ | fail)
        all_goals first | exact Qend.boo rfl rfl (eqB_ne hne).symm | (exfalso; simp_all; done)
    · intro u hp
      rw [List.take_length, hlen, List.take_length] at hp
      subst hp
      repeat' (first | refine zA ?_ | refine zB ?_ | (refine zC ?_ ?_ <;> intro hc; all_goals first | (cases hc; done) | ((try simp only [hc]); (try simp only [bm] at hc))) | refine zE ?_ | refine zN ?_ | fail)
      exact Qend.boo rfl rfl (eqB_self l).symm
  · have hne : ¬ l = m := fun e => hlen (by rw [e])
    repeat' (first | refine zA ?_ | refine zB ?_ | (refine zC ?_ ?_ <;> intro hc; all_goals first | (cases hc; done) | ((try simp only [hc]); (try simp only [bm] at hc))) | refine zE ?_ | refine zN ?_ | fail)
    all_goals first | exact Qend.boo rfl rfl (eqB_ne hne).symm | (exfalso; omega)
theorem sameTypes_ret {T : Tab} (h : Fn T F.hallmarkkit_SameTypes hallmarkkit_SameTypes.fn) (l m : List Ty) (hl : l.length ≤ 1073741824) (hm : m.length ≤ 1073741824)
    (hg : Fn T F.hallmarkkit_SameType hallmarkkit_SameType.fn) (ih : ∀ x ∈ l, ∀ y ∈ m, Ret T F.hallmarkkit_SameType [.val x.av, .val y.av] (one (.bool (eqB x y)))) :
    Ret T F.hallmarkkit_SameTypes [.val (.lst 9 (l.map Ty.row)), .val (.lst 9 (m.map Ty.row))] (one (.bool (eqB l m))) := by
  have e1 : (l.map Ty.row).length = l.length := List.length_map ..
  have e2 : (m.map Ty.row).length = m.length := List.length_map ..
  refine Ret.mk h rfl ?_
  by_cases hlen : l.length = m.length
  · skip
    repeat' (first | refine zA ?_ | refine zB ?_ | (refine zC ?_ ?_ <;> intro hc; all_goals first | (cases hc; done) | ((try simp only [hc]); (try simp only [bm] at hc))) | refine zE ?_ | refine zN ?_ | fail)
    refine W.listP l (fun i (_ : Unit) s => s.put 5 (.av (.int .i64 (i : Int)))) (fun i _ => l.take i = m.take i) () rfl rfl ?_ ?_
    · intro i x u hx hi hp
      obtain ⟨y, hy⟩ : ∃ y, m[i]? = some y := ⟨m[i]'(by omega), List.getElem?_eq_getElem (by omega)⟩
      have r := ih x (List.mem_of_getElem? hx) y (List.mem_of_getElem? hy)
      rw [Ty.av_eq, Ty.av_eq] at r
      by_cases hxy : x = y
      · subst hxy
        rw [eqB_self] at r
        repeat' (first | refine zA ?_ | refine WQ.cl hg.modes ?_ | refine W1.cl hg.modes (r) ?_ | refine zB ?_ | (refine zC ?_ ?_ <;> intro hc; all_goals first | (cases hc; done) | ((try simp only [hc]); (try simp only [bm] at hc))) | refine zE ?_ | refine zN ?_ | fail)
        all_goals first | exact ⟨(), by rw [List.take_add_one, List.take_add_one, hp, hx, hy], rfl⟩ | (exfalso; simp_all; done)
      · have hne : ¬ l = m := fun e => by rw [e, hy] at hx; cases hx; exact hxy rfl
        rw [eqB_ne hxy] at r
        repeat' (first | refine zA ?_ | refine WQ.cl hg.modes ?_ | refine W1.cl hg.modes (r) ?_ | refine zB ?_ | (refine zC ?_ ?_ <;> intro hc; all_goals first | (cases hc; done) | ((try simp only [hc]); (try simp only [bm] at hc))) | refine zE ?_ | refine zN ?_ | fail)
        all_goals first | exact Qend.boo rfl rfl (eqB_ne hne).symm | (exfalso; simp_all; done)
    · intro u hp
      rw [List.take_length, hlen, List.take_length] at hp
      subst hp
      repeat' (first | refine zA ?_ | refine zB ?_ | (refine zC ?_ ?_ <;> intro hc; all_goals first | (cases hc; done) | ((try simp only [hc]); (try simp only [bm] at hc))) | refine zE ?_ | refine zN ?_ | fail)
      exact Qend.boo rfl rfl (eqB_self l).symm
  · have hne : ¬ l = m := fun e => hlen (by rw [e])
    repeat' (first | refine zA ?_ | refine zB ?_ | (refine zC ?_ ?_ <;> intro hc; all_goals first | (cases hc; done) | ((try simp only [hc]); (try simp only [bm] at hc))) | refine zE ?_ | refine zN ?_ | fail)
    all_goals first | exact Qend.boo rfl rfl (eqB_ne hne).symm | (exfalso; omega)
theorem eqB_sp (a b : Spn) : eqB a b = (decide (a.1 = b.1) && decide (a.2 = b.2)) := by
  rw [Bool.eq_iff_iff, eqB_iff]; simp only [Bool.and_eq_true, decide_eq_true_eq, Prod.ext_iff]
theorem eqB_ar (a b : Ar) : eqB a b = (decide (a.min = b.min) && decide (a.max = b.max) && eqB a.item b.item) := by
  rw [Bool.eq_iff_iff, eqB_iff]; simp only [Bool.and_eq_true, decide_eq_true_eq, eqB_iff]
  cases a; cases b; simp only [Ar.mk.injEq, Ar.min, Ar.max, Ar.item]
  constructor
  · rintro ⟨rfl, rfl, rfl⟩; exact ⟨⟨rfl, rfl⟩, rfl⟩
  · rintro ⟨⟨rfl, rfl⟩, rfl⟩; exact ⟨rfl, rfl, rfl⟩
theorem eqB_ob (a b : Ob) : eqB a b = (eqB a.names b.names && (eqB a.fields b.fields && (eqB a.must b.must && eqB a.rest b.rest))) := by
  rw [Bool.eq_iff_iff, eqB_iff]; simp only [Bool.and_eq_true, eqB_iff]
  cases a; cases b; simp only [Ob.mk.injEq, Ob.names, Ob.fields, Ob.must, Ob.rest]
theorem eqB_ty (a b : Ty) : eqB a b = (decide (a.all = b.all) && decide (a.nul = b.nul) && decide (a.fls = b.fls) && decide (a.tru = b.tru) && decide (a.anyText = b.anyText) && (eqB a.nums b.nums && (eqB a.texts b.texts && (eqB a.arrays b.arrays && eqB a.objects b.objects)))) := by
  rw [Bool.eq_iff_iff, eqB_iff]; simp only [Bool.and_eq_true, decide_eq_true_eq, eqB_iff]
  cases a; cases b; simp only [Ty.mk.injEq, Ty.all, Ty.nul, Ty.fls, Ty.tru, Ty.nums, Ty.anyText, Ty.texts, Ty.arrays, Ty.objects]
  constructor
  · rintro ⟨rfl, rfl, rfl, rfl, rfl, rfl, rfl, rfl, rfl⟩; exact ⟨⟨⟨⟨⟨rfl, rfl⟩, rfl⟩, rfl⟩, rfl⟩, rfl, rfl, rfl, rfl⟩
  · rintro ⟨⟨⟨⟨⟨rfl, rfl⟩, rfl⟩, rfl⟩, rfl⟩, rfl, rfl, rfl, rfl⟩; exact ⟨rfl, rfl, rfl, rfl, rfl, rfl, rfl, rfl, rfl⟩
/-- What likeness of types reaches. -/
structure StFns (T : Tab) : Prop where
  a1 : Fn T F.hallmarkkit_SameType hallmarkkit_SameType.fn
  a2 : Fn T F.hallmarkkit_SameSpans hallmarkkit_SameSpans.fn
  a3 : Fn T F.hallmarkkit_SameSpan hallmarkkit_SameSpan.fn
  a4 : Fn T F.hallmarkkit_SameStrings hallmarkkit_SameStrings.fn
  a5 : Fn T F.hallmarkkit_SameArrs hallmarkkit_SameArrs.fn
  a6 : Fn T F.hallmarkkit_SameArr hallmarkkit_SameArr.fn
  a7 : Fn T F.hallmarkkit_SameObjs hallmarkkit_SameObjs.fn
  a8 : Fn T F.hallmarkkit_SameObj hallmarkkit_SameObj.fn
  a9 : Fn T F.hallmarkkit_SameTypes hallmarkkit_SameTypes.fn
  b1 : Fn T F.hallmarkkit_SameBools hallmarkkit_SameBools.fn
section
variable {T : Tab}
theorem sameSpan_ret (f : StFns T) (a b : Spn) : Ret T F.hallmarkkit_SameSpan [.val (.agg [.str a.1, .str a.2]), .val (.agg [.str b.1, .str b.2])] (one (.bool (eqB a b))) := by
  have e := eqB_sp a b
  refine Ret.mk f.a3 rfl ?_
  repeat' (first | refine zA ?_ | refine zB ?_ | (refine zC ?_ ?_ <;> intro hc; all_goals first | (cases hc; done) | ((try simp only [hc]); (try simp only [bm] at hc))) | refine zE ?_ | refine zN ?_ | fail)
  all_goals refine Qend.boo rfl rfl ?_
  all_goals rw [e]
  all_goals first | (simp_all; done) | (rw [Bool.eq_iff_iff]; simp_all; done)
def TySame (T : Tab) (a b : Ty) : Prop := Ret T F.hallmarkkit_SameType [.val a.av, .val b.av] (one (.bool (eqB a b)))
theorem sameArr_ret (f : StFns T) (a b : Ar) (ih : TySame T a.item b.item) : Ret T F.hallmarkkit_SameArr [.val (.agg a.row), .val (.agg b.row)] (one (.bool (eqB a b))) := by
  have e := eqB_ar a b
  unfold TySame at ih
  rw [Ty.av_eq, Ty.av_eq] at ih
  refine Ret.mk f.a6 rfl ?_
  rw [arav6_eq, arav6_eq]
  generalize eqB a.item b.item = x at *
  repeat' (first | refine zA ?_ | refine WQ.cl f.a1.modes ?_ | refine W1.cl f.a1.modes (ih) ?_ | refine zB ?_ | (refine zC ?_ ?_ <;> intro hc; all_goals first | (cases hc; done) | ((try simp only [hc]); (try simp only [bm] at hc))) | refine zE ?_ | refine zN ?_ | fail)
  all_goals clear ih
  all_goals refine Qend.boo rfl rfl ?_
  all_goals rw [e]
  all_goals first | (simp_all; done) | (rw [Bool.eq_iff_iff]; simp_all; done)
theorem sameObj_ret (f : StFns T) (a b : Ob) (hl : a.bk ≤ 1073741824) (hl' : b.bk ≤ 1073741824) (ih : ∀ x ∈ a.fields, ∀ y ∈ b.fields, TySame T x y) (ihr : TySame T a.rest b.rest) : Ret T F.hallmarkkit_SameObj [.val (.agg a.row), .val (.agg b.row)] (one (.bool (eqB a b))) := by
  have k1 := Ob.bk_eq a
  have k2 := Ob.bk_eq b
  have n1 := len_sbk a.names
  have n2 := len_sbk b.names
  have n3 := len_tyBks a.fields
  have n4 := len_tyBks b.fields
  have r1 := sameStrings_ret f.a4 a.names b.names (by omega) (by omega)
  have r2 := sameTypes_ret f.a9 a.fields b.fields (by omega) (by omega) f.a1 ih
  have r3 := sameBools_ret f.b1 a.must b.must (by omega) (by omega)
  have e := eqB_ob a b
  unfold TySame at ihr
  rw [Ty.av_eq, Ty.av_eq] at ihr
  refine Ret.mk f.a8 rfl ?_
  rw [obav6_eq, obav6_eq]
  clear ih
  generalize eqB a.names b.names = x1 at *
  generalize eqB a.fields b.fields = x2 at *
  generalize eqB a.must b.must = x3 at *
  generalize eqB a.rest b.rest = x4 at *
  repeat' (first | refine zA ?_ | refine WQ.cl f.a4.modes ?_ | refine W1.cl f.a4.modes (r1) ?_ | refine WQ.cl f.a9.modes ?_ | refine W1.cl f.a9.modes (r2) ?_ | refine WQ.cl f.b1.modes ?_ | refine W1.cl f.b1.modes (r3) ?_ | refine WQ.cl f.a1.modes ?_ | refine W1.cl f.a1.modes (ihr) ?_ | refine zB ?_ | (refine zC ?_ ?_ <;> intro hc; all_goals first | (cases hc; done) | ((try simp only [hc]); (try simp only [bm] at hc))) | refine zE ?_ | refine zN ?_ | fail)
  all_goals clear r1 r2 r3 ihr
  all_goals refine Qend.boo rfl rfl ?_
  all_goals rw [e]
  all_goals first | (simp_all; done) | (rw [Bool.eq_iff_iff]; simp_all; done)
theorem sameType_ret (f : StFns T) : ∀ a : Ty, a.bk ≤ 1073741824 → ∀ b : Ty, b.bk ≤ 1073741824 → TySame T a b := by
  intro a
  induction a using Ty.ind with
  | h a ih =>
  intro hla b hlb
  have k1 := Ty.bk_eq a
  have k2 := Ty.bk_eq b
  have n1 := len_sbk a.texts
  have n2 := len_sbk b.texts
  have n3 := len_spbk a.nums
  have n4 := len_spbk b.nums
  have n5 := len_arBks a.arrays
  have n6 := len_arBks b.arrays
  have n7 := len_obBks a.objects
  have n8 := len_obBks b.objects
  have r1 := sameSpans_ret f.a2 a.nums b.nums (by omega) (by omega) f.a3 (fun x _ y _ => sameSpan_ret f x y)
  have r2 := sameStrings_ret f.a4 a.texts b.texts (by omega) (by omega)
  have r3 := sameArrs_ret f.a5 a.arrays b.arrays (by omega) (by omega) f.a6 (fun x hx y hy => sameArr_ret f x y (ih x.item (ar_lt hx) (by have := ar_lt hx; omega) y.item (by have := ar_lt hy; omega)))
  have r4 := sameObjs_ret f.a7 a.objects b.objects (by omega) (by omega) f.a8 (fun x hx y hy =>
    sameObj_ret f x y (by have := obBk_mem hx; omega) (by have := obBk_mem hy; omega) (fun u hu v hv => ih u ((ob_lt hx).2 u hu) (by have := (ob_lt hx).2 u hu; omega) v (by have := (ob_lt hy).2 v hv; omega))
      (ih x.rest (ob_lt hx).1 (by have := (ob_lt hx).1; omega) y.rest (by have := (ob_lt hy).1; omega)))
  have e := eqB_ty a b
  unfold TySame
  refine Ret.mk f.a1 rfl ?_
  rw [Ty.av_eq, Ty.av_eq]
  clear ih
  generalize eqB a.nums b.nums = x1 at *
  generalize eqB a.texts b.texts = x2 at *
  generalize eqB a.arrays b.arrays = x3 at *
  generalize eqB a.objects b.objects = x4 at *
  repeat' (first | refine zA ?_ | refine WQ.cl f.a2.modes ?_ | refine W1.cl f.a2.modes (r1) ?_ | refine WQ.cl f.a4.modes ?_ | refine W1.cl f.a4.modes (r2) ?_ | refine WQ.cl f.a5.modes ?_ | refine W1.cl f.a5.modes (r3) ?_ | refine WQ.cl f.a7.modes ?_ | refine W1.cl f.a7.modes (r4) ?_ | refine zB ?_ | (refine zC ?_ ?_ <;> intro hc; all_goals first | (cases hc; done) | ((try simp only [hc]); (try simp only [bm] at hc))) | refine zE ?_ | refine zN ?_ | fail)
  all_goals clear r1 r2 r3 r4 k1 k2 n1 n2 n3 n4 n5 n6 n7 n8 hla hlb
  all_goals refine Qend.boo rfl rfl ?_
  all_goals rw [e]
  all_goals generalize a.all = a1 at *
  all_goals generalize b.all = b1 at *
  all_goals generalize a.nul = a2 at *
  all_goals generalize b.nul = b2 at *
  all_goals generalize a.fls = a3 at *
  all_goals generalize b.fls = b3 at *
  all_goals generalize a.tru = a4 at *
  all_goals generalize b.tru = b4 at *
  all_goals generalize a.anyText = a5 at *
  all_goals generalize b.anyText = b5 at *
  all_goals first | (simp_all; done) | (rw [Bool.eq_iff_iff]; simp_all; done) | trace_state
end
end Hm

/- The law of the near type of any value. Conditions: see each theorem. NORMX NORMY -/
namespace Hm
open Go (IntKind)
set_option maxHeartbeats 40000000
set_option maxRecDepth 4000
theorem ShapeOf_ret {T : Tab} (h : Fn T F.hallmarklaw09_ShapeOf hallmarklaw09_ShapeOf.fn) (hl : Fn T F.hallmarklaw09_lives hallmarklaw09_lives.fn) (rl : Ret T F.hallmarklaw09_lives [] (one (.bool true)))
    (s1 : Fn T F.hallmarklaw09_small hallmarklaw09_small.fn) (s2 : Fn T F.hallmarkkit_Fit hallmarkkit_Fit.fn) (s3 : Fn T F.hallmarkkit_PartsOf hallmarkkit_PartsOf.fn)
    (o1 : Fn T F.shape_Of shape_Of.fn) (f : NrFns T) (c : TcFns T) (q : VfFns T) (hv : ValidOk T) (o2 : Fn T F.hallmarkref09_Of hallmarkref09_Of.fn) (e : NeFns T) (d : RcFns T) (g : IgFns T) (s : StFns T)
    (p8 : Fn T F.hallmarkref03_Formed hallmarkref03_Formed.fn) (p9 : Fn T F.hallmarkref03_All hallmarkref03_All.fn) (hf : Fn T F.hallmarkref09_Formed hallmarkref09_Formed.fn) (a1 : Fn T F.hallmarkref09_objects hallmarkref09_objects.fn) (a2 : Fn T F.hallmarkref09_object hallmarkref09_object.fn)
    (a3 : Fn T F.hallmarkref09_Never hallmarkref09_Never.fn) (a4 : Fn T F.hallmarkref09_Bare hallmarkref09_Bare.fn) (a5 : Fn T F.hallmarkref03_Rise hallmarkref03_Rise.fn) (a6 : Fn T F.hallmarkref03_UTF hallmarkref03_UTF.fn) (a7 : Fn T F.hallmarkref03_width hallmarkref03_width.fn)
    (a8 : Fn T F.hallmarkref03_trail hallmarkref03_trail.fn) (a9 : Fn T F.hallmarkref09_arrays hallmarkref09_arrays.fn) (b1 : Fn T F.hallmarkref09_Spans hallmarkref09_Spans.fn) (b2 : Fn T F.hallmarkref03_Numbers hallmarkref03_Numbers.fn) (b3 : Fn T F.hallmarkref03_Texts hallmarkref03_Texts.fn)
    (b4 : Fn T F.hallmarkref09_bound hallmarkref09_bound.fn) (b5 : Fn T F.hallmarkref03_Number hallmarkref03_Number.fn) (t1 : Fn T F.hallmarkref09_Height hallmarkref09_Height.fn) (t2 : Fn T F.hallmarkref09_higher hallmarkref09_higher.fn) (v : V) (hb : v.bk ≤ 10000000) :
    Ret T F.hallmarklaw09_ShapeOf [.val v.av] (one (.bool true)) := by
  obtain ⟨sv, -, r1⟩ := small09_ret s1 s2 s3 v (by omega)
  obtain ⟨C1, c1, r2⟩ := shapeOf_ret o1 f c q hv v hb
  obtain ⟨C2, c2, r3⟩ := refOf_ret o2 e d p8 p9 a5 a6 a7 a8 b5 v hb
  have wb : (ofT v).bk ≤ 200000000 := by
    unfold ofT
    split
    · have := near_bk v (by assumption) 8; omega
    · have : neverT.bk = 9 := rfl
      omega
  have r4 := sameType_ret s (ofT v) (by omega) (ofT v) (by omega)
  rw [TySame, show eqB (ofT v) (ofT v) = true from eqB_iff.2 rfl] at r4
  have r5 := refFormed9_ret hf a1 a2 a3 a4 a5 a6 a7 a8 a9 b1 b2 b3 b4 b5 (ofT v) (by omega)
  have r6 := refHeight_ret t1 t2 (ofT v) (by omega)
  rw [Formed9] at r5
  rw [Ty.row_eq] at c1 c2
  refine Ret.mk h rfl ?_
  cases hv' : formed v
  · have e0 : ofE v = 1 := by unfold ofE; rw [hv']; rfl
    rw [e0] at r2 r3
    generalize tformed (ofT v) = ft at *
    generalize ht (ofT v) = hh at *
    generalize ofT v = w at *
    rw [V.av_eq] at *
    rw [Ty.av_eq] at *
    repeat' (first | refine zA ?_ | refine WQ.cl hl.modes ?_ | refine W1.cl hl.modes (rl) ?_ | refine WQ.cl s1.modes ?_ | refine W1.cl s1.modes (r1) ?_ | (refine W1.cd2 o1.modes c1 r2 ?_) | (refine W1.cd2 o2.modes c2 r3 ?_) | refine WQ.cl s.a1.modes ?_ | refine W1.cl s.a1.modes (r4) ?_ | refine zB ?_ | (refine zC ?_ ?_ <;> intro hc; all_goals first | (cases hc; done) | ((try simp only [hc]); (try simp only [bm] at hc))) | refine zE ?_ | refine zNV ?_ | fail)
    all_goals clear r1 r2 r3 r4 r5 r6 rl
    all_goals first | refine Qend.boo rfl rfl ?_ | skip
    all_goals first | rfl | (simp_all; done) | (exfalso; simp_all; done) | trace_state
  · have e0 : ofE v = 0 := by unfold ofE; rw [hv']; rfl
    have e1 : ofT v = nearT v 8 := by unfold ofT; rw [hv']; rfl
    have e2 : tformed (ofT v) = true := by rw [e1]; exact near_formed v hv' 8
    have e3 : ht (ofT v) ≤ 8 := by rw [e1]; exact near_ht v hv' 8
    have r7 := in_ret g v (by omega) hv' (ofT v) (by omega) e2
    rw [InR] at r7
    have e4 : inT v (ofT v) = true := by rw [e1]; exact near_in v hv' 8
    rw [e0] at r2 r3
    rw [e2] at r5
    rw [e4] at r7
    clear e1 e2 e4
    generalize ht (ofT v) = hh at *
    generalize ofT v = w at *
    rw [V.av_eq] at *
    rw [Ty.av_eq] at *
    repeat' (first | refine zA ?_ | refine WQ.cl hl.modes ?_ | refine W1.cl hl.modes (rl) ?_ | refine WQ.cl s1.modes ?_ | refine W1.cl s1.modes (r1) ?_ | (refine W1.cd2 o1.modes c1 r2 ?_) | (refine W1.cd2 o2.modes c2 r3 ?_) | refine WQ.cl s.a1.modes ?_ | refine W1.cl s.a1.modes (r4) ?_ | refine WQ.cl hf.modes ?_ | refine W1.cl hf.modes (r5) ?_ | refine WQ.cl t1.modes ?_ | refine W1.cl t1.modes (r6) ?_ | refine WQ.cl g.a1.modes ?_ | refine W1.cl g.a1.modes (r7) ?_ | refine zB ?_ | (refine zC ?_ ?_ <;> intro hc; all_goals first | (cases hc; done) | ((try simp only [hc]); (try simp only [bm] at hc))) | refine zE ?_ | refine zNV ?_ | fail)
    all_goals clear r1 r2 r3 r4 r5 r6 r7 rl
    all_goals first | refine Qend.boo rfl rfl ?_ | skip
    all_goals first | rfl | (simp_all; done) | (simp_all; omega) | (exfalso; simp_all; done) | trace_state
end Hm
