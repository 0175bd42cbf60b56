/- What the law answers on the abstract machine. Conditions: see each theorem. -/
import Derived.Test.YtolnpaiimdohoaaDoorPKnow
set_option linter.unusedVariables false
set_option linter.unusedSimpArgs false
/- Further rules for what the abstract machine answers: conditions that are known, counts, places of lists, loops over lists. Conditions: none (plain lemmas). -/
namespace Hm
open Go (IntKind)
section
variable {T : Tab} {st st' : St} {Q : Ex → St → Prop} {K : St → Prop}

theorem W.condT {x : Opd} {a b : AC} {t : Bool} (hx : st.opd x = .av (.bool t)) (ht : t = true) (h1 : W T a st Q) : W T (.cond x a b) st Q :=
  W.cond hx (fun _ => h1) (fun h => by rw [ht] at h; cases h)
theorem W.condF {x : Opd} {a b : AC} {t : Bool} (hx : st.opd x = .av (.bool t)) (ht : t = false) (h1 : W T b st Q) : W T (.cond x a b) st Q :=
  W.cond hx (fun h => by rw [ht] at h; cases h) (fun _ => h1)

theorem wrap64 {n : Int} (h1 : -9223372036854775808 ≤ n) (h2 : n < 9223372036854775808) : IntKind.wrap .i64 n = n := by
  show (if (true && decide (n % 18446744073709551616 ≥ 9223372036854775808)) = true then n % 18446744073709551616 - 18446744073709551616 else n % 18446744073709551616) = n
  rw [Bool.true_and]
  by_cases h : n % 18446744073709551616 ≥ 9223372036854775808
  · rw [if_pos (decide_eq_true h)]; omega
  · rw [if_neg (by rw [decide_eq_true_eq]; exact h)]; omega

theorem WS.add64 {dst : Option Nat} {K : TV → St → Prop} {x y : Opd} {a b : Int} (hx : st.opd x = .av (.int .i64 a)) (hy : st.opd y = .av (.int .i64 b)) (h1 : -9223372036854775808 ≤ a + b) (h2 : a + b < 9223372036854775808)
    (hk : K (.av (.int .i64 (a + b))) st) : WS T dst (.bin .add x y) st K := by
  refine WS.op (v := .av (.int .i64 (a + b))) rfl ?_ hk
  simp only [stepOp, hx, hy, binA, ne_eq, not_true_eq_false, if_false, inRange, wrap64 h1 h2]
theorem WS.sub64 {dst : Option Nat} {K : TV → St → Prop} {x y : Opd} {a b : Int} (hx : st.opd x = .av (.int .i64 a)) (hy : st.opd y = .av (.int .i64 b)) (h1 : -9223372036854775808 ≤ a - b) (h2 : a - b < 9223372036854775808)
    (hk : K (.av (.int .i64 (a - b))) st) : WS T dst (.bin .sub x y) st K := by
  refine WS.op (v := .av (.int .i64 (a - b))) rfl ?_ hk
  simp only [stepOp, hx, hy, binA, ne_eq, not_true_eq_false, if_false, inRange, wrap64 h1 h2]
theorem WS.iadrL {dst : Option Nat} {K : TV → St → Prop} {k : Nat} {x i : Opd} {n : Int} {r : List AV} {rows : List (List AV)} (hi : st.opd i = .av (.int .i64 n)) (hx : st.opd x = .av (.lst k rows)) (h0 : 0 ≤ n) (hr : rows[n.toNat]? = some r)
    (hk : K (.av (.vptr r)) st) : WS T dst (.iadr k x i) st K := by
  refine WS.op (v := .av (.vptr r)) rfl ?_ hk
  simp only [stepOp, hi, idx, if_pos h0, hx, hr, if_true]
/-- One plain result. -/
def one (v : AV) : CR := ⟨[([.av v], false)], []⟩
theorem Qend.one {fn : AFun} {as : List Arg} {v w : AV} {st : St} (hr : results st fn.results = some [([.av v], false)]) (ho : outs st 0 as = some []) (h : v = w) : Qend fn as (Hm.one w) .ret st := by
  subst h; exact ⟨.inr rfl, hr, ho⟩
theorem Qend.boo {fn : AFun} {as : List Arg} {v w : Bool} {st : St} (hr : results st fn.results = some [([.av (.bool v)], false)]) (ho : outs st 0 as = some []) (h : v = w) : Qend fn as (Hm.one (.bool w)) .ret st := by
  subst h; exact ⟨.inr rfl, hr, ho⟩
theorem Qend.num {fn : AFun} {as : List Arg} {k : IntKind} {v w : Int} {st : St} (hr : results st fn.results = some [([.av (.int k v)], false)]) (ho : outs st 0 as = some []) (h : v = w) : Qend fn as (Hm.one (.int k w)) .ret st := by
  subst h; exact ⟨.inr rfl, hr, ho⟩
/-- The byte at a place. -/
def bAt (s : List UInt8) (n : Nat) : UInt8 := s.getD n 0
theorem WS.idxS {dst : Option Nat} {K : TV → St → Prop} {x i : Opd} {n : Int} {s : List UInt8} (hx : st.opd x = .av (.str s)) (hi : st.opd i = .av (.int .i64 n)) (h0 : 0 ≤ n) (hn : n.toNat < s.length)
    (hk : K (.av (.int .u8 (bAt s n.toNat).toNat)) st) : WS T dst (.idxS x i) st K := by
  refine WS.op (v := .av (.int .u8 (bAt s n.toNat).toNat)) rfl ?_ hk
  have : s[n.toNat]? = some (bAt s n.toNat) := by simp [bAt, List.getD, List.getElem?_eq_getElem hn]
  simp only [stepOp, hx, hi, idx, if_pos h0, this]
theorem WS.slcS {dst : Option Nat} {K : TV → St → Prop} {k : Nat} {x : Opd} {lo hi : Option Opd} {s : List UInt8} {l h : Nat} (hx : st.opd x = .av (.str s)) (hl : st.bnd 0 lo = some l) (hh : st.bnd s.length hi = some h) (hc : l ≤ h ∧ h ≤ s.length)
    (hk : K (.av (.str ((s.take h).drop l))) st) : WS T dst (.slc true k x lo hi) st K := by
  refine WS.op (v := .av (.str ((s.take h).drop l))) rfl ?_ hk
  simp only [stepOp, hx, TV.rd, hl, hh, if_pos hc]

theorem W1.knowT {dst : Option Nat} {op : AOp} {t : Nat} {c : Bool} (hg : getE st.env t = .av (.bool c)) (hc : c = true) (h1 : W1 T ⟨dst, op, none⟩ st K) : W1 T ⟨dst, op, some (t, true)⟩ st K :=
  W1.bothT hg (fun _ => h1) (fun h => by rw [hc] at h; cases h)
theorem W1.knowTn {dst : Option Nat} {op : AOp} {t : Nat} {c : Bool} (hg : getE st.env t = .av (.bool c)) (hc : c = false) (h1 : K (putD dst .skp st)) : W1 T ⟨dst, op, some (t, true)⟩ st K :=
  W1.bothT hg (fun h => by rw [hc] at h; cases h) (fun _ => h1)
theorem W1.knowF {dst : Option Nat} {op : AOp} {t : Nat} {c : Bool} (hg : getE st.env t = .av (.bool c)) (hc : c = false) (h1 : W1 T ⟨dst, op, none⟩ st K) : W1 T ⟨dst, op, some (t, false)⟩ st K :=
  W1.bothF hg (fun _ => h1) (fun h => by rw [hc] at h; cases h)
theorem W1.knowFn {dst : Option Nat} {op : AOp} {t : Nat} {c : Bool} (hg : getE st.env t = .av (.bool c)) (hc : c = true) (h1 : K (putD dst .skp st)) : W1 T ⟨dst, op, some (t, false)⟩ st K :=
  W1.bothF hg (fun h => by rw [hc] at h; cases h) (fun _ => h1)

theorem WS.pickT {dst : Option Nat} {K : TV → St → Prop} {c a b : Opd} {t : Bool} {v : AV} (hc : st.opd c = .av (.bool t)) (ht : t = true) (ha : st.opd a = .av v) (hk : K (.av v) st) : WS T dst (.pick c a b) st K := by
  refine WS.op (v := .av v) rfl ?_ hk
  simp only [stepOp, hc, ht, if_true, ha]
theorem WS.pickF {dst : Option Nat} {K : TV → St → Prop} {c a b : Opd} {t : Bool} {v : AV} (hc : st.opd c = .av (.bool t)) (ht : t = false) (hb : st.opd b = .av v) (hk : K (.av v) st) : WS T dst (.pick c a b) st K := by
  refine WS.op (v := .av v) rfl ?_ hk
  simp only [stepOp, hc, ht, Bool.false_eq_true, if_false, hb]
theorem WS.pickB {dst : Option Nat} {K : TV → St → Prop} {c a b : Opd} {t x y : Bool} (hc : st.opd c = .av (.bool t)) (ha : t = true → st.opd a = .av (.bool x)) (hb : t = false → st.opd b = .av (.bool y)) (hk : K (.av (.bool (cond t x y))) st) : WS T dst (.pick c a b) st K := by
  refine WS.op (v := .av (.bool (cond t x y))) rfl ?_ hk
  cases t with
  | true => simp only [stepOp, hc, if_true, ha rfl, cond_true]
  | false => simp only [stepOp, hc, Bool.false_eq_true, if_false, hb rfl, cond_false]

theorem W1.op {dst : Option Nat} {op : AOp} {g : Option (Nat × Bool)} {v : TV} (hg : wanted st g = some true) (hp : op.plain = true) (h : stepOp dst op st = some (v, st')) (hk : K (putD dst v st')) : W1 T ⟨dst, op, g⟩ st K :=
  W1.go hg (WS.op hp h hk)
theorem W1.add64 {dst : Option Nat} {g : Option (Nat × Bool)} {x y : Opd} {a b : Int} (hg : wanted st g = some true) (hx : st.opd x = .av (.int .i64 a)) (hy : st.opd y = .av (.int .i64 b)) (h1 : -9223372036854775808 ≤ a + b) (h2 : a + b < 9223372036854775808)
    (hk : K (putD dst (.av (.int .i64 (a + b))) st)) : W1 T ⟨dst, .bin .add x y, g⟩ st K := W1.go hg (WS.add64 hx hy h1 h2 hk)
theorem W1.sub64 {dst : Option Nat} {g : Option (Nat × Bool)} {x y : Opd} {a b : Int} (hg : wanted st g = some true) (hx : st.opd x = .av (.int .i64 a)) (hy : st.opd y = .av (.int .i64 b)) (h1 : -9223372036854775808 ≤ a - b) (h2 : a - b < 9223372036854775808)
    (hk : K (putD dst (.av (.int .i64 (a - b))) st)) : W1 T ⟨dst, .bin .sub x y, g⟩ st K := W1.go hg (WS.sub64 hx hy h1 h2 hk)
theorem W1.iadr {dst : Option Nat} {g : Option (Nat × Bool)} {k : Nat} {x i : Opd} {n : Int} {r : List AV} {rows : List (List AV)} (hg : wanted st g = some true) (hi : st.opd i = .av (.int .i64 n)) (hx : st.opd x = .av (.lst k rows)) (h0 : 0 ≤ n) (hr : rows[n.toNat]? = some r)
    (hk : K (putD dst (.av (.vptr r)) st)) : W1 T ⟨dst, .iadr k x i, g⟩ st K := W1.go hg (WS.iadrL hi hx h0 hr hk)
theorem W1.idxS {dst : Option Nat} {g : Option (Nat × Bool)} {x i : Opd} {n : Int} {s : List UInt8} (hg : wanted st g = some true) (hx : st.opd x = .av (.str s)) (hi : st.opd i = .av (.int .i64 n)) (h0 : 0 ≤ n) (hn : n.toNat < s.length)
    (hk : K (putD dst (.av (.int .u8 (bAt s n.toNat).toNat)) st)) : W1 T ⟨dst, .idxS x i, g⟩ st K := W1.go hg (WS.idxS hx hi h0 hn hk)
theorem W1.slcS {dst : Option Nat} {g : Option (Nat × Bool)} {k : Nat} {x : Opd} {lo hi : Option Opd} {s : List UInt8} {l h : Nat} (hg : wanted st g = some true) (hx : st.opd x = .av (.str s)) (hl : st.bnd 0 lo = some l) (hh : st.bnd s.length hi = some h) (hc : l ≤ h ∧ h ≤ s.length)
    (hk : K (putD dst (.av (.str ((s.take h).drop l))) st)) : W1 T ⟨dst, .slc true k x lo hi, g⟩ st K := W1.go hg (WS.slcS hx hl hh hc hk)
theorem W1.pickT {dst : Option Nat} {g : Option (Nat × Bool)} {c a b : Opd} {t : Bool} {v : AV} (hg : wanted st g = some true) (hc : st.opd c = .av (.bool t)) (ht : t = true) (ha : st.opd a = .av v) (hk : K (putD dst (.av v) st)) : W1 T ⟨dst, .pick c a b, g⟩ st K :=
  W1.go hg (WS.pickT hc ht ha hk)
theorem W1.pickF {dst : Option Nat} {g : Option (Nat × Bool)} {c a b : Opd} {t : Bool} {v : AV} (hg : wanted st g = some true) (hc : st.opd c = .av (.bool t)) (ht : t = false) (hb : st.opd b = .av v) (hk : K (putD dst (.av v) st)) : W1 T ⟨dst, .pick c a b, g⟩ st K :=
  W1.go hg (WS.pickF hc ht hb hk)
theorem W1.callV {dst : Option Nat} {gd : Option (Nat × Bool)} {s : Seal} {f : Opd} {xs : List Opd} {g : Nat} {first cs : List AV} {t0 t : Bool} {ms : List PMode} {l : List Arg} {ks : List Nat} {r : CR}
    (hg : wanted st gd = some true) (hf : (st.opd f).fn = some (g, first, cs, t0)) (hm : T.modes g = ms) (ha : args st (ms.drop first.length) xs = some (l, t, ks, st')) (hio : hasIo l = false) (hmv : hasMv l = false)
    (hr : Ret T g (first.map .val ++ l ++ cs.map .val) r) (ht : ((t0 || t) && !allScalar r.res) = false) (hk : K (putD dst (resTV s r.res) st')) : W1 T ⟨dst, .call s f xs, gd⟩ st K :=
  W1.go hg (WS.callV hf hm ha hio hmv hr ht hk)

theorem WQ.knowT {hu : Bool} {ds es : List Nat} {dst : Option Nat} {op : AOp} {t : Nat} {c : Bool} (hg : getE st.env t = .av (.bool c)) (hc : c = true) (h1 : WQ T hu ds es ⟨dst, op, none⟩ st K) : WQ T hu ds es ⟨dst, op, some (t, true)⟩ st K :=
  WQ.bothT hg (fun _ => h1) (fun h => by rw [hc] at h; cases h)
theorem WQ.knowTn {hu : Bool} {ds es : List Nat} {dst : Option Nat} {op : AOp} {t : Nat} {c : Bool} (hg : getE st.env t = .av (.bool c)) (hc : c = false) (h1 : K (putD dst .skp st)) : WQ T hu ds es ⟨dst, op, some (t, true)⟩ st K :=
  WQ.bothT hg (fun h => by rw [hc] at h; cases h) (fun _ => h1)
theorem WQ.knowF {hu : Bool} {ds es : List Nat} {dst : Option Nat} {op : AOp} {t : Nat} {c : Bool} (hg : getE st.env t = .av (.bool c)) (hc : c = false) (h1 : WQ T hu ds es ⟨dst, op, none⟩ st K) : WQ T hu ds es ⟨dst, op, some (t, false)⟩ st K :=
  WQ.bothF hg (fun _ => h1) (fun h => by rw [hc] at h; cases h)
theorem WQ.knowFn {hu : Bool} {ds es : List Nat} {dst : Option Nat} {op : AOp} {t : Nat} {c : Bool} (hg : getE st.env t = .av (.bool c)) (hc : c = true) (h1 : K (putD dst .skp st)) : WQ T hu ds es ⟨dst, op, some (t, false)⟩ st K :=
  WQ.bothF hg (fun h => by rw [hc] at h; cases h) (fun _ => h1)

/-- What the body of a loop owes: after it, the loop stands one further; or it is left. -/
def Qit (ks : List Nat) (N : St → Prop) (Q : Ex → St → Prop) : Ex → St → Prop
  | .norm, st => N (st.keep ks)
  | e, st => Q e st

/-- A loop over a list, place by place. `f i b`: the state at its head. -/
theorem W.list {α β : Type} {ks : List Nat} {a : AC} (l : List α) (f : Nat → β → St) (P : Nat → β → Prop) (b0 : β) (hs : st.keep ks = f 0 b0) (hP : P 0 b0)
    (step : ∀ i x b, l[i]? = some x → i < l.length → P i b → W T a (f i b) (Qit ks (fun st' => ∃ b', P (i + 1) b' ∧ st' = f (i + 1) b') Q))
    (stop : ∀ b, P l.length b → W T a (f l.length b) (Qit ks (fun _ => False) Q)) : W T (.loop ks a) st Q := by
  have key : ∀ m i b (s : St), i + m = l.length → P i b → s.keep ks = f i b → W T (.loop ks a) s Q := by
    intro m
    induction m with
    | zero =>
      intro i b s hi hp hk
      refine W.loop ?_
      rw [hk]
      have : i = l.length := by omega
      subst this
      refine (stop b hp).mono fun e s' h => ?_
      cases e with
      | norm => exact h.elim
      | exit j => exact h
      | ret => exact h
    | succ m ih =>
      intro i b s hi hp hk
      refine W.loop ?_
      rw [hk]
      have hlt : i < l.length := by omega
      refine (step i l[i] b (List.getElem?_eq_getElem hlt) hlt hp).mono fun e s' h => ?_
      cases e with
      | norm => obtain ⟨b', hp', he⟩ := h; exact ih (i + 1) b' s' (by omega) hp' he
      | exit j => exact h
      | ret => exact h
  exact key l.length 0 b0 st (by omega) hP hs

theorem W.listP {α β : Type} {ks : List Nat} {a : AC} (l : List α) (g : Nat → β → St → St) (P : Nat → β → Prop) (b0 : β) (hP : P 0 b0) (hs : st.keep ks = (g 0 b0 st).keep ks)
    (step : ∀ i x b, l[i]? = some x → i < l.length → P i b → W T a ((g i b st).keep ks) (Qit ks (fun st' => ∃ b', P (i + 1) b' ∧ st' = (g (i + 1) b' st).keep ks) Q))
    (stop : ∀ b, P l.length b → W T a ((g l.length b st).keep ks) (Qit ks (fun _ => False) Q)) : W T (.loop ks a) st Q :=
  W.list l (fun i b => (g i b st).keep ks) P b0 hs hP step stop

/-- A loop with a measure. -/
theorem W.iter {β : Type} {ks : List Nat} {a : AC} (f : β → St) (P : β → Prop) (m : β → Nat) (b0 : β) (hs : st.keep ks = f b0) (hP : P b0)
    (step : ∀ b, P b → W T a (f b) (Qit ks (fun st' => ∃ b', P b' ∧ m b' < m b ∧ st' = f b') Q)) : W T (.loop ks a) st Q := by
  have key : ∀ n b (s : St), m b < n → P b → s.keep ks = f b → W T (.loop ks a) s Q := by
    intro n
    induction n with
    | zero => intro b s hn; omega
    | succ n ih =>
      intro b s hn hp hk
      refine W.loop ?_
      rw [hk]
      refine (step b hp).mono fun e s' h => ?_
      cases e with
      | norm => obtain ⟨b', hp', hm, he⟩ := h; exact ih b' s' (by omega) hp' he
      | exit j => exact h
      | ret => exact h
  exact key (m b0 + 1) b0 st (by omega) hP hs
theorem W.iterP {β : Type} {ks : List Nat} {a : AC} (g : β → St → St) (P : β → Prop) (m : β → Nat) (b0 : β) (hP : P b0) (hs : st.keep ks = (g b0 st).keep ks)
    (step : ∀ b, P b → W T a ((g b st).keep ks) (Qit ks (fun st' => ∃ b', P b' ∧ m b' < m b ∧ st' = (g b' st).keep ks) Q)) : W T (.loop ks a) st Q :=
  W.iter (fun b => (g b st).keep ks) P m b0 hs hP step
theorem Ret.ex {f : Nat} {fn : AFun} {as : List Arg} {R : CR → Prop} (h : Fn T f fn) (hfit : fits fn.params as = true) (hw : W T fn.body ⟨lstE (entry 0 as).1, lstB (entry 0 as).2⟩ (fun e st => ∃ r, R r ∧ Qend fn as r e st)) : ∃ r, R r ∧ Ret T f as r := by
  obtain ⟨n, e, st1, h1, r, hr, h2⟩ := hw
  exact ⟨r, hr, Ret.mk h hfit ⟨n, e, st1, h1, h2⟩⟩
theorem Ret.ex1 {α : Type} {f : Nat} {fn : AFun} {as : List Arg} {g : α → AV} {R : α → Prop} (h : Fn T f fn) (hfit : fits fn.params as = true) (hw : W T fn.body ⟨lstE (entry 0 as).1, lstB (entry 0 as).2⟩ (fun e st => ∃ r, R r ∧ Qend fn as (one (g r)) e st)) : ∃ r, R r ∧ Ret T f as (one (g r)) := by
  obtain ⟨n, e, st1, h1, r, hr, h2⟩ := hw
  exact ⟨r, hr, Ret.mk h hfit ⟨n, e, st1, h1, h2⟩⟩
end
theorem bm : (∀ (p : Prop) [Decidable p], (decide p = true) = p) ∧ (∀ (p : Prop) [Decidable p], (decide p = false) = ¬ p) ∧ (∀ a b : Int, (¬ a ≤ b) = (b < a)) ∧ (∀ a b : Int, (¬ a < b) = (b ≤ a)) ∧
    (∀ {α : Type} [BEq α] [LawfulBEq α] (a b : α), ((a != b) = true) = ¬ (a = b)) ∧ (∀ {α : Type} [BEq α] [LawfulBEq α] (a b : α), ((a == b) = true) = (a = b)) ∧
    (∀ {α : Type} [BEq α] [LawfulBEq α] (a b : α), ((a != b) = false) = (a = b)) ∧ (∀ {α : Type} [BEq α] [LawfulBEq α] (a b : α), ((a == b) = false) = ¬ (a = b)) ∧ (∀ {α : Type} (a b : α), (a ≠ b) = ¬ (a = b)) := by
  refine ⟨fun p _ => by simp, fun p _ => by simp, fun a b => propext Int.not_le, fun a b => propext Int.not_lt, fun a b => by simp, fun a b => by simp, fun a b => by simp, fun a b => by simp, fun a b => rfl⟩
theorem bn : (∀ b : Bool, ((!b) = true) = (b = false)) ∧ (∀ b : Bool, ((!b) = false) = (b = true)) ∧ (∀ (p : Prop) [Decidable p], (decide p = true) = p) ∧ (∀ (p : Prop) [Decidable p], (decide p = false) = ¬ p) ∧
    (∀ {α : Type} [BEq α] [LawfulBEq α] (a b : α), ((a != b) = true) = ¬ (a = b)) ∧ (∀ {α : Type} [BEq α] [LawfulBEq α] (a b : α), ((a == b) = true) = (a = b)) ∧
    (∀ {α : Type} [BEq α] [LawfulBEq α] (a b : α), ((a != b) = false) = (a = b)) ∧ (∀ {α : Type} [BEq α] [LawfulBEq α] (a b : α), ((a == b) = false) = ¬ (a = b)) ∧ (∀ {α : Type} (a b : α), (a ≠ b) = ¬ (a = b)) := by
  refine ⟨fun b => by cases b <;> simp, fun b => by cases b <;> simp, fun p _ => by simp, fun p _ => by simp, fun a b => by simp, fun a b => by simp, fun a b => by simp, fun a b => by simp, fun a b => rfl⟩
theorem kp : (∀ (st : St) (d k : Nat) (t : TV), getE (st.put d t).env k = if d = k then t else getE st.env k) ∧ (∀ (st : St) (d : Nat) (t : TV), (st.put d t).boxes = st.boxes) ∧
    (∀ (j k : Nat) (v : TV) (l : List (Nat × TV)), getE (lstE ((j, v) :: l)) k = if k = j then v else getE (lstE l) k) ∧ (∀ k : Nat, getE (lstE []) k = .und) ∧
    (∀ (j k : Nat) (v : Option (List Cell)) (l : List (Nat × Option (List Cell))), getB (lstB ((j, v) :: l)) k = if k = j then v else getB (lstB l) k) ∧ (∀ k : Nat, getB (lstB []) k = none) ∧
    (∀ (K : List Nat) (st : St), st.keep K = ⟨lstE (K.map fun k => (k, (getE st.env k).kept K)), lstB (K.map fun k => (k, getB st.boxes k))⟩) ∧
    (∀ (K : List Nat) (v : AV), (TV.av v).kept K = .av v) ∧ (∀ (K : List Nat) (cs : List Cell) (g : Bool), (TV.own cs g).kept K = .own cs g) ∧ (∀ K : List Nat, TV.und.kept K = .und) ∧ (∀ K : List Nat, TV.skp.kept K = .skp) ∧
    (∀ (K : List Nat) (l : List (Option (List Cell × Bool))), (TV.tup l).kept K = .tup l) ∧
    (∀ (K : List Nat) (k : Nat) (p : List (Nat × Nat)) (o : Nat), (TV.plc ⟨.box k, p, o⟩).kept K = if K.contains k then .plc ⟨.box k, p, o⟩ else .und) ∧
    (∀ (K : List Nat) (k : Nat) (p : List (Nat × Nat)) (o : Nat), (TV.plc ⟨.slot k, p, o⟩).kept K = if K.contains k then .plc ⟨.slot k, p, o⟩ else .und) ∧
    (∀ (K : List Nat) (v : AV), (TV.ali v none).kept K = .ali v none) ∧
    (∀ (K : List Nat) (v : AV) (k : Nat) (p : List (Nat × Nat)) (o : Nat), (TV.ali v (some ⟨.box k, p, o⟩)).kept K = if K.contains k then .ali v (some ⟨.box k, p, o⟩) else .und) ∧
    (∀ (K : List Nat) (v : AV) (k : Nat) (p : List (Nat × Nat)) (o : Nat), (TV.ali v (some ⟨.slot k, p, o⟩)).kept K = if K.contains k then .ali v (some ⟨.slot k, p, o⟩) else .und) ∧
    (∀ (e : Nat → TV) (k j : Nat) (v : TV), getE (upd e k v) j = if k = j then v else getE e j) ∧ (∀ (b : Nat → Option (List Cell)) (k j : Nat) (v : Option (List Cell)), getB (upd b k v) j = if k = j then v else getB b j) ∧
    (∀ (a b : Nat) (l : List Nat), (a :: l).contains b = (b == a || l.contains b)) ∧ (∀ a : Nat, ([] : List Nat).contains a = false) ∧ (∀ b : Bool, (b || false) = b) ∧ (∀ b : Bool, (false || b) = b) ∧ (∀ b : Bool, (b || true) = true) ∧ (∀ b : Bool, (true || b) = true) :=
  ⟨put_env, put_box, lstE_cons, lstE_nil, lstB_cons, lstB_nil, keep_eq, kept_av, kept_own, kept_und, kept_skp, kept_tup, kept_plcB, kept_plcS, kept_aliN, kept_aliB, kept_aliS, getE_upd, getB_upd, fun _ _ _ => List.contains_cons, fun _ => rfl, Bool.or_false, Bool.false_or, Bool.or_true, Bool.true_or⟩
end Hm

/- Lists that are laid out at once. Conditions: see each theorem. -/
namespace Hm
def seqP : Nat → List Cell → List (Nat × List Cell)
  | _, [] => []
  | k, c :: r => (k, [c]) :: seqP (k + 1) r
theorem fill_seq : ∀ (cells pre : List Cell) (z : Cell), fillC (pre ++ repC [z] cells.length) (seqP pre.length cells) = some (pre ++ cells)
  | [], pre, z => by simp [seqP, fillC, repC]
  | c :: r, pre, z => by
    have h := fill_seq r (pre ++ [c]) z
    have e : splice pre.length [c] (pre ++ repC [z] (r.length + 1)) = some (pre ++ [c] ++ repC [z] r.length) := by
      have e1 : repC [z] (r.length + 1) = z :: repC [z] r.length := rfl
      rw [splice, e1, if_pos (by simp)]
      congr 1
      rw [List.take_left' rfl, show pre ++ z :: repC [z] r.length = (pre ++ [z]) ++ repC [z] r.length by simp, List.drop_left' (by simp)]
    simp only [seqP, List.length_cons, fillC, e]
    rw [show pre.length + 1 = (pre ++ [c]).length by simp, h]
    simp
theorem chop1 : ∀ cells : List Cell, chop 1 cells.length cells = cells.map fun c => [c]
  | [] => rfl
  | c :: r => by simp only [List.length_cons, chop, List.map_cons, List.take_succ_cons, List.take_zero, List.drop_succ_cons, List.drop_zero, chop1 r]
theorem seqP_len : ∀ (k : Nat) (cells : List Cell), (seqP k cells).length = cells.length
  | _, [] => rfl
  | k, c :: r => by simp [seqP, seqP_len (k + 1) r]
theorem W1.bS {T : Tab} {st st' : St} {K : St → Prop} {dst : Option Nat} {g : Option (Nat × Bool)} {n : Nat} {z : Cell} {parts : List (Nat × Nat × Opd)} {l : List (Nat × List Cell)} (hg : wanted st g = some true)
    (hgv : gives st parts = some (l, st')) (hl : l = seqP 0 (l.map fun p => p.2.headD default)) (hn : l.length = n)
    (hk : K (putD dst (.own [.own 1 ((l.map fun p => p.2.headD default).map fun c => [c])] false) st')) : W1 T ⟨dst, .buildS n 1 [z] parts, g⟩ st K := by
  refine W1.go hg (WS.op (v := .own [.own 1 ((l.map fun p => p.2.headD default).map fun c => [c])] false) (st' := st') rfl ?_ hk)
  have h1 := fill_seq (l.map fun p => p.2.headD default) [] z
  have h2 : (l.map fun p => p.2.headD default).length = n := by simpa using hn
  rw [List.nil_append, h2, List.length_nil, ← hl, List.nil_append] at h1
  simp only [stepOp, hgv, h1]
  rw [← h2, chop1]
theorem W1.idxA1 {T : Tab} {st : St} {K : St → Prop} {dst : Option Nat} {g : Option (Nat × Bool)} {n : Nat} {x i : Opd} {m : Int} {cs : List AV} {r : AV} (hg : wanted st g = some true) (hx : st.opd x = .av (.agg cs)) (hi : st.opd i = .av (.int .i64 m))
    (h0 : 0 ≤ m) (hn : m.toNat < n) (hc : cs[m.toNat]? = some r) (hk : K (putD dst (.av r) st)) : W1 T ⟨dst, .idxA n 1 false x i, g⟩ st K := by
  have hlt : m.toNat < cs.length := (List.getElem?_eq_some_iff.1 hc).1
  have e : mkV false ((cs.drop (m.toNat * 1)).take 1) = r := by
    rw [Nat.mul_one, List.drop_eq_getElem_cons hlt, List.take_succ_cons, List.take_zero]
    rw [List.getElem?_eq_getElem hlt] at hc
    simpa [mkV] using hc
  refine W1.go hg (WS.op (v := .av r) rfl ?_ hk)
  simp only [stepOp, hx, hi, idx, if_pos h0]
  rw [if_pos ⟨hn, by omega⟩, e]
end Hm

/- Rules for lists of the call's own that are written in place, for borrowed variables, for halves. Conditions: see each theorem. -/
namespace Hm
open Go (IntKind)
section
variable {T : Tab} {st st' : St} {K : St → Prop}
theorem drop_take1 {α : Type} {cs : List α} {o : Nat} {c : α} (h : cs[o]? = some c) : o + 1 ≤ cs.length ∧ (cs.drop o).take 1 = [c] := by
  have hl : o < cs.length := (List.getElem?_eq_some_iff.1 h).1
  refine ⟨by omega, ?_⟩
  rw [List.drop_eq_getElem_cons hl, List.take_succ_cons, List.take_zero]
  rw [List.getElem?_eq_getElem hl] at h
  simpa using h
/-- A place in a list that a variable holds. -/
theorem W1.iadrO {dst : Option Nat} {g : Option (Nat × Bool)} {k b o : Nat} {x i : Opd} {ik : IntKind} {n : Int} {k0 : Nat} {rw0 : List (List AV)} {cs : List Cell} {R : List (List Cell)} (hg : wanted st g = some true) (hx : st.opd x = .ali (.lst k0 rw0) (some ⟨.box b, [], o⟩))
    (hi : st.opd i = .av (.int ik n)) (hb : getB st.boxes b = some cs) (hc : cs[o]? = some (.own k R)) (h0 : 0 ≤ n) (hn : n.toNat < R.length)
    (hk : K (putD dst (.plc ⟨.box b, [(o, n.toNat)], 0⟩) st)) : W1 T ⟨dst, .iadr k x i, g⟩ st K := by
  obtain ⟨h1, h2⟩ := drop_take1 hc
  refine W1.go hg (WS.op (v := .plc ⟨.box b, [(o, n.toNat)], 0⟩) rfl ?_ hk)
  simp only [stepOp, hi, idx, if_pos h0, hx, St.cells, St.root, hb, getRow, if_pos h1, h2]
  rw [if_pos ⟨trivial, hn⟩]; rfl
/-- What stands at such a place, if it is plain. -/
theorem W1.loadP {dst : Option Nat} {g : Option (Nat × Bool)} {k b o i n : Nat} {a : Opd} {cs : List Cell} {R : List (List Cell)} {vs : List AV} (hg : wanted st g = some true) (ha : st.opd a = .plc ⟨.box b, [(o, i)], 0⟩)
    (hb : getB st.boxes b = some cs) (hc : cs[o]? = some (.own k R)) (hr : R[i]? = some (vs.map .av)) (hn : vs.length = n) (hk : K (putD dst (.av (mkV true vs)) st)) : W1 T ⟨dst, .load n true a, g⟩ st K := by
  have hv : ∀ vs : List AV, viewAv (vs.map .av) = some vs := fun vs => by
    induction vs with
    | nil => rfl
    | cons v vs ih => simp only [List.map_cons, viewAv, ih]
  refine W1.go hg (WS.op (v := .av (mkV true vs)) rfl ?_ hk)
  have h1 : ((vs.map Cell.av).drop 0).take n = vs.map .av := by rw [List.drop_zero, List.take_of_length_le (by simp [hn])]
  simp only [stepOp, ha, St.cells, St.root, hb, getRow, hc, hr, List.length_map, hn, Nat.zero_add, Nat.le_refl, if_true, h1, hv]
/-- New cells at such a place. -/
theorem W1.storeP {dst : Option Nat} {g : Option (Nat × Bool)} {k b o i n : Nat} {a x : Opd} {cs cs' c r : List Cell} {R : List (List Cell)} {gg : Bool} (hg : wanted st g = some true) (ha : st.opd a = .plc ⟨.box b, [(o, i)], 0⟩)
    (hx : (st.opd x).give = some (c, gg)) (hb : getB (x.eat st).boxes b = some cs) (hc : cs[o]? = some (.own k R)) (hr : R[i]? = some r) (hn : c.length = n) (hrl : r.length = n) (he : cs.set o (.own k (R.set i c)) = cs')
    (hk : K (putD dst .und ⟨clrE ⟨.box b, [(o, i)], 0⟩ n (x.eat st).env, upd (x.eat st).boxes b (some cs')⟩)) : W1 T ⟨dst, .store n a x, g⟩ st K := by
  refine W1.go hg (WS.op (v := .und) (st' := ⟨clrE ⟨.box b, [(o, i)], 0⟩ n (x.eat st).env, upd (x.eat st).boxes b (some cs')⟩) rfl ?_ hk)
  have h1 : splice 0 c r = some c := by rw [splice, if_pos (by omega), hn, ← hrl]; simp
  simp only [stepOp, ha, hx, hn, if_true, St.write, St.root, hb, setRow, hc, hr, h1, he, St.setRoot]
theorem W1.callM0 {dst : Option Nat} {gd : Option (Nat × Bool)} {s : Seal} {f : Opd} {xs : List Opd} {g : Nat} {first cs : List AV} {ms : List PMode} {l : List Arg} {r : CR}
    (hg : wanted st gd = some true) (hf : (st.opd f).fn = some (g, first, cs, false)) (hm : T.modes g = ms) (ha : args st (ms.drop first.length) xs = some (l, false, [], st'))
    (hr : Ret T g (first.map .val ++ l ++ cs.map .val) r) (ho : r.outs = []) (hk : K (putD dst (resTV s r.res) st'.hush)) : W1 T ⟨dst, .callM s f xs, gd⟩ st K :=
  W1.go hg (WS.callM0 hf hm ha hr ho hk)
theorem W1.callM1 {dst : Option Nat} {gd : Option (Nat × Bool)} {s : Seal} {f : Opd} {xs : List Opd} {g k : Nat} {first cs : List AV} {ms : List PMode} {l : List Arg} {r : CR} {out : List Cell}
    (hg : wanted st gd = some true) (hf : (st.opd f).fn = some (g, first, cs, false)) (hm : T.modes g = ms) (ha : args st (ms.drop first.length) xs = some (l, false, [k], st'))
    (hr : Ret T g (first.map .val ++ l ++ cs.map .val) r) (ho : r.outs = [out]) (hk : K (putD dst (resTV s r.res) (st'.back k out).hush)) : W1 T ⟨dst, .callM s f xs, gd⟩ st K :=
  W1.go hg (WS.callM1 hf hm ha hr ho hk)
theorem W1.appendO {dst : Option Nat} {g : Option (Nat × Bool)} {bytes k : Nat} {x y : Opd} {base rows : List (List Cell)} {st1 : St} (hg : wanted st g = some true) (hn : appNew st k y = some (rows, st1)) (hx : st1.opd x = .own [.own k base] false)
    (hl : base.length + rows.length ≤ limit) (hk : K (putD dst (.own [.own k (base ++ rows)] false) (x.eat st1).hush)) : W1 T ⟨dst, .append bytes k x y, g⟩ st K := by
  refine W1.go hg (WS.op (v := .own [.own k (base ++ rows)] false) (st' := (x.eat st1).hush) rfl ?_ hk)
  simp only [stepOp, hn, hx]
  rw [if_pos ⟨trivial, hl⟩]
theorem W1.append1 {dst : Option Nat} {g : Option (Nat × Bool)} {bytes k : Nat} {x y : Opd} {base rows : List (List Cell)} {r : List Cell} {st1 : St} (hg : wanted st g = some true) (hn : appNew st k y = some (rows, st1)) (hr : rows = [r]) (hx : st1.opd x = .own [.own k base] false)
    (hl : base.length + 1 ≤ 4294967296) (hk : K (putD dst (.own [.own k (base ++ [r])] false) (x.eat st1).hush)) : W1 T ⟨dst, .append bytes k x y, g⟩ st K := by
  subst hr; exact W1.appendO hg hn hx hl hk
theorem W1.slcO {dst : Option Nat} {g : Option (Nat × Bool)} {k : Nat} {x hi : Opd} {rs : List (List Cell)} {ik : IntKind} {n : Int} {len : Nat} (hg : wanted st g = some true) (hx : st.opd x = .own [.own k rs] false) (hh : st.opd hi = .av (.int ik n)) (h0 : 0 ≤ n) (hlen : (sealRows rs).length = len) (hn : n.toNat ≤ len)
    (hk : K (putD dst (.own [.own k (rs.take n.toNat)] false) (x.eat st))) : W1 T ⟨dst, .slc false k x none (some hi), g⟩ st K := by
  refine W1.go hg (WS.op (v := .own [.own k (rs.take n.toNat)] false) (st' := x.eat st) rfl ?_ hk)
  subst hlen
  have e : (TV.own [.own k rs] false).rd = some (.lst k (sealRows rs)) := rfl
  simp only [stepOp, hx, e, St.bnd, hh, idx, if_pos h0]
  rw [if_pos ⟨trivial, Nat.zero_le _, hn⟩]
  simp only [if_true]
theorem wrapU64 {n : Int} (h1 : 0 ≤ n) (h2 : n < 18446744073709551616) : IntKind.wrap .u64 n = n := by
  show n % 18446744073709551616 = n
  omega
theorem W1.toU64 {dst : Option Nat} {g : Option (Nat × Bool)} {x : Opd} {k : IntKind} {a : Int} (hg : wanted st g = some true) (hx : st.opd x = .av (.int k a)) (h0 : 0 ≤ a) (h1 : a < 18446744073709551616)
    (hk : K (putD dst (.av (.int .u64 a)) st)) : W1 T ⟨dst, .conv (.int .u64) x, g⟩ st K :=
  W1.go hg (WS.op (v := .av (.int .u64 a)) rfl (by simp only [stepOp, hx, convA, wrapU64 h0 h1]) hk)
theorem W1.toI64 {dst : Option Nat} {g : Option (Nat × Bool)} {x : Opd} {k : IntKind} {a : Int} (hg : wanted st g = some true) (hx : st.opd x = .av (.int k a)) (h0 : -9223372036854775808 ≤ a) (h1 : a < 9223372036854775808)
    (hk : K (putD dst (.av (.int .i64 a)) st)) : W1 T ⟨dst, .conv (.int .i64) x, g⟩ st K :=
  W1.go hg (WS.op (v := .av (.int .i64 a)) rfl (by simp only [stepOp, hx, convA, wrap64 h0 h1]) hk)
theorem W1.half {dst : Option Nat} {g : Option (Nat × Bool)} {x : Opd} {a : Int} (hg : wanted st g = some true) (hx : st.opd x = .av (.int .u64 a))
    (hk : K (putD dst (.av (.int .u64 (a / 2))) st)) : W1 T ⟨dst, .bin .shr x (.v (.int .u64 1)), g⟩ st K := by
  refine W1.go hg (WS.op (v := .av (.int .u64 (a / 2))) rfl ?_ hk)
  have : Int.fdiv a 2 = a / 2 := Int.fdiv_eq_ediv_of_nonneg _ (by decide)
  rw [← this]
  have hy : st.opd (.v (.int .u64 1)) = .av (.int .u64 1) := rfl
  simp only [stepOp, hx, hy, binA]
  rfl
end
end Hm

/- Rules that make states plain. Conditions: see each theorem. -/
namespace Hm
open Go (IntKind)
theorem clr_av (p : Place) (n : Nat) (v : AV) : (TV.av v).clr p n = .av v := rfl
theorem clr_own (p : Place) (n : Nat) (cs : List Cell) (g : Bool) : (TV.own cs g).clr p n = .own cs g := rfl
theorem clr_plc (p : Place) (n : Nat) (r : Root) (o : Nat) : (TV.plc ⟨r, [], o⟩).clr p n = .plc ⟨r, [], o⟩ := by
  simp only [TV.clr, List.map_nil, TV.clr.hits]; rw [if_neg (by simp)]
theorem clr_und (p : Place) (n : Nat) : TV.und.clr p n = .und := rfl
theorem clr_skp (p : Place) (n : Nat) : TV.skp.clr p n = .skp := rfl
theorem clr_tup (p : Place) (n : Nat) (l : List (Option (List Cell × Bool))) : (TV.tup l).clr p n = .tup l := rfl
theorem hush_av (v : AV) : (TV.av v).hush = .av v := rfl
theorem hush_own (cs : List Cell) (g : Bool) : (TV.own cs g).hush = .own cs g := rfl
theorem hush_plc (p : Place) : (TV.plc p).hush = .plc p := rfl
theorem hush_und : TV.und.hush = .und := rfl
theorem hush_skp : TV.skp.hush = .skp := rfl
theorem hush_tup (l : List (Option (List Cell × Bool))) : (TV.tup l).hush = .tup l := rfl
theorem getE_clrX (p : Place) (n : Nat) (e : Nat → TV) (k : Nat) : getE (clrE p n e) k = (getE e k).clr p n := rfl
theorem getE_hushE' (e : Nat → TV) (k : Nat) : getE (hushE e) k = (getE e k).hush := rfl
theorem mkV_trueX (l : List AV) : mkV true l = .agg l := rfl
theorem mkV_oneX (v : AV) : mkV false [v] = v := rfl
theorem kq : (∀ (p : Place) (n : Nat) (v : AV), (TV.av v).clr p n = .av v) ∧ (∀ (p : Place) (n : Nat) (cs : List Cell) (g : Bool), (TV.own cs g).clr p n = .own cs g) ∧ (∀ (p : Place) (n : Nat) (r : Root) (o : Nat), (TV.plc ⟨r, [], o⟩).clr p n = .plc ⟨r, [], o⟩) ∧
    (∀ (p : Place) (n : Nat), TV.und.clr p n = .und) ∧ (∀ (p : Place) (n : Nat), TV.skp.clr p n = .skp) ∧ (∀ (p : Place) (n : Nat) (l : List (Option (List Cell × Bool))), (TV.tup l).clr p n = .tup l) ∧
    (∀ v : AV, (TV.av v).hush = .av v) ∧ (∀ (cs : List Cell) (g : Bool), (TV.own cs g).hush = .own cs g) ∧ (∀ p : Place, (TV.plc p).hush = .plc p) ∧ (TV.und.hush = .und) ∧ (TV.skp.hush = .skp) ∧ (∀ l : List (Option (List Cell × Bool)), (TV.tup l).hush = .tup l) ∧
    (∀ (p : Place) (n : Nat) (e : Nat → TV) (k : Nat), getE (clrE p n e) k = (getE e k).clr p n) ∧ (∀ (e : Nat → TV) (k : Nat), getE (hushE e) k = (getE e k).hush) ∧ (∀ l : List AV, mkV true l = .agg l) ∧ (∀ v : AV, mkV false [v] = v) ∧
    (∀ (st : St) (k : Nat) (cs : List Cell), (st.setRoot (.box k) cs).env = st.env) ∧ (∀ (st : St) (k : Nat) (cs : List Cell), (st.setRoot (.box k) cs).boxes = upd st.boxes k (some cs)) ∧ (∀ st : St, st.hush.env = hushE st.env) ∧ (∀ st : St, st.hush.boxes = st.boxes) ∧ (∀ (st : St) (k : Nat) (cs : List Cell), (st.back k cs).env = clrE ⟨.box k, [], 0⟩ cs.length st.env) ∧ (∀ (st : St) (k : Nat) (cs : List Cell), (st.back k cs).boxes = upd st.boxes k (some cs)) :=
  ⟨clr_av, clr_own, clr_plc, clr_und, clr_skp, clr_tup, hush_av, hush_own, hush_plc, hush_und, hush_skp, hush_tup, getE_clrX, getE_hushE', mkV_trueX, mkV_oneX, fun _ _ _ => rfl, fun _ _ _ => rfl, fun _ => rfl, fun _ => rfl, fun _ _ _ => rfl, fun _ _ _ => rfl⟩
end Hm

/- More rules of a walk: states made plain, aggregates and lists of one built. Conditions: none (plain lemmas). -/
namespace Hm
open Go (IntKind)
theorem kr : (∀ (r : Root) (v : AV), (TV.av v).un r = .av v) ∧ (∀ (r : Root) (cs : List Cell) (g : Bool), (TV.own cs g).un r = .own cs g) ∧ (∀ r : Root, TV.und.un r = .und) ∧ (∀ r : Root, TV.skp.un r = .skp) ∧ (∀ (r : Root) (l : List (Option (List Cell × Bool))), (TV.tup l).un r = .tup l) ∧
    (∀ (r q : Root) (p : List (Nat × Nat)) (o : Nat), (TV.plc ⟨q, p, o⟩).un r = if q = r then .und else .plc ⟨q, p, o⟩) ∧ (∀ (r : Root) (e : Nat → TV) (k : Nat), getE (unE r e) k = (getE e k).un r) ∧ (∀ a b : Nat, (Root.box a = Root.box b) = (a = b)) ∧ (∀ a b : Nat, (Root.slot a = Root.box b) = False) ∧ (∀ a b : Nat, (Root.box a = Root.slot b) = False) :=
  ⟨fun _ _ => rfl, fun _ _ _ => rfl, fun _ => rfl, fun _ => rfl, fun _ _ => rfl, fun _ _ _ _ => rfl, fun _ _ _ => rfl, fun _ _ => by simp, fun _ _ => by simp, fun _ _ => by simp⟩
theorem W1.buildC {T : Tab} {st st' : St} {K : St → Prop} {dst : Option Nat} {g : Option (Nat × Bool)} {zero cs : List Cell} {parts : List (Nat × Nat × Opd)} {l : List (Nat × List Cell)} (hg : wanted st g = some true) (hgv : gives st parts = some (l, st')) (hf : fillC zero l = some cs)
    (hk : K (putD dst (TV.ofCells true cs) st')) : W1 T ⟨dst, .build zero parts, g⟩ st K := by
  refine W1.go hg (WS.op (v := TV.ofCells true cs) (st' := st') rfl ?_ hk)
  simp only [stepOp, hgv, hf]
theorem W1.bS1 {T : Tab} {st : St} {K : St → Prop} {dst : Option Nat} {g : Option (Nat × Bool)} {k : Nat} {zero c : List Cell} {x : Opd} {gg : Bool} (hg : wanted st g = some true) (hx : (st.opd x).give = some (c, gg)) (hc : c.length = k) (hz : zero.length = k)
    (hk : K (putD dst (.own [.own k [c]] false) (x.eat st))) : W1 T ⟨dst, .buildS 1 k zero [(0, k, x)], g⟩ st K := by
  refine W1.go hg (WS.op (v := .own [.own k [c]] false) (st' := x.eat st) rfl ?_ hk)
  have h1 : splice 0 c (repC zero 1) = some c := by
    rw [splice, if_pos (by simp [repC]; omega)]
    simp [repC, hc, hz]
  have h2 : chop k 1 c = [c] := by
    show [c.take k] = [c]
    rw [List.take_of_length_le (by omega)]
  simp only [stepOp, gives, hx, if_pos hc, fillC, h1, h2]
end Hm

/- Steps of a walk: calls whose results are sealed. -/
namespace Hm
open Go (IntKind)
/-- A call whose two results are sealed. -/
theorem W1.callD2 {T : Tab} {st st' : St} {K : St → Prop} {dst : Option Nat} {gd : Option (Nat × Bool)} {f : Opd} {xs : List Opd} {g : Nat} {first cs : List AV} {t0 t : Bool} {ms : List PMode} {l : List Arg} {ks : List Nat} {C : List Cell} {v : AV} {row : List AV} (hC : sealRow C = row)
    (hg : wanted st gd = some true) (hf : (st.opd f).fn = some (g, first, cs, t0)) (hm : T.modes g = ms) (ha : args st (ms.drop first.length) xs = some (l, t, ks, st')) (hio : hasIo l = false) (hmv : hasMv l = false)
    (hr : Ret T g (first.map .val ++ l ++ cs.map .val) ⟨[(C, true), ([.av v], false)], []⟩) (ht : (t0 || t) = false) (hk : K (putD dst (.tup [some (row.map .av, true), some ([.av v], false)]) st')) : W1 T ⟨dst, .call .deep f xs, gd⟩ st K := by
  refine W1.callV hg hf hm ha hio hmv hr (by rw [ht]; rfl) ?_
  show K (putD dst (.tup [some ((sealRow C).map .av, true), some ([.av v], false)]) st')
  rw [hC]; exact hk
/-- A call whose one result is sealed. -/
theorem W1.callD1 {T : Tab} {st st' : St} {K : St → Prop} {dst : Option Nat} {gd : Option (Nat × Bool)} {f : Opd} {xs : List Opd} {g : Nat} {first cs : List AV} {t0 t : Bool} {ms : List PMode} {l : List Arg} {ks : List Nat} {C : List Cell} {row : List AV} (hC : sealRow C = row)
    (hg : wanted st gd = some true) (hf : (st.opd f).fn = some (g, first, cs, t0)) (hm : T.modes g = ms) (ha : args st (ms.drop first.length) xs = some (l, t, ks, st')) (hio : hasIo l = false) (hmv : hasMv l = false)
    (hr : Ret T g (first.map .val ++ l ++ cs.map .val) ⟨[(C, true)], []⟩) (ht : (t0 || t) = false) (hk : K (putD dst (.av (.agg row)) st')) : W1 T ⟨dst, .call .deep f xs, gd⟩ st K := by
  refine W1.callV hg hf hm ha hio hmv hr (by rw [ht]; rfl) ?_
  show K (putD dst (.av (.agg (sealRow C))) st')
  rw [hC]; exact hk
end Hm

/- Values of the program as trees of their own kind. Conditions: none (definitions and plain lemmas). -/
namespace Hm
open Go (IntKind)
abbrev Str := List UInt8
inductive V where
  | mk (kind : Int) (num text : Str) (items : List V) (keys : List Str)
def srow (l : List Str) : List (List AV) := l.map fun s => [AV.str s]
def sbk : List Str → Nat
  | [] => 0
  | s :: r => (s.length + 1) + sbk r
namespace V
def kind : V → Int | mk k _ _ _ _ => k
def num : V → Str | mk _ n _ _ _ => n
def text : V → Str | mk _ _ t _ _ => t
def items : V → List V | mk _ _ _ l _ => l
def keys : V → List Str | mk _ _ _ _ l => l
mutual
def row : V → List AV
  | mk k n t is ks => [.int .i64 k, .str n, .str t, .lst 5 (rows is), .lst 1 (srow ks)]
def rows : List V → List (List AV)
  | [] => []
  | v :: r => row v :: rows r
end
mutual
def bk : V → Nat
  | mk _ n t is ks => 1 + ((n.length + 1) + ((t.length + 1) + ((bks is + 1) + (sbk ks + 1))))
def bks : List V → Nat
  | [] => 0
  | v :: r => bk v + bks r
end
theorem rows_eq (l : List V) : rows l = l.map row := by
  induction l with
  | nil => rfl
  | cons x l ih => simp only [rows, List.map_cons, ih]
def av (v : V) : AV := .agg v.row
theorem row_eq (v : V) : v.row = [.int .i64 v.kind, .str v.num, .str v.text, .lst 5 (v.items.map row), .lst 1 (srow v.keys)] := by
  cases v with
  | mk k n t is ks => simp only [row, kind, num, text, items, keys, rows_eq]
theorem av_eq (v : V) : v.av = .agg [.int .i64 v.kind, .str v.num, .str v.text, .lst 5 (v.items.map row), .lst 1 (srow v.keys)] := by rw [av, row_eq]
theorem bk_eq (v : V) : v.bk = 1 + ((v.num.length + 1) + ((v.text.length + 1) + ((bks v.items + 1) + (sbk v.keys + 1)))) := by
  cases v with
  | mk k n t is ks => rfl
theorem bk_mem {x : V} {l : List V} (h : x ∈ l) : x.bk ≤ bks l := by
  induction l with
  | nil => simp at h
  | cons y l ih =>
    simp only [bks]
    rcases List.mem_cons.1 h with rfl | h
    · omega
    · have := ih h; omega
theorem bk_item {x v : V} (h : x ∈ v.items) : x.bk < v.bk := by
  have := bk_mem h
  rw [bk_eq v]
  omega
theorem len_bks (l : List V) : 5 * l.length ≤ bks l := by
  induction l with
  | nil => simp [bks]
  | cons x l ih => simp only [bks, List.length_cons]; have := bk_eq x; omega
theorem bks_append (a b : List V) : bks (a ++ b) = bks a + bks b := by
  induction a with
  | nil => simp [bks]
  | cons x a ih => simp only [List.cons_append, bks, ih]; omega
theorem bks_take_succ {l : List V} {i : Nat} {x : V} (h : l[i]? = some x) : bks (l.take (i + 1)) = bks (l.take i) + x.bk := by
  rw [List.take_add_one, h, bks_append]; simp [bks]
theorem bks_take_le (l : List V) (i : Nat) : bks (l.take i) ≤ bks l := by
  have := bks_append (l.take i) (l.drop i)
  rw [List.take_append_drop] at this
  omega
theorem ind {P : V → Prop} (h : ∀ v, (∀ x ∈ v.items, P x) → P v) (v : V) : P v := by
  have key : ∀ n (v : V), v.bk < n → P v := by
    intro n
    induction n with
    | zero => intro v hv; omega
    | succ n ih => intro v hv; exact h v fun x hx => ih x (by have := bk_item hx; omega)
  exact key (v.bk + 1) v (by omega)
theorem get_row {l : List V} {i : Nat} {x : V} (h : l[i]? = some x) : (l.map row)[i]? = some [.int .i64 x.kind, .str x.num, .str x.text, .lst 5 (x.items.map row), .lst 1 (srow x.keys)] := by
  rw [List.getElem?_map, h, ← row_eq]; rfl
end V
theorem all_take_succ {α : Type} {p : α → Bool} {l : List α} {i : Nat} {x : α} (h : l[i]? = some x) : (l.take (i + 1)).all p = ((l.take i).all p && p x) := by
  rw [List.take_add_one, h, List.all_append]; simp
theorem all_false {α : Type} {p : α → Bool} {l : List α} {i : Nat} {x : α} (h : l[i]? = some x) (hp : p x = false) : l.all p = false := by
  rw [List.all_eq_false]
  exact ⟨x, List.mem_of_getElem? h, by rw [hp]; simp⟩
theorem bAt_get {s : Str} {i : Nat} {x : UInt8} (h : s[i]? = some x) : bAt s i = x := by simp [bAt, List.getD, h]
theorem u8_eq (c : UInt8) (n : Nat) (hn : n < 256) : ((c.toNat : Int) = n) ↔ c = UInt8.ofNat n := by
  constructor
  · intro h
    have : c.toNat = n := by exact_mod_cast h
    rw [← this]; simp
  · rintro rfl
    simp [UInt8.toNat_ofNat']; omega
theorem get_srow {l : List Str} {i : Nat} {x : Str} (h : l[i]? = some x) : (srow l)[i]? = some [.str x] := by
  simp only [srow, List.getElem?_map, h, Option.map_some]
theorem srow_len (l : List Str) : (srow l).length = l.length := by simp [srow]
theorem len_sbk (l : List Str) : l.length ≤ sbk l := by
  induction l with
  | nil => simp [sbk]
  | cons x l ih => simp only [sbk, List.length_cons]; omega
theorem sbk_append (a b : List Str) : sbk (a ++ b) = sbk a + sbk b := by
  induction a with
  | nil => simp [sbk]
  | cons x a ih => simp only [List.cons_append, sbk, ih]; omega
theorem sbk_take_succ {l : List Str} {i : Nat} {x : Str} (h : l[i]? = some x) : sbk (l.take (i + 1)) = sbk (l.take i) + (x.length + 1) := by
  rw [List.take_add_one, h, sbk_append]; simp [sbk]
theorem sbk_take_le (l : List Str) (i : Nat) : sbk (l.take i) ≤ sbk l := by
  have := sbk_append (l.take i) (l.drop i)
  rw [List.take_append_drop] at this
  omega
theorem sbk_mem {x : Str} {l : List Str} (h : x ∈ l) : x.length + 1 ≤ sbk l := by
  induction l with
  | nil => simp at h
  | cons y l ih =>
    simp only [sbk]
    rcases List.mem_cons.1 h with rfl | h
    · omega
    · have := ih h; omega
end Hm

/- Types of the program's values as trees of their own kind. Conditions: none (definitions and plain lemmas). -/
namespace Hm
open Go (IntKind)
mutual
inductive Ty where
  | mk (all nul fls tru : Bool) (nums : List (Str × Str)) (anyText : Bool) (texts : List Str) (arrays : List Ar) (objects : List Ob)
inductive Ar where
  | mk (item : Ty) (min max : Int)
inductive Ob where
  | mk (names : List Str) (fields : List Ty) (must : List Bool) (rest : Ty)
end
def Ty.all : Ty → Bool | .mk a _ _ _ _ _ _ _ _ => a
def Ty.nul : Ty → Bool | .mk _ a _ _ _ _ _ _ _ => a
def Ty.fls : Ty → Bool | .mk _ _ a _ _ _ _ _ _ => a
def Ty.tru : Ty → Bool | .mk _ _ _ a _ _ _ _ _ => a
def Ty.nums : Ty → List (Str × Str) | .mk _ _ _ _ a _ _ _ _ => a
def Ty.anyText : Ty → Bool | .mk _ _ _ _ _ a _ _ _ => a
def Ty.texts : Ty → List Str | .mk _ _ _ _ _ _ a _ _ => a
def Ty.arrays : Ty → List Ar | .mk _ _ _ _ _ _ _ a _ => a
def Ty.objects : Ty → List Ob | .mk _ _ _ _ _ _ _ _ a => a
def Ar.item : Ar → Ty | .mk a _ _ => a
def Ar.min : Ar → Int | .mk _ a _ => a
def Ar.max : Ar → Int | .mk _ _ a => a
def Ob.names : Ob → List Str | .mk a _ _ _ => a
def Ob.fields : Ob → List Ty | .mk _ a _ _ => a
def Ob.must : Ob → List Bool | .mk _ _ a _ => a
def Ob.rest : Ob → Ty | .mk _ _ _ a => a
def sprow (l : List (Str × Str)) : List (List AV) := l.map fun s => [AV.str s.1, AV.str s.2]
def brow (l : List Bool) : List (List AV) := l.map fun b => [AV.bool b]
def spbk : List (Str × Str) → Nat
  | [] => 0
  | s :: r => ((s.1.length + 1) + (s.2.length + 1)) + spbk r
mutual
def Ty.row : Ty → List AV
  | .mk a n f t ns at' ts as os => [.bool a, .bool n, .bool f, .bool t, .lst 2 (sprow ns), .bool at', .lst 1 (srow ts), .lst 11 (arRows as), .lst 12 (obRows os)]
def Ar.row : Ar → List AV
  | .mk i a b => i.row ++ [.int .i64 a, .int .i64 b]
def Ob.row : Ob → List AV
  | .mk ns fs ms r => [.lst 1 (srow ns), .lst 9 (tyRows fs), .lst 1 (brow ms)] ++ r.row
def tyRows : List Ty → List (List AV)
  | [] => []
  | x :: r => x.row :: tyRows r
def arRows : List Ar → List (List AV)
  | [] => []
  | x :: r => x.row :: arRows r
def obRows : List Ob → List (List AV)
  | [] => []
  | x :: r => x.row :: obRows r
end
mutual
def Ty.bk : Ty → Nat
  | .mk a n f t ns at' ts as os => 5 + ((spbk ns + 1) + ((sbk ts + 1) + ((arBks as + 1) + (obBks os + 1))))
def Ar.bk : Ar → Nat
  | .mk i a b => i.bk + 2
def Ob.bk : Ob → Nat
  | .mk ns fs ms r => (sbk ns + 1) + ((tyBks fs + 1) + ((ms.length + 1) + r.bk))
def tyBks : List Ty → Nat
  | [] => 0
  | x :: r => x.bk + tyBks r
def arBks : List Ar → Nat
  | [] => 0
  | x :: r => x.bk + arBks r
def obBks : List Ob → Nat
  | [] => 0
  | x :: r => x.bk + obBks r
end
theorem tyRows_eq (l : List Ty) : tyRows l = l.map Ty.row := by
  induction l with
  | nil => rfl
  | cons x l ih => simp only [tyRows, List.map_cons, ih]
theorem arRows_eq (l : List Ar) : arRows l = l.map Ar.row := by
  induction l with
  | nil => rfl
  | cons x l ih => simp only [arRows, List.map_cons, ih]
theorem obRows_eq (l : List Ob) : obRows l = l.map Ob.row := by
  induction l with
  | nil => rfl
  | cons x l ih => simp only [obRows, List.map_cons, ih]
def Ty.av (t : Ty) : AV := .agg t.row
theorem Ty.row_eq (t : Ty) : t.row = [.bool t.all, .bool t.nul, .bool t.fls, .bool t.tru, .lst 2 (sprow t.nums), .bool t.anyText, .lst 1 (srow t.texts), .lst 11 (t.arrays.map Ar.row), .lst 12 (t.objects.map Ob.row)] := by
  cases t with
  | mk a n f t ns at' ts as os => simp only [Ty.row, arRows_eq, obRows_eq, Ty.all, Ty.nul, Ty.fls, Ty.tru, Ty.nums, Ty.anyText, Ty.texts, Ty.arrays, Ty.objects]
theorem Ty.av_eq (t : Ty) : t.av = .agg [.bool t.all, .bool t.nul, .bool t.fls, .bool t.tru, .lst 2 (sprow t.nums), .bool t.anyText, .lst 1 (srow t.texts), .lst 11 (t.arrays.map Ar.row), .lst 12 (t.objects.map Ob.row)] := by rw [Ty.av, Ty.row_eq]
theorem Ar.row_eq (x : Ar) : x.row = [.bool x.item.all, .bool x.item.nul, .bool x.item.fls, .bool x.item.tru, .lst 2 (sprow x.item.nums), .bool x.item.anyText, .lst 1 (srow x.item.texts), .lst 11 (x.item.arrays.map Ar.row), .lst 12 (x.item.objects.map Ob.row), .int .i64 x.min, .int .i64 x.max] := by
  cases x with
  | mk i a b => simp only [Ar.row, Ty.row_eq i, Ar.item, Ar.min, Ar.max]; rfl
theorem Ob.row_eq (x : Ob) : x.row = [.lst 1 (srow x.names), .lst 9 (x.fields.map Ty.row), .lst 1 (brow x.must), .bool x.rest.all, .bool x.rest.nul, .bool x.rest.fls, .bool x.rest.tru, .lst 2 (sprow x.rest.nums), .bool x.rest.anyText, .lst 1 (srow x.rest.texts), .lst 11 (x.rest.arrays.map Ar.row), .lst 12 (x.rest.objects.map Ob.row)] := by
  cases x with
  | mk ns fs ms r => simp only [Ob.row, Ty.row_eq r, Ob.names, Ob.fields, Ob.must, Ob.rest, tyRows_eq]; rfl
theorem Ty.bk_eq (t : Ty) : t.bk = 5 + ((spbk t.nums + 1) + ((sbk t.texts + 1) + ((arBks t.arrays + 1) + (obBks t.objects + 1)))) := by cases t; rfl
theorem Ar.bk_eq (x : Ar) : x.bk = x.item.bk + 2 := by cases x; rfl
theorem Ob.bk_eq (x : Ob) : x.bk = (sbk x.names + 1) + ((tyBks x.fields + 1) + ((x.must.length + 1) + x.rest.bk)) := by cases x; rfl
theorem tyBk_mem {x : Ty} {l : List Ty} (h : x ∈ l) : x.bk ≤ tyBks l := by
  induction l with
  | nil => simp at h
  | cons y l ih =>
    simp only [tyBks]
    rcases List.mem_cons.1 h with rfl | h
    · omega
    · have := ih h; omega
theorem arBk_mem {x : Ar} {l : List Ar} (h : x ∈ l) : x.bk ≤ arBks l := by
  induction l with
  | nil => simp at h
  | cons y l ih =>
    simp only [arBks]
    rcases List.mem_cons.1 h with rfl | h
    · omega
    · have := ih h; omega
theorem obBk_mem {x : Ob} {l : List Ob} (h : x ∈ l) : x.bk ≤ obBks l := by
  induction l with
  | nil => simp at h
  | cons y l ih =>
    simp only [obBks]
    rcases List.mem_cons.1 h with rfl | h
    · omega
    · have := ih h; omega
theorem spbk_mem {x : Str × Str} {l : List (Str × Str)} (h : x ∈ l) : x.1.length + x.2.length + 2 ≤ spbk l := by
  induction l with
  | nil => simp at h
  | cons y l ih =>
    simp only [spbk]
    rcases List.mem_cons.1 h with rfl | h
    · omega
    · have := ih h; omega
theorem len_tyBks (l : List Ty) : 5 * l.length ≤ tyBks l := by
  induction l with
  | nil => simp [tyBks]
  | cons x l ih => simp only [tyBks, List.length_cons]; have := Ty.bk_eq x; omega
theorem len_arBks (l : List Ar) : 5 * l.length ≤ arBks l := by
  induction l with
  | nil => simp [arBks]
  | cons x l ih => simp only [arBks, List.length_cons]; have := Ar.bk_eq x; have := Ty.bk_eq x.item; omega
theorem len_obBks (l : List Ob) : 5 * l.length ≤ obBks l := by
  induction l with
  | nil => simp [obBks]
  | cons x l ih => simp only [obBks, List.length_cons]; have := Ob.bk_eq x; have := Ty.bk_eq x.rest; omega
theorem len_spbk (l : List (Str × Str)) : 2 * l.length ≤ spbk l := by
  induction l with
  | nil => simp [spbk]
  | cons x l ih => simp only [spbk, List.length_cons]; omega
theorem tyBks_append (a b : List Ty) : tyBks (a ++ b) = tyBks a + tyBks b := by
  induction a with
  | nil => simp [tyBks]
  | cons x a ih => simp only [List.cons_append, tyBks, ih]; omega
theorem arBks_append (a b : List Ar) : arBks (a ++ b) = arBks a + arBks b := by
  induction a with
  | nil => simp [arBks]
  | cons x a ih => simp only [List.cons_append, arBks, ih]; omega
theorem obBks_append (a b : List Ob) : obBks (a ++ b) = obBks a + obBks b := by
  induction a with
  | nil => simp [obBks]
  | cons x a ih => simp only [List.cons_append, obBks, ih]; omega
theorem tyBks_take_succ {l : List Ty} {i : Nat} {x : Ty} (h : l[i]? = some x) : tyBks (l.take (i + 1)) = tyBks (l.take i) + x.bk := by
  rw [List.take_add_one, h, tyBks_append]; simp [tyBks]
theorem arBks_take_succ {l : List Ar} {i : Nat} {x : Ar} (h : l[i]? = some x) : arBks (l.take (i + 1)) = arBks (l.take i) + x.bk := by
  rw [List.take_add_one, h, arBks_append]; simp [arBks]
theorem obBks_take_succ {l : List Ob} {i : Nat} {x : Ob} (h : l[i]? = some x) : obBks (l.take (i + 1)) = obBks (l.take i) + x.bk := by
  rw [List.take_add_one, h, obBks_append]; simp [obBks]
theorem tyBks_take_le (l : List Ty) (i : Nat) : tyBks (l.take i) ≤ tyBks l := by
  have := tyBks_append (l.take i) (l.drop i)
  rw [List.take_append_drop] at this
  omega
theorem arBks_take_le (l : List Ar) (i : Nat) : arBks (l.take i) ≤ arBks l := by
  have := arBks_append (l.take i) (l.drop i)
  rw [List.take_append_drop] at this
  omega
theorem obBks_take_le (l : List Ob) (i : Nat) : obBks (l.take i) ≤ obBks l := by
  have := obBks_append (l.take i) (l.drop i)
  rw [List.take_append_drop] at this
  omega
theorem Ty.ind {P : Ty → Prop} (h : ∀ t, (∀ x : Ty, x.bk < t.bk → P x) → P t) (t : Ty) : P t := by
  have key : ∀ n (t : Ty), t.bk < n → P t := by
    intro n
    induction n with
    | zero => intro t ht; omega
    | succ n ih => intro t ht; exact h t fun x hx => ih x (by omega)
  exact key (t.bk + 1) t (by omega)
theorem get_ty {l : List Ty} {i : Nat} {t : Ty} (h : l[i]? = some t) : (l.map Ty.row)[i]? = some [.bool t.all, .bool t.nul, .bool t.fls, .bool t.tru, .lst 2 (sprow t.nums), .bool t.anyText, .lst 1 (srow t.texts), .lst 11 (t.arrays.map Ar.row), .lst 12 (t.objects.map Ob.row)] := by
  rw [List.getElem?_map, h, ← Ty.row_eq]; rfl
theorem get_ar {l : List Ar} {i : Nat} {x : Ar} (h : l[i]? = some x) : (l.map Ar.row)[i]? = some [.bool x.item.all, .bool x.item.nul, .bool x.item.fls, .bool x.item.tru, .lst 2 (sprow x.item.nums), .bool x.item.anyText, .lst 1 (srow x.item.texts), .lst 11 (x.item.arrays.map Ar.row), .lst 12 (x.item.objects.map Ob.row), .int .i64 x.min, .int .i64 x.max] := by
  rw [List.getElem?_map, h, ← Ar.row_eq]; rfl
theorem get_ob {l : List Ob} {i : Nat} {x : Ob} (h : l[i]? = some x) : (l.map Ob.row)[i]? = some [.lst 1 (srow x.names), .lst 9 (x.fields.map Ty.row), .lst 1 (brow x.must), .bool x.rest.all, .bool x.rest.nul, .bool x.rest.fls, .bool x.rest.tru, .lst 2 (sprow x.rest.nums), .bool x.rest.anyText, .lst 1 (srow x.rest.texts), .lst 11 (x.rest.arrays.map Ar.row), .lst 12 (x.rest.objects.map Ob.row)] := by
  rw [List.getElem?_map, h, ← Ob.row_eq]; rfl
theorem get_sprow {l : List (Str × Str)} {i : Nat} {x : Str × Str} (h : l[i]? = some x) : (sprow l)[i]? = some [.str x.1, .str x.2] := by
  simp only [sprow, List.getElem?_map, h, Option.map_some]
theorem get_brow {l : List Bool} {i : Nat} {x : Bool} (h : l[i]? = some x) : (brow l)[i]? = some [.bool x] := by
  simp only [brow, List.getElem?_map, h, Option.map_some]
theorem sprow_len (l : List (Str × Str)) : (sprow l).length = l.length := by simp [sprow]
theorem brow_len (l : List Bool) : (brow l).length = l.length := by simp [brow]
end Hm

/- Steps of a walk, many at once: the side goals fill themselves. Conditions: none (plain lemmas). -/
namespace Hm
open Go (IntKind)
theorem zA {P Q : Prop} (q : Q) (k : Q → P := by first | exact WO.cons | exact WB.cons | exact WP.one) : P := k q
theorem zB {P Q : Prop} (q : Q) (k : Q → P := by
  first
  | ((first | apply W1.add64 | apply W1.sub64); (iterate 3 exact rfl); omega; omega)
  | (apply W1.iadr; (iterate 3 exact rfl); omega; first | assumption | ((first | apply V.get_row | apply get_srow | apply get_ty | apply get_ar | apply get_ob | apply get_sprow | apply get_brow); assumption))
  | (apply W1.idxS; (iterate 3 exact rfl); omega; omega)
  | (apply W1.slcS; (iterate 4 exact rfl); omega)
  | (apply W1.pickT; exact rfl; exact rfl; (first | with_reducible rfl | assumption | (simp only [bn]; first | omega | assumption | decide)); exact rfl)
  | (apply W1.pickF; exact rfl; exact rfl; (first | with_reducible rfl | assumption | (simp only [bn]; first | omega | assumption | decide)); exact rfl)
  | (apply W1.op; (iterate 3 exact rfl))
  | (apply W1.no; exact rfl)
  | ((first | apply W1.knowT | apply W1.knowFn | apply WQ.knowT | apply WQ.knowFn | apply W.condT); exact rfl; (first | with_reducible rfl | assumption | (simp only [bn]; first | omega | assumption | decide)))
  | ((first | apply W1.knowTn | apply W1.knowF | apply WQ.knowTn | apply WQ.knowF | apply W.condF); exact rfl; (first | with_reducible rfl | assumption | (simp only [bn]; first | omega | assumption | decide)))
  | (apply WQ.go; exact rfl; exact rfl)
  | (apply WQ.no; exact rfl)) : P := k q
theorem zC {P A B : Prop} (a : A) (b : B) (k : A → B → P := by ((first | apply W1.bothT | apply W1.bothF | apply WQ.bothT | apply WQ.bothF | apply W.cond); exact rfl)) : P := k a b
theorem zE {P Q : Prop} (q : Q) (k : Q → P := by
  first
  | exact WO.nil | exact WB.nil | exact WP.bag rfl | exact WP.nil | exact W.seq | exact W.reg | exact W.dreg | exact W.block | exact W.ret | exact W.skip | exact W.exit) : P := k q
variable {T : Tab} {st st' : St} {K : St → Prop}
theorem W1.cl {dst : Option Nat} {gd : Option (Nat × Bool)} {s : Seal} {f : Opd} {xs : List Opd} {g : Nat} {first cs : List AV} {t0 t : Bool} {ms : List PMode} {l X : List Arg} {ks : List Nat} {r : CR}
    (hm : T.modes g = ms) (hr : Ret T g X r) (hk : K (putD dst (resTV s r.res) st')) (hg : wanted st gd = some true := by exact rfl) (hf : (st.opd f).fn = some (g, first, cs, t0) := by exact rfl) (ha : args st (ms.drop first.length) xs = some (l, t, ks, st') := by exact rfl)
    (hio : hasIo l = false := by exact rfl) (hmv : hasMv l = false := by exact rfl) (hX : first.map .val ++ l ++ cs.map .val = X := by exact rfl) (ht : ((t0 || t) && !allScalar r.res) = false := by exact rfl) : W1 T ⟨dst, .call s f xs, gd⟩ st K :=
  W1.callV hg hf hm ha hio hmv (hX ▸ hr) ht hk
theorem WQ.cl {hu : Bool} {ds es : List Nat} {dst : Option Nat} {s : Seal} {f : Opd} {xs : List Opd} {gd : Option (Nat × Bool)} {g : Nat} {x : List AV × List AV × Bool} {ms : List PMode} (hm : T.modes g = ms) (h : W1 T ⟨dst, .call s f xs, none⟩ st K)
    (hg : wanted st gd = some true := by exact rfl) (hf : (st.opd f).fn = some (g, x) := by exact rfl) (hv : ms.all PMode.isVal = true := by exact rfl) (he : (xs.all fun x => eatOk es st x) = true := by exact rfl) : WQ T hu ds es ⟨dst, .call s f xs, gd⟩ st K :=
  WQ.call hg hf hm hv he h
theorem zN {P Q : Prop} (q : Q) (k : Q → P := by intro q; simp only [srow_len, List.length_map, Qit, Int.toNat_natCast, entry, Opd.eat, cellsOf, TV.ofCells, allAv, Qseq, Qblk, List.map_cons, List.map_nil, putD, kp, Nat.reduceEqDiff, ↓reduceIte, beq_self_eq_true, Nat.reduceBEq]; exact q) : P := k q
theorem zNT {P Q : Prop} (q : Q) (k : Q → P := by intro q; simp only [sprow_len, brow_len, srow_len, List.length_map, Qit, Int.toNat_natCast, entry, Opd.eat, cellsOf, TV.ofCells, allAv, Qseq, Qblk, List.map_cons, List.map_nil, putD, kp, Nat.reduceEqDiff, ↓reduceIte, beq_self_eq_true, Nat.reduceBEq]; exact q) : P := k q
theorem zNW {P Q : Prop} (q : Q) (k : Q → P := by intro q; simp only [srow_len, List.length_map, Qit, Int.toNat_natCast, entry, Opd.eat, cellsOf, TV.ofCells, allAv, Qseq, Qblk, List.map_cons, List.map_nil, putD, kp, Nat.reduceEqDiff, ↓reduceIte, beq_self_eq_true, Nat.reduceBEq, kq, List.drop_zero, List.drop_succ_cons, List.take_succ_cons, List.take_zero, List.cons_append, List.nil_append, Nat.zero_add, resTV, tvOf, List.length_cons, List.length_nil, Nat.reduceAdd]; exact q) : P := k q
theorem zNU {P Q : Prop} (q : Q) (k : Q → P := by intro q; simp only [sprow_len, brow_len, srow_len, List.length_map, Qit, Int.toNat_natCast, entry, Opd.eat, cellsOf, TV.ofCells, allAv, Qseq, Qblk, List.map_cons, List.map_nil, putD, kp, Nat.reduceEqDiff, ↓reduceIte, beq_self_eq_true, Nat.reduceBEq, kq, List.drop_zero, List.drop_succ_cons, List.take_succ_cons, List.take_zero, List.cons_append, List.nil_append, Nat.zero_add, resTV, tvOf, List.length_cons, List.length_nil, Nat.reduceAdd]; exact q) : P := k q
theorem zNV {P Q : Prop} (q : Q) (k : Q → P := by intro q; simp only [srow_len, List.length_map, Qit, Int.toNat_natCast, entry, Opd.eat, cellsOf, TV.ofCells, allAv, Qseq, Qblk, List.map_cons, List.map_nil, putD, kp, Nat.reduceEqDiff, ↓reduceIte, beq_self_eq_true, Nat.reduceBEq, kr, sealRow, sealRows, Cell.shut, one, St.freeze, kq, List.drop_zero, List.drop_succ_cons, List.take_succ_cons, List.take_zero, List.cons_append, List.nil_append, Nat.zero_add, resTV, tvOf, List.length_cons, List.length_nil, Nat.reduceAdd]; exact q) : P := k q
theorem zNX {P Q : Prop} (q : Q) (k : Q → P := by intro q; simp only [sprow_len, brow_len, srow_len, List.length_map, Qit, Int.toNat_natCast, entry, Opd.eat, cellsOf, TV.ofCells, allAv, Qseq, Qblk, List.map_cons, List.map_nil, putD, kp, Nat.reduceEqDiff, ↓reduceIte, beq_self_eq_true, Nat.reduceBEq, kr, sealRow, sealRows, Cell.shut, one, St.freeze, kq, List.drop_zero, List.drop_succ_cons, List.take_succ_cons, List.take_zero, List.cons_append, List.nil_append, Nat.zero_add, resTV, tvOf, List.length_cons, List.length_nil, Nat.reduceAdd]; exact q) : P := k q
theorem W1.bC {dst : Option Nat} {g : Option (Nat × Bool)} {zero cs : List Cell} {parts : List (Nat × Nat × Opd)} {l : List (Nat × List Cell)} (hk : K (putD dst (TV.ofCells true cs) st')) (hg : wanted st g = some true := by exact rfl) (hgv : gives st parts = some (l, st') := by exact rfl) (hf : fillC zero l = some cs := by exact rfl) : W1 T ⟨dst, .build zero parts, g⟩ st K := W1.buildC hg hgv hf hk
theorem W1.bL {dst : Option Nat} {g : Option (Nat × Bool)} {k : Nat} {zero c : List Cell} {x : Opd} {gg : Bool} (hk : K (putD dst (.own [.own k [c]] false) (x.eat st))) (hg : wanted st g = some true := by exact rfl) (hx : (st.opd x).give = some (c, gg) := by exact rfl) (hc : c.length = k := by exact rfl) (hz : zero.length = k := by exact rfl) : W1 T ⟨dst, .buildS 1 k zero [(0, k, x)], g⟩ st K := W1.bS1 hg hx hc hz hk
theorem W1.cd1 {dst : Option Nat} {gd : Option (Nat × Bool)} {f : Opd} {xs : List Opd} {g : Nat} {first cs : List AV} {t0 t : Bool} {ms : List PMode} {l X : List Arg} {ks : List Nat} {C : List Cell} {row : List AV} (hm : T.modes g = ms) (hC : sealRow C = row) (hr : Ret T g X ⟨[(C, true)], []⟩) (hk : K (putD dst (.av (.agg row)) st'))
    (hg : wanted st gd = some true := by exact rfl) (hf : (st.opd f).fn = some (g, first, cs, t0) := by exact rfl) (ha : args st (ms.drop first.length) xs = some (l, t, ks, st') := by exact rfl) (hio : hasIo l = false := by exact rfl) (hmv : hasMv l = false := by exact rfl)
    (hX : first.map .val ++ l ++ cs.map .val = X := by exact rfl) (ht : (t0 || t) = false := by exact rfl) : W1 T ⟨dst, .call .deep f xs, gd⟩ st K := W1.callD1 hC hg hf hm ha hio hmv (hX ▸ hr) ht hk
theorem W1.cd2 {dst : Option Nat} {gd : Option (Nat × Bool)} {f : Opd} {xs : List Opd} {g : Nat} {first cs : List AV} {t0 t : Bool} {ms : List PMode} {l X : List Arg} {ks : List Nat} {C : List Cell} {v : AV} {row : List AV} (hm : T.modes g = ms) (hC : sealRow C = row) (hr : Ret T g X ⟨[(C, true), ([.av v], false)], []⟩) (hk : K (putD dst (.tup [some (row.map .av, true), some ([.av v], false)]) st'))
    (hg : wanted st gd = some true := by exact rfl) (hf : (st.opd f).fn = some (g, first, cs, t0) := by exact rfl) (ha : args st (ms.drop first.length) xs = some (l, t, ks, st') := by exact rfl) (hio : hasIo l = false := by exact rfl) (hmv : hasMv l = false := by exact rfl)
    (hX : first.map .val ++ l ++ cs.map .val = X := by exact rfl) (ht : (t0 || t) = false := by exact rfl) : W1 T ⟨dst, .call .deep f xs, gd⟩ st K := W1.callD2 hC hg hf hm ha hio hmv (hX ▸ hr) ht hk
end Hm

/- Copies of lists. Conditions: see each theorem. -/
namespace Hm
open Go (IntKind)
set_option maxHeartbeats 4000000
set_option maxRecDepth 4000
theorem W1.appA {T : Tab} {st : St} {K : St → Prop} {dst : Option Nat} {g : Option (Nat × Bool)} {b k : Nat} {x y : Opd} {base : List (List Cell)} {rows : List (List AV)} (hg : wanted st g = some true)
    (hy : st.opd y = .av (.lst k rows)) (hx : st.opd x = .own [.own k base] false) (hl : base.length + rows.length ≤ limit) (hk : K (putD dst (.own [.own k (base ++ rows.map (·.map .av))] false) (x.eat st).hush)) : W1 T ⟨dst, .append b k x y, g⟩ st K := by
  refine W1.go hg (WS.op (v := .own [.own k (base ++ rows.map (·.map .av))] false) (st' := (x.eat st).hush) rfl ?_ hk)
  simp only [stepOp, appNew, hy, if_true, hx, List.length_map, true_and, if_pos hl]
theorem W1.appE {T : Tab} {st : St} {K : St → Prop} {dst : Option Nat} {g : Option (Nat × Bool)} {b k : Nat} {nn : Bool} {x y : Opd} {base : List (List Cell)} (hg : wanted st g = some true)
    (hy : st.opd y = .av (.emp k nn)) (hx : st.opd x = .own [.own k base] false) (hl : base.length ≤ limit) (hk : K (putD dst (.own [.own k (base ++ [])] false) (x.eat st).hush)) : W1 T ⟨dst, .append b k x y, g⟩ st K := by
  refine W1.go hg (WS.op (v := .own [.own k (base ++ [])] false) (st' := (x.eat st).hush) rfl ?_ hk)
  simp only [stepOp, appNew, hy, if_true, hx, List.length_nil, Nat.add_zero, true_and, if_pos hl]
end Hm

/- Copies of lists. Conditions: see each theorem. -/
namespace Hm
open Go (IntKind)
set_option maxHeartbeats 4000000
set_option maxRecDepth 4000
theorem slices_Clone_Lstring_string_ret {T : Tab} (h : Fn T F.slices_Clone_Lstring_string slices_Clone_Lstring_string.fn) (rows : List (List AV)) (hne : rows ≠ []) (hl : rows.length ≤ limit) : Ret T F.slices_Clone_Lstring_string [.val (.lst 1 rows)] ⟨[([.own 1 (rows.map (·.map .av))], false)], []⟩ := by
  cases rows with
  | nil => exact absurd rfl hne
  | cons r rs =>
  refine Ret.mk h rfl ?_
  repeat' (first | refine zA ?_ | ((apply W1.appA; exact rfl; exact rfl; exact rfl; exact Nat.le_trans (Nat.le_of_eq (Nat.zero_add _)) hl)) | refine zB ?_ | (refine zC ?_ ?_ <;> intro hc; all_goals first | (cases hc; done) | ((try simp only [hc]); (try simp only [bm] at hc))) | refine zE ?_ | refine zN ?_ | fail)
  exact ⟨.inr rfl, rfl, rfl⟩
theorem slices_Clone_Lstring_string_emp {T : Tab} (h : Fn T F.slices_Clone_Lstring_string slices_Clone_Lstring_string.fn) (nn : Bool) : Ret T F.slices_Clone_Lstring_string [.val (.emp 1 nn)] ⟨[([.own 1 []], false)], []⟩ := by
  cases nn
  all_goals refine Ret.mk h rfl ?_
  repeat' (first | refine zA ?_ | ((apply W1.appE; exact rfl; exact rfl; exact rfl; exact Nat.zero_le _)) | refine zB ?_ | (refine zC ?_ ?_ <;> intro hc; all_goals first | (cases hc; done) | ((try simp only [hc]); (try simp only [bm] at hc))) | refine zE ?_ | refine zN ?_ | fail)
  all_goals exact ⟨.inr rfl, rfl, rfl⟩

end Hm

/- Copies of lists. Conditions: see each theorem. -/
namespace Hm
open Go (IntKind)
set_option maxHeartbeats 4000000
set_option maxRecDepth 4000
theorem slices_Clone_LValue_Value_ret {T : Tab} (h : Fn T F.slices_Clone_LValue_Value slices_Clone_LValue_Value.fn) (rows : List (List AV)) (hne : rows ≠ []) (hl : rows.length ≤ limit) : Ret T F.slices_Clone_LValue_Value [.val (.lst 5 rows)] ⟨[([.own 5 (rows.map (·.map .av))], false)], []⟩ := by
  cases rows with
  | nil => exact absurd rfl hne
  | cons r rs =>
  refine Ret.mk h rfl ?_
  repeat' (first | refine zA ?_ | ((apply W1.appA; exact rfl; exact rfl; exact rfl; exact Nat.le_trans (Nat.le_of_eq (Nat.zero_add _)) hl)) | refine zB ?_ | (refine zC ?_ ?_ <;> intro hc; all_goals first | (cases hc; done) | ((try simp only [hc]); (try simp only [bm] at hc))) | refine zE ?_ | refine zN ?_ | fail)
  exact ⟨.inr rfl, rfl, rfl⟩
theorem slices_Clone_LValue_Value_emp {T : Tab} (h : Fn T F.slices_Clone_LValue_Value slices_Clone_LValue_Value.fn) (nn : Bool) : Ret T F.slices_Clone_LValue_Value [.val (.emp 5 nn)] ⟨[([.own 5 []], false)], []⟩ := by
  cases nn
  all_goals refine Ret.mk h rfl ?_
  repeat' (first | refine zA ?_ | ((apply W1.appE; exact rfl; exact rfl; exact rfl; exact Nat.zero_le _)) | refine zB ?_ | (refine zC ?_ ?_ <;> intro hc; all_goals first | (cases hc; done) | ((try simp only [hc]); (try simp only [bm] at hc))) | refine zE ?_ | refine zN ?_ | fail)
  all_goals exact ⟨.inr rfl, rfl, rfl⟩
end Hm
