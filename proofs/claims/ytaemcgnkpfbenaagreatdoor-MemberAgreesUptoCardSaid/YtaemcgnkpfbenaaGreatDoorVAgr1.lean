/- What the law answers on the abstract machine. Conditions: see each theorem. -/
import Derived.Test.YtaemcgnkpfbenaaGreatDoorPAgr
set_option linter.unusedVariables false
set_option linter.unusedSimpArgs false
/- Further rules for what the abstract machine answers: conditions that are known, counts, places of lists, loops over lists. Conditions: none (plain lemmas). -/
namespace Hm
open Go (IntKind)
section
variable {T : Tab} {st st' : St} {Q : Ex → St → Prop} {K : St → Prop}
theorem W.condT {x : Opd} {a b : AC} {t : Bool} (hx : st.opd x = .av (.bool t)) (ht : t = true) (h1 : W T a st Q) : W T (.cond x a b) st Q :=
  W.cond hx (fun _ => h1) (fun h => by rw [ht] at h; cases h)
theorem W.condF {x : Opd} {a b : AC} {t : Bool} (hx : st.opd x = .av (.bool t)) (ht : t = false) (h1 : W T b st Q) : W T (.cond x a b) st Q :=
  W.cond hx (fun h => by rw [ht] at h; cases h) (fun _ => h1)
theorem wrap64 {n : Int} (h1 : -9223372036854775808 ≤ n) (h2 : n < 9223372036854775808) : IntKind.wrap .i64 n = n := by
  show (if (true && decide (n % 18446744073709551616 ≥ 9223372036854775808)) = true then n % 18446744073709551616 - 18446744073709551616 else n % 18446744073709551616) = n
  rw [Bool.true_and]
  by_cases h : n % 18446744073709551616 ≥ 9223372036854775808
  · rw [if_pos (decide_eq_true h)]; omega
  · rw [if_neg (by rw [decide_eq_true_eq]; exact h)]; omega
theorem WS.add64 {dst : Option Nat} {K : TV → St → Prop} {x y : Opd} {a b : Int} (hx : st.opd x = .av (.int .i64 a)) (hy : st.opd y = .av (.int .i64 b)) (h1 : -9223372036854775808 ≤ a + b) (h2 : a + b < 9223372036854775808)
    (hk : K (.av (.int .i64 (a + b))) st) : WS T dst (.bin .add x y) st K := by
  refine WS.op (v := .av (.int .i64 (a + b))) rfl ?_ hk
  simp only [stepOp,hx,hy,binA,ne_eq,not_true_eq_false,if_false,inRange,wrap64 h1 h2]
theorem WS.sub64 {dst : Option Nat} {K : TV → St → Prop} {x y : Opd} {a b : Int} (hx : st.opd x = .av (.int .i64 a)) (hy : st.opd y = .av (.int .i64 b)) (h1 : -9223372036854775808 ≤ a - b) (h2 : a - b < 9223372036854775808)
    (hk : K (.av (.int .i64 (a - b))) st) : WS T dst (.bin .sub x y) st K := by
  refine WS.op (v := .av (.int .i64 (a - b))) rfl ?_ hk
  simp only [stepOp,hx,hy,binA,ne_eq,not_true_eq_false,if_false,inRange,wrap64 h1 h2]
theorem WS.iadrL {dst : Option Nat} {K : TV → St → Prop} {k : Nat} {x i : Opd} {n : Int} {r : List AV} {rows : List (List AV)} (hi : st.opd i = .av (.int .i64 n)) (hx : st.opd x = .av (.lst k rows)) (h0 : 0 ≤ n) (hr : rows[n.toNat]? = some r)
    (hk : K (.av (.vptr r)) st) : WS T dst (.iadr k x i) st K := by
  refine WS.op (v := .av (.vptr r)) rfl ?_ hk
  simp only [stepOp,hi,idx,if_pos h0,hx,hr,if_true]
/-- One plain result. -/
def one (v : AV) : CR := ⟨[([.av v],false)],[]⟩
theorem Qend.one {fn : AFun} {as : List Arg} {v w : AV} {st : St} (hr : results st fn.results = some [([.av v],false)]) (ho : outs st 0 as = some []) (h : v = w) : Qend fn as (Hm.one w) .ret st := by
  subst h; exact ⟨.inr rfl,hr,ho⟩
theorem Qend.boo {fn : AFun} {as : List Arg} {v w : Bool} {st : St} (hr : results st fn.results = some [([.av (.bool v)],false)]) (ho : outs st 0 as = some []) (h : v = w) : Qend fn as (Hm.one (.bool w)) .ret st := by
  subst h; exact ⟨.inr rfl,hr,ho⟩
theorem Qend.num {fn : AFun} {as : List Arg} {k : IntKind} {v w : Int} {st : St} (hr : results st fn.results = some [([.av (.int k v)],false)]) (ho : outs st 0 as = some []) (h : v = w) : Qend fn as (Hm.one (.int k w)) .ret st := by
  subst h; exact ⟨.inr rfl,hr,ho⟩
/-- The byte at a place. -/
def bAt (s : List UInt8) (n : Nat) : UInt8 := s.getD n 0
theorem WS.idxS {dst : Option Nat} {K : TV → St → Prop} {x i : Opd} {n : Int} {s : List UInt8} (hx : st.opd x = .av (.str s)) (hi : st.opd i = .av (.int .i64 n)) (h0 : 0 ≤ n) (hn : n.toNat < s.length)
    (hk : K (.av (.int .u8 (bAt s n.toNat).toNat)) st) : WS T dst (.idxS x i) st K := by
  refine WS.op (v := .av (.int .u8 (bAt s n.toNat).toNat)) rfl ?_ hk
  have : s[n.toNat]? = some (bAt s n.toNat) := by simp [bAt,List.getD,List.getElem?_eq_getElem hn]
  simp only [stepOp,hx,hi,idx,if_pos h0,this]
theorem WS.slcS {dst : Option Nat} {K : TV → St → Prop} {k : Nat} {x : Opd} {lo hi : Option Opd} {s : List UInt8} {l h : Nat} (hx : st.opd x = .av (.str s)) (hl : st.bnd 0 lo = some l) (hh : st.bnd s.length hi = some h) (hc : l ≤ h ∧ h ≤ s.length)
    (hk : K (.av (.str ((s.take h).drop l))) st) : WS T dst (.slc true k x lo hi) st K := by
  refine WS.op (v := .av (.str ((s.take h).drop l))) rfl ?_ hk
  simp only [stepOp,hx,TV.rd,hl,hh,if_pos hc]
theorem W1.knowT {dst : Option Nat} {op : AOp} {t : Nat} {c : Bool} (hg : getE st.env t = .av (.bool c)) (hc : c = true) (h1 : W1 T ⟨dst,op,none⟩ st K) : W1 T ⟨dst,op,some (t,true)⟩ st K :=
  W1.bothT hg (fun _ => h1) (fun h => by rw [hc] at h; cases h)
theorem W1.knowTn {dst : Option Nat} {op : AOp} {t : Nat} {c : Bool} (hg : getE st.env t = .av (.bool c)) (hc : c = false) (h1 : K (putD dst .skp st)) : W1 T ⟨dst,op,some (t,true)⟩ st K :=
  W1.bothT hg (fun h => by rw [hc] at h; cases h) (fun _ => h1)
theorem W1.knowF {dst : Option Nat} {op : AOp} {t : Nat} {c : Bool} (hg : getE st.env t = .av (.bool c)) (hc : c = false) (h1 : W1 T ⟨dst,op,none⟩ st K) : W1 T ⟨dst,op,some (t,false)⟩ st K :=
  W1.bothF hg (fun _ => h1) (fun h => by rw [hc] at h; cases h)
theorem W1.knowFn {dst : Option Nat} {op : AOp} {t : Nat} {c : Bool} (hg : getE st.env t = .av (.bool c)) (hc : c = true) (h1 : K (putD dst .skp st)) : W1 T ⟨dst,op,some (t,false)⟩ st K :=
  W1.bothF hg (fun h => by rw [hc] at h; cases h) (fun _ => h1)
theorem WS.pickT {dst : Option Nat} {K : TV → St → Prop} {c a b : Opd} {t : Bool} {v : AV} (hc : st.opd c = .av (.bool t)) (ht : t = true) (ha : st.opd a = .av v) (hk : K (.av v) st) : WS T dst (.pick c a b) st K := by
  refine WS.op (v := .av v) rfl ?_ hk
  simp only [stepOp,hc,ht,if_true,ha]
theorem WS.pickF {dst : Option Nat} {K : TV → St → Prop} {c a b : Opd} {t : Bool} {v : AV} (hc : st.opd c = .av (.bool t)) (ht : t = false) (hb : st.opd b = .av v) (hk : K (.av v) st) : WS T dst (.pick c a b) st K := by
  refine WS.op (v := .av v) rfl ?_ hk
  simp only [stepOp,hc,ht,Bool.false_eq_true,if_false,hb]
theorem W1.op {dst : Option Nat} {op : AOp} {g : Option (Nat × Bool)} {v : TV} (hg : wanted st g = some true) (hp : op.plain = true) (h : stepOp dst op st = some (v,st')) (hk : K (putD dst v st')) : W1 T ⟨dst,op,g⟩ st K :=
  W1.go hg (WS.op hp h hk)
theorem W1.add64 {dst : Option Nat} {g : Option (Nat × Bool)} {x y : Opd} {a b : Int} (hg : wanted st g = some true) (hx : st.opd x = .av (.int .i64 a)) (hy : st.opd y = .av (.int .i64 b)) (h1 : -9223372036854775808 ≤ a + b) (h2 : a + b < 9223372036854775808)
    (hk : K (putD dst (.av (.int .i64 (a + b))) st)) : W1 T ⟨dst,.bin .add x y,g⟩ st K := W1.go hg (WS.add64 hx hy h1 h2 hk)
theorem W1.sub64 {dst : Option Nat} {g : Option (Nat × Bool)} {x y : Opd} {a b : Int} (hg : wanted st g = some true) (hx : st.opd x = .av (.int .i64 a)) (hy : st.opd y = .av (.int .i64 b)) (h1 : -9223372036854775808 ≤ a - b) (h2 : a - b < 9223372036854775808)
    (hk : K (putD dst (.av (.int .i64 (a - b))) st)) : W1 T ⟨dst,.bin .sub x y,g⟩ st K := W1.go hg (WS.sub64 hx hy h1 h2 hk)
theorem W1.iadr {dst : Option Nat} {g : Option (Nat × Bool)} {k : Nat} {x i : Opd} {n : Int} {r : List AV} {rows : List (List AV)} (hg : wanted st g = some true) (hi : st.opd i = .av (.int .i64 n)) (hx : st.opd x = .av (.lst k rows)) (h0 : 0 ≤ n) (hr : rows[n.toNat]? = some r)
    (hk : K (putD dst (.av (.vptr r)) st)) : W1 T ⟨dst,.iadr k x i,g⟩ st K := W1.go hg (WS.iadrL hi hx h0 hr hk)
theorem W1.idxS {dst : Option Nat} {g : Option (Nat × Bool)} {x i : Opd} {n : Int} {s : List UInt8} (hg : wanted st g = some true) (hx : st.opd x = .av (.str s)) (hi : st.opd i = .av (.int .i64 n)) (h0 : 0 ≤ n) (hn : n.toNat < s.length)
    (hk : K (putD dst (.av (.int .u8 (bAt s n.toNat).toNat)) st)) : W1 T ⟨dst,.idxS x i,g⟩ st K := W1.go hg (WS.idxS hx hi h0 hn hk)
theorem W1.slcS {dst : Option Nat} {g : Option (Nat × Bool)} {k : Nat} {x : Opd} {lo hi : Option Opd} {s : List UInt8} {l h : Nat} (hg : wanted st g = some true) (hx : st.opd x = .av (.str s)) (hl : st.bnd 0 lo = some l) (hh : st.bnd s.length hi = some h) (hc : l ≤ h ∧ h ≤ s.length)
    (hk : K (putD dst (.av (.str ((s.take h).drop l))) st)) : W1 T ⟨dst,.slc true k x lo hi,g⟩ st K := W1.go hg (WS.slcS hx hl hh hc hk)
theorem W1.pickT {dst : Option Nat} {g : Option (Nat × Bool)} {c a b : Opd} {t : Bool} {v : AV} (hg : wanted st g = some true) (hc : st.opd c = .av (.bool t)) (ht : t = true) (ha : st.opd a = .av v) (hk : K (putD dst (.av v) st)) : W1 T ⟨dst,.pick c a b,g⟩ st K :=
  W1.go hg (WS.pickT hc ht ha hk)
theorem W1.pickF {dst : Option Nat} {g : Option (Nat × Bool)} {c a b : Opd} {t : Bool} {v : AV} (hg : wanted st g = some true) (hc : st.opd c = .av (.bool t)) (ht : t = false) (hb : st.opd b = .av v) (hk : K (putD dst (.av v) st)) : W1 T ⟨dst,.pick c a b,g⟩ st K :=
  W1.go hg (WS.pickF hc ht hb hk)
theorem W1.callV {dst : Option Nat} {gd : Option (Nat × Bool)} {s : Seal} {f : Opd} {xs : List Opd} {g : Nat} {first cs : List AV} {t0 t : Bool} {ms : List PMode} {l : List Arg} {ks : List Nat} {r : CR}
    (hg : wanted st gd = some true) (hf : (st.opd f).fn = some (g,first,cs,t0)) (hm : T.modes g = ms) (ha : args st (ms.drop first.length) xs = some (l,t,ks,st')) (hio : hasIo l = false) (hmv : hasMv l = false)
    (hr : Ret T g (first.map .val ++ l ++ cs.map .val) r) (ht : ((t0 || t) && !allScalar r.res) = false) (hk : K (putD dst (resTV s r.res) st')) : W1 T ⟨dst,.call s f xs,gd⟩ st K :=
  W1.go hg (WS.callV hf hm ha hio hmv hr ht hk)
theorem WQ.knowT {hu : Bool} {ds es : List Nat} {dst : Option Nat} {op : AOp} {t : Nat} {c : Bool} (hg : getE st.env t = .av (.bool c)) (hc : c = true) (h1 : WQ T hu ds es ⟨dst,op,none⟩ st K) : WQ T hu ds es ⟨dst,op,some (t,true)⟩ st K :=
  WQ.bothT hg (fun _ => h1) (fun h => by rw [hc] at h; cases h)
theorem WQ.knowTn {hu : Bool} {ds es : List Nat} {dst : Option Nat} {op : AOp} {t : Nat} {c : Bool} (hg : getE st.env t = .av (.bool c)) (hc : c = false) (h1 : K (putD dst .skp st)) : WQ T hu ds es ⟨dst,op,some (t,true)⟩ st K :=
  WQ.bothT hg (fun h => by rw [hc] at h; cases h) (fun _ => h1)
theorem WQ.knowF {hu : Bool} {ds es : List Nat} {dst : Option Nat} {op : AOp} {t : Nat} {c : Bool} (hg : getE st.env t = .av (.bool c)) (hc : c = false) (h1 : WQ T hu ds es ⟨dst,op,none⟩ st K) : WQ T hu ds es ⟨dst,op,some (t,false)⟩ st K :=
  WQ.bothF hg (fun _ => h1) (fun h => by rw [hc] at h; cases h)
theorem WQ.knowFn {hu : Bool} {ds es : List Nat} {dst : Option Nat} {op : AOp} {t : Nat} {c : Bool} (hg : getE st.env t = .av (.bool c)) (hc : c = true) (h1 : K (putD dst .skp st)) : WQ T hu ds es ⟨dst,op,some (t,false)⟩ st K :=
  WQ.bothF hg (fun h => by rw [hc] at h; cases h) (fun _ => h1)
/-- What the body of a loop owes: after it, the loop stands one further; or it is left. -/
def Qit (ks : List Nat) (N : St → Prop) (Q : Ex → St → Prop) : Ex → St → Prop
  | .norm,st => N (st.keep ks)
  | e,st => Q e st
/-- A loop over a list, place by place. `f i b`: the state at its head. -/
theorem W.list {α β : Type} {ks : List Nat} {a : AC} (l : List α) (f : Nat → β → St) (P : Nat → β → Prop) (b0 : β) (hs : st.keep ks = f 0 b0) (hP : P 0 b0)
    (step : ∀ i x b,l[i]? = some x → i < l.length → P i b → W T a (f i b) (Qit ks (fun st' => ∃ b',P (i + 1) b' ∧ st' = f (i + 1) b') Q))
    (stop : ∀ b,P l.length b → W T a (f l.length b) (Qit ks (fun _ => False) Q)) : W T (.loop ks a) st Q := by
  have key : ∀ m i b (s : St),i + m = l.length → P i b → s.keep ks = f i b → W T (.loop ks a) s Q := by
    intro m
    induction m with
    | zero =>
      intro i b s hi hp hk
      refine W.loop ?_
      rw [hk]
      have : i = l.length := by omega
      subst this
      refine (stop b hp).mono fun e s' h => ?_
      cases e with
      | norm => exact h.elim
      | exit j => exact h
      | ret => exact h
    | succ m ih =>
      intro i b s hi hp hk
      refine W.loop ?_
      rw [hk]
      have hlt : i < l.length := by omega
      refine (step i l[i] b (List.getElem?_eq_getElem hlt) hlt hp).mono fun e s' h => ?_
      cases e with
      | norm => obtain ⟨b',hp',he⟩ := h; exact ih (i + 1) b' s' (by omega) hp' he
      | exit j => exact h
      | ret => exact h
  exact key l.length 0 b0 st (by omega) hP hs
theorem W.listP {α β : Type} {ks : List Nat} {a : AC} (l : List α) (g : Nat → β → St → St) (P : Nat → β → Prop) (b0 : β) (hP : P 0 b0) (hs : st.keep ks = (g 0 b0 st).keep ks)
    (step : ∀ i x b,l[i]? = some x → i < l.length → P i b → W T a ((g i b st).keep ks) (Qit ks (fun st' => ∃ b',P (i + 1) b' ∧ st' = (g (i + 1) b' st).keep ks) Q))
    (stop : ∀ b,P l.length b → W T a ((g l.length b st).keep ks) (Qit ks (fun _ => False) Q)) : W T (.loop ks a) st Q :=
  W.list l (fun i b => (g i b st).keep ks) P b0 hs hP step stop
/-- A loop with a measure. -/
theorem W.iter {β : Type} {ks : List Nat} {a : AC} (f : β → St) (P : β → Prop) (m : β → Nat) (b0 : β) (hs : st.keep ks = f b0) (hP : P b0)
    (step : ∀ b,P b → W T a (f b) (Qit ks (fun st' => ∃ b',P b' ∧ m b' < m b ∧ st' = f b') Q)) : W T (.loop ks a) st Q := by
  have key : ∀ n b (s : St),m b < n → P b → s.keep ks = f b → W T (.loop ks a) s Q := by
    intro n
    induction n with
    | zero => intro b s hn; omega
    | succ n ih =>
      intro b s hn hp hk
      refine W.loop ?_
      rw [hk]
      refine (step b hp).mono fun e s' h => ?_
      cases e with
      | norm => obtain ⟨b',hp',hm,he⟩ := h; exact ih b' s' (by omega) hp' he
      | exit j => exact h
      | ret => exact h
  exact key (m b0 + 1) b0 st (by omega) hP hs
theorem W.iterP {β : Type} {ks : List Nat} {a : AC} (g : β → St → St) (P : β → Prop) (m : β → Nat) (b0 : β) (hP : P b0) (hs : st.keep ks = (g b0 st).keep ks)
    (step : ∀ b,P b → W T a ((g b st).keep ks) (Qit ks (fun st' => ∃ b',P b' ∧ m b' < m b ∧ st' = (g b' st).keep ks) Q)) : W T (.loop ks a) st Q :=
  W.iter (fun b => (g b st).keep ks) P m b0 hs hP step
theorem Ret.ex {f : Nat} {fn : AFun} {as : List Arg} {R : CR → Prop} (h : Fn T f fn) (hfit : fits fn.params as = true) (hw : W T fn.body ⟨lstE (entry 0 as).1,lstB (entry 0 as).2⟩ (fun e st => ∃ r,R r ∧ Qend fn as r e st)) : ∃ r,R r ∧ Ret T f as r := by
  obtain ⟨n,e,st1,h1,r,hr,h2⟩ := hw
  exact ⟨r,hr,Ret.mk h hfit ⟨n,e,st1,h1,h2⟩⟩
theorem Ret.ex1 {α : Type} {f : Nat} {fn : AFun} {as : List Arg} {g : α → AV} {R : α → Prop} (h : Fn T f fn) (hfit : fits fn.params as = true) (hw : W T fn.body ⟨lstE (entry 0 as).1,lstB (entry 0 as).2⟩ (fun e st => ∃ r,R r ∧ Qend fn as (one (g r)) e st)) : ∃ r,R r ∧ Ret T f as (one (g r)) := by
  obtain ⟨n,e,st1,h1,r,hr,h2⟩ := hw
  exact ⟨r,hr,Ret.mk h hfit ⟨n,e,st1,h1,h2⟩⟩
end
theorem bm : (∀ (p : Prop) [Decidable p],(decide p = true) = p) ∧ (∀ (p : Prop) [Decidable p],(decide p = false) = ¬ p) ∧ (∀ a b : Int,(¬ a ≤ b) = (b < a)) ∧ (∀ a b : Int,(¬ a < b) = (b ≤ a)) ∧
    (∀ {α : Type} [BEq α] [LawfulBEq α] (a b : α),((a != b) = true) = ¬ (a = b)) ∧ (∀ {α : Type} [BEq α] [LawfulBEq α] (a b : α),((a == b) = true) = (a = b)) ∧
    (∀ {α : Type} [BEq α] [LawfulBEq α] (a b : α),((a != b) = false) = (a = b)) ∧ (∀ {α : Type} [BEq α] [LawfulBEq α] (a b : α),((a == b) = false) = ¬ (a = b)) ∧ (∀ {α : Type} (a b : α),(a ≠ b) = ¬ (a = b)) := by
  refine ⟨fun p _ => by simp,fun p _ => by simp,fun a b => propext Int.not_le,fun a b => propext Int.not_lt,fun a b => by simp,fun a b => by simp,fun a b => by simp,fun a b => by simp,fun a b => rfl⟩
theorem bn : (∀ b : Bool,((!b) = true) = (b = false)) ∧ (∀ b : Bool,((!b) = false) = (b = true)) ∧ (∀ (p : Prop) [Decidable p],(decide p = true) = p) ∧ (∀ (p : Prop) [Decidable p],(decide p = false) = ¬ p) ∧
    (∀ {α : Type} [BEq α] [LawfulBEq α] (a b : α),((a != b) = true) = ¬ (a = b)) ∧ (∀ {α : Type} [BEq α] [LawfulBEq α] (a b : α),((a == b) = true) = (a = b)) ∧
    (∀ {α : Type} [BEq α] [LawfulBEq α] (a b : α),((a != b) = false) = (a = b)) ∧ (∀ {α : Type} [BEq α] [LawfulBEq α] (a b : α),((a == b) = false) = ¬ (a = b)) ∧ (∀ {α : Type} (a b : α),(a ≠ b) = ¬ (a = b)) := by
  refine ⟨fun b => by cases b <;> simp,fun b => by cases b <;> simp,fun p _ => by simp,fun p _ => by simp,fun a b => by simp,fun a b => by simp,fun a b => by simp,fun a b => by simp,fun a b => rfl⟩
theorem kp : (∀ (st : St) (d k : Nat) (t : TV),getE (st.put d t).env k = if d = k then t else getE st.env k) ∧ (∀ (st : St) (d : Nat) (t : TV),(st.put d t).boxes = st.boxes) ∧
    (∀ (j k : Nat) (v : TV) (l : List (Nat × TV)),getE (lstE ((j,v) :: l)) k = if k = j then v else getE (lstE l) k) ∧ (∀ k : Nat,getE (lstE []) k = .und) ∧
    (∀ (j k : Nat) (v : Option (List Cell)) (l : List (Nat × Option (List Cell))),getB (lstB ((j,v) :: l)) k = if k = j then v else getB (lstB l) k) ∧ (∀ k : Nat,getB (lstB []) k = none) ∧
    (∀ (K : List Nat) (st : St),st.keep K = ⟨lstE (K.map fun k => (k,(getE st.env k).kept K)),lstB (K.map fun k => (k,getB st.boxes k))⟩) ∧
    (∀ (K : List Nat) (v : AV),(TV.av v).kept K = .av v) ∧ (∀ (K : List Nat) (cs : List Cell) (g : Bool),(TV.own cs g).kept K = .own cs g) ∧ (∀ K : List Nat,TV.und.kept K = .und) ∧ (∀ K : List Nat,TV.skp.kept K = .skp) ∧
    (∀ (K : List Nat) (l : List (Option (List Cell × Bool))),(TV.tup l).kept K = .tup l) ∧
    (∀ (K : List Nat) (k : Nat) (p : List (Nat × Nat)) (o : Nat),(TV.plc ⟨.box k,p,o⟩).kept K = if K.contains k then .plc ⟨.box k,p,o⟩ else .und) ∧
    (∀ (K : List Nat) (k : Nat) (p : List (Nat × Nat)) (o : Nat),(TV.plc ⟨.slot k,p,o⟩).kept K = if K.contains k then .plc ⟨.slot k,p,o⟩ else .und) ∧
    (∀ (K : List Nat) (v : AV),(TV.ali v none).kept K = .ali v none) ∧
    (∀ (K : List Nat) (v : AV) (k : Nat) (p : List (Nat × Nat)) (o : Nat),(TV.ali v (some ⟨.box k,p,o⟩)).kept K = if K.contains k then .ali v (some ⟨.box k,p,o⟩) else .und) ∧
    (∀ (K : List Nat) (v : AV) (k : Nat) (p : List (Nat × Nat)) (o : Nat),(TV.ali v (some ⟨.slot k,p,o⟩)).kept K = if K.contains k then .ali v (some ⟨.slot k,p,o⟩) else .und) ∧
    (∀ (e : Nat → TV) (k j : Nat) (v : TV),getE (upd e k v) j = if k = j then v else getE e j) ∧ (∀ (b : Nat → Option (List Cell)) (k j : Nat) (v : Option (List Cell)),getB (upd b k v) j = if k = j then v else getB b j) ∧
    (∀ (a b : Nat) (l : List Nat),(a :: l).contains b = (b == a || l.contains b)) ∧ (∀ a : Nat,([] : List Nat).contains a = false) ∧ (∀ b : Bool,(b || false) = b) ∧ (∀ b : Bool,(false || b) = b) ∧ (∀ b : Bool,(b || true) = true) ∧ (∀ b : Bool,(true || b) = true) :=
  ⟨put_env,put_box,lstE_cons,lstE_nil,lstB_cons,lstB_nil,keep_eq,kept_av,kept_own,kept_und,kept_skp,kept_tup,kept_plcB,kept_plcS,kept_aliN,kept_aliB,kept_aliS,getE_upd,getB_upd,fun _ _ _ => List.contains_cons,fun _ => rfl,Bool.or_false,Bool.false_or,Bool.or_true,Bool.true_or⟩
end Hm

/- Lists that are laid out at once. Conditions: see each theorem. -/
namespace Hm
theorem W1.idxA1 {T : Tab} {st : St} {K : St → Prop} {dst : Option Nat} {g : Option (Nat × Bool)} {n : Nat} {x i : Opd} {m : Int} {cs : List AV} {r : AV} (hg : wanted st g = some true) (hx : st.opd x = .av (.agg cs)) (hi : st.opd i = .av (.int .i64 m))
    (h0 : 0 ≤ m) (hn : m.toNat < n) (hc : cs[m.toNat]? = some r) (hk : K (putD dst (.av r) st)) : W1 T ⟨dst,.idxA n 1 false x i,g⟩ st K := by
  have hlt : m.toNat < cs.length := (List.getElem?_eq_some_iff.1 hc).1
  have e : mkV false ((cs.drop (m.toNat * 1)).take 1) = r := by
    rw [Nat.mul_one,List.drop_eq_getElem_cons hlt,List.take_succ_cons,List.take_zero]
    rw [List.getElem?_eq_getElem hlt] at hc
    simpa [mkV] using hc
  refine W1.go hg (WS.op (v := .av r) rfl ?_ hk)
  simp only [stepOp,hx,hi,idx,if_pos h0]
  rw [if_pos ⟨hn,by omega⟩,e]
end Hm

/- Rules for lists of the call's own that are written in place, for borrowed variables, for halves. Conditions: see each theorem. -/
namespace Hm
open Go (IntKind)
section
variable {T : Tab} {st st' : St} {K : St → Prop}
theorem drop_take1 {α : Type} {cs : List α} {o : Nat} {c : α} (h : cs[o]? = some c) : o + 1 ≤ cs.length ∧ (cs.drop o).take 1 = [c] := by
  have hl : o < cs.length := (List.getElem?_eq_some_iff.1 h).1
  refine ⟨by omega,?_⟩
  rw [List.drop_eq_getElem_cons hl,List.take_succ_cons,List.take_zero]
  rw [List.getElem?_eq_getElem hl] at h
  simpa using h
/-- A place in a list that a variable holds. -/
theorem W1.iadrO {dst : Option Nat} {g : Option (Nat × Bool)} {k b o : Nat} {x i : Opd} {ik : IntKind} {n : Int} {k0 : Nat} {rw0 : List (List AV)} {cs : List Cell} {R : List (List Cell)} (hg : wanted st g = some true) (hx : st.opd x = .ali (.lst k0 rw0) (some ⟨.box b,[],o⟩))
    (hi : st.opd i = .av (.int ik n)) (hb : getB st.boxes b = some cs) (hc : cs[o]? = some (.own k R)) (h0 : 0 ≤ n) (hn : n.toNat < R.length)
    (hk : K (putD dst (.plc ⟨.box b,[(o,n.toNat)],0⟩) st)) : W1 T ⟨dst,.iadr k x i,g⟩ st K := by
  obtain ⟨h1,h2⟩ := drop_take1 hc
  refine W1.go hg (WS.op (v := .plc ⟨.box b,[(o,n.toNat)],0⟩) rfl ?_ hk)
  simp only [stepOp,hi,idx,if_pos h0,hx,St.cells,St.root,hb,getRow,if_pos h1,h2]
  rw [if_pos ⟨trivial,hn⟩]; rfl
/-- What stands at such a place, if it is plain. -/
theorem W1.loadP {dst : Option Nat} {g : Option (Nat × Bool)} {k b o i n : Nat} {a : Opd} {cs : List Cell} {R : List (List Cell)} {vs : List AV} (hg : wanted st g = some true) (ha : st.opd a = .plc ⟨.box b,[(o,i)],0⟩)
    (hb : getB st.boxes b = some cs) (hc : cs[o]? = some (.own k R)) (hr : R[i]? = some (vs.map .av)) (hn : vs.length = n) (hk : K (putD dst (.av (mkV true vs)) st)) : W1 T ⟨dst,.load n true a,g⟩ st K := by
  have hv : ∀ vs : List AV,viewAv (vs.map .av) = some vs := fun vs => by
    induction vs with
    | nil => rfl
    | cons v vs ih => simp only [List.map_cons,viewAv,ih]
  refine W1.go hg (WS.op (v := .av (mkV true vs)) rfl ?_ hk)
  have h1 : ((vs.map Cell.av).drop 0).take n = vs.map .av := by rw [List.drop_zero,List.take_of_length_le (by simp [hn])]
  simp only [stepOp,ha,St.cells,St.root,hb,getRow,hc,hr,List.length_map,hn,Nat.zero_add,Nat.le_refl,if_true,h1,hv]
/-- New cells at such a place. -/
theorem W1.storeP {dst : Option Nat} {g : Option (Nat × Bool)} {k b o i n : Nat} {a x : Opd} {cs cs' c r : List Cell} {R : List (List Cell)} {gg : Bool} (hg : wanted st g = some true) (ha : st.opd a = .plc ⟨.box b,[(o,i)],0⟩)
    (hx : (st.opd x).give = some (c,gg)) (hb : getB (x.eat st).boxes b = some cs) (hc : cs[o]? = some (.own k R)) (hr : R[i]? = some r) (hn : c.length = n) (hrl : r.length = n) (he : cs.set o (.own k (R.set i c)) = cs')
    (hk : K (putD dst .und ⟨clrE ⟨.box b,[(o,i)],0⟩ n (x.eat st).env,upd (x.eat st).boxes b (some cs')⟩)) : W1 T ⟨dst,.store n a x,g⟩ st K := by
  refine W1.go hg (WS.op (v := .und) (st' := ⟨clrE ⟨.box b,[(o,i)],0⟩ n (x.eat st).env,upd (x.eat st).boxes b (some cs')⟩) rfl ?_ hk)
  have h1 : splice 0 c r = some c := by rw [splice,if_pos (by omega),hn,← hrl]; simp
  simp only [stepOp,ha,hx,hn,if_true,St.write,St.root,hb,setRow,hc,hr,h1,he,St.setRoot]
theorem W1.appendO {dst : Option Nat} {g : Option (Nat × Bool)} {bytes k : Nat} {x y : Opd} {base rows : List (List Cell)} {st1 : St} (hg : wanted st g = some true) (hn : appNew st k y = some (rows,st1)) (hx : st1.opd x = .own [.own k base] false)
    (hl : base.length + rows.length ≤ limit) (hk : K (putD dst (.own [.own k (base ++ rows)] false) (x.eat st1).hush)) : W1 T ⟨dst,.append bytes k x y,g⟩ st K := by
  refine W1.go hg (WS.op (v := .own [.own k (base ++ rows)] false) (st' := (x.eat st1).hush) rfl ?_ hk)
  simp only [stepOp,hn,hx]
  rw [if_pos ⟨trivial,hl⟩]
theorem wrapU64 {n : Int} (h1 : 0 ≤ n) (h2 : n < 18446744073709551616) : IntKind.wrap .u64 n = n := by
  show n % 18446744073709551616 = n
  omega
theorem W1.toU64 {dst : Option Nat} {g : Option (Nat × Bool)} {x : Opd} {k : IntKind} {a : Int} (hg : wanted st g = some true) (hx : st.opd x = .av (.int k a)) (h0 : 0 ≤ a) (h1 : a < 18446744073709551616)
    (hk : K (putD dst (.av (.int .u64 a)) st)) : W1 T ⟨dst,.conv (.int .u64) x,g⟩ st K :=
  W1.go hg (WS.op (v := .av (.int .u64 a)) rfl (by simp only [stepOp,hx,convA,wrapU64 h0 h1]) hk)
theorem W1.toI64 {dst : Option Nat} {g : Option (Nat × Bool)} {x : Opd} {k : IntKind} {a : Int} (hg : wanted st g = some true) (hx : st.opd x = .av (.int k a)) (h0 : -9223372036854775808 ≤ a) (h1 : a < 9223372036854775808)
    (hk : K (putD dst (.av (.int .i64 a)) st)) : W1 T ⟨dst,.conv (.int .i64) x,g⟩ st K :=
  W1.go hg (WS.op (v := .av (.int .i64 a)) rfl (by simp only [stepOp,hx,convA,wrap64 h0 h1]) hk)
theorem W1.half {dst : Option Nat} {g : Option (Nat × Bool)} {x : Opd} {a : Int} (hg : wanted st g = some true) (hx : st.opd x = .av (.int .u64 a))
    (hk : K (putD dst (.av (.int .u64 (a / 2))) st)) : W1 T ⟨dst,.bin .shr x (.v (.int .u64 1)),g⟩ st K := by
  refine W1.go hg (WS.op (v := .av (.int .u64 (a / 2))) rfl ?_ hk)
  have : Int.fdiv a 2 = a / 2 := Int.fdiv_eq_ediv_of_nonneg _ (by decide)
  rw [← this]
  have hy : st.opd (.v (.int .u64 1)) = .av (.int .u64 1) := rfl
  simp only [stepOp,hx,hy,binA]
  rfl
end
end Hm

/- Rules that make states plain. Conditions: see each theorem. -/
namespace Hm
open Go (IntKind)
theorem clr_av (p : Place) (n : Nat) (v : AV) : (TV.av v).clr p n = .av v := rfl
theorem clr_own (p : Place) (n : Nat) (cs : List Cell) (g : Bool) : (TV.own cs g).clr p n = .own cs g := rfl
theorem clr_plc (p : Place) (n : Nat) (r : Root) (o : Nat) : (TV.plc ⟨r,[],o⟩).clr p n = .plc ⟨r,[],o⟩ := by
  simp only [TV.clr,List.map_nil,TV.clr.hits]; rw [if_neg (by simp)]
theorem clr_und (p : Place) (n : Nat) : TV.und.clr p n = .und := rfl
theorem clr_skp (p : Place) (n : Nat) : TV.skp.clr p n = .skp := rfl
theorem clr_tup (p : Place) (n : Nat) (l : List (Option (List Cell × Bool))) : (TV.tup l).clr p n = .tup l := rfl
theorem hush_av (v : AV) : (TV.av v).hush = .av v := rfl
theorem hush_own (cs : List Cell) (g : Bool) : (TV.own cs g).hush = .own cs g := rfl
theorem hush_plc (p : Place) : (TV.plc p).hush = .plc p := rfl
theorem hush_und : TV.und.hush = .und := rfl
theorem hush_skp : TV.skp.hush = .skp := rfl
theorem hush_tup (l : List (Option (List Cell × Bool))) : (TV.tup l).hush = .tup l := rfl
theorem getE_clrX (p : Place) (n : Nat) (e : Nat → TV) (k : Nat) : getE (clrE p n e) k = (getE e k).clr p n := rfl
theorem getE_hushE' (e : Nat → TV) (k : Nat) : getE (hushE e) k = (getE e k).hush := rfl
theorem mkV_trueX (l : List AV) : mkV true l = .agg l := rfl
theorem mkV_oneX (v : AV) : mkV false [v] = v := rfl
theorem kq : (∀ (p : Place) (n : Nat) (v : AV),(TV.av v).clr p n = .av v) ∧ (∀ (p : Place) (n : Nat) (cs : List Cell) (g : Bool),(TV.own cs g).clr p n = .own cs g) ∧ (∀ (p : Place) (n : Nat) (r : Root) (o : Nat),(TV.plc ⟨r,[],o⟩).clr p n = .plc ⟨r,[],o⟩) ∧
    (∀ (p : Place) (n : Nat),TV.und.clr p n = .und) ∧ (∀ (p : Place) (n : Nat),TV.skp.clr p n = .skp) ∧ (∀ (p : Place) (n : Nat) (l : List (Option (List Cell × Bool))),(TV.tup l).clr p n = .tup l) ∧
    (∀ v : AV,(TV.av v).hush = .av v) ∧ (∀ (cs : List Cell) (g : Bool),(TV.own cs g).hush = .own cs g) ∧ (∀ p : Place,(TV.plc p).hush = .plc p) ∧ (TV.und.hush = .und) ∧ (TV.skp.hush = .skp) ∧ (∀ l : List (Option (List Cell × Bool)),(TV.tup l).hush = .tup l) ∧
    (∀ (p : Place) (n : Nat) (e : Nat → TV) (k : Nat),getE (clrE p n e) k = (getE e k).clr p n) ∧ (∀ (e : Nat → TV) (k : Nat),getE (hushE e) k = (getE e k).hush) ∧ (∀ l : List AV,mkV true l = .agg l) ∧ (∀ v : AV,mkV false [v] = v) ∧
    (∀ (st : St) (k : Nat) (cs : List Cell),(st.setRoot (.box k) cs).env = st.env) ∧ (∀ (st : St) (k : Nat) (cs : List Cell),(st.setRoot (.box k) cs).boxes = upd st.boxes k (some cs)) ∧ (∀ st : St,st.hush.env = hushE st.env) ∧ (∀ st : St,st.hush.boxes = st.boxes) ∧ (∀ (st : St) (k : Nat) (cs : List Cell),(st.back k cs).env = clrE ⟨.box k,[],0⟩ cs.length st.env) ∧ (∀ (st : St) (k : Nat) (cs : List Cell),(st.back k cs).boxes = upd st.boxes k (some cs)) :=
  ⟨clr_av,clr_own,clr_plc,clr_und,clr_skp,clr_tup,hush_av,hush_own,hush_plc,hush_und,hush_skp,hush_tup,getE_clrX,getE_hushE',mkV_trueX,mkV_oneX,fun _ _ _ => rfl,fun _ _ _ => rfl,fun _ => rfl,fun _ => rfl,fun _ _ _ => rfl,fun _ _ _ => rfl⟩
end Hm

/- More rules of a walk: states made plain, aggregates and lists of one built. Conditions: none (plain lemmas). -/
namespace Hm
open Go (IntKind)
theorem kr : (∀ (r : Root) (v : AV),(TV.av v).un r = .av v) ∧ (∀ (r : Root) (cs : List Cell) (g : Bool),(TV.own cs g).un r = .own cs g) ∧ (∀ r : Root,TV.und.un r = .und) ∧ (∀ r : Root,TV.skp.un r = .skp) ∧ (∀ (r : Root) (l : List (Option (List Cell × Bool))),(TV.tup l).un r = .tup l) ∧
    (∀ (r q : Root) (p : List (Nat × Nat)) (o : Nat),(TV.plc ⟨q,p,o⟩).un r = if q = r then .und else .plc ⟨q,p,o⟩) ∧ (∀ (r : Root) (e : Nat → TV) (k : Nat),getE (unE r e) k = (getE e k).un r) ∧ (∀ a b : Nat,(Root.box a = Root.box b) = (a = b)) ∧ (∀ a b : Nat,(Root.slot a = Root.box b) = False) ∧ (∀ a b : Nat,(Root.box a = Root.slot b) = False) :=
  ⟨fun _ _ => rfl,fun _ _ _ => rfl,fun _ => rfl,fun _ => rfl,fun _ _ => rfl,fun _ _ _ _ => rfl,fun _ _ _ => rfl,fun _ _ => by simp,fun _ _ => by simp,fun _ _ => by simp⟩
theorem W1.buildC {T : Tab} {st st' : St} {K : St → Prop} {dst : Option Nat} {g : Option (Nat × Bool)} {zero cs : List Cell} {parts : List (Nat × Nat × Opd)} {l : List (Nat × List Cell)} (hg : wanted st g = some true) (hgv : gives st parts = some (l,st')) (hf : fillC zero l = some cs)
    (hk : K (putD dst (TV.ofCells true cs) st')) : W1 T ⟨dst,.build zero parts,g⟩ st K := by
  refine W1.go hg (WS.op (v := TV.ofCells true cs) (st' := st') rfl ?_ hk)
  simp only [stepOp,hgv,hf]
theorem W1.bS1 {T : Tab} {st : St} {K : St → Prop} {dst : Option Nat} {g : Option (Nat × Bool)} {k : Nat} {zero c : List Cell} {x : Opd} {gg : Bool} (hg : wanted st g = some true) (hx : (st.opd x).give = some (c,gg)) (hc : c.length = k) (hz : zero.length = k)
    (hk : K (putD dst (.own [.own k [c]] false) (x.eat st))) : W1 T ⟨dst,.buildS 1 k zero [(0,k,x)],g⟩ st K := by
  refine W1.go hg (WS.op (v := .own [.own k [c]] false) (st' := x.eat st) rfl ?_ hk)
  have h1 : splice 0 c (repC zero 1) = some c := by
    rw [splice,if_pos (by simp [repC]; omega)]
    simp [repC,hc,hz]
  have h2 : chop k 1 c = [c] := by
    show [c.take k] = [c]
    rw [List.take_of_length_le (by omega)]
  simp only [stepOp,gives,hx,if_pos hc,fillC,h1,h2]
end Hm

/- Steps of a walk: calls whose results are sealed. -/
namespace Hm
open Go (IntKind)
/-- A call whose two results are sealed. -/
theorem W1.callD2 {T : Tab} {st st' : St} {K : St → Prop} {dst : Option Nat} {gd : Option (Nat × Bool)} {f : Opd} {xs : List Opd} {g : Nat} {first cs : List AV} {t0 t : Bool} {ms : List PMode} {l : List Arg} {ks : List Nat} {C : List Cell} {v : AV} {row : List AV} (hC : sealRow C = row)
    (hg : wanted st gd = some true) (hf : (st.opd f).fn = some (g,first,cs,t0)) (hm : T.modes g = ms) (ha : args st (ms.drop first.length) xs = some (l,t,ks,st')) (hio : hasIo l = false) (hmv : hasMv l = false)
    (hr : Ret T g (first.map .val ++ l ++ cs.map .val) ⟨[(C,true),([.av v],false)],[]⟩) (ht : (t0 || t) = false) (hk : K (putD dst (.tup [some (row.map .av,true),some ([.av v],false)]) st')) : W1 T ⟨dst,.call .deep f xs,gd⟩ st K := by
  refine W1.callV hg hf hm ha hio hmv hr (by rw [ht]; rfl) ?_
  show K (putD dst (.tup [some ((sealRow C).map .av,true),some ([.av v],false)]) st')
  rw [hC]; exact hk
/-- A call whose one result is sealed. -/
theorem W1.callD1 {T : Tab} {st st' : St} {K : St → Prop} {dst : Option Nat} {gd : Option (Nat × Bool)} {f : Opd} {xs : List Opd} {g : Nat} {first cs : List AV} {t0 t : Bool} {ms : List PMode} {l : List Arg} {ks : List Nat} {C : List Cell} {row : List AV} (hC : sealRow C = row)
    (hg : wanted st gd = some true) (hf : (st.opd f).fn = some (g,first,cs,t0)) (hm : T.modes g = ms) (ha : args st (ms.drop first.length) xs = some (l,t,ks,st')) (hio : hasIo l = false) (hmv : hasMv l = false)
    (hr : Ret T g (first.map .val ++ l ++ cs.map .val) ⟨[(C,true)],[]⟩) (ht : (t0 || t) = false) (hk : K (putD dst (.av (.agg row)) st')) : W1 T ⟨dst,.call .deep f xs,gd⟩ st K := by
  refine W1.callV hg hf hm ha hio hmv hr (by rw [ht]; rfl) ?_
  show K (putD dst (.av (.agg (sealRow C))) st')
  rw [hC]; exact hk
end Hm

/- Values of the program as trees of their own kind. Conditions: none (definitions and plain lemmas). -/
namespace Hm
open Go (IntKind)
abbrev Str := List UInt8
inductive V where
  | mk (kind : Int) (num text : Str) (items : List V) (keys : List Str)
def srow (l : List Str) : List (List AV) := l.map fun s => [AV.str s]
def sbk : List Str → Nat
  | [] => 0
  | s :: r => (s.length + 1) + sbk r
namespace V
def kind : V → Int | mk k _ _ _ _ => k
def num : V → Str | mk _ n _ _ _ => n
def text : V → Str | mk _ _ t _ _ => t
def items : V → List V | mk _ _ _ l _ => l
def keys : V → List Str | mk _ _ _ _ l => l
mutual
def row : V → List AV
  | mk k n t is ks => [.int .i64 k,.str n,.str t,.lst 5 (rows is),.lst 1 (srow ks)]
def rows : List V → List (List AV)
  | [] => []
  | v :: r => row v :: rows r
end
mutual
def bk : V → Nat
  | mk _ n t is ks => 1 + ((n.length + 1) + ((t.length + 1) + ((bks is + 1) + (sbk ks + 1))))
def bks : List V → Nat
  | [] => 0
  | v :: r => bk v + bks r
end
theorem rows_eq (l : List V) : rows l = l.map row := by
  induction l with
  | nil => rfl
  | cons x l ih => simp only [rows,List.map_cons,ih]
def av (v : V) : AV := .agg v.row
theorem row_eq (v : V) : v.row = [.int .i64 v.kind,.str v.num,.str v.text,.lst 5 (v.items.map row),.lst 1 (srow v.keys)] := by
  cases v with
  | mk k n t is ks => simp only [row,kind,num,text,items,keys,rows_eq]
theorem av_eq (v : V) : v.av = .agg [.int .i64 v.kind,.str v.num,.str v.text,.lst 5 (v.items.map row),.lst 1 (srow v.keys)] := by rw [av,row_eq]
theorem bk_eq (v : V) : v.bk = 1 + ((v.num.length + 1) + ((v.text.length + 1) + ((bks v.items + 1) + (sbk v.keys + 1)))) := by
  cases v with
  | mk k n t is ks => rfl
theorem bk_mem {x : V} {l : List V} (h : x ∈ l) : x.bk ≤ bks l := by
  induction l with
  | nil => simp at h
  | cons y l ih =>
    simp only [bks]
    rcases List.mem_cons.1 h with rfl | h
    · omega
    · have := ih h; omega
theorem bk_item {x v : V} (h : x ∈ v.items) : x.bk < v.bk := by
  have := bk_mem h
  rw [bk_eq v]
  omega
theorem len_bks (l : List V) : 5 * l.length ≤ bks l := by
  induction l with
  | nil => simp [bks]
  | cons x l ih => simp only [bks,List.length_cons]; have := bk_eq x; omega
theorem bks_append (a b : List V) : bks (a ++ b) = bks a + bks b := by
  induction a with
  | nil => simp [bks]
  | cons x a ih => simp only [List.cons_append,bks,ih]; omega
theorem bks_take_succ {l : List V} {i : Nat} {x : V} (h : l[i]? = some x) : bks (l.take (i + 1)) = bks (l.take i) + x.bk := by
  rw [List.take_add_one,h,bks_append]; simp [bks]
theorem bks_take_le (l : List V) (i : Nat) : bks (l.take i) ≤ bks l := by
  have := bks_append (l.take i) (l.drop i)
  rw [List.take_append_drop] at this
  omega
theorem ind {P : V → Prop} (h : ∀ v,(∀ x ∈ v.items,P x) → P v) (v : V) : P v := by
  have key : ∀ n (v : V),v.bk < n → P v := by
    intro n
    induction n with
    | zero => intro v hv; omega
    | succ n ih => intro v hv; exact h v fun x hx => ih x (by have := bk_item hx; omega)
  exact key (v.bk + 1) v (by omega)
theorem get_row {l : List V} {i : Nat} {x : V} (h : l[i]? = some x) : (l.map row)[i]? = some [.int .i64 x.kind,.str x.num,.str x.text,.lst 5 (x.items.map row),.lst 1 (srow x.keys)] := by
  rw [List.getElem?_map,h,← row_eq]; rfl
end V
theorem all_take_succ {α : Type} {p : α → Bool} {l : List α} {i : Nat} {x : α} (h : l[i]? = some x) : (l.take (i + 1)).all p = ((l.take i).all p && p x) := by
  rw [List.take_add_one,h,List.all_append]; simp
theorem all_false {α : Type} {p : α → Bool} {l : List α} {i : Nat} {x : α} (h : l[i]? = some x) (hp : p x = false) : l.all p = false := by
  rw [List.all_eq_false]
  exact ⟨x,List.mem_of_getElem? h,by rw [hp]; simp⟩
theorem bAt_get {s : Str} {i : Nat} {x : UInt8} (h : s[i]? = some x) : bAt s i = x := by simp [bAt,List.getD,h]
theorem u8_eq (c : UInt8) (n : Nat) (hn : n < 256) : ((c.toNat : Int) = n) ↔ c = UInt8.ofNat n := by
  constructor
  · intro h
    have : c.toNat = n := by exact_mod_cast h
    rw [← this]; simp
  · rintro rfl
    simp [UInt8.toNat_ofNat']; omega
theorem get_srow {l : List Str} {i : Nat} {x : Str} (h : l[i]? = some x) : (srow l)[i]? = some [.str x] := by
  simp only [srow,List.getElem?_map,h,Option.map_some]
theorem srow_len (l : List Str) : (srow l).length = l.length := by simp [srow]
theorem len_sbk (l : List Str) : l.length ≤ sbk l := by
  induction l with
  | nil => simp [sbk]
  | cons x l ih => simp only [sbk,List.length_cons]; omega
theorem sbk_mem {x : Str} {l : List Str} (h : x ∈ l) : x.length + 1 ≤ sbk l := by
  induction l with
  | nil => simp at h
  | cons y l ih =>
    simp only [sbk]
    rcases List.mem_cons.1 h with rfl | h
    · omega
    · have := ih h; omega
end Hm

/- Types of the program's values as trees of their own kind. Conditions: none (definitions and plain lemmas). -/
namespace Hm
open Go (IntKind)
mutual
inductive Ty where
  | mk (all nul fls tru : Bool) (nums : List (Str × Str)) (anyText : Bool) (texts : List Str) (arrays : List Ar) (objects : List Ob)
inductive Ar where
  | mk (item : Ty) (min max : Int)
inductive Ob where
  | mk (names : List Str) (fields : List Ty) (must : List Bool) (rest : Ty)
end
def Ty.all : Ty → Bool | .mk a _ _ _ _ _ _ _ _ => a
def Ty.nul : Ty → Bool | .mk _ a _ _ _ _ _ _ _ => a
def Ty.fls : Ty → Bool | .mk _ _ a _ _ _ _ _ _ => a
def Ty.tru : Ty → Bool | .mk _ _ _ a _ _ _ _ _ => a
def Ty.nums : Ty → List (Str × Str) | .mk _ _ _ _ a _ _ _ _ => a
def Ty.anyText : Ty → Bool | .mk _ _ _ _ _ a _ _ _ => a
def Ty.texts : Ty → List Str | .mk _ _ _ _ _ _ a _ _ => a
def Ty.arrays : Ty → List Ar | .mk _ _ _ _ _ _ _ a _ => a
def Ty.objects : Ty → List Ob | .mk _ _ _ _ _ _ _ _ a => a
def Ar.item : Ar → Ty | .mk a _ _ => a
def Ar.min : Ar → Int | .mk _ a _ => a
def Ar.max : Ar → Int | .mk _ _ a => a
def Ob.names : Ob → List Str | .mk a _ _ _ => a
def Ob.fields : Ob → List Ty | .mk _ a _ _ => a
def Ob.must : Ob → List Bool | .mk _ _ a _ => a
def Ob.rest : Ob → Ty | .mk _ _ _ a => a
def sprow (l : List (Str × Str)) : List (List AV) := l.map fun s => [AV.str s.1,AV.str s.2]
def brow (l : List Bool) : List (List AV) := l.map fun b => [AV.bool b]
def spbk : List (Str × Str) → Nat
  | [] => 0
  | s :: r => ((s.1.length + 1) + (s.2.length + 1)) + spbk r
mutual
def Ty.row : Ty → List AV
  | .mk a n f t ns at' ts as os => [.bool a,.bool n,.bool f,.bool t,.lst 2 (sprow ns),.bool at',.lst 1 (srow ts),.lst 11 (arRows as),.lst 12 (obRows os)]
def Ar.row : Ar → List AV
  | .mk i a b => i.row ++ [.int .i64 a,.int .i64 b]
def Ob.row : Ob → List AV
  | .mk ns fs ms r => [.lst 1 (srow ns),.lst 9 (tyRows fs),.lst 1 (brow ms)] ++ r.row
def tyRows : List Ty → List (List AV)
  | [] => []
  | x :: r => x.row :: tyRows r
def arRows : List Ar → List (List AV)
  | [] => []
  | x :: r => x.row :: arRows r
def obRows : List Ob → List (List AV)
  | [] => []
  | x :: r => x.row :: obRows r
end
mutual
def Ty.bk : Ty → Nat
  | .mk a n f t ns at' ts as os => 5 + ((spbk ns + 1) + ((sbk ts + 1) + ((arBks as + 1) + (obBks os + 1))))
def Ar.bk : Ar → Nat
  | .mk i a b => i.bk + 2
def Ob.bk : Ob → Nat
  | .mk ns fs ms r => (sbk ns + 1) + ((tyBks fs + 1) + ((ms.length + 1) + r.bk))
def tyBks : List Ty → Nat
  | [] => 0
  | x :: r => x.bk + tyBks r
def arBks : List Ar → Nat
  | [] => 0
  | x :: r => x.bk + arBks r
def obBks : List Ob → Nat
  | [] => 0
  | x :: r => x.bk + obBks r
end
theorem tyRows_eq (l : List Ty) : tyRows l = l.map Ty.row := by
  induction l with
  | nil => rfl
  | cons x l ih => simp only [tyRows,List.map_cons,ih]
theorem arRows_eq (l : List Ar) : arRows l = l.map Ar.row := by
  induction l with
  | nil => rfl
  | cons x l ih => simp only [arRows,List.map_cons,ih]
theorem obRows_eq (l : List Ob) : obRows l = l.map Ob.row := by
  induction l with
  | nil => rfl
  | cons x l ih => simp only [obRows,List.map_cons,ih]
def Ty.av (t : Ty) : AV := .agg t.row
theorem Ty.row_eq (t : Ty) : t.row = [.bool t.all,.bool t.nul,.bool t.fls,.bool t.tru,.lst 2 (sprow t.nums),.bool t.anyText,.lst 1 (srow t.texts),.lst 11 (t.arrays.map Ar.row),.lst 12 (t.objects.map Ob.row)] := by
  cases t with
  | mk a n f t ns at' ts as os => simp only [Ty.row,arRows_eq,obRows_eq,Ty.all,Ty.nul,Ty.fls,Ty.tru,Ty.nums,Ty.anyText,Ty.texts,Ty.arrays,Ty.objects]
theorem Ty.av_eq (t : Ty) : t.av = .agg [.bool t.all,.bool t.nul,.bool t.fls,.bool t.tru,.lst 2 (sprow t.nums),.bool t.anyText,.lst 1 (srow t.texts),.lst 11 (t.arrays.map Ar.row),.lst 12 (t.objects.map Ob.row)] := by rw [Ty.av,Ty.row_eq]
theorem Ar.row_eq (x : Ar) : x.row = [.bool x.item.all,.bool x.item.nul,.bool x.item.fls,.bool x.item.tru,.lst 2 (sprow x.item.nums),.bool x.item.anyText,.lst 1 (srow x.item.texts),.lst 11 (x.item.arrays.map Ar.row),.lst 12 (x.item.objects.map Ob.row),.int .i64 x.min,.int .i64 x.max] := by
  cases x with
  | mk i a b => simp only [Ar.row,Ty.row_eq i,Ar.item,Ar.min,Ar.max]; rfl
theorem Ob.row_eq (x : Ob) : x.row = [.lst 1 (srow x.names),.lst 9 (x.fields.map Ty.row),.lst 1 (brow x.must),.bool x.rest.all,.bool x.rest.nul,.bool x.rest.fls,.bool x.rest.tru,.lst 2 (sprow x.rest.nums),.bool x.rest.anyText,.lst 1 (srow x.rest.texts),.lst 11 (x.rest.arrays.map Ar.row),.lst 12 (x.rest.objects.map Ob.row)] := by
  cases x with
  | mk ns fs ms r => simp only [Ob.row,Ty.row_eq r,Ob.names,Ob.fields,Ob.must,Ob.rest,tyRows_eq]; rfl
theorem Ty.bk_eq (t : Ty) : t.bk = 5 + ((spbk t.nums + 1) + ((sbk t.texts + 1) + ((arBks t.arrays + 1) + (obBks t.objects + 1)))) := by cases t; rfl
theorem Ar.bk_eq (x : Ar) : x.bk = x.item.bk + 2 := by cases x; rfl
theorem Ob.bk_eq (x : Ob) : x.bk = (sbk x.names + 1) + ((tyBks x.fields + 1) + ((x.must.length + 1) + x.rest.bk)) := by cases x; rfl
theorem tyBk_mem {x : Ty} {l : List Ty} (h : x ∈ l) : x.bk ≤ tyBks l := by
  induction l with
  | nil => simp at h
  | cons y l ih =>
    simp only [tyBks]
    rcases List.mem_cons.1 h with rfl | h
    · omega
    · have := ih h; omega
theorem arBk_mem {x : Ar} {l : List Ar} (h : x ∈ l) : x.bk ≤ arBks l := by
  induction l with
  | nil => simp at h
  | cons y l ih =>
    simp only [arBks]
    rcases List.mem_cons.1 h with rfl | h
    · omega
    · have := ih h; omega
theorem obBk_mem {x : Ob} {l : List Ob} (h : x ∈ l) : x.bk ≤ obBks l := by
  induction l with
  | nil => simp at h
  | cons y l ih =>
    simp only [obBks]
    rcases List.mem_cons.1 h with rfl | h
    · omega
    · have := ih h; omega
theorem spbk_mem {x : Str × Str} {l : List (Str × Str)} (h : x ∈ l) : x.1.length + x.2.length + 2 ≤ spbk l := by
  induction l with
  | nil => simp at h
  | cons y l ih =>
    simp only [spbk]
    rcases List.mem_cons.1 h with rfl | h
    · omega
    · have := ih h; omega
theorem len_tyBks (l : List Ty) : 5 * l.length ≤ tyBks l := by
  induction l with
  | nil => simp [tyBks]
  | cons x l ih => simp only [tyBks,List.length_cons]; have := Ty.bk_eq x; omega
theorem len_arBks (l : List Ar) : 5 * l.length ≤ arBks l := by
  induction l with
  | nil => simp [arBks]
  | cons x l ih => simp only [arBks,List.length_cons]; have := Ar.bk_eq x; have := Ty.bk_eq x.item; omega
theorem len_obBks (l : List Ob) : 5 * l.length ≤ obBks l := by
  induction l with
  | nil => simp [obBks]
  | cons x l ih => simp only [obBks,List.length_cons]; have := Ob.bk_eq x; have := Ty.bk_eq x.rest; omega
theorem len_spbk (l : List (Str × Str)) : 2 * l.length ≤ spbk l := by
  induction l with
  | nil => simp [spbk]
  | cons x l ih => simp only [spbk,List.length_cons]; omega
theorem Ty.ind {P : Ty → Prop} (h : ∀ t,(∀ x : Ty,x.bk < t.bk → P x) → P t) (t : Ty) : P t := by
  have key : ∀ n (t : Ty),t.bk < n → P t := by
    intro n
    induction n with
    | zero => intro t ht; omega
    | succ n ih => intro t ht; exact h t fun x hx => ih x (by omega)
  exact key (t.bk + 1) t (by omega)
theorem get_ty {l : List Ty} {i : Nat} {t : Ty} (h : l[i]? = some t) : (l.map Ty.row)[i]? = some [.bool t.all,.bool t.nul,.bool t.fls,.bool t.tru,.lst 2 (sprow t.nums),.bool t.anyText,.lst 1 (srow t.texts),.lst 11 (t.arrays.map Ar.row),.lst 12 (t.objects.map Ob.row)] := by
  rw [List.getElem?_map,h,← Ty.row_eq]; rfl
theorem get_ar {l : List Ar} {i : Nat} {x : Ar} (h : l[i]? = some x) : (l.map Ar.row)[i]? = some [.bool x.item.all,.bool x.item.nul,.bool x.item.fls,.bool x.item.tru,.lst 2 (sprow x.item.nums),.bool x.item.anyText,.lst 1 (srow x.item.texts),.lst 11 (x.item.arrays.map Ar.row),.lst 12 (x.item.objects.map Ob.row),.int .i64 x.min,.int .i64 x.max] := by
  rw [List.getElem?_map,h,← Ar.row_eq]; rfl
theorem get_ob {l : List Ob} {i : Nat} {x : Ob} (h : l[i]? = some x) : (l.map Ob.row)[i]? = some [.lst 1 (srow x.names),.lst 9 (x.fields.map Ty.row),.lst 1 (brow x.must),.bool x.rest.all,.bool x.rest.nul,.bool x.rest.fls,.bool x.rest.tru,.lst 2 (sprow x.rest.nums),.bool x.rest.anyText,.lst 1 (srow x.rest.texts),.lst 11 (x.rest.arrays.map Ar.row),.lst 12 (x.rest.objects.map Ob.row)] := by
  rw [List.getElem?_map,h,← Ob.row_eq]; rfl
theorem get_sprow {l : List (Str × Str)} {i : Nat} {x : Str × Str} (h : l[i]? = some x) : (sprow l)[i]? = some [.str x.1,.str x.2] := by
  simp only [sprow,List.getElem?_map,h,Option.map_some]
theorem get_brow {l : List Bool} {i : Nat} {x : Bool} (h : l[i]? = some x) : (brow l)[i]? = some [.bool x] := by
  simp only [brow,List.getElem?_map,h,Option.map_some]
theorem sprow_len (l : List (Str × Str)) : (sprow l).length = l.length := by simp [sprow]
theorem brow_len (l : List Bool) : (brow l).length = l.length := by simp [brow]
end Hm

/- Steps of a walk, many at once: the side goals fill themselves. Conditions: none (plain lemmas). -/
namespace Hm
open Go (IntKind)
theorem zA {P Q : Prop} (q : Q) (k : Q → P := by first | exact WO.cons | exact WB.cons | exact WP.one) : P := k q
theorem zB {P Q : Prop} (q : Q) (k : Q → P := by
  first
  | ((first | apply W1.add64 | apply W1.sub64); (iterate 3 exact rfl); omega; omega)
  | (apply W1.iadr; (iterate 3 exact rfl); omega; first | assumption | ((first | apply V.get_row | apply get_srow | apply get_ty | apply get_ar | apply get_ob | apply get_sprow | apply get_brow); assumption))
  | (apply W1.idxS; (iterate 3 exact rfl); omega; omega)
  | (apply W1.slcS; (iterate 4 exact rfl); omega)
  | (apply W1.pickT; exact rfl; exact rfl; (first | with_reducible rfl | assumption | (simp only [bn]; first | omega | assumption | decide)); exact rfl)
  | (apply W1.pickF; exact rfl; exact rfl; (first | with_reducible rfl | assumption | (simp only [bn]; first | omega | assumption | decide)); exact rfl)
  | (apply W1.op; (iterate 3 exact rfl))
  | (apply W1.no; exact rfl)
  | ((first | apply W1.knowT | apply W1.knowFn | apply WQ.knowT | apply WQ.knowFn | apply W.condT); exact rfl; (first | with_reducible rfl | assumption | (simp only [bn]; first | omega | assumption | decide)))
  | ((first | apply W1.knowTn | apply W1.knowF | apply WQ.knowTn | apply WQ.knowF | apply W.condF); exact rfl; (first | with_reducible rfl | assumption | (simp only [bn]; first | omega | assumption | decide)))
  | (apply WQ.go; exact rfl; exact rfl)
  | (apply WQ.no; exact rfl)) : P := k q
theorem zC {P A B : Prop} (a : A) (b : B) (k : A → B → P := by ((first | apply W1.bothT | apply W1.bothF | apply WQ.bothT | apply WQ.bothF | apply W.cond); exact rfl)) : P := k a b
theorem zE {P Q : Prop} (q : Q) (k : Q → P := by
  first
  | exact WO.nil | exact WB.nil | exact WP.bag rfl | exact WP.nil | exact W.seq | exact W.reg | exact W.dreg | exact W.block | exact W.ret | exact W.skip | exact W.exit) : P := k q
variable {T : Tab} {st st' : St} {K : St → Prop}
theorem W1.cl {dst : Option Nat} {gd : Option (Nat × Bool)} {s : Seal} {f : Opd} {xs : List Opd} {g : Nat} {first cs : List AV} {t0 t : Bool} {ms : List PMode} {l X : List Arg} {ks : List Nat} {r : CR}
    (hm : T.modes g = ms) (hr : Ret T g X r) (hk : K (putD dst (resTV s r.res) st')) (hg : wanted st gd = some true := by exact rfl) (hf : (st.opd f).fn = some (g,first,cs,t0) := by exact rfl) (ha : args st (ms.drop first.length) xs = some (l,t,ks,st') := by exact rfl)
    (hio : hasIo l = false := by exact rfl) (hmv : hasMv l = false := by exact rfl) (hX : first.map .val ++ l ++ cs.map .val = X := by exact rfl) (ht : ((t0 || t) && !allScalar r.res) = false := by exact rfl) : W1 T ⟨dst,.call s f xs,gd⟩ st K :=
  W1.callV hg hf hm ha hio hmv (hX ▸ hr) ht hk
theorem WQ.cl {hu : Bool} {ds es : List Nat} {dst : Option Nat} {s : Seal} {f : Opd} {xs : List Opd} {gd : Option (Nat × Bool)} {g : Nat} {x : List AV × List AV × Bool} {ms : List PMode} (hm : T.modes g = ms) (h : W1 T ⟨dst,.call s f xs,none⟩ st K)
    (hg : wanted st gd = some true := by exact rfl) (hf : (st.opd f).fn = some (g,x) := by exact rfl) (hv : ms.all PMode.isVal = true := by exact rfl) (he : (xs.all fun x => eatOk es st x) = true := by exact rfl) : WQ T hu ds es ⟨dst,.call s f xs,gd⟩ st K :=
  WQ.call hg hf hm hv he h
theorem zN {P Q : Prop} (q : Q) (k : Q → P := by intro q; simp only [srow_len,List.length_map,Qit,Int.toNat_natCast,entry,Opd.eat,cellsOf,TV.ofCells,allAv,Qseq,Qblk,List.map_cons,List.map_nil,putD,kp,Nat.reduceEqDiff,↓reduceIte,beq_self_eq_true,Nat.reduceBEq]; exact q) : P := k q
theorem zNT {P Q : Prop} (q : Q) (k : Q → P := by intro q; simp only [sprow_len,brow_len,srow_len,List.length_map,Qit,Int.toNat_natCast,entry,Opd.eat,cellsOf,TV.ofCells,allAv,Qseq,Qblk,List.map_cons,List.map_nil,putD,kp,Nat.reduceEqDiff,↓reduceIte,beq_self_eq_true,Nat.reduceBEq]; exact q) : P := k q
theorem zNV {P Q : Prop} (q : Q) (k : Q → P := by intro q; simp only [srow_len,List.length_map,Qit,Int.toNat_natCast,entry,Opd.eat,cellsOf,TV.ofCells,allAv,Qseq,Qblk,List.map_cons,List.map_nil,putD,kp,Nat.reduceEqDiff,↓reduceIte,beq_self_eq_true,Nat.reduceBEq,kr,sealRow,sealRows,Cell.shut,one,St.freeze,kq,List.drop_zero,List.drop_succ_cons,List.take_succ_cons,List.take_zero,List.cons_append,List.nil_append,Nat.zero_add,resTV,tvOf,List.length_cons,List.length_nil,Nat.reduceAdd]; exact q) : P := k q
theorem W1.bL {dst : Option Nat} {g : Option (Nat × Bool)} {k : Nat} {zero c : List Cell} {x : Opd} {gg : Bool} (hk : K (putD dst (.own [.own k [c]] false) (x.eat st))) (hg : wanted st g = some true := by exact rfl) (hx : (st.opd x).give = some (c,gg) := by exact rfl) (hc : c.length = k := by exact rfl) (hz : zero.length = k := by exact rfl) : W1 T ⟨dst,.buildS 1 k zero [(0,k,x)],g⟩ st K := W1.bS1 hg hx hc hz hk
theorem W1.cd1 {dst : Option Nat} {gd : Option (Nat × Bool)} {f : Opd} {xs : List Opd} {g : Nat} {first cs : List AV} {t0 t : Bool} {ms : List PMode} {l X : List Arg} {ks : List Nat} {C : List Cell} {row : List AV} (hm : T.modes g = ms) (hC : sealRow C = row) (hr : Ret T g X ⟨[(C,true)],[]⟩) (hk : K (putD dst (.av (.agg row)) st'))
    (hg : wanted st gd = some true := by exact rfl) (hf : (st.opd f).fn = some (g,first,cs,t0) := by exact rfl) (ha : args st (ms.drop first.length) xs = some (l,t,ks,st') := by exact rfl) (hio : hasIo l = false := by exact rfl) (hmv : hasMv l = false := by exact rfl)
    (hX : first.map .val ++ l ++ cs.map .val = X := by exact rfl) (ht : (t0 || t) = false := by exact rfl) : W1 T ⟨dst,.call .deep f xs,gd⟩ st K := W1.callD1 hC hg hf hm ha hio hmv (hX ▸ hr) ht hk
theorem W1.cd2 {dst : Option Nat} {gd : Option (Nat × Bool)} {f : Opd} {xs : List Opd} {g : Nat} {first cs : List AV} {t0 t : Bool} {ms : List PMode} {l X : List Arg} {ks : List Nat} {C : List Cell} {v : AV} {row : List AV} (hm : T.modes g = ms) (hC : sealRow C = row) (hr : Ret T g X ⟨[(C,true),([.av v],false)],[]⟩) (hk : K (putD dst (.tup [some (row.map .av,true),some ([.av v],false)]) st'))
    (hg : wanted st gd = some true := by exact rfl) (hf : (st.opd f).fn = some (g,first,cs,t0) := by exact rfl) (ha : args st (ms.drop first.length) xs = some (l,t,ks,st') := by exact rfl) (hio : hasIo l = false := by exact rfl) (hmv : hasMv l = false := by exact rfl)
    (hX : first.map .val ++ l ++ cs.map .val = X := by exact rfl) (ht : (t0 || t) = false := by exact rfl) : W1 T ⟨dst,.call .deep f xs,gd⟩ st K := W1.callD2 hC hg hf hm ha hio hmv (hX ▸ hr) ht hk
end Hm

/- Which texts are UTF-8, as the program's reference has it. Conditions: see each theorem. -/
namespace Hm
open Go (IntKind)
set_option maxHeartbeats 4000000
set_option maxRecDepth 4000
def cont (c : UInt8) : Bool := decide (128 ≤ (c.toNat : Int)) && decide ((c.toNat : Int) ≤ 191)
def tr (r : Str) (n : Nat) (lo hi : Int) : Bool := decide (n ≤ r.length) && ((r.take n).all cont && (decide ((bAt r 0).toNat ≥ lo) && decide ((bAt r 0).toNat ≤ hi)))
theorem bAt_drop (s : Str) (i j : Nat) : bAt (s.drop i) j = bAt s (i + j) := by
  simp [bAt,List.getD,List.getElem?_drop]
theorem refTrail_ret {T : Tab} (h : Fn T F.h03_trail h03_trail.fn) (s : Str) (hb : s.length ≤ 1073741824) (i n lo hi : Int) (h0 : 0 ≤ i) (h1 : i ≤ s.length) (h2 : 1 ≤ n) (h3 : n ≤ 10) :
    Ret T F.h03_trail [.val (.str s),.val (.int .i64 i),.val (.int .i64 n),.val (.int .u8 lo),.val (.int .u8 hi)] (one (.bool (tr (s.drop i.toNat) n.toNat lo hi))) := by
  refine Ret.mk h rfl ?_
  by_cases hle : i + n ≤ s.length
  · have hlen : ((s.drop i.toNat).take n.toNat).length = n.toNat := by rw [List.length_take,List.length_drop]; omega
    have hdec : decide (n.toNat ≤ (s.drop i.toNat).length) = true := by rw [List.length_drop]; exact decide_eq_true (by omega)
    repeat' (first | refine zA ?_ | refine zB ?_ | (refine zC ?_ ?_ <;> intro hc; all_goals first | (cases hc; done) | ((try simp only [hc]); (try simp only [bm] at hc))) | refine zE ?_ | refine zN ?_ | fail)
    refine W.listP ((s.drop i.toNat).take n.toNat) (fun k (_ : Unit) s => s.put 11 (.av (.int .i64 (k : Int)))) (fun k _ => (((s.drop i.toNat).take n.toNat).take k).all cont = true) () (by simp) rfl ?_ ?_
    · intro k x u hx hk hp
      rw [hlen] at hk
      have hbk : bAt s (i + k).toNat = x := by
        have : (i + k).toNat = i.toNat + k := by omega
        rw [this,← bAt_drop]
        rw [List.getElem?_take,if_pos (by omega)] at hx
        exact bAt_get hx
      subst hbk
      repeat' (first | refine zA ?_ | refine zB ?_ | (refine zC ?_ ?_ <;> intro hc; all_goals first | (cases hc; done) | ((try simp only [hc]); (try simp only [bm] at hc))) | refine zE ?_ | refine zN ?_ | fail)
      · refine Qend.boo rfl rfl ?_
        have : ((s.drop i.toNat).take n.toNat).all cont = false := all_false hx (by simp only [cont,Bool.and_eq_false_iff,decide_eq_false_iff_not]; right; omega)
        simp only [tr,this,Bool.false_and,Bool.and_false]
      · refine ⟨(),?_,rfl⟩
        rw [all_take_succ hx,hp]
        simp only [cont,Bool.true_and,Bool.and_eq_true,decide_eq_true_eq]
        omega
      · refine Qend.boo rfl rfl ?_
        have : ((s.drop i.toNat).take n.toNat).all cont = false := all_false hx (by simp only [cont,Bool.and_eq_false_iff,decide_eq_false_iff_not]; left; omega)
        simp only [tr,this,Bool.false_and,Bool.and_false]
    · intro u hp
      rw [List.take_length] at hp
      have hb0 : bAt (s.drop i.toNat) 0 = bAt s i.toNat := by rw [bAt_drop]; rfl
      repeat' (first | refine zA ?_ | refine zB ?_ | (refine zC ?_ ?_ <;> intro hc; all_goals first | (cases hc; done) | ((try simp only [hc]); (try simp only [bm] at hc))) | refine zE ?_ | refine zN ?_ | fail)
      all_goals
        refine Qend.boo rfl rfl ?_
        simp only [tr,hp,hdec,Bool.true_and,hb0]
        (try simp [*]) <;> omega
  · skip
    repeat' (first | refine zA ?_ | refine zB ?_ | (refine zC ?_ ?_ <;> intro hc; all_goals first | (cases hc; done) | ((try simp only [hc]); (try simp only [bm] at hc))) | refine zE ?_ | refine zN ?_ | fail)
    refine Qend.boo rfl rfl ?_
    have hdec : decide (n.toNat ≤ (s.drop i.toNat).length) = false := by rw [List.length_drop]; exact decide_eq_false (by omega)
    simp only [tr,hdec,Bool.false_and]
def wd : Str → Nat
  | [] => 0
  | c :: r =>
    if (c.toNat : Int) < 128 then 1
    else if (194 ≤ (c.toNat : Int) ∧ (c.toNat : Int) ≤ 223) ∧ tr r 1 128 191 = true then 2
    else if (224 ≤ (c.toNat : Int) ∧ (c.toNat : Int) ≤ 239) ∧ tr r 2 (if (c.toNat : Int) = 224 then 160 else 128) (if (c.toNat : Int) = 237 then 159 else 191) = true then 3
    else if (240 ≤ (c.toNat : Int) ∧ (c.toNat : Int) ≤ 244) ∧ tr r 3 (if (c.toNat : Int) = 240 then 144 else 128) (if (c.toNat : Int) = 244 then 143 else 191) = true then 4
    else 0
theorem refWidth_ret {T : Tab} (h : Fn T F.h03_width h03_width.fn) (ht : Fn T F.h03_trail h03_trail.fn) (s : Str) (hb : s.length ≤ 1073741824) (i : Int) (h0 : 0 ≤ i) (h1 : i < s.length) :
    Ret T F.h03_width [.val (.str s),.val (.int .i64 i)] (one (.int .i64 (wd (s.drop i.toNat) : Nat))) := by
  refine Ret.mk h rfl ?_
  obtain ⟨c,r,hcr,hr⟩ : ∃ c r,s.drop i.toNat = c :: r ∧ s.drop (i + 1).toNat = r := by
    refine ⟨s[i.toNat]'(by omega),s.drop (i.toNat + 1),?_,?_⟩
    · exact List.drop_eq_getElem_cons (by omega)
    · congr 1; omega
  have hbc : bAt s i.toNat = c := by
    have := bAt_drop s i.toNat 0
    rw [hcr] at this
    simpa [bAt] using this.symm
  have t2 := refTrail_ret ht s hb (i + 1) 1 128 191 (by omega) (by omega) (by omega) (by omega)
  rw [hr,show Int.toNat 1 = 1 from rfl] at t2
  have t3 := fun lo hi => refTrail_ret ht s hb (i + 1) 2 lo hi (by omega) (by omega) (by omega) (by omega)
  simp only [hr,show Int.toNat 2 = 2 from rfl] at t3
  have t4 := fun lo hi => refTrail_ret ht s hb (i + 1) 3 lo hi (by omega) (by omega) (by omega) (by omega)
  simp only [hr,show Int.toNat 3 = 3 from rfl] at t4
  have hcl : c.toNat < 256 := c.toNat_lt
  rw [hcr]
  subst hbc
  repeat' (first | refine zA ?_ | refine WQ.cl ht.modes ?_ | refine W1.cl ht.modes (t2) ?_ | refine WQ.cl ht.modes ?_ | refine W1.cl ht.modes (t3 _ _) ?_ | refine WQ.cl ht.modes ?_ | refine W1.cl ht.modes (t4 _ _) ?_ | refine zB ?_ | (refine zC ?_ ?_ <;> intro hc; all_goals first | (cases hc; done) | ((try simp only [hc]); (try simp only [bm] at hc))) | refine zE ?_ | refine zN ?_ | fail)
  all_goals refine Qend.num rfl rfl ?_
  all_goals clear t2 t3 t4
  all_goals simp only [wd]
  all_goals generalize (bAt s i.toNat) = c at *
  all_goals (repeat' split)
  all_goals first | rfl | (exfalso; omega) | (exfalso; simp_all; done) | (exfalso; simp_all; omega) | trace_state
end Hm

/- Which texts are UTF-8, whole. Conditions: see each theorem. -/
namespace Hm
open Go (IntKind)
set_option maxHeartbeats 4000000
set_option maxRecDepth 4000
def utfF : Nat → Str → Bool
  | 0,_ => true
  | f + 1,s => s.isEmpty || (!(wd s == 0) && utfF f (s.drop (wd s)))
def utf (s : Str) : Bool := utfF s.length s
theorem wd_le (s : Str) : wd s ≤ 4 := by
  cases s with
  | nil => simp [wd]
  | cons c r => simp only [wd]; repeat' split
                all_goals omega
theorem refUTF_ret {T : Tab} (h : Fn T F.h03_UTF h03_UTF.fn) (hw : Fn T F.h03_width h03_width.fn) (ht : Fn T F.h03_trail h03_trail.fn) (s : Str) (hb : s.length ≤ 1073741824) :
    Ret T F.h03_UTF [.val (.str s)] (one (.bool (utf s))) := by
  refine Ret.mk h rfl ?_
  repeat' (first | refine zA ?_ | refine zB ?_ | (refine zC ?_ ?_ <;> intro hc; all_goals first | (cases hc; done) | ((try simp only [hc]); (try simp only [bm] at hc))) | refine zE ?_ | refine zN ?_ | fail)
  refine W.iterP (fun (i : Nat) s => s.put 3 (.av (.int .i64 (i : Int)))) (fun i => i ≤ s.length + 4 ∧ ∃ f,s.length - i ≤ f ∧ utfF f (s.drop i) = utf s) (fun i => s.length + 10 - i) 0 ⟨by omega,s.length,by omega,rfl⟩ rfl ?_
  intro i hp
  obtain ⟨hi,f,hf,hu⟩ := hp
  by_cases hlt : i < s.length
  · have hret := refWidth_ret hw ht s hb i (by omega) (by omega)
    have hle := wd_le (s.drop i)
    rw [Int.toNat_natCast] at hret
    obtain ⟨c,r,hcr⟩ : ∃ c r,s.drop i = c :: r := ⟨_,_,List.drop_eq_getElem_cons hlt⟩
    cases f with
    | zero => omega
    | succ f =>
    simp only [utfF,hcr,List.isEmpty_cons,Bool.false_or] at hu
    rw [← hcr] at hu
    repeat' (first | refine zA ?_ | refine WQ.cl hw.modes ?_ | refine W1.cl hw.modes (hret) ?_ | refine zB ?_ | (refine zC ?_ ?_ <;> intro hc; all_goals first | (cases hc; done) | ((try simp only [hc]); (try simp only [bm] at hc))) | refine zE ?_ | refine zN ?_ | fail)
    · refine Qend.boo rfl rfl ?_
      have : wd (s.drop i) = 0 := by omega
      simp only [← hu,this,beq_self_eq_true,Bool.not_true,Bool.false_and]
    · have h0 : ¬ wd (s.drop i) = 0 := by omega
      refine ⟨i + wd (s.drop i),⟨by omega,f,by omega,?_⟩,by omega,rfl⟩
      rw [← hu,List.drop_drop,beq_eq_false_iff_ne.2 h0,Bool.not_false,Bool.true_and]
  · skip
    repeat' (first | refine zA ?_ | refine zB ?_ | (refine zC ?_ ?_ <;> intro hc; all_goals first | (cases hc; done) | ((try simp only [hc]); (try simp only [bm] at hc))) | refine zE ?_ | refine zN ?_ | fail)
    refine Qend.boo rfl rfl ?_
    have : s.drop i = [] := List.drop_eq_nil_of_le (by omega)
    rw [← hu,this]
    cases f <;> rfl
end Hm

/- Texts eight bytes at once. Conditions: see each theorem. -/
namespace Hm
open Go (IntKind)
set_option maxHeartbeats 4000000
set_option maxRecDepth 4000
def H64 : BitVec 64 := BitVec.ofInt 64 9259542123273814144
theorem wrapU {n : Int} (h1 : 0 ≤ n) (h2 : n < 18446744073709551616) : IntKind.wrap .u64 n = n := by
  have e : n % (2 ^ 64 : Int) = n := Int.emod_eq_of_lt h1 (by omega)
  simp only [IntKind.wrap,IntKind.bits,IntKind.signed,Bool.false_and,Bool.false_eq_true,if_false]
  exact e
theorem ofInt_nat (x : BitVec 64) : BitVec.ofInt 64 (IntKind.wrap .u64 (x.toNat : Int)) = x := by
  rw [wrapU (by omega) (by have := x.isLt; omega)]
  simp
def P8 (s : Str) (r : Int) : Prop := BitVec.ofInt 64 r &&& H64 = 0#64 → ∀ i,i < 8 → (bAt s i).toNat < 128
theorem or_hi {x y h : BitVec 64} (e : (x ||| y) &&& h = 0#64) : x &&& h = 0#64 ∧ y &&& h = 0#64 := by
  have key : ∀ i,i < 64 → ((x ||| y) &&& h).getLsbD i = false := fun i _ => by rw [e]; simp
  constructor
  · apply BitVec.eq_of_getLsbD_eq
    intro i hi
    have := key i hi
    simp only [BitVec.getLsbD_and,BitVec.getLsbD_or,BitVec.getLsbD_zero] at this ⊢
    cases h1 : x.getLsbD i <;> cases h2 : y.getLsbD i <;> cases h3 : h.getLsbD i <;> simp_all
  · apply BitVec.eq_of_getLsbD_eq
    intro i hi
    have := key i hi
    simp only [BitVec.getLsbD_and,BitVec.getLsbD_or,BitVec.getLsbD_zero] at this ⊢
    cases h1 : x.getLsbD i <;> cases h2 : y.getLsbD i <;> cases h3 : h.getLsbD i <;> simp_all
theorem byte_tab : ∀ k,k < 8 → ∀ n,n < 256 → (BitVec.ofNat 64 (n * 2 ^ (8 * k)) &&& H64 = 0#64) → n < 128 := by decide +kernel
theorem byte_of {c : UInt8} (k : Nat) (hk : k < 8) (h : BitVec.ofInt 64 (IntKind.wrap .u64 (IntKind.wrap .u64 (c.toNat : Int) * 2 ^ (8 * k))) &&& H64 = 0#64) : c.toNat < 128 := by
  have hc : c.toNat < 256 := c.toNat_lt
  have hp : 2 ^ (8 * k) ≤ 2 ^ 56 := Nat.pow_le_pow_right (by omega) (by omega)
  have hm : c.toNat * 2 ^ (8 * k) < 18446744073709551616 := Nat.lt_of_lt_of_le (Nat.mul_lt_mul_of_lt_of_le hc hp (by omega)) (by decide)
  have e1 : IntKind.wrap .u64 (c.toNat : Int) = c.toNat := wrapU (by omega) (by omega)
  have e2 : ((c.toNat : Int) * 2 ^ (8 * k)) = ((c.toNat * 2 ^ (8 * k) : Nat) : Int) := by push_cast; rfl
  rw [e1,e2,wrapU (by omega) (by omega),BitVec.ofInt_natCast] at h
  exact byte_tab k hk c.toNat hc h
def orW (a b : Int) : Int := IntKind.wrap .u64 ((BitVec.ofInt 64 a ||| BitVec.ofInt 64 b).toNat : Int)
def shW (s : Str) (i : Nat) : Int := IntKind.wrap .u64 (IntKind.wrap .u64 ((bAt s i).toNat : Int) * 2 ^ (8 * i))
def wordW (s : Str) : Int := orW (orW (orW (orW (orW (orW (orW (IntKind.wrap .u64 ((bAt s 0).toNat : Int)) (shW s 1)) (shW s 2)) (shW s 3)) (shW s 4)) (shW s 5)) (shW s 6)) (shW s 7)
theorem ofInt_orW (a b : Int) : BitVec.ofInt 64 (orW a b) = BitVec.ofInt 64 a ||| BitVec.ofInt 64 b := ofInt_nat _
theorem P8_word (s : Str) : P8 s (wordW s) := by
  intro h0
  simp only [wordW,ofInt_orW] at h0
  obtain ⟨h0,h7⟩ := or_hi h0
  obtain ⟨h0,h6⟩ := or_hi h0
  obtain ⟨h0,h5⟩ := or_hi h0
  obtain ⟨h0,h4⟩ := or_hi h0
  obtain ⟨h0,h3⟩ := or_hi h0
  obtain ⟨h0,h2⟩ := or_hi h0
  obtain ⟨h0,h1⟩ := or_hi h0
  have hb : (bAt s 0).toNat < 256 := (bAt s 0).toNat_lt
  have q0 : (bAt s 0).toNat < 128 := by
    refine byte_of 0 (by decide) ?_
    rw [show (2 : Int) ^ (8 * 0) = 1 from rfl,Int.mul_one,wrapU (n := IntKind.wrap .u64 ((bAt s 0).toNat : Int)) (by rw [wrapU (by omega) (by omega)]; omega) (by rw [wrapU (by omega) (by omega)]; omega)]
    exact h0
  intro i hi
  have hcase : i = 0 ∨ i = 1 ∨ i = 2 ∨ i = 3 ∨ i = 4 ∨ i = 5 ∨ i = 6 ∨ i = 7 := by omega
  rcases hcase with rfl | rfl | rfl | rfl | rfl | rfl | rfl | rfl
  · exact q0
  · exact byte_of 1 (by decide) h1
  · exact byte_of 2 (by decide) h2
  · exact byte_of 3 (by decide) h3
  · exact byte_of 4 (by decide) h4
  · exact byte_of 5 (by decide) h5
  · exact byte_of 6 (by decide) h6
  · exact byte_of 7 (by decide) h7
theorem word_ret {T : Tab} (h : Fn T F.unicode_utf8_word_string unicode_utf8_word_string.fn) (s : Str) (hl : 8 ≤ s.length) : Ret T F.unicode_utf8_word_string [.val (.str s)] (one (.int .u64 (wordW s))) := by
  refine Ret.mk h rfl ?_
  repeat' (first | refine zA ?_ | refine zB ?_ | (refine zC ?_ ?_ <;> intro hc; all_goals first | (cases hc; done) | ((try simp only [hc]); (try simp only [bm] at hc))) | refine zE ?_ | refine zN ?_ | fail)
  exact ⟨.inr rfl,rfl,rfl⟩
theorem utfF_more : ∀ (f : Nat) (s : Str),s.length ≤ f → utfF (f + 1) s = utfF f s
  | 0,s,h => by
    have : s = [] := List.eq_nil_of_length_eq_zero (by omega)
    subst this; rfl
  | f + 1,s,h => by
    show (s.isEmpty || (!(wd s == 0) && utfF (f + 1) (s.drop (wd s)))) = (s.isEmpty || (!(wd s == 0) && utfF f (s.drop (wd s))))
    by_cases hw : wd s = 0
    · simp [hw]
    · rw [utfF_more f (s.drop (wd s)) (by simp; omega)]
theorem utf_of : ∀ (f : Nat) (s : Str),s.length ≤ f → utfF f s = utf s := by
  intro f
  induction f with
  | zero =>
    intro s h
    have : s = [] := List.eq_nil_of_length_eq_zero (by omega)
    subst this; rfl
  | succ f ih =>
    intro s h
    by_cases he : s.length = f + 1
    · rw [utf,he]
    · rw [utfF_more f s (by omega),ih s (by omega)]
theorem utf_cons {s : Str} (h : s ≠ []) : utf s = (!(wd s == 0) && utf (s.drop (wd s))) := by
  cases s with
  | nil => exact absurd rfl h
  | cons c r =>
    rw [utf,List.length_cons,utfF]
    simp only [List.isEmpty_cons,Bool.false_or]
    by_cases hw : wd (c :: r) = 0
    · simp [hw]
    · rw [utf_of _ _ (by simp; omega)]
theorem utf_one {s : Str} (h : 0 < s.length) (hc : (bAt s 0).toNat < 128) : utf (s.drop 1) = utf s := by
  cases s with
  | nil => simp at h
  | cons c r =>
    have hw : wd (c :: r) = 1 := by
      simp only [bAt,List.getD_cons_zero] at hc
      simp only [wd]
      rw [if_pos (by omega)]
    have e := utf_cons (s := c :: r) (by simp)
    rw [hw] at e
    rw [e]; simp
theorem utf_asc : ∀ (k : Nat) (s : Str),k ≤ s.length → (∀ i,i < k → (bAt s i).toNat < 128) → utf (s.drop k) = utf s
  | 0,s,_,_ => by simp
  | k + 1,s,hk,h => by
    rw [← utf_one (s := s) (by omega) (h 0 (by omega)),← utf_asc k (s.drop 1) (by simp; omega) (fun i hi => by rw [bAt_drop]; exact h (1 + i) (by omega)),List.drop_drop,Nat.add_comm]
end Hm

/- What begins an encoding. Conditions: see each theorem. -/
namespace Hm
open Go (IntKind)
set_option maxHeartbeats 4000000
set_option maxRecDepth 4000
theorem W1.slcD {T : Tab} {st : St} {K : St → Prop} {dst : Option Nat} {g : Option (Nat × Bool)} {k : Nat} {x : Opd} {lo : Option Opd} {s : Str} {l : Nat} (hg : wanted st g = some true) (hx : st.opd x = .av (.str s)) (hl : st.bnd 0 lo = some l) (hc : l ≤ s.length)
    (hk : K (putD dst (.av (.str (s.drop l))) st)) : W1 T ⟨dst,.slc true k x lo none,g⟩ st K :=
  W1.slcS hg hx hl rfl ⟨hc,Nat.le_refl _⟩ (by rw [List.take_length]; exact hk)
theorem W1.slcN (n : Nat) {T : Tab} {st : St} {K : St → Prop} {dst : Option Nat} {g : Option (Nat × Bool)} {k : Nat} {x : Opd} {s : Str} (hg : wanted st g = some true) (hx : st.opd x = .av (.str s)) (hc : n ≤ s.length)
    (hk : K (putD dst (.av (.str (s.drop n))) st)) : W1 T ⟨dst,.slc true k x (some (.v (.int .i64 (n : Int)))) none,g⟩ st K := by
  refine W1.slcD hg hx (l := n) ?_ hc hk
  show idx (.int .i64 (n : Int)) = some n
  simp only [idx,if_pos (Int.natCast_nonneg n),Int.toNat_natCast]
theorem W1.tabA {T : Tab} {st : St} {K : St → Prop} {dst : Option Nat} {g : Option (Nat × Bool)} {n k : Nat} {x i : Opd} {ik : IntKind} {c : Int} {cs r : List AV} (hg : wanted st g = some true) (hi : st.opd i = .av (.int ik c)) (hx : st.opd x = .av (.vptr cs))
    (hr : cs.drop (c.toNat * k) = r) (h0 : 0 ≤ c) (hn : c.toNat < n) (hl : c.toNat * k ≤ cs.length) (hk : K (putD dst (.av (.vptr r)) st)) : W1 T ⟨dst,.iadrA n k x i,g⟩ st K := by
  refine W1.go hg (WS.op (v := .av (.vptr r)) (st' := st) rfl ?_ hk)
  simp only [stepOp,hi,idx,if_pos h0,if_neg (Nat.not_le.2 hn),hx,if_pos hl,hr]
theorem W1.load1 {T : Tab} {st : St} {K : St → Prop} {dst : Option Nat} {g : Option (Nat × Bool)} {a : Opd} {v : AV} {rest : List AV} (hg : wanted st g = some true) (hx : st.opd a = .av (.vptr (v :: rest))) (hk : K (putD dst (.av v) st)) : W1 T ⟨dst,.load 1 false a,g⟩ st K := by
  refine W1.go hg (WS.op (v := .av v) (st' := st) rfl ?_ hk)
  simp only [stepOp,hx,List.length_cons,if_pos (show 1 ≤ rest.length + 1 by omega)]
  rfl
def firB (n : Nat) : Bool := decide (n < 128) || ((firZ[n]? == some 2 && decide (194 ≤ n) && decide (n ≤ 223)) || ((firZ[n]? == some 19 && n == 224) || ((firZ[n]? == some 3 && decide (225 ≤ n) && decide (n ≤ 239) && n != 237) || ((firZ[n]? == some 35 && n == 237) ||
  ((firZ[n]? == some 52 && n == 240) || ((firZ[n]? == some 4 && decide (241 ≤ n) && decide (n ≤ 243)) || ((firZ[n]? == some 68 && n == 244) || (firZ[n]? == some 241 && (decide (n < 194) || decide (244 < n))))))))))
theorem firB_all : ((List.range 256).all firB) = true := by decide +kernel
theorem fir_cases (n : Nat) (hn : n < 256) (h1 : 128 ≤ n) : (firZ[n]? = some 2 ∧ 194 ≤ n ∧ n ≤ 223) ∨ (firZ[n]? = some 19 ∧ n = 224) ∨ (firZ[n]? = some 3 ∧ 225 ≤ n ∧ n ≤ 239 ∧ n ≠ 237) ∨ (firZ[n]? = some 35 ∧ n = 237) ∨
    (firZ[n]? = some 52 ∧ n = 240) ∨ (firZ[n]? = some 4 ∧ 241 ≤ n ∧ n ≤ 243) ∨ (firZ[n]? = some 68 ∧ n = 244) ∨ (firZ[n]? = some 241 ∧ (n < 194 ∨ 244 < n)) := by
  have h := List.all_eq_true.1 firB_all n (List.mem_range.2 hn)
  simp only [firB,Bool.or_eq_true,Bool.and_eq_true,decide_eq_true_eq,beq_iff_eq,bne_iff_ne,ne_eq,and_assoc] at h
  rcases h with h | h
  · omega
  · exact h
theorem fir_drop {n : Nat} {x : Int} (h : firZ[n]? = some x) : ∃ rest,(zavs firZ).drop n = .int .u8 x :: rest := by
  have hz : (zavs firZ)[n]? = some (.int .u8 x) := by simp [zavs,h]
  obtain ⟨h1,h2⟩ := List.getElem?_eq_some_iff.1 hz
  exact ⟨_,by rw [List.drop_eq_getElem_cons h1,h2]⟩
theorem fir_len : (zavs firZ).length = 256 := by decide +kernel
theorem bAt_succ (c : UInt8) (r : Str) (i : Nat) : bAt (c :: r) (i + 1) = bAt r i := by simp [bAt,List.getD]
theorem tr1 (r : Str) (lo hi : Int) (h1 : 128 ≤ lo) (h2 : hi ≤ 191) : (tr r 1 lo hi = true) ↔ (1 ≤ r.length ∧ lo ≤ (bAt r 0).toNat ∧ ((bAt r 0).toNat : Int) ≤ hi) := by
  cases r with
  | nil => simp [tr]
  | cons d r =>
    have e : bAt (d :: r) 0 = d := rfl
    simp only [tr,cont,e,List.length_cons,List.take_succ_cons,List.take_zero,List.all_cons,List.all_nil,Bool.and_true,Bool.and_eq_true,decide_eq_true_eq,ge_iff_le]
    omega
theorem tr2 (r : Str) (lo hi : Int) (h1 : 128 ≤ lo) (h2 : hi ≤ 191) : (tr r 2 lo hi = true) ↔ (2 ≤ r.length ∧ (lo ≤ (bAt r 0).toNat ∧ ((bAt r 0).toNat : Int) ≤ hi) ∧ (128 ≤ (bAt r 1).toNat ∧ (bAt r 1).toNat ≤ 191)) := by
  match r with
  | [] => simp [tr]
  | [d] => simp [tr]
  | d :: e :: r =>
    have e0 : bAt (d :: e :: r) 0 = d := rfl
    have e1 : bAt (d :: e :: r) 1 = e := rfl
    simp only [tr,cont,e0,e1,List.length_cons,List.take_succ_cons,List.take_zero,List.all_cons,List.all_nil,Bool.and_true,Bool.and_eq_true,decide_eq_true_eq,ge_iff_le]
    omega
theorem tr3 (r : Str) (lo hi : Int) (h1 : 128 ≤ lo) (h2 : hi ≤ 191) : (tr r 3 lo hi = true) ↔ (3 ≤ r.length ∧ (lo ≤ (bAt r 0).toNat ∧ ((bAt r 0).toNat : Int) ≤ hi) ∧ (128 ≤ (bAt r 1).toNat ∧ (bAt r 1).toNat ≤ 191) ∧ (128 ≤ (bAt r 2).toNat ∧ (bAt r 2).toNat ≤ 191)) := by
  match r with
  | [] => simp [tr]
  | [d] => simp [tr]
  | [d,e] => simp [tr]
  | d :: e :: f :: r =>
    have e0 : bAt (d :: e :: f :: r) 0 = d := rfl
    have e1 : bAt (d :: e :: f :: r) 1 = e := rfl
    have e2 : bAt (d :: e :: f :: r) 2 = f := rfl
    simp only [tr,cont,e0,e1,e2,List.length_cons,List.take_succ_cons,List.take_zero,List.all_cons,List.all_nil,Bool.and_true,Bool.and_eq_true,decide_eq_true_eq,ge_iff_le]
    omega
/-- The length of what begins with c, if at most the bytes behind it are as they must be. -/
theorem wd_two {t : Str} (h1 : 194 ≤ (bAt t 0).toNat) (h2 : (bAt t 0).toNat ≤ 223) : wd t = if 2 ≤ t.length ∧ 128 ≤ (bAt t 1).toNat ∧ (bAt t 1).toNat ≤ 191 then 2 else 0 := by
  cases t with
  | nil => simp [bAt] at h1
  | cons c r =>
    have e0 : bAt (c :: r) 0 = c := rfl
    rw [e0] at h1 h2
    rw [bAt_succ]
    simp only [wd,tr1 r 128 191 (by omega) (by omega),List.length_cons]
    rw [if_neg (by omega)]
    by_cases h : 1 ≤ r.length ∧ 128 ≤ (bAt r 0).toNat ∧ (bAt r 0).toNat ≤ 191
    · rw [if_pos (by omega),if_pos (by omega)]
    · rw [if_neg (by omega),if_neg (by omega),if_neg (by omega),if_neg (by omega)]
theorem wd_three {t : Str} (lo hi : Nat) (h1 : 224 ≤ (bAt t 0).toNat) (h2 : (bAt t 0).toNat ≤ 239) (hlo : lo = if (bAt t 0).toNat = 224 then 160 else 128) (hhi : hi = if (bAt t 0).toNat = 237 then 159 else 191) :
    wd t = if 3 ≤ t.length ∧ (lo ≤ (bAt t 1).toNat ∧ (bAt t 1).toNat ≤ hi) ∧ 128 ≤ (bAt t 2).toNat ∧ (bAt t 2).toNat ≤ 191 then 3 else 0 := by
  cases t with
  | nil => simp [bAt] at h1
  | cons c r =>
    have e0 : bAt (c :: r) 0 = c := rfl
    rw [e0] at h1 h2 hlo hhi
    rw [bAt_succ,bAt_succ]
    have el : (if (c.toNat : Int) = 224 then (160 : Int) else 128) = (lo : Int) := by rw [hlo]; split <;> split <;> omega
    have eh : (if (c.toNat : Int) = 237 then (159 : Int) else 191) = (hi : Int) := by rw [hhi]; split <;> split <;> omega
    have l1 : 128 ≤ lo := by rw [hlo]; split <;> omega
    have l2 : hi ≤ 191 := by rw [hhi]; split <;> omega
    simp only [wd,el,eh,tr2 r lo hi (by omega) (by omega),List.length_cons]
    rw [if_neg (by omega),if_neg (by omega)]
    by_cases h : 2 ≤ r.length ∧ (lo ≤ (bAt r 0).toNat ∧ (bAt r 0).toNat ≤ hi) ∧ 128 ≤ (bAt r 1).toNat ∧ (bAt r 1).toNat ≤ 191
    · rw [if_pos (by omega),if_pos (by omega)]
    · rw [if_neg (by omega),if_neg (by omega),if_neg (by omega)]
theorem wd_four {t : Str} (lo hi : Nat) (h1 : 240 ≤ (bAt t 0).toNat) (h2 : (bAt t 0).toNat ≤ 244) (hlo : lo = if (bAt t 0).toNat = 240 then 144 else 128) (hhi : hi = if (bAt t 0).toNat = 244 then 143 else 191) :
    wd t = if 4 ≤ t.length ∧ (lo ≤ (bAt t 1).toNat ∧ (bAt t 1).toNat ≤ hi) ∧ (128 ≤ (bAt t 2).toNat ∧ (bAt t 2).toNat ≤ 191) ∧ 128 ≤ (bAt t 3).toNat ∧ (bAt t 3).toNat ≤ 191 then 4 else 0 := by
  cases t with
  | nil => simp [bAt] at h1
  | cons c r =>
    have e0 : bAt (c :: r) 0 = c := rfl
    rw [e0] at h1 h2 hlo hhi
    rw [bAt_succ,bAt_succ,bAt_succ]
    have el : (if (c.toNat : Int) = 240 then (144 : Int) else 128) = (lo : Int) := by rw [hlo]; split <;> split <;> omega
    have eh : (if (c.toNat : Int) = 244 then (143 : Int) else 191) = (hi : Int) := by rw [hhi]; split <;> split <;> omega
    have l1 : 128 ≤ lo := by rw [hlo]; split <;> omega
    have l2 : hi ≤ 191 := by rw [hhi]; split <;> omega
    simp only [wd,el,eh,tr3 r lo hi (by omega) (by omega),List.length_cons]
    rw [if_neg (by omega),if_neg (by omega),if_neg (by omega)]
    by_cases h : 3 ≤ r.length ∧ (lo ≤ (bAt r 0).toNat ∧ (bAt r 0).toNat ≤ hi) ∧ (128 ≤ (bAt r 1).toNat ∧ (bAt r 1).toNat ≤ 191) ∧ 128 ≤ (bAt r 2).toNat ∧ (bAt r 2).toNat ≤ 191
    · rw [if_pos (by omega),if_pos (by omega)]
    · rw [if_neg (by omega),if_neg (by omega)]
theorem wd_none {t : Str} (h1 : 128 ≤ (bAt t 0).toNat) (h2 : (bAt t 0).toNat < 194 ∨ 244 < (bAt t 0).toNat) : wd t = 0 := by
  cases t with
  | nil => rfl
  | cons c r =>
    have e0 : bAt (c :: r) 0 = c := rfl
    rw [e0] at h1 h2
    simp only [wd]
    rw [if_neg (by omega),if_neg (by omega),if_neg (by omega),if_neg (by omega)]
end Hm

/- Which texts are UTF-8, as Go's library has it. Conditions: see each theorem. -/
namespace Hm
open Go (IntKind)
set_option maxHeartbeats 4000000
set_option maxRecDepth 4000
theorem and_zero {w : Int} (h : IntKind.wrap .u64 ((BitVec.ofInt 64 w &&& BitVec.ofInt 64 9259542123273814144).toNat : Int) = 0) : BitVec.ofInt 64 w &&& H64 = 0#64 := by
  rw [wrapU (by omega) (by have := (BitVec.ofInt 64 w &&& BitVec.ofInt 64 9259542123273814144).isLt; omega)] at h
  apply BitVec.eq_of_toNat_eq
  show (BitVec.ofInt 64 w &&& BitVec.ofInt 64 9259542123273814144).toNat = 0
  omega
abbrev hiZ (w : Int) : Prop := IntKind.wrap .u64 ((BitVec.ofInt 64 w &&& BitVec.ofInt 64 9259542123273814144).toNat : Int) = 0
theorem hi1 {t : Str} (h : hiZ (wordW t)) (hl : 8 ≤ t.length) : utf (t.drop 8) = utf t := utf_asc 8 t hl (P8_word t (and_zero h))
theorem hi2' {t : Str} (h : BitVec.ofInt 64 (orW (wordW t) (wordW (t.drop 8))) &&& H64 = 0#64) (hl : 16 ≤ t.length) : utf (t.drop 16) = utf t := by
  rw [ofInt_orW] at h
  obtain ⟨a,b⟩ := or_hi h
  have e1 := utf_asc 8 t (by omega) (P8_word t a)
  have e2 := utf_asc 8 (t.drop 8) (by simp; omega) (P8_word _ b)
  rw [List.drop_drop] at e2
  rw [show (16 : Nat) = 8 + 8 from rfl,e2,e1]
theorem hi2 {t : Str} (h : hiZ (orW (wordW t) (wordW (t.drop 8)))) (hl : 16 ≤ t.length) : utf (t.drop 16) = utf t := hi2' (and_zero h) hl
theorem hi4 {t : Str} (h : hiZ (orW (orW (wordW t) (wordW (t.drop 8))) (orW (wordW (t.drop 16)) (wordW (t.drop 24))))) (hl : 32 ≤ t.length) : utf (t.drop 32) = utf t := by
  have h := and_zero h
  rw [ofInt_orW] at h
  obtain ⟨a,b⟩ := or_hi h
  have e1 := hi2' a (by omega)
  have e2 := hi2' (t := t.drop 16) (by rw [List.drop_drop]; exact b) (by simp; omega)
  rw [List.drop_drop] at e2
  rw [show (32 : Nat) = 16 + 16 from rfl,e2,e1]
/-- What the loop of ValidString owes at a text. -/
def VStep (T : Tab) (s t : Str) : Prop := W T unicode_utf8_ValidString.l1 (St.keep [0] (St.put ⟨lstE [(0,.av (.str s))],lstB [(0,none)]⟩ 0 (.av (.str t))))
  (Qit [0] (fun st' => ∃ b' : Str,(utf b' = utf s ∧ b'.length ≤ 1073741824) ∧ b'.length < t.length ∧ st' = St.keep [0] (St.put ⟨lstE [(0,.av (.str s))],lstB [(0,none)]⟩ 0 (.av (.str b'))))
    (Qblk 0 (Qseq T (.seq (.reg unicode_utf8_ValidString.r28 [2]) .ret) (Qend unicode_utf8_ValidString.fn [.val (.str s)] (one (.bool (utf s)))))))
end Hm

/- Which texts are UTF-8: the class of ASCII. Conditions: see each theorem. -/
namespace Hm
open Go (IntKind)
set_option maxHeartbeats 40000000
set_option maxRecDepth 4000
theorem vs_nil {T : Tab} {s t : Str} (hp1 : utf t = utf s) (hp2 : t.length ≤ 1073741824) (hne : t = []) : VStep T s t := by
  unfold VStep
  subst hne
  have hz : ([] : Str).length = 0 := rfl
  repeat' (first | refine WO.cons ?_ | refine WB.cons ?_ | refine WP.one ?_ | ((first | apply W1.add64 | apply W1.sub64); (iterate 3 exact rfl); omega; omega) | (apply W1.iadr; (iterate 3 exact rfl); omega; first | assumption | ((first | apply V.get_row | apply get_srow | apply get_ty | apply get_ar | apply get_ob | apply get_sprow | apply get_brow); assumption)) | (apply W1.idxS; (iterate 3 exact rfl); omega; omega) | (apply W1.slcS; (iterate 4 exact rfl); omega) | (apply W1.pickT; exact rfl; exact rfl; (first | with_reducible rfl | assumption | (simp only [bn]; first | omega | assumption | decide)); exact rfl) | (apply W1.pickF; exact rfl; exact rfl; (first | with_reducible rfl | assumption | (simp only [bn]; first | omega | assumption | decide)); exact rfl) | (apply W1.op; (iterate 3 exact rfl)) | (apply W1.no; exact rfl) | ((first | apply W1.knowT | apply W1.knowFn | apply WQ.knowT | apply WQ.knowFn | apply W.condT); exact rfl; (first | with_reducible rfl | assumption | (simp only [bn]; first | omega | assumption | decide))) | ((first | apply W1.knowTn | apply W1.knowF | apply WQ.knowTn | apply WQ.knowF | apply W.condF); exact rfl; (first | with_reducible rfl | assumption | (simp only [bn]; first | omega | assumption | decide))) | (apply WQ.go; exact rfl; exact rfl) | (apply WQ.no; exact rfl) | ((first | apply W1.bothT | apply W1.bothF | apply WQ.bothT | apply WQ.bothF | apply W.cond); exact rfl; all_goals intro hc; all_goals first | (cases hc; done) | ((try simp only [hc]); (try simp only [bm] at hc))) | refine WO.nil ?_ | refine WB.nil ?_ | refine WP.bag rfl ?_ | refine WP.nil ?_ | refine W.seq ?_ | refine W.reg ?_ | refine W.dreg ?_ | refine W.block ?_ | refine W.ret ?_ | refine W.skip ?_ | refine W.exit ?_ | (simp only [srow_len,List.length_map,Qit,Int.toNat_natCast,entry,Opd.eat,cellsOf,TV.ofCells,allAv,Qseq,Qblk,List.map_cons,List.map_nil,putD,kp,Nat.reduceEqDiff,↓reduceIte,beq_self_eq_true,Nat.reduceBEq]))
  all_goals first | exact Qend.boo rfl rfl (by rw [← hp1]; rfl) | (exfalso; omega)
theorem vs_inner {T : Tab} {u : Str} (hw : Fn T F.unicode_utf8_word_string unicode_utf8_word_string.fn) (hu : u.length ≤ 1073741824) {N : St → Prop} {Q : Ex → St → Prop}
    (hN : 32 < u.length → utf (u.drop 32) = utf u → N ⟨lstE [(0,.av (.str (u.drop 32)))],lstB [(0,none)]⟩) (hQ : ∀ st,getE st.env 0 = .av (.str u) → getB st.boxes 0 = none → Q (.exit 2) st) :
    W T unicode_utf8_ValidString.l2 ⟨lstE [(0,.av (.str u))],lstB [(0,none)]⟩ (Qit [0] N Q) := by
  have g1 : (u.drop 8).length = u.length - 8 := List.length_drop
  have g2 : (u.drop 16).length = u.length - 16 := List.length_drop
  have g3 : (u.drop 24).length = u.length - 24 := List.length_drop
  have g4 : (u.drop 32).length = u.length - 32 := List.length_drop
  repeat' (first | refine WO.cons ?_ | refine WB.cons ?_ | refine WP.one ?_ | (((first | apply W1.slcN 8 | apply W1.slcN 16 | apply W1.slcN 24 | apply W1.slcN 32); exact rfl; exact rfl; omega)) | (first | (apply WQ.call (hm := hw.modes); (iterate 4 exact rfl)) | (apply W1.callV (hm := hw.modes); (iterate 5 exact rfl); exact (word_ret hw _ (by omega)); exact rfl)) | ((first | apply W1.add64 | apply W1.sub64); (iterate 3 exact rfl); omega; omega) | (apply W1.iadr; (iterate 3 exact rfl); omega; first | assumption | ((first | apply V.get_row | apply get_srow | apply get_ty | apply get_ar | apply get_ob | apply get_sprow | apply get_brow); assumption)) | (apply W1.idxS; (iterate 3 exact rfl); omega; omega) | (apply W1.slcS; (iterate 4 exact rfl); omega) | (apply W1.pickT; exact rfl; exact rfl; (first | with_reducible rfl | assumption | (simp only [bn]; first | omega | assumption | decide)); exact rfl) | (apply W1.pickF; exact rfl; exact rfl; (first | with_reducible rfl | assumption | (simp only [bn]; first | omega | assumption | decide)); exact rfl) | (apply W1.op; (iterate 3 exact rfl)) | (apply W1.no; exact rfl) | ((first | apply W1.knowT | apply W1.knowFn | apply WQ.knowT | apply WQ.knowFn | apply W.condT); exact rfl; (first | with_reducible rfl | assumption | (simp only [bn]; first | omega | assumption | decide))) | ((first | apply W1.knowTn | apply W1.knowF | apply WQ.knowTn | apply WQ.knowF | apply W.condF); exact rfl; (first | with_reducible rfl | assumption | (simp only [bn]; first | omega | assumption | decide))) | (apply WQ.go; exact rfl; exact rfl) | (apply WQ.no; exact rfl) | ((first | apply W1.bothT | apply W1.bothF | apply WQ.bothT | apply WQ.bothF | apply W.cond); exact rfl; all_goals intro hc; all_goals first | (cases hc; done) | ((try simp only [hc]); (try simp only [bm] at hc))) | refine WO.nil ?_ | refine WB.nil ?_ | refine WP.bag rfl ?_ | refine WP.nil ?_ | refine W.seq ?_ | refine W.reg ?_ | refine W.dreg ?_ | refine W.block ?_ | refine W.ret ?_ | refine W.skip ?_ | refine W.exit ?_ | (simp only [srow_len,List.length_map,Qit,Int.toNat_natCast,entry,Opd.eat,cellsOf,TV.ofCells,allAv,Qseq,Qblk,List.map_cons,List.map_nil,putD,kp,Nat.reduceEqDiff,↓reduceIte,beq_self_eq_true,Nat.reduceBEq]))
  all_goals first
    | exact hQ _ rfl rfl
    | exact hN (by omega) (hi4 (t := u) (by assumption) (by omega))
    | trace_state
theorem keep0 {st' : St} {u : Str} {X : TV} (h0 : getE st'.env 0 = .av (.str u)) (h1 : getB st'.boxes 0 = none) : st'.keep [0] = St.keep [0] (St.put ⟨lstE [(0,X)],lstB [(0,none)]⟩ 0 (.av (.str u))) := by
  simp only [keep_eq,List.map_cons,List.map_nil,h0,h1]; rfl
theorem vs_asc {T : Tab} {s t : Str} (hp1 : utf t = utf s) (hp2 : t.length ≤ 1073741824) (hw : Fn T F.unicode_utf8_word_string unicode_utf8_word_string.fn) (hne : t ≠ []) (hasc : (bAt t 0).toNat < 128) : VStep T s t := by
  unfold VStep
  have hlen : 0 < t.length := List.length_pos_iff.2 hne
  have hc256 : (bAt t 0).toNat < 256 := (bAt t 0).toNat_lt
  have z0 : Int.toNat 0 = 0 := rfl
  have z1 : Int.toNat 1 = 1 := rfl
  have z2 : Int.toNat 2 = 2 := rfl
  have z3 : Int.toNat 3 = 3 := rfl
  have z4 : Int.toNat 4 = 4 := rfl
  have z8 : Int.toNat 8 = 8 := rfl
  have z16 : Int.toNat 16 = 16 := rfl
  have z24 : Int.toNat 24 = 24 := rfl
  have z32 : Int.toNat 32 = 32 := rfl
  have hasc' : ((bAt t 0).toNat : Int) < 128 := by omega
  have e1 := utf_one hlen hasc
  have d1 : (t.drop 1).length = t.length - 1 := List.length_drop
  have d2 : ((t.drop 1).drop 8).length = t.length - 9 := by simp
  have d3 : (((t.drop 1).drop 8).drop 8).length = t.length - 17 := by simp
  have d4 : (((t.drop 1).drop 8).drop 16).length = t.length - 25 := by simp
  repeat' (first | refine WO.cons ?_ | refine WB.cons ?_ | refine WP.one ?_ | (((first | apply W1.slcN 8 | apply W1.slcN 1 | apply W1.slcN 16 | apply W1.slcN 24 | apply W1.slcN 32); exact rfl; exact rfl; omega)) | (first | (apply WQ.call (hm := hw.modes); (iterate 4 exact rfl)) | (apply W1.callV (hm := hw.modes); (iterate 5 exact rfl); exact (word_ret hw _ (by omega)); exact rfl)) | ((first | apply W1.add64 | apply W1.sub64); (iterate 3 exact rfl); omega; omega) | (apply W1.iadr; (iterate 3 exact rfl); omega; first | assumption | ((first | apply V.get_row | apply get_srow | apply get_ty | apply get_ar | apply get_ob | apply get_sprow | apply get_brow); assumption)) | (apply W1.idxS; (iterate 3 exact rfl); omega; omega) | (apply W1.slcS; (iterate 4 exact rfl); omega) | (apply W1.pickT; exact rfl; exact rfl; (first | with_reducible rfl | assumption | (simp only [bn]; first | omega | assumption | decide)); exact rfl) | (apply W1.pickF; exact rfl; exact rfl; (first | with_reducible rfl | assumption | (simp only [bn]; first | omega | assumption | decide)); exact rfl) | (apply W1.op; (iterate 3 exact rfl)) | (apply W1.no; exact rfl) | ((first | apply W1.knowT | apply W1.knowFn | apply WQ.knowT | apply WQ.knowFn | apply W.condT); exact rfl; (first | with_reducible rfl | assumption | (simp only [bn]; first | omega | assumption | decide))) | ((first | apply W1.knowTn | apply W1.knowF | apply WQ.knowTn | apply WQ.knowF | apply W.condF); exact rfl; (first | with_reducible rfl | assumption | (simp only [bn]; first | omega | assumption | decide))) | (apply WQ.go; exact rfl; exact rfl) | (apply WQ.no; exact rfl) | ((first | apply W1.bothT | apply W1.bothF | apply WQ.bothT | apply WQ.bothF | apply W.cond); exact rfl; all_goals intro hc; all_goals first | (cases hc; done) | ((try simp only [hc]); (try simp only [bm] at hc))) | refine WO.nil ?_ | refine WB.nil ?_ | refine WP.bag rfl ?_ | refine WP.nil ?_ | refine W.seq ?_ | refine W.reg ?_ | refine W.dreg ?_ | refine W.block ?_ | refine W.ret ?_ | refine W.skip ?_ | refine W.exit ?_ | (simp only [srow_len,List.length_map,Qit,Int.toNat_natCast,entry,Opd.eat,cellsOf,TV.ofCells,allAv,Qseq,Qblk,List.map_cons,List.map_nil,putD,kp,Nat.reduceEqDiff,↓reduceIte,beq_self_eq_true,Nat.reduceBEq]))
  all_goals (try have e2 := (hi1 (t := t.drop 1) (by assumption) (by omega)).trans (e1.trans hp1))
  all_goals first
    | (refine ⟨_,⟨?_,?_⟩,?_,rfl⟩ <;> first | exact e1.trans hp1 | exact e2 | omega)
    | (have e3 := (hi2 (t := (t.drop 1).drop 8) (by assumption) (by omega)).trans e2
       refine W.iterP (β := Str) (fun u s0 => s0.put 0 (.av (.str u))) (fun u => utf u = utf s ∧ u.length ≤ 1073741824 ∧ u.length < t.length) List.length (((t.drop 1).drop 8).drop 16) ⟨e3,by omega,by omega⟩ rfl ?_
       rintro u ⟨q1,q2,q3⟩
       refine vs_inner hw q2 (fun hl hu => ⟨u.drop 32,⟨hu.trans q1,by rw [List.length_drop]; omega,by rw [List.length_drop]; omega⟩,by rw [List.length_drop]; omega,rfl⟩) ?_
       intro st' h0 h1
       simp only [Qblk,Qseq,↓reduceIte]
       refine W.exit ?_
       simp only [Qblk,Qseq,Qit,↓reduceIte,Nat.reduceEqDiff]
       exact ⟨u,⟨q1,q2⟩,q3,keep0 (X := .av (.str s)) h0 h1⟩)
end Hm

/- Which texts are UTF-8: classes. Conditions: see each theorem. -/
namespace Hm
open Go (IntKind)
set_option maxHeartbeats 40000000
set_option maxRecDepth 4000
theorem vs_c0 {T : Tab} {s t : Str} (hp1 : utf t = utf s) (hp2 : t.length ≤ 1073741824) (hne : t ≠ []) (hasc : ¬ (bAt t 0).toNat < 128) (hf : firZ[(bAt t 0).toNat]? = some 2) (c1 : 194 ≤ (bAt t 0).toNat) (c2 : (bAt t 0).toNat ≤ 223) : VStep T s t := by
  unfold VStep
  have hlen : 0 < t.length := List.length_pos_iff.2 hne
  have hc256 : (bAt t 0).toNat < 256 := (bAt t 0).toNat_lt
  have z0 : Int.toNat 0 = 0 := rfl
  have z1 : Int.toNat 1 = 1 := rfl
  have z2 : Int.toNat 2 = 2 := rfl
  have z3 : Int.toNat 3 = 3 := rfl
  have z4 : Int.toNat 4 = 4 := rfl
  have z8 : Int.toNat 8 = 8 := rfl
  have z16 : Int.toNat 16 = 16 := rfl
  have z24 : Int.toNat 24 = 24 := rfl
  have z32 : Int.toNat 32 = 32 := rfl
  have hasc' : ¬ ((bAt t 0).toNat : Int) < 128 := by omega
  have hwt := utf_cons hne
  have d2 : (t.drop 2).length = t.length - 2 := List.length_drop
  have d3 : (t.drop 3).length = t.length - 3 := List.length_drop
  have d4 : (t.drop 4).length = t.length - 4 := List.length_drop
  obtain ⟨rest,hr⟩ := fir_drop hf
  have hr' : (zavs firZ).drop (Int.toNat ((bAt t 0).toNat : Int) * 1) = .int .u8 2 :: rest := by rw [Int.toNat_natCast,Nat.mul_one]; exact hr
  have hwd := wd_two c1 c2
  repeat' (first | refine zA ?_ | ((simp only [z0,z1,z2,z3,z4])) | ((apply W1.tabA; exact rfl; exact rfl; exact rfl; exact hr'; omega; omega; (rw [fir_len]; omega))) | ((apply W1.load1; exact rfl; exact rfl)) | ((apply W1.slcD; exact rfl; exact rfl; exact rfl; omega)) | refine zB ?_ | (refine zC ?_ ?_ <;> intro hc; all_goals first | (cases hc; done) | ((try simp only [hc]); (try simp only [bm] at hc))) | refine zE ?_ | refine zN ?_ | fail)
  all_goals first
    | (refine Qend.boo rfl rfl ?_; rw [← hp1,hwt,hwd,if_neg (by omega)]; rfl)
    | (have hk : wd t = 2 := by rw [hwd,if_pos (by omega)]
       rw [hk] at hwt
       refine ⟨_,⟨?_,?_⟩,?_,rfl⟩
       · rw [← hp1,hwt]; rfl
       · omega
       · omega)
theorem vs_c1 {T : Tab} {s t : Str} (hp1 : utf t = utf s) (hp2 : t.length ≤ 1073741824) (hne : t ≠ []) (hasc : ¬ (bAt t 0).toNat < 128) (hf : firZ[(bAt t 0).toNat]? = some 19) (c1 : (bAt t 0).toNat = 224) : VStep T s t := by
  unfold VStep
  have hlen : 0 < t.length := List.length_pos_iff.2 hne
  have hc256 : (bAt t 0).toNat < 256 := (bAt t 0).toNat_lt
  have z0 : Int.toNat 0 = 0 := rfl
  have z1 : Int.toNat 1 = 1 := rfl
  have z2 : Int.toNat 2 = 2 := rfl
  have z3 : Int.toNat 3 = 3 := rfl
  have z4 : Int.toNat 4 = 4 := rfl
  have z8 : Int.toNat 8 = 8 := rfl
  have z16 : Int.toNat 16 = 16 := rfl
  have z24 : Int.toNat 24 = 24 := rfl
  have z32 : Int.toNat 32 = 32 := rfl
  have hasc' : ¬ ((bAt t 0).toNat : Int) < 128 := by omega
  have hwt := utf_cons hne
  have d2 : (t.drop 2).length = t.length - 2 := List.length_drop
  have d3 : (t.drop 3).length = t.length - 3 := List.length_drop
  have d4 : (t.drop 4).length = t.length - 4 := List.length_drop
  obtain ⟨rest,hr⟩ := fir_drop hf
  have hr' : (zavs firZ).drop (Int.toNat ((bAt t 0).toNat : Int) * 1) = .int .u8 19 :: rest := by rw [Int.toNat_natCast,Nat.mul_one]; exact hr
  have hwd := wd_three (t := t) 160 191 (by omega) (by omega) (by rw [if_pos (by omega)]) (by rw [if_neg (by omega)])
  repeat' (first | refine zA ?_ | ((simp only [z0,z1,z2,z3,z4])) | ((apply W1.tabA; exact rfl; exact rfl; exact rfl; exact hr'; omega; omega; (rw [fir_len]; omega))) | ((apply W1.load1; exact rfl; exact rfl)) | ((apply W1.slcD; exact rfl; exact rfl; exact rfl; omega)) | refine zB ?_ | (refine zC ?_ ?_ <;> intro hc; all_goals first | (cases hc; done) | ((try simp only [hc]); (try simp only [bm] at hc))) | refine zE ?_ | refine zN ?_ | fail)
  all_goals first
    | (refine Qend.boo rfl rfl ?_; rw [← hp1,hwt,hwd,if_neg (by omega)]; rfl)
    | (have hk : wd t = 3 := by rw [hwd,if_pos (by omega)]
       rw [hk] at hwt
       refine ⟨_,⟨?_,?_⟩,?_,rfl⟩
       · rw [← hp1,hwt]; rfl
       · omega
       · omega)
theorem vs_c2 {T : Tab} {s t : Str} (hp1 : utf t = utf s) (hp2 : t.length ≤ 1073741824) (hne : t ≠ []) (hasc : ¬ (bAt t 0).toNat < 128) (hf : firZ[(bAt t 0).toNat]? = some 3) (c1 : 225 ≤ (bAt t 0).toNat) (c2 : (bAt t 0).toNat ≤ 239) (c3 : (bAt t 0).toNat ≠ 237) : VStep T s t := by
  unfold VStep
  have hlen : 0 < t.length := List.length_pos_iff.2 hne
  have hc256 : (bAt t 0).toNat < 256 := (bAt t 0).toNat_lt
  have z0 : Int.toNat 0 = 0 := rfl
  have z1 : Int.toNat 1 = 1 := rfl
  have z2 : Int.toNat 2 = 2 := rfl
  have z3 : Int.toNat 3 = 3 := rfl
  have z4 : Int.toNat 4 = 4 := rfl
  have z8 : Int.toNat 8 = 8 := rfl
  have z16 : Int.toNat 16 = 16 := rfl
  have z24 : Int.toNat 24 = 24 := rfl
  have z32 : Int.toNat 32 = 32 := rfl
  have hasc' : ¬ ((bAt t 0).toNat : Int) < 128 := by omega
  have hwt := utf_cons hne
  have d2 : (t.drop 2).length = t.length - 2 := List.length_drop
  have d3 : (t.drop 3).length = t.length - 3 := List.length_drop
  have d4 : (t.drop 4).length = t.length - 4 := List.length_drop
  obtain ⟨rest,hr⟩ := fir_drop hf
  have hr' : (zavs firZ).drop (Int.toNat ((bAt t 0).toNat : Int) * 1) = .int .u8 3 :: rest := by rw [Int.toNat_natCast,Nat.mul_one]; exact hr
  have hwd := wd_three (t := t) 128 191 (by omega) (by omega) (by rw [if_neg (by omega)]) (by rw [if_neg (by omega)])
  repeat' (first | refine zA ?_ | ((simp only [z0,z1,z2,z3,z4])) | ((apply W1.tabA; exact rfl; exact rfl; exact rfl; exact hr'; omega; omega; (rw [fir_len]; omega))) | ((apply W1.load1; exact rfl; exact rfl)) | ((apply W1.slcD; exact rfl; exact rfl; exact rfl; omega)) | refine zB ?_ | (refine zC ?_ ?_ <;> intro hc; all_goals first | (cases hc; done) | ((try simp only [hc]); (try simp only [bm] at hc))) | refine zE ?_ | refine zN ?_ | fail)
  all_goals first
    | (refine Qend.boo rfl rfl ?_; rw [← hp1,hwt,hwd,if_neg (by omega)]; rfl)
    | (have hk : wd t = 3 := by rw [hwd,if_pos (by omega)]
       rw [hk] at hwt
       refine ⟨_,⟨?_,?_⟩,?_,rfl⟩
       · rw [← hp1,hwt]; rfl
       · omega
       · omega)
end Hm

/- Which texts are UTF-8: classes. Conditions: see each theorem. -/
namespace Hm
open Go (IntKind)
set_option maxHeartbeats 40000000
set_option maxRecDepth 4000
theorem vs_c3 {T : Tab} {s t : Str} (hp1 : utf t = utf s) (hp2 : t.length ≤ 1073741824) (hne : t ≠ []) (hasc : ¬ (bAt t 0).toNat < 128) (hf : firZ[(bAt t 0).toNat]? = some 35) (c1 : (bAt t 0).toNat = 237) : VStep T s t := by
  unfold VStep
  have hlen : 0 < t.length := List.length_pos_iff.2 hne
  have hc256 : (bAt t 0).toNat < 256 := (bAt t 0).toNat_lt
  have z0 : Int.toNat 0 = 0 := rfl
  have z1 : Int.toNat 1 = 1 := rfl
  have z2 : Int.toNat 2 = 2 := rfl
  have z3 : Int.toNat 3 = 3 := rfl
  have z4 : Int.toNat 4 = 4 := rfl
  have z8 : Int.toNat 8 = 8 := rfl
  have z16 : Int.toNat 16 = 16 := rfl
  have z24 : Int.toNat 24 = 24 := rfl
  have z32 : Int.toNat 32 = 32 := rfl
  have hasc' : ¬ ((bAt t 0).toNat : Int) < 128 := by omega
  have hwt := utf_cons hne
  have d2 : (t.drop 2).length = t.length - 2 := List.length_drop
  have d3 : (t.drop 3).length = t.length - 3 := List.length_drop
  have d4 : (t.drop 4).length = t.length - 4 := List.length_drop
  obtain ⟨rest,hr⟩ := fir_drop hf
  have hr' : (zavs firZ).drop (Int.toNat ((bAt t 0).toNat : Int) * 1) = .int .u8 35 :: rest := by rw [Int.toNat_natCast,Nat.mul_one]; exact hr
  have hwd := wd_three (t := t) 128 159 (by omega) (by omega) (by rw [if_neg (by omega)]) (by rw [if_pos (by omega)])
  repeat' (first | refine zA ?_ | ((simp only [z0,z1,z2,z3,z4])) | ((apply W1.tabA; exact rfl; exact rfl; exact rfl; exact hr'; omega; omega; (rw [fir_len]; omega))) | ((apply W1.load1; exact rfl; exact rfl)) | ((apply W1.slcD; exact rfl; exact rfl; exact rfl; omega)) | refine zB ?_ | (refine zC ?_ ?_ <;> intro hc; all_goals first | (cases hc; done) | ((try simp only [hc]); (try simp only [bm] at hc))) | refine zE ?_ | refine zN ?_ | fail)
  all_goals first
    | (refine Qend.boo rfl rfl ?_; rw [← hp1,hwt,hwd,if_neg (by omega)]; rfl)
    | (have hk : wd t = 3 := by rw [hwd,if_pos (by omega)]
       rw [hk] at hwt
       refine ⟨_,⟨?_,?_⟩,?_,rfl⟩
       · rw [← hp1,hwt]; rfl
       · omega
       · omega)
theorem vs_c4 {T : Tab} {s t : Str} (hp1 : utf t = utf s) (hp2 : t.length ≤ 1073741824) (hne : t ≠ []) (hasc : ¬ (bAt t 0).toNat < 128) (hf : firZ[(bAt t 0).toNat]? = some 52) (c1 : (bAt t 0).toNat = 240) : VStep T s t := by
  unfold VStep
  have hlen : 0 < t.length := List.length_pos_iff.2 hne
  have hc256 : (bAt t 0).toNat < 256 := (bAt t 0).toNat_lt
  have z0 : Int.toNat 0 = 0 := rfl
  have z1 : Int.toNat 1 = 1 := rfl
  have z2 : Int.toNat 2 = 2 := rfl
  have z3 : Int.toNat 3 = 3 := rfl
  have z4 : Int.toNat 4 = 4 := rfl
  have z8 : Int.toNat 8 = 8 := rfl
  have z16 : Int.toNat 16 = 16 := rfl
  have z24 : Int.toNat 24 = 24 := rfl
  have z32 : Int.toNat 32 = 32 := rfl
  have hasc' : ¬ ((bAt t 0).toNat : Int) < 128 := by omega
  have hwt := utf_cons hne
  have d2 : (t.drop 2).length = t.length - 2 := List.length_drop
  have d3 : (t.drop 3).length = t.length - 3 := List.length_drop
  have d4 : (t.drop 4).length = t.length - 4 := List.length_drop
  obtain ⟨rest,hr⟩ := fir_drop hf
  have hr' : (zavs firZ).drop (Int.toNat ((bAt t 0).toNat : Int) * 1) = .int .u8 52 :: rest := by rw [Int.toNat_natCast,Nat.mul_one]; exact hr
  have hwd := wd_four (t := t) 144 191 (by omega) (by omega) (by rw [if_pos (by omega)]) (by rw [if_neg (by omega)])
  repeat' (first | refine zA ?_ | ((simp only [z0,z1,z2,z3,z4])) | ((apply W1.tabA; exact rfl; exact rfl; exact rfl; exact hr'; omega; omega; (rw [fir_len]; omega))) | ((apply W1.load1; exact rfl; exact rfl)) | ((apply W1.slcD; exact rfl; exact rfl; exact rfl; omega)) | refine zB ?_ | (refine zC ?_ ?_ <;> intro hc; all_goals first | (cases hc; done) | ((try simp only [hc]); (try simp only [bm] at hc))) | refine zE ?_ | refine zN ?_ | fail)
  all_goals first
    | (refine Qend.boo rfl rfl ?_; rw [← hp1,hwt,hwd,if_neg (by omega)]; rfl)
    | (have hk : wd t = 4 := by rw [hwd,if_pos (by omega)]
       rw [hk] at hwt
       refine ⟨_,⟨?_,?_⟩,?_,rfl⟩
       · rw [← hp1,hwt]; rfl
       · omega
       · omega)
end Hm

/- Which texts are UTF-8: classes. Conditions: see each theorem. -/
namespace Hm
open Go (IntKind)
set_option maxHeartbeats 40000000
set_option maxRecDepth 4000
theorem vs_c5 {T : Tab} {s t : Str} (hp1 : utf t = utf s) (hp2 : t.length ≤ 1073741824) (hne : t ≠ []) (hasc : ¬ (bAt t 0).toNat < 128) (hf : firZ[(bAt t 0).toNat]? = some 4) (c1 : 241 ≤ (bAt t 0).toNat) (c2 : (bAt t 0).toNat ≤ 243) : VStep T s t := by
  unfold VStep
  have hlen : 0 < t.length := List.length_pos_iff.2 hne
  have hc256 : (bAt t 0).toNat < 256 := (bAt t 0).toNat_lt
  have z0 : Int.toNat 0 = 0 := rfl
  have z1 : Int.toNat 1 = 1 := rfl
  have z2 : Int.toNat 2 = 2 := rfl
  have z3 : Int.toNat 3 = 3 := rfl
  have z4 : Int.toNat 4 = 4 := rfl
  have z8 : Int.toNat 8 = 8 := rfl
  have z16 : Int.toNat 16 = 16 := rfl
  have z24 : Int.toNat 24 = 24 := rfl
  have z32 : Int.toNat 32 = 32 := rfl
  have hasc' : ¬ ((bAt t 0).toNat : Int) < 128 := by omega
  have hwt := utf_cons hne
  have d2 : (t.drop 2).length = t.length - 2 := List.length_drop
  have d3 : (t.drop 3).length = t.length - 3 := List.length_drop
  have d4 : (t.drop 4).length = t.length - 4 := List.length_drop
  obtain ⟨rest,hr⟩ := fir_drop hf
  have hr' : (zavs firZ).drop (Int.toNat ((bAt t 0).toNat : Int) * 1) = .int .u8 4 :: rest := by rw [Int.toNat_natCast,Nat.mul_one]; exact hr
  have hwd := wd_four (t := t) 128 191 (by omega) (by omega) (by rw [if_neg (by omega)]) (by rw [if_neg (by omega)])
  repeat' (first | refine zA ?_ | ((simp only [z0,z1,z2,z3,z4])) | ((apply W1.tabA; exact rfl; exact rfl; exact rfl; exact hr'; omega; omega; (rw [fir_len]; omega))) | ((apply W1.load1; exact rfl; exact rfl)) | ((apply W1.slcD; exact rfl; exact rfl; exact rfl; omega)) | refine zB ?_ | (refine zC ?_ ?_ <;> intro hc; all_goals first | (cases hc; done) | ((try simp only [hc]); (try simp only [bm] at hc))) | refine zE ?_ | refine zN ?_ | fail)
  all_goals first
    | (refine Qend.boo rfl rfl ?_; rw [← hp1,hwt,hwd,if_neg (by omega)]; rfl)
    | (have hk : wd t = 4 := by rw [hwd,if_pos (by omega)]
       rw [hk] at hwt
       refine ⟨_,⟨?_,?_⟩,?_,rfl⟩
       · rw [← hp1,hwt]; rfl
       · omega
       · omega)
theorem vs_c6 {T : Tab} {s t : Str} (hp1 : utf t = utf s) (hp2 : t.length ≤ 1073741824) (hne : t ≠ []) (hasc : ¬ (bAt t 0).toNat < 128) (hf : firZ[(bAt t 0).toNat]? = some 68) (c1 : (bAt t 0).toNat = 244) : VStep T s t := by
  unfold VStep
  have hlen : 0 < t.length := List.length_pos_iff.2 hne
  have hc256 : (bAt t 0).toNat < 256 := (bAt t 0).toNat_lt
  have z0 : Int.toNat 0 = 0 := rfl
  have z1 : Int.toNat 1 = 1 := rfl
  have z2 : Int.toNat 2 = 2 := rfl
  have z3 : Int.toNat 3 = 3 := rfl
  have z4 : Int.toNat 4 = 4 := rfl
  have z8 : Int.toNat 8 = 8 := rfl
  have z16 : Int.toNat 16 = 16 := rfl
  have z24 : Int.toNat 24 = 24 := rfl
  have z32 : Int.toNat 32 = 32 := rfl
  have hasc' : ¬ ((bAt t 0).toNat : Int) < 128 := by omega
  have hwt := utf_cons hne
  have d2 : (t.drop 2).length = t.length - 2 := List.length_drop
  have d3 : (t.drop 3).length = t.length - 3 := List.length_drop
  have d4 : (t.drop 4).length = t.length - 4 := List.length_drop
  obtain ⟨rest,hr⟩ := fir_drop hf
  have hr' : (zavs firZ).drop (Int.toNat ((bAt t 0).toNat : Int) * 1) = .int .u8 68 :: rest := by rw [Int.toNat_natCast,Nat.mul_one]; exact hr
  have hwd := wd_four (t := t) 128 143 (by omega) (by omega) (by rw [if_neg (by omega)]) (by rw [if_pos (by omega)])
  repeat' (first | refine zA ?_ | ((simp only [z0,z1,z2,z3,z4])) | ((apply W1.tabA; exact rfl; exact rfl; exact rfl; exact hr'; omega; omega; (rw [fir_len]; omega))) | ((apply W1.load1; exact rfl; exact rfl)) | ((apply W1.slcD; exact rfl; exact rfl; exact rfl; omega)) | refine zB ?_ | (refine zC ?_ ?_ <;> intro hc; all_goals first | (cases hc; done) | ((try simp only [hc]); (try simp only [bm] at hc))) | refine zE ?_ | refine zN ?_ | fail)
  all_goals first
    | (refine Qend.boo rfl rfl ?_; rw [← hp1,hwt,hwd,if_neg (by omega)]; rfl)
    | (have hk : wd t = 4 := by rw [hwd,if_pos (by omega)]
       rw [hk] at hwt
       refine ⟨_,⟨?_,?_⟩,?_,rfl⟩
       · rw [← hp1,hwt]; rfl
       · omega
       · omega)
theorem vs_c7 {T : Tab} {s t : Str} (hp1 : utf t = utf s) (hp2 : t.length ≤ 1073741824) (hne : t ≠ []) (hasc : ¬ (bAt t 0).toNat < 128) (hf : firZ[(bAt t 0).toNat]? = some 241) (c1 : (bAt t 0).toNat < 194 ∨ 244 < (bAt t 0).toNat) : VStep T s t := by
  unfold VStep
  have hlen : 0 < t.length := List.length_pos_iff.2 hne
  have hc256 : (bAt t 0).toNat < 256 := (bAt t 0).toNat_lt
  have z0 : Int.toNat 0 = 0 := rfl
  have z1 : Int.toNat 1 = 1 := rfl
  have z2 : Int.toNat 2 = 2 := rfl
  have z3 : Int.toNat 3 = 3 := rfl
  have z4 : Int.toNat 4 = 4 := rfl
  have z8 : Int.toNat 8 = 8 := rfl
  have z16 : Int.toNat 16 = 16 := rfl
  have z24 : Int.toNat 24 = 24 := rfl
  have z32 : Int.toNat 32 = 32 := rfl
  have hasc' : ¬ ((bAt t 0).toNat : Int) < 128 := by omega
  have hwt := utf_cons hne
  have d2 : (t.drop 2).length = t.length - 2 := List.length_drop
  have d3 : (t.drop 3).length = t.length - 3 := List.length_drop
  have d4 : (t.drop 4).length = t.length - 4 := List.length_drop
  obtain ⟨rest,hr⟩ := fir_drop hf
  have hr' : (zavs firZ).drop (Int.toNat ((bAt t 0).toNat : Int) * 1) = .int .u8 241 :: rest := by rw [Int.toNat_natCast,Nat.mul_one]; exact hr
  have hwd := wd_none (t := t) (by omega) c1
  repeat' (first | refine zA ?_ | ((simp only [z0,z1,z2,z3,z4])) | ((apply W1.tabA; exact rfl; exact rfl; exact rfl; exact hr'; omega; omega; (rw [fir_len]; omega))) | ((apply W1.load1; exact rfl; exact rfl)) | ((apply W1.slcD; exact rfl; exact rfl; exact rfl; omega)) | refine zB ?_ | (refine zC ?_ ?_ <;> intro hc; all_goals first | (cases hc; done) | ((try simp only [hc]); (try simp only [bm] at hc))) | refine zE ?_ | refine zN ?_ | fail)
  all_goals (refine Qend.boo rfl rfl ?_; rw [← hp1,hwt,hwd]; rfl)
end Hm

/- Which texts are UTF-8, as Go's library has it. Conditions: see each theorem. -/
namespace Hm
open Go (IntKind)
set_option maxHeartbeats 4000000
set_option maxRecDepth 4000
theorem validString_ret {T : Tab} (h : Fn T F.unicode_utf8_ValidString unicode_utf8_ValidString.fn) (hw : Fn T F.unicode_utf8_word_string unicode_utf8_word_string.fn) (s : Str) (hb : s.length ≤ 1073741824) :
    Ret T F.unicode_utf8_ValidString [.val (.str s)] (one (.bool (utf s))) := by
  refine Ret.mk h rfl ?_
  repeat' (first | refine zA ?_ | refine zB ?_ | (refine zC ?_ ?_ <;> intro hc; all_goals first | (cases hc; done) | ((try simp only [hc]); (try simp only [bm] at hc))) | refine zE ?_ | refine zN ?_ | fail)
  refine W.iterP (β := Str) (fun t s0 => s0.put 0 (.av (.str t))) (fun t => utf t = utf s ∧ t.length ≤ 1073741824) List.length s ⟨rfl,hb⟩ rfl ?_
  rintro t ⟨hp1,hp2⟩
  show VStep T s t
  by_cases hne : t = []
  · exact vs_nil hp1 hp2 hne
  · by_cases hasc : (bAt t 0).toNat < 128
    · exact vs_asc hp1 hp2 hw hne hasc
    · rcases fir_cases _ (bAt t 0).toNat_lt (by omega) with ⟨hf,c1,c2⟩ | ⟨hf,c1⟩ | ⟨hf,c1,c2,c3⟩ | ⟨hf,c1⟩ | ⟨hf,c1⟩ | ⟨hf,c1,c2⟩ | ⟨hf,c1⟩ | ⟨hf,c1⟩
      · exact vs_c0 hp1 hp2 hne hasc hf c1 c2
      · exact vs_c1 hp1 hp2 hne hasc hf c1
      · exact vs_c2 hp1 hp2 hne hasc hf c1 c2 c3
      · exact vs_c3 hp1 hp2 hne hasc hf c1
      · exact vs_c4 hp1 hp2 hne hasc hf c1
      · exact vs_c5 hp1 hp2 hne hasc hf c1 c2
      · exact vs_c6 hp1 hp2 hne hasc hf c1
      · exact vs_c7 hp1 hp2 hne hasc hf c1
end Hm

/- The contract of the program's test for UTF-8, by name. Conditions: none (a definition). -/
namespace Hm
def ValidOk (T : Tab) : Prop := ∀ s : Str,s.length ≤ 1073741824 → Ret T F.utf_Valid [.val (.str s)] (one (.bool (utf s)))
end Hm

/- Which texts the program says are UTF-8. Conditions: see each theorem. -/
namespace Hm
open Go (IntKind)
set_option maxHeartbeats 4000000
set_option maxRecDepth 4000
theorem validOk {T : Tab} (hu : Fn T F.utf_Valid utf_Valid.fn) (h : Fn T F.unicode_utf8_ValidString unicode_utf8_ValidString.fn) (hw : Fn T F.unicode_utf8_word_string unicode_utf8_word_string.fn) : ValidOk T := by
  intro s hb
  have r := validString_ret h hw s hb
  refine Ret.mk hu rfl ?_
  repeat' (first | refine zA ?_ | refine WQ.cl h.modes ?_ | refine W1.cl h.modes (r) ?_ | refine zB ?_ | (refine zC ?_ ?_ <;> intro hc; all_goals first | (cases hc; done) | ((try simp only [hc]); (try simp only [bm] at hc))) | refine zE ?_ | refine zN ?_ | fail)
  exact Qend.boo rfl rfl rfl
end Hm

/- Plain lemmas, split off. NORMX NORMY Conditions: none (definitions and plain lemmas). -/
namespace Hm
open Go (IntKind)
section
variable {T : Tab}
/-- Is a kind among them? -/
def kb (n k : Int) : Bool := IntKind.wrap .u8 (((BitVec.ofInt (IntKind.bits .u8) (n.fdiv (2 ^ (min k.toNat (IntKind.bits .u8))))) &&& BitVec.ofInt (IntKind.bits .u8) 1).toNat : Int) == 1
end
end Hm

/- Which texts are numbers. Conditions: see each theorem. -/
namespace Hm
open Go (IntKind)
set_option maxHeartbeats 4000000
def digs (s : Str) : Str := if 0 < s.length ∧ bAt s 0 = 45 then s.drop 1 else s
def isDig (c : UInt8) : Bool := decide (48 ≤ (c.toNat : Int)) && decide ((c.toNat : Int) ≤ 57)
def number (s : Str) : Bool := (digs s).all isDig && decide (0 < (digs s).length) && !(bAt (digs s) 0 == 48 && !(s == [48]))
theorem refNumber_ret {T : Tab} (h : Fn T F.h03_Number h03_Number.fn) (s : Str) (hb : s.length ≤ 1073741824) : Ret T F.h03_Number [.val (.str s)] (one (.bool (number s))) := by
  refine Ret.mk h rfl ?_
  have key : ∀ d : Str,d = digs s → d.length ≤ s.length → W T (AC.loop [0,3,4] h03_Number.l1) ⟨lstE [(0,.av (.str s)),(3,.av (.str d)),(4,.av (.int .i64 0))],lstB [(0,none),(3,none),(4,none)]⟩
    (Qblk 0 (Qseq T (((AC.reg h03_Number.r9 [43]).seq (AC.cond (Opd.t 43) ((AC.reg h03_Number.r10 [2]).seq AC.ret) AC.skip)).seq ((AC.reg h03_Number.r11 [2]).seq AC.ret)) (Qend h03_Number.fn [Arg.val (AV.str s)] (one (AV.bool (number s)))))) := by
    intro d hd hdl
    refine W.listP d (fun i (n : Unit) s => s.put 4 (.av (.int .i64 (i : Int)))) (fun i n => (d.take i).all isDig = true) () (by simp) rfl ?_ ?_
    · intro i x n hx hi hp
      have e := bAt_get hx
      repeat' (first | refine zA ?_ | refine zB ?_ | (refine zC ?_ ?_ <;> intro hc; all_goals first | (cases hc; done) | ((try simp only [hc]); (try simp only [bm] at hc))) | refine zE ?_ | refine zN ?_ | fail)
      · refine Qend.boo rfl rfl ?_
        have : d.all isDig = false := all_false hx (by simp only [isDig,← e,Bool.and_eq_false_iff,decide_eq_false_iff_not]; right; simp only [Int.toNat_natCast] at hc; omega)
        simp only [number,← hd,this,Bool.false_and]
      · refine ⟨(),?_,rfl⟩
        simp only [Int.toNat_natCast] at *
        rw [all_take_succ hx,hp,← e]
        simp only [isDig,Bool.true_and,Bool.and_eq_true,decide_eq_true_eq]
        omega
      · refine Qend.boo rfl rfl ?_
        have : d.all isDig = false := all_false hx (by simp only [isDig,← e,Bool.and_eq_false_iff,decide_eq_false_iff_not]; left; simp only [Int.toNat_natCast] at hc; omega)
        simp only [number,← hd,this,Bool.false_and]
    · intro n hp
      rw [List.take_length] at hp
      repeat' (first | refine zA ?_ | refine zB ?_ | (refine zC ?_ ?_ <;> intro hc; all_goals first | (cases hc; done) | ((try simp only [hc]); (try simp only [bm] at hc))) | refine zE ?_ | refine zN ?_ | fail)
      · refine Qend.boo rfl rfl ?_
        have h48 : bAt d 0 = 48 := (u8_eq _ 48 (by omega)).1 (by assumption)
        simp only [number,← hd,h48,hc]; simp
      · refine Qend.boo rfl rfl ?_
        have h48 : bAt d 0 = 48 := (u8_eq _ 48 (by omega)).1 (by assumption)
        simp only [number,← hd,h48,hc,hp,Bool.true_and,beq_self_eq_true,Bool.not_false,Bool.and_true]
        symm; rw [decide_eq_true_eq]; omega
      · refine Qend.boo rfl rfl ?_
        have h48 : ¬ bAt d 0 = 48 := fun h => hc ((u8_eq _ 48 (by omega)).2 h)
        have : (bAt d 0 == 48) = false := beq_eq_false_iff_ne.2 h48
        simp only [number,← hd,this,hp,Bool.true_and,Bool.false_and,Bool.not_false,Bool.and_true]
        symm; rw [decide_eq_true_eq]; omega
      · refine Qend.boo rfl rfl ?_
        have : d.length = 0 := by omega
        simp only [number,← hd,this]; simp
  repeat' (first | refine zA ?_ | (refine key _ ?_ ?_) | refine zB ?_ | (refine zC ?_ ?_ <;> intro hc; all_goals first | (cases hc; done) | ((try simp only [hc]); (try simp only [bm] at hc))) | refine zE ?_ | refine zN ?_ | fail)
  · simp only [digs]; rw [if_pos ⟨by omega,(u8_eq _ 45 (by omega)).1 (by assumption)⟩]; simp
  · simp
  · simp only [digs]; rw [if_neg (fun h => hc ((u8_eq _ 45 (by omega)).2 h.2))]
  · simp
  · simp only [digs]; rw [if_neg (fun h => by omega)]
  · simp
end Hm

/- Which lists of texts rise, as the program's reference has it. Conditions: see each theorem. -/
namespace Hm
open Go (IntKind)
set_option maxHeartbeats 4000000
set_option maxRecDepth 4000
def riseAt (l : List Str) (i : Nat) : Bool := utf (l.getD i []) && (i == 0 || binA.bLess (l.getD (i - 1) []) (l.getD i []))
def rise (l : List Str) : Bool := (List.range l.length).all (riseAt l)
theorem rise_false {l : List Str} {i : Nat} (hi : i < l.length) (h : riseAt l i = false) : rise l = false := by
  rw [rise,List.all_eq_false]; exact ⟨i,List.mem_range.2 hi,by rw [h]; simp⟩
theorem rise_true {l : List Str} (h : ∀ j < l.length,riseAt l j = true) : rise l = true := by
  rw [rise,List.all_eq_true]; exact fun j hj => h j (List.mem_range.1 hj)
theorem refRise_ret {T : Tab} (h : Fn T F.h03_Rise h03_Rise.fn) (hu : Fn T F.h03_UTF h03_UTF.fn) (hw : Fn T F.h03_width h03_width.fn) (ht : Fn T F.h03_trail h03_trail.fn)
    (l : List Str) (hb : sbk l ≤ 1073741824) : Ret T F.h03_Rise [.val (.lst 1 (srow l))] (one (.bool (rise l))) := by
  refine Ret.mk h rfl ?_
  have hl := len_sbk l
  have e1 := srow_len l
  repeat' (first | refine zA ?_ | refine zB ?_ | (refine zC ?_ ?_ <;> intro hc; all_goals first | (cases hc; done) | ((try simp only [hc]); (try simp only [bm] at hc))) | refine zE ?_ | refine zN ?_ | fail)
  refine W.listP l (fun i (_ : Unit) s => s.put 3 (.av (.int .i64 (i : Int)))) (fun i _ => ∀ j < i,riseAt l j = true) () (by simp) rfl ?_ ?_
  · intro i x u hx hi hp
    have hsx := sbk_mem (List.mem_of_getElem? hx)
    have hret := refUTF_ret hu hw ht x (by omega)
    have hgx : l.getD i [] = x := by simp [List.getD,hx]
    by_cases h0 : i = 0
    · subst h0
      repeat' (first | refine zA ?_ | refine WQ.cl hu.modes ?_ | refine W1.cl hu.modes (hret) ?_ | refine zB ?_ | (refine zC ?_ ?_ <;> intro hc; all_goals first | (cases hc; done) | ((try simp only [hc]); (try simp only [bm] at hc))) | refine zE ?_ | refine zN ?_ | fail)
      · refine Qend.boo rfl rfl ?_
        rw [rise_false hi (by simp_all [riseAt])]
      · refine ⟨(),fun j hj => ?_,rfl⟩
        obtain rfl : j = 0 := by omega
        simp_all [riseAt]
    · obtain ⟨y,hy⟩ : ∃ y,l[i - 1]? = some y := ⟨l[i - 1]'(by omega),List.getElem?_eq_getElem (by omega)⟩
      have hgy : l.getD (i - 1) [] = y := by simp [List.getD,hy]
      have hry : (srow l)[((i : Int) - 1).toNat]? = some [.str y] := by
        have : ((i : Int) - 1).toNat = i - 1 := by omega
        rw [this]; exact get_srow hy
      repeat' (first | refine zA ?_ | refine WQ.cl hu.modes ?_ | refine W1.cl hu.modes (hret) ?_ | refine zB ?_ | (refine zC ?_ ?_ <;> intro hc; all_goals first | (cases hc; done) | ((try simp only [hc]); (try simp only [bm] at hc))) | refine zE ?_ | refine zN ?_ | fail)
      · refine Qend.boo rfl rfl ?_
        rw [rise_false hi (by simp_all [riseAt])]
      · refine Qend.boo rfl rfl ?_
        rw [rise_false hi (by simp_all [riseAt])]
      · refine ⟨(),fun j hj => ?_,rfl⟩
        by_cases hji : j < i
        · exact hp j hji
        · obtain rfl : j = i := by omega
          simp_all [riseAt]
  · intro u hp
    repeat' (first | refine zA ?_ | refine zB ?_ | (refine zC ?_ ?_ <;> intro hc; all_goals first | (cases hc; done) | ((try simp only [hc]); (try simp only [bm] at hc))) | refine zE ?_ | refine zN ?_ | fail)
    refine Qend.boo rfl rfl ?_
    rw [rise_true hp]
end Hm

/- Which values are well shaped, as the program's reference has it. Conditions: see each theorem. -/
namespace Hm
open Go (IntKind)
set_option maxHeartbeats 4000000
set_option maxRecDepth 4000
mutual
def formed : V → Bool
  | .mk k n t is ks =>
    !(decide (k < 0) || decide (k > 6)) && !((k == 3 && !number n) || (k != 3 && !(n == []))) && !((k == 4 && !utf t) || (k != 4 && !(t == []))) &&
    !((decide (k < 5) && decide (0 < is.length)) || (decide (k < 6) && decide (0 < ks.length))) && !(k == 6 && (!(ks.length == is.length) || !rise ks)) && formedAll is
def formedAll : List V → Bool
  | [] => true
  | v :: r => formed v && formedAll r
end
theorem formedAll_eq (l : List V) : formedAll l = l.all formed := by
  induction l with
  | nil => rfl
  | cons x l ih => simp only [formedAll,List.all_cons,ih]
theorem refAll_of {T : Tab} (h : Fn T F.h03_All h03_All.fn) (hf : Fn T F.h03_Formed h03_Formed.fn) (l : List V) (hb : V.bks l ≤ 1073741824)
    (ih : ∀ x ∈ l,Ret T F.h03_Formed [.val x.av] (one (.bool (formed x)))) : Ret T F.h03_All [.val (.lst 5 (l.map V.row))] (one (.bool (formedAll l))) := by
  refine Ret.mk h rfl ?_
  rw [formedAll_eq]
  have hl := V.len_bks l
  have e2 : (l.map V.row).length = l.length := List.length_map ..
  repeat' (first | refine zA ?_ | refine zB ?_ | (refine zC ?_ ?_ <;> intro hc; all_goals first | (cases hc; done) | ((try simp only [hc]); (try simp only [bm] at hc))) | refine zE ?_ | refine zN ?_ | fail)
  refine W.listP l (fun i (_ : Unit) s => s.put 3 (.av (.int .i64 (i : Int)))) (fun i _ => (l.take i).all formed = true) () (by simp) rfl ?_ ?_
  · intro i x u hx hi hp
    have hret := ih x (List.mem_of_getElem? hx)
    rw [V.av_eq] at hret
    repeat' (first | refine zA ?_ | refine WQ.cl hf.modes ?_ | refine W1.cl hf.modes (hret) ?_ | refine zB ?_ | (refine zC ?_ ?_ <;> intro hc; all_goals first | (cases hc; done) | ((try simp only [hc]); (try simp only [bm] at hc))) | refine zE ?_ | refine zN ?_ | fail)
    · refine Qend.boo rfl rfl ?_
      rw [all_false hx (by simp_all)]
    · refine ⟨(),?_,rfl⟩
      rw [all_take_succ hx,hp]; simp_all
  · intro u hp
    rw [List.take_length] at hp
    repeat' (first | refine zA ?_ | refine zB ?_ | (refine zC ?_ ?_ <;> intro hc; all_goals first | (cases hc; done) | ((try simp only [hc]); (try simp only [bm] at hc))) | refine zE ?_ | refine zN ?_ | fail)
    refine Qend.boo rfl rfl ?_
    rw [hp]
theorem refFormed_ret {T : Tab} (hf : Fn T F.h03_Formed h03_Formed.fn) (h : Fn T F.h03_All h03_All.fn) (hn : Fn T F.h03_Number h03_Number.fn) (hr : Fn T F.h03_Rise h03_Rise.fn)
    (hu : Fn T F.h03_UTF h03_UTF.fn) (hw : Fn T F.h03_width h03_width.fn) (ht : Fn T F.h03_trail h03_trail.fn) :
    ∀ (v : V),v.bk ≤ 1073741824 → Ret T F.h03_Formed [.val v.av] (one (.bool (formed v))) := by
  intro v
  induction v using V.ind with
  | h v ih =>
  intro hb
  have hbk := V.bk_eq v
  have hk := len_sbk v.keys
  have hl := V.len_bks v.items
  have e1 := srow_len v.keys
  have e2 : (v.items.map V.row).length = v.items.length := List.length_map ..
  have r1 := refNumber_ret hn v.num (by omega)
  have r2 := refUTF_ret hu hw ht v.text (by omega)
  have r3 := refRise_ret hr hu hw ht v.keys (by omega)
  have r4 := refAll_of h hf v.items (by omega) (fun x hx => ih x hx (by have := V.bk_item hx; omega))
  refine Ret.mk hf rfl ?_
  obtain ⟨k,n,t,is,ks⟩ := v
  rw [V.av_eq]
  simp only [V.kind,V.num,V.text,V.items,V.keys] at *
  repeat' (first | refine zA ?_ | refine WQ.cl hn.modes ?_ | refine W1.cl hn.modes (r1) ?_ | refine WQ.cl hu.modes ?_ | refine W1.cl hu.modes (r2) ?_ | refine WQ.cl hr.modes ?_ | refine W1.cl hr.modes (r3) ?_ | refine WQ.cl h.modes ?_ | refine W1.cl h.modes (r4) ?_ | refine zB ?_ | (refine zC ?_ ?_ <;> intro hc; all_goals first | (cases hc; done) | ((try simp only [hc]); (try simp only [bm] at hc))) | refine zE ?_ | refine zN ?_ | fail)
  all_goals refine Qend.boo rfl rfl ?_
  all_goals clear r1 r2 r3 r4 ih hb hbk hk hl e1 e2
  all_goals simp only [formed]
  all_goals simp only [List.length_map,srow_len,gt_iff_lt,ge_iff_le,Bool.not_eq_true',Bool.not_eq_false',beq_iff_eq] at *
  all_goals first
    | (simp_all; done)
    | (simp_all; omega)
    | trace_state
end Hm

/- Well shaped values, taken apart. Conditions: see each theorem. -/
namespace Hm
open Go (IntKind)
set_option maxHeartbeats 4000000
set_option maxRecDepth 4000
theorem formed_inv {v : V} (h : formed v = true) : (0 ≤ v.kind ∧ v.kind ≤ 6) ∧ (v.kind = 3 → number v.num = true) ∧ (v.kind ≠ 3 → v.num = []) ∧ (v.kind = 4 → utf v.text = true) ∧ (v.kind ≠ 4 → v.text = []) ∧
    (v.kind < 5 → v.items = []) ∧ (v.kind < 6 → v.keys = []) ∧ (v.kind = 6 → v.keys.length = v.items.length ∧ rise v.keys = true) ∧ (∀ x ∈ v.items,formed x = true) := by
  obtain ⟨k,n,t,is,ks⟩ := v
  simp only [formed,formedAll_eq,Bool.and_eq_true,Bool.not_eq_true',Bool.or_eq_false_iff,Bool.and_eq_false_iff,decide_eq_false_iff_not,beq_eq_false_iff_ne,bne_eq_false_iff_eq,Bool.not_eq_false',beq_iff_eq,List.all_eq_true] at h
  simp only [V.kind,V.num,V.text,V.items,V.keys]
  obtain ⟨⟨⟨⟨⟨h1,h2⟩,h3⟩,h4⟩,h5⟩,h6⟩ := h
  refine ⟨by omega,fun hk => ?_,fun hk => ?_,fun hk => ?_,fun hk => ?_,fun hk => ?_,fun hk => ?_,fun hk => ?_,h6⟩
  · rcases h2.1 with h | h
    · exact absurd hk h
    · exact h
  · rcases h2.2 with h | h
    · exact absurd h hk
    · exact h
  · rcases h3.1 with h | h
    · exact absurd hk h
    · exact h
  · rcases h3.2 with h | h
    · exact absurd h hk
    · exact h
  · rcases h4.1 with h | h
    · exact absurd hk h
    · exact List.eq_nil_of_length_eq_zero (by omega)
  · rcases h4.2 with h | h
    · exact absurd hk h
    · exact List.eq_nil_of_length_eq_zero (by omega)
  · rcases h5 with h | h
    · exact absurd hk h
    · exact h
end Hm

/- Kinds of values, plain laws. Conditions: see each theorem. NORMX NORMY -/
namespace Hm
open Go (IntKind)
set_option maxHeartbeats 40000000
set_option maxRecDepth 4000
end Hm

/- Numbers and texts in order. Conditions: none (definitions and plain lemmas). -/
namespace Hm
open Go (IntKind)
set_option maxHeartbeats 4000000
set_option maxRecDepth 4000
def tcmp (a b : Str) : Int := if binA.bLess a b then -1 else if !(binA.bLess a b || a == b) then 1 else 0
def ncmp (a b : Str) : Int := if a.length = b.length then tcmp a b else if a.length < b.length then -1 else 1
def minus (a : Str) : Bool := decide (((bAt a 0).toNat : Int) = 45)
def zcmp (a b : Str) : Int := if minus a && !minus b then -1 else if minus b && !minus a then 1 else if minus a then ncmp (b.drop 1) (a.drop 1) else ncmp a b
theorem number_len {s : Str} (h : number s = true) : 0 < s.length := by
  cases s with
  | nil => simp [number,digs] at h
  | cons c r => simp
theorem number_drop {s : Str} (h : number s = true) (hm : ((bAt s 0).toNat : Int) = 45) : 0 < (s.drop 1).length ∧ ¬ ((bAt (s.drop 1) 0).toNat : Int) = 45 := by
  have hl := number_len h
  have hd : digs s = s.drop 1 := by rw [digs,if_pos ⟨hl,(u8_eq _ 45 (by omega)).1 hm⟩]
  simp only [number,hd,Bool.and_eq_true,decide_eq_true_eq,List.all_eq_true] at h
  refine ⟨h.1.2,fun he => ?_⟩
  have := h.1.1 (bAt (s.drop 1) 0) (by
    have hx := h.1.2
    cases hs : s.drop 1 with
    | nil => rw [hs] at hx; simp at hx
    | cons c r => simp [bAt])
  simp only [isDig,Bool.and_eq_true,decide_eq_true_eq] at this
  omega
end Hm

/- Numbers and texts in order, as the program's reference has it. Conditions: see each theorem. -/
namespace Hm
open Go (IntKind)
set_option maxHeartbeats 4000000
set_option maxRecDepth 4000
theorem refTexts_ret {T : Tab} (h : Fn T F.h03_Texts h03_Texts.fn) (a b : Str) : Ret T F.h03_Texts [.val (.str a),.val (.str b)] (one (.int .i64 (tcmp a b))) := by
  refine Ret.mk h rfl ?_
  repeat' (first | refine zA ?_ | refine zB ?_ | (refine zC ?_ ?_ <;> intro hc; all_goals first | (cases hc; done) | ((try simp only [hc]); (try simp only [bm] at hc))) | refine zE ?_ | refine zNT ?_ | fail)
  all_goals refine Qend.num rfl rfl ?_
  all_goals simp_all [tcmp]
theorem refNumbersP_ret {T : Tab} (h : Fn T F.h03_Numbers h03_Numbers.fn) (ht : Fn T F.h03_Texts h03_Texts.fn) (a b : Str) (ha : 0 < a.length) (hb : 0 < b.length) (ma : ¬ ((bAt a 0).toNat : Int) = 45) (mb : ¬ ((bAt b 0).toNat : Int) = 45) (hl : a.length ≤ 1073741824) (hl' : b.length ≤ 1073741824) :
    Ret T F.h03_Numbers [.val (.str a),.val (.str b)] (one (.int .i64 (ncmp a b))) := by
  refine Ret.mk h rfl ?_
  have r := refTexts_ret ht a b
  have ma' : ¬ ((bAt a (Int.toNat 0)).toNat : Int) = 45 := ma
  have mb' : ¬ ((bAt b (Int.toNat 0)).toNat : Int) = 45 := mb
  repeat' (first | refine zA ?_ | refine WQ.cl ht.modes ?_ | refine W1.cl ht.modes (r) ?_ | refine zB ?_ | (refine zC ?_ ?_ <;> intro hc; all_goals first | (cases hc; done) | ((try simp only [hc]); (try simp only [bm] at hc))) | refine zE ?_ | refine zNT ?_ | fail)
  all_goals refine Qend.num rfl rfl ?_
  all_goals simp only [ncmp]
  all_goals first
    | rw [if_pos (by omega)]
    | (rw [if_neg (by omega),if_pos (by omega)]; done)
    | (rw [if_neg (by omega),if_neg (by omega)]; done)
theorem refNumbers_ret {T : Tab} (h : Fn T F.h03_Numbers h03_Numbers.fn) (ht : Fn T F.h03_Texts h03_Texts.fn) (a b : Str) (ha : number a = true) (hb : number b = true) (hl : a.length ≤ 1073741824) (hl' : b.length ≤ 1073741824) :
    Ret T F.h03_Numbers [.val (.str a),.val (.str b)] (one (.int .i64 (zcmp a b))) := by
  have ga := number_len ha
  have gb := number_len hb
  by_cases ma : ((bAt a 0).toNat : Int) = 45
  · have ma' : ((bAt a (Int.toNat 0)).toNat : Int) = 45 := ma
    have da := number_drop ha ma
    by_cases mb : ((bAt b 0).toNat : Int) = 45
    · have mb' : ((bAt b (Int.toNat 0)).toNat : Int) = 45 := mb
      have db := number_drop hb mb
      have r := refNumbersP_ret h ht (b.drop 1) (a.drop 1) db.1 da.1 db.2 da.2 (by simp; omega) (by simp; omega)
      have ea : List.drop (Int.toNat 1) (List.take a.length a) = a.drop 1 := by rw [List.take_length]; rfl
      have eb : List.drop (Int.toNat 1) (List.take b.length b) = b.drop 1 := by rw [List.take_length]; rfl
      rw [← ea,← eb] at r
      refine Ret.mk h rfl ?_
      repeat' (first | refine zA ?_ | refine WQ.cl h.modes ?_ | refine W1.cl h.modes (r) ?_ | refine zB ?_ | (refine zC ?_ ?_ <;> intro hc; all_goals first | (cases hc; done) | ((try simp only [hc]); (try simp only [bm] at hc))) | refine zE ?_ | refine zNT ?_ | fail)
      refine Qend.num rfl rfl ?_
      rw [ea,eb]
      simp [zcmp,minus,ma,mb]
    · have mb' : ¬ ((bAt b (Int.toNat 0)).toNat : Int) = 45 := mb
      refine Ret.mk h rfl ?_
      repeat' (first | refine zA ?_ | refine zB ?_ | (refine zC ?_ ?_ <;> intro hc; all_goals first | (cases hc; done) | ((try simp only [hc]); (try simp only [bm] at hc))) | refine zE ?_ | refine zNT ?_ | fail)
      refine Qend.num rfl rfl ?_
      simp [zcmp,minus,ma,mb]
  · have ma' : ¬ ((bAt a (Int.toNat 0)).toNat : Int) = 45 := ma
    by_cases mb : ((bAt b 0).toNat : Int) = 45
    · have mb' : ((bAt b (Int.toNat 0)).toNat : Int) = 45 := mb
      refine Ret.mk h rfl ?_
      repeat' (first | refine zA ?_ | refine zB ?_ | (refine zC ?_ ?_ <;> intro hc; all_goals first | (cases hc; done) | ((try simp only [hc]); (try simp only [bm] at hc))) | refine zE ?_ | refine zNT ?_ | fail)
      refine Qend.num rfl rfl ?_
      simp [zcmp,minus,ma,mb]
    · have r := refNumbersP_ret h ht a b ga gb ma mb hl hl'
      have : zcmp a b = ncmp a b := by simp [zcmp,minus,ma,mb]
      rw [this]
      exact r
end Hm

/- Which types are well shaped, as the program's reference has it: the parts. Conditions: see each theorem. -/
namespace Hm
open Go (IntKind)
set_option maxHeartbeats 4000000
set_option maxRecDepth 4000
def bare (t : Ty) : Bool := !(t.nul || t.fls || t.tru || t.anyText) && decide (t.nums.length = 0) && decide (t.texts.length = 0) && decide (t.arrays.length = 0) && decide (t.objects.length = 0)
def never (t : Ty) : Bool := !t.all && bare t
theorem refBare_ret {T : Tab} (h : Fn T F.h09_Bare h09_Bare.fn) (t : Ty) : Ret T F.h09_Bare [.val t.av] (one (.bool (bare t))) := by
  have z : ∀ n : Nat,((n : Int) == 0) = decide (n = 0) := fun n => by rw [Bool.eq_iff_iff]; simp
  refine Ret.mk h rfl ?_
  have e1 := srow_len t.texts
  have e2 := sprow_len t.nums
  have e3 : (t.arrays.map Ar.row).length = t.arrays.length := List.length_map ..
  have e4 : (t.objects.map Ob.row).length = t.objects.length := List.length_map ..
  rw [Ty.av_eq]
  repeat' (first | refine zA ?_ | refine zB ?_ | (refine zC ?_ ?_ <;> intro hc; all_goals first | (cases hc; done) | ((try simp only [hc]); (try simp only [bm] at hc))) | refine zE ?_ | refine zNT ?_ | fail)
  all_goals refine Qend.boo rfl rfl ?_
  all_goals simp only [bare]
  all_goals simp_all [z]
theorem refNever_ret {T : Tab} (h : Fn T F.h09_Never h09_Never.fn) (h1 : Fn T F.h09_Bare h09_Bare.fn) (t : Ty) : Ret T F.h09_Never [.val t.av] (one (.bool (never t))) := by
  refine Ret.mk h rfl ?_
  have r := refBare_ret h1 t
  rw [Ty.av_eq] at *
  repeat' (first | refine zA ?_ | refine WQ.cl h1.modes ?_ | refine W1.cl h1.modes (r) ?_ | refine zB ?_ | (refine zC ?_ ?_ <;> intro hc; all_goals first | (cases hc; done) | ((try simp only [hc]); (try simp only [bm] at hc))) | refine zE ?_ | refine zNT ?_ | fail)
  all_goals refine Qend.boo rfl rfl ?_
  all_goals simp only [never]
  all_goals simp_all
def boundOk (s : Str) : Bool := s == [] || number s
theorem refBound_ret {T : Tab} (h : Fn T F.h09_bound h09_bound.fn) (h1 : Fn T F.h03_Number h03_Number.fn) (s : Str) (hb : s.length ≤ 1073741824) : Ret T F.h09_bound [.val (.str s)] (one (.bool (boundOk s))) := by
  refine Ret.mk h rfl ?_
  have r := refNumber_ret h1 s hb
  repeat' (first | refine zA ?_ | refine WQ.cl h1.modes ?_ | refine W1.cl h1.modes (r) ?_ | refine zB ?_ | (refine zC ?_ ?_ <;> intro hc; all_goals first | (cases hc; done) | ((try simp only [hc]); (try simp only [bm] at hc))) | refine zE ?_ | refine zNT ?_ | fail)
  all_goals refine Qend.boo rfl rfl ?_
  all_goals simp only [boundOk]
  all_goals simp_all
def spanOk (x : Str × Str) : Bool := boundOk x.1 && boundOk x.2 && !(!(x.1 == []) && !(x.2 == []) && decide (zcmp x.1 x.2 > 0))
def spansOk (l : List (Str × Str)) : Bool := decide (l.length ≤ 1) && l.all spanOk
theorem refSpans_ret {T : Tab} (h : Fn T F.h09_Spans h09_Spans.fn) (h0 : Fn T F.h09_bound h09_bound.fn) (h1 : Fn T F.h03_Number h03_Number.fn) (h2 : Fn T F.h03_Numbers h03_Numbers.fn) (h3 : Fn T F.h03_Texts h03_Texts.fn)
    (l : List (Str × Str)) (hb : spbk l ≤ 1073741824) : Ret T F.h09_Spans [.val (.lst 2 (sprow l))] (one (.bool (spansOk l))) := by
  refine Ret.mk h rfl ?_
  have hl := len_spbk l
  have e1 := sprow_len l
  by_cases hle : l.length ≤ 1
  · have hd : decide (l.length ≤ 1) = true := decide_eq_true hle
    repeat' (first | refine zA ?_ | refine zB ?_ | (refine zC ?_ ?_ <;> intro hc; all_goals first | (cases hc; done) | ((try simp only [hc]); (try simp only [bm] at hc))) | refine zE ?_ | refine zNT ?_ | fail)
    refine W.listP l (fun i (_ : Unit) s => s.put 3 (.av (.int .i64 (i : Int)))) (fun i _ => (l.take i).all spanOk = true) () (by simp) rfl ?_ ?_
    · intro i x u hx hi hp
      have hsx := spbk_mem (List.mem_of_getElem? hx)
      have r1 := refBound_ret h0 h1 x.1 (by omega)
      have r2 := refBound_ret h0 h1 x.2 (by omega)
      by_cases b1 : boundOk x.1 = true
      · by_cases b2 : boundOk x.2 = true
        · by_cases hne : x.1 = [] ∨ x.2 = []
          · skip
            repeat' (first | refine zA ?_ | refine WQ.cl h0.modes ?_ | refine W1.cl h0.modes (r1) ?_ | refine WQ.cl h0.modes ?_ | refine W1.cl h0.modes (r2) ?_ | refine zB ?_ | (refine zC ?_ ?_ <;> intro hc; all_goals first | (cases hc; done) | ((try simp only [hc]); (try simp only [bm] at hc))) | refine zE ?_ | refine zNT ?_ | fail)
            all_goals first
              | (exfalso; simp_all; done)
              | (refine ⟨(),?_,rfl⟩; rw [all_take_succ hx,hp]; simp only [spanOk,b1,b2]; rcases hne with he | he <;> (rw [he]; simp); done)
              | skip
          · have n1 : number x.1 = true := by
              simp only [boundOk,Bool.or_eq_true,beq_iff_eq] at b1
              rcases b1 with h | h
              · exact absurd (.inl h) hne
              · exact h
            have n2 : number x.2 = true := by
              simp only [boundOk,Bool.or_eq_true,beq_iff_eq] at b2
              rcases b2 with h | h
              · exact absurd (.inr h) hne
              · exact h
            have r3 := refNumbers_ret h2 h3 x.1 x.2 n1 n2 (by omega) (by omega)
            have z1 : (x.1 == []) = false := beq_eq_false_iff_ne.2 fun he => hne (.inl he)
            have z2 : (x.2 == []) = false := beq_eq_false_iff_ne.2 fun he => hne (.inr he)
            repeat' (first | refine zA ?_ | refine WQ.cl h0.modes ?_ | refine W1.cl h0.modes (r1) ?_ | refine WQ.cl h0.modes ?_ | refine W1.cl h0.modes (r2) ?_ | refine WQ.cl h2.modes ?_ | refine W1.cl h2.modes (r3) ?_ | refine zB ?_ | (refine zC ?_ ?_ <;> intro hc; all_goals first | (cases hc; done) | ((try simp only [hc]); (try simp only [bm] at hc))) | refine zE ?_ | refine zNT ?_ | fail)
            all_goals first
              | (exfalso; simp_all; done)
              | (refine ⟨(),?_,rfl⟩; rw [all_take_succ hx,hp]; simp only [spanOk,b1,b2,z1,z2]; simp; omega)
              | (refine Qend.boo rfl rfl ?_; rw [spansOk,all_false hx (by simp only [spanOk,b1,b2,z1,z2]; simp; omega),Bool.and_false]; done)
              | skip
        · rw [Bool.not_eq_true] at b2
          repeat' (first | refine zA ?_ | refine WQ.cl h0.modes ?_ | refine W1.cl h0.modes (r1) ?_ | refine WQ.cl h0.modes ?_ | refine W1.cl h0.modes (r2) ?_ | refine zB ?_ | (refine zC ?_ ?_ <;> intro hc; all_goals first | (cases hc; done) | ((try simp only [hc]); (try simp only [bm] at hc))) | refine zE ?_ | refine zNT ?_ | fail)
          all_goals first
            | (exfalso; simp_all; done)
            | (refine Qend.boo rfl rfl ?_; rw [spansOk,all_false hx (by simp [spanOk,b1,b2]),Bool.and_false]; done)
            | skip
      · rw [Bool.not_eq_true] at b1
        repeat' (first | refine zA ?_ | refine WQ.cl h0.modes ?_ | refine W1.cl h0.modes (r1) ?_ | refine WQ.cl h0.modes ?_ | refine W1.cl h0.modes (r2) ?_ | refine zB ?_ | (refine zC ?_ ?_ <;> intro hc; all_goals first | (cases hc; done) | ((try simp only [hc]); (try simp only [bm] at hc))) | refine zE ?_ | refine zNT ?_ | fail)
        all_goals first
          | (exfalso; simp_all; done)
          | (refine Qend.boo rfl rfl ?_; rw [spansOk,all_false hx (by simp [spanOk,b1]),Bool.and_false]; done)
          | skip
    · intro u hp
      rw [List.take_length] at hp
      repeat' (first | refine zA ?_ | refine zB ?_ | (refine zC ?_ ?_ <;> intro hc; all_goals first | (cases hc; done) | ((try simp only [hc]); (try simp only [bm] at hc))) | refine zE ?_ | refine zNT ?_ | fail)
      refine Qend.boo rfl rfl ?_
      rw [spansOk,hd,hp]; rfl
  · have hd : decide (l.length ≤ 1) = false := decide_eq_false hle
    repeat' (first | refine zA ?_ | refine zB ?_ | (refine zC ?_ ?_ <;> intro hc; all_goals first | (cases hc; done) | ((try simp only [hc]); (try simp only [bm] at hc))) | refine zE ?_ | refine zNT ?_ | fail)
    refine Qend.boo rfl rfl ?_
    rw [spansOk,hd]; rfl
end Hm

/- Which types are well shaped, as the program's reference has it. Conditions: see each theorem. -/
namespace Hm
open Go (IntKind)
set_option maxHeartbeats 4000000
set_option maxRecDepth 4000
mutual
def tformed : Ty → Bool
  | .mk a n f t ns at' ts as os => !(a && !bare (.mk a n f t ns at' ts as os)) && !(!rise ts || (at' && decide (0 < ts.length))) && (spansOk ns && (decide (as.length ≤ 1) && arsOk as && obsOk os))
def arOk : Ar → Bool
  | .mk i mn mx => !(decide (mn < 0) || decide (mx < -1) || (decide (mx ≥ 0) && decide (mx < mn))) && (tformed i && never i == decide (mx = 0))
def obOk : Ob → Bool
  | .mk ns fs ms r => decide (ns.length = fs.length) && decide (ns.length = ms.length) && rise ns && tformed r && fieldsOk fs ms
def arsOk : List Ar → Bool
  | [] => true
  | x :: r => arOk x && arsOk r
def obsOk : List Ob → Bool
  | [] => true
  | x :: r => obOk x && obsOk r
def fieldsOk : List Ty → List Bool → Bool
  | [],_ => true
  | f :: fs,ms => tformed f && !(ms.headD false && never f) && fieldsOk fs ms.tail
end
theorem arsOk_eq (l : List Ar) : arsOk l = l.all arOk := by
  induction l with
  | nil => rfl
  | cons x l ih => simp only [arsOk,List.all_cons,ih]
theorem obsOk_eq (l : List Ob) : obsOk l = l.all obOk := by
  induction l with
  | nil => rfl
  | cons x l ih => simp only [obsOk,List.all_cons,ih]
theorem tformed_eq (v : Ty) : tformed v = (!(v.all && !bare v) && !(!rise v.texts || (v.anyText && decide (0 < v.texts.length))) && (spansOk v.nums && (decide (v.arrays.length ≤ 1) && v.arrays.all arOk && v.objects.all obOk))) := by
  cases v; simp only [tformed,arsOk_eq,obsOk_eq,Ty.all,Ty.texts,Ty.anyText,Ty.nums,Ty.arrays,Ty.objects]; rfl
theorem arOk_eq (x : Ar) : arOk x = (!(decide (x.min < 0) || decide (x.max < -1) || (decide (x.max ≥ 0) && decide (x.max < x.min))) && (tformed x.item && never x.item == decide (x.max = 0))) := by
  cases x; simp only [arOk,Ar.min,Ar.max,Ar.item]; rfl
theorem obOk_eq (x : Ob) : obOk x = (decide (x.names.length = x.fields.length) && decide (x.names.length = x.must.length) && rise x.names && tformed x.rest && fieldsOk x.fields x.must) := by
  cases x; simp only [obOk,Ob.names,Ob.fields,Ob.must,Ob.rest]; rfl
theorem fieldsOk_take_succ : ∀ {l : List Ty} {ms : List Bool} {i : Nat} {x : Ty} {b : Bool},l[i]? = some x → ms[i]? = some b → fieldsOk (l.take (i + 1)) ms = (fieldsOk (l.take i) ms && (tformed x && !(b && never x)))
  | [],ms,i,x,b,h,_ => by simp at h
  | y :: l,[],i,x,b,_,h => by simp at h
  | y :: l,m :: ms,0,x,b,h,h' => by
    simp only [List.getElem?_cons_zero,Option.some.injEq] at h h'
    subst h h'
    simp [fieldsOk]
  | y :: l,m :: ms,i + 1,x,b,h,h' => by
    simp only [List.getElem?_cons_succ] at h h'
    have := fieldsOk_take_succ h h'
    simp only [List.take_succ_cons,fieldsOk,List.tail_cons,this,Bool.and_assoc]
theorem fieldsOk_split : ∀ (l : List Ty) (ms : List Bool) (i : Nat),fieldsOk l ms = (fieldsOk (l.take i) ms && fieldsOk (l.drop i) (ms.drop i))
  | [],ms,i => by simp [fieldsOk]
  | y :: l,ms,0 => by simp [fieldsOk]
  | y :: l,[],i + 1 => by
    have := fieldsOk_split l [] i
    simp only [List.drop_nil] at this
    simp only [List.take_succ_cons,List.drop_succ_cons,fieldsOk,List.tail_nil,List.drop_nil]
    rw [this,Bool.and_assoc]; simp [Bool.and_assoc]
  | y :: l,m :: ms,i + 1 => by
    have := fieldsOk_split l ms i
    simp only [List.take_succ_cons,List.drop_succ_cons,fieldsOk,List.tail_cons,this,Bool.and_assoc]
theorem fieldsOk_false {l : List Ty} {ms : List Bool} {i : Nat} {x : Ty} {b : Bool} (h : l[i]? = some x) (hm : ms[i]? = some b) (hx : (tformed x && !(b && never x)) = false) : fieldsOk l ms = false := by
  rw [fieldsOk_split l ms (i + 1),fieldsOk_take_succ h hm,hx]; simp
def Formed9 (T : Tab) (v : Ty) : Prop := Ret T F.h09_Formed [.val v.av] (one (.bool (tformed v)))
theorem refArrays_of {T : Tab} (h : Fn T F.h09_arrays h09_arrays.fn) (hf : Fn T F.h09_Formed h09_Formed.fn) (h1 : Fn T F.h09_Never h09_Never.fn) (h2 : Fn T F.h09_Bare h09_Bare.fn)
    (l : List Ar) (hb : arBks l ≤ 1073741824) (ih : ∀ x ∈ l,Formed9 T x.item) : Ret T F.h09_arrays [.val (.lst 11 (l.map Ar.row))] (one (.bool (decide (l.length ≤ 1) && l.all arOk))) := by
  refine Ret.mk h rfl ?_
  have hl := len_arBks l
  have e1 : (l.map Ar.row).length = l.length := List.length_map ..
  have z : ∀ n : Int,(n == 0) = decide (n = 0) := fun n => by rw [Bool.eq_iff_iff]; simp
  by_cases hle : l.length ≤ 1
  · have hd : decide (l.length ≤ 1) = true := decide_eq_true hle
    rw [hd,Bool.true_and]
    repeat' (first | refine zA ?_ | refine zB ?_ | (refine zC ?_ ?_ <;> intro hc; all_goals first | (cases hc; done) | ((try simp only [hc]); (try simp only [bm] at hc))) | refine zE ?_ | refine zNT ?_ | fail)
    refine W.listP l (fun i (_ : Unit) s => s.put 3 (.av (.int .i64 (i : Int)))) (fun i _ => (l.take i).all arOk = true) () (by simp) rfl ?_ ?_
    · intro i x u hx hi hp
      have r1 := ih x (List.mem_of_getElem? hx)
      have r2 := refNever_ret h1 h2 x.item
      rw [Formed9,Ty.av_eq] at r1
      rw [Ty.av_eq] at r2
      repeat' (first | refine zA ?_ | refine WQ.cl hf.modes ?_ | refine W1.cl hf.modes (r1) ?_ | refine WQ.cl h1.modes ?_ | refine W1.cl h1.modes (r2) ?_ | refine zB ?_ | (refine zC ?_ ?_ <;> intro hc; all_goals first | (cases hc; done) | ((try simp only [hc]); (try simp only [bm] at hc))) | refine zE ?_ | refine zNT ?_ | fail)
      all_goals clear r1 r2 ih
      all_goals first
        | (exfalso; simp_all; done)
        | (refine ⟨(),?_,rfl⟩; rw [all_take_succ hx,hp,arOk_eq]; simp_all; done)
        | (refine ⟨(),?_,rfl⟩; rw [all_take_succ hx,hp,arOk_eq]; simp_all; omega)
        | (refine Qend.boo rfl rfl ?_; rw [all_false hx (by rw [arOk_eq]; simp_all; done)]; done)
        | (refine Qend.boo rfl rfl ?_; rw [all_false hx (by rw [arOk_eq]; simp_all; omega)]; done)
        | skip
    · intro u hp
      rw [List.take_length] at hp
      repeat' (first | refine zA ?_ | refine zB ?_ | (refine zC ?_ ?_ <;> intro hc; all_goals first | (cases hc; done) | ((try simp only [hc]); (try simp only [bm] at hc))) | refine zE ?_ | refine zNT ?_ | fail)
      refine Qend.boo rfl rfl ?_
      rw [hp]
  · have hd : decide (l.length ≤ 1) = false := decide_eq_false hle
    repeat' (first | refine zA ?_ | refine zB ?_ | (refine zC ?_ ?_ <;> intro hc; all_goals first | (cases hc; done) | ((try simp only [hc]); (try simp only [bm] at hc))) | refine zE ?_ | refine zNT ?_ | fail)
    refine Qend.boo rfl rfl ?_
    rw [hd]; rfl
theorem refObject_of {T : Tab} (h : Fn T F.h09_object h09_object.fn) (hf : Fn T F.h09_Formed h09_Formed.fn) (h1 : Fn T F.h09_Never h09_Never.fn) (h2 : Fn T F.h09_Bare h09_Bare.fn)
    (h3 : Fn T F.h03_Rise h03_Rise.fn) (h4 : Fn T F.h03_UTF h03_UTF.fn) (h5 : Fn T F.h03_width h03_width.fn) (h6 : Fn T F.h03_trail h03_trail.fn)
    (o : Ob) (hb : o.bk ≤ 1073741824) (ih : ∀ x ∈ o.fields,Formed9 T x) (ihr : Formed9 T o.rest) : Ret T F.h09_object [.val (.agg o.row)] (one (.bool (obOk o))) := by
  refine Ret.mk h rfl ?_
  have hbk := Ob.bk_eq o
  have l1 := len_sbk o.names
  have l2 := len_tyBks o.fields
  have e1 := srow_len o.names
  have e2 := brow_len o.must
  have e3 : (o.fields.map Ty.row).length = o.fields.length := List.length_map ..
  have r0 := refRise_ret h3 h4 h5 h6 o.names (by omega)
  have r1 := ihr
  rw [Formed9,Ty.av_eq] at r1
  rw [Ob.row_eq]
  have hoe := obOk_eq o
  by_cases hn : o.names.length = o.fields.length ∧ o.names.length = o.must.length ∧ rise o.names = true ∧ tformed o.rest = true
  · obtain ⟨n1,n2,n3,n4⟩ := hn
    have hoe' : obOk o = fieldsOk o.fields o.must := by rw [hoe]; simp [← n1,← n2,n3,n4]
    rw [hoe']
    repeat' (first | refine zA ?_ | refine WQ.cl h3.modes ?_ | refine W1.cl h3.modes (r0) ?_ | refine WQ.cl hf.modes ?_ | refine W1.cl hf.modes (r1) ?_ | refine zB ?_ | (refine zC ?_ ?_ <;> intro hc; all_goals first | (cases hc; done) | ((try simp only [hc]); (try simp only [bm] at hc))) | refine zE ?_ | refine zNT ?_ | fail)
    all_goals first | (exfalso; clear r0 r1; simp_all; done) | (exfalso; omega) | skip
    refine W.listP o.fields (fun i (_ : Unit) s => s.put 3 (.av (.int .i64 (i : Int)))) (fun i _ => fieldsOk (o.fields.take i) o.must = true) () (by simp [fieldsOk]) rfl ?_ ?_
    · intro i x u hx hi hp
      obtain ⟨b,hbm⟩ : ∃ b,o.must[i]? = some b := ⟨o.must[i]'(by omega),List.getElem?_eq_getElem (by omega)⟩
      have r2 := ih x (List.mem_of_getElem? hx)
      have r3 := refNever_ret h1 h2 x
      rw [Formed9,Ty.av_eq] at r2
      rw [Ty.av_eq] at r3
      repeat' (first | refine zA ?_ | refine WQ.cl hf.modes ?_ | refine W1.cl hf.modes (r2) ?_ | refine WQ.cl h1.modes ?_ | refine W1.cl h1.modes (r3) ?_ | refine zB ?_ | (refine zC ?_ ?_ <;> intro hc; all_goals first | (cases hc; done) | ((try simp only [hc]); (try simp only [bm] at hc))) | refine zE ?_ | refine zNT ?_ | fail)
      all_goals clear r0 r1 r2 r3 ih ihr
      all_goals first
        | (refine Qend.boo rfl rfl ?_; rw [fieldsOk_false hx hbm (by simp_all)]; done)
        | (refine ⟨(),?_,rfl⟩; rw [fieldsOk_take_succ hx hbm,hp]; simp_all; done)
        | (exfalso; simp_all; done)
        | skip
    · intro u hp
      rw [List.take_length] at hp
      repeat' (first | refine zA ?_ | refine zB ?_ | (refine zC ?_ ?_ <;> intro hc; all_goals first | (cases hc; done) | ((try simp only [hc]); (try simp only [bm] at hc))) | refine zE ?_ | refine zNT ?_ | fail)
      refine Qend.boo rfl rfl ?_
      rw [hp]
  · have hoe' : obOk o = false := by
      rw [hoe,Bool.eq_false_iff]
      intro hc
      simp only [Bool.and_eq_true,decide_eq_true_eq] at hc
      exact hn ⟨hc.1.1.1.1,hc.1.1.1.2,hc.1.1.2,hc.1.2⟩
    rw [hoe']
    by_cases n1 : o.names.length = o.fields.length
    · by_cases n2 : o.names.length = o.must.length
      · by_cases n3 : rise o.names = true
        · have n4 : tformed o.rest = false := by
            rw [Bool.eq_false_iff]; exact fun hc => hn ⟨n1,n2,n3,hc⟩
          repeat' (first | refine zA ?_ | refine WQ.cl h3.modes ?_ | refine W1.cl h3.modes (r0) ?_ | refine WQ.cl hf.modes ?_ | refine W1.cl hf.modes (r1) ?_ | refine zB ?_ | (refine zC ?_ ?_ <;> intro hc; all_goals first | (cases hc; done) | ((try simp only [hc]); (try simp only [bm] at hc))) | refine zE ?_ | refine zNT ?_ | fail)
          all_goals first | exact Qend.boo rfl rfl rfl | (exfalso; omega) | (exfalso; clear r0 r1; simp_all; done) | skip
        · rw [Bool.not_eq_true] at n3
          repeat' (first | refine zA ?_ | refine WQ.cl h3.modes ?_ | refine W1.cl h3.modes (r0) ?_ | refine WQ.cl hf.modes ?_ | refine W1.cl hf.modes (r1) ?_ | refine zB ?_ | (refine zC ?_ ?_ <;> intro hc; all_goals first | (cases hc; done) | ((try simp only [hc]); (try simp only [bm] at hc))) | refine zE ?_ | refine zNT ?_ | fail)
          all_goals first | exact Qend.boo rfl rfl rfl | (exfalso; omega) | (exfalso; clear r0 r1; simp_all; done) | skip
      · skip
        repeat' (first | refine zA ?_ | refine WQ.cl h3.modes ?_ | refine W1.cl h3.modes (r0) ?_ | refine WQ.cl hf.modes ?_ | refine W1.cl hf.modes (r1) ?_ | refine zB ?_ | (refine zC ?_ ?_ <;> intro hc; all_goals first | (cases hc; done) | ((try simp only [hc]); (try simp only [bm] at hc))) | refine zE ?_ | refine zNT ?_ | fail)
        all_goals first | exact Qend.boo rfl rfl rfl | (exfalso; omega) | (exfalso; clear r0 r1; simp_all; done) | skip
    · skip
      repeat' (first | refine zA ?_ | refine WQ.cl h3.modes ?_ | refine W1.cl h3.modes (r0) ?_ | refine WQ.cl hf.modes ?_ | refine W1.cl hf.modes (r1) ?_ | refine zB ?_ | (refine zC ?_ ?_ <;> intro hc; all_goals first | (cases hc; done) | ((try simp only [hc]); (try simp only [bm] at hc))) | refine zE ?_ | refine zNT ?_ | fail)
      all_goals first | exact Qend.boo rfl rfl rfl | (exfalso; omega) | (exfalso; clear r0 r1; simp_all; done) | skip
theorem refObjects_of {T : Tab} (h : Fn T F.h09_objects h09_objects.fn) (h0 : Fn T F.h09_object h09_object.fn) (l : List Ob) (hb : obBks l ≤ 1073741824)
    (ih : ∀ x ∈ l,Ret T F.h09_object [.val (.agg x.row)] (one (.bool (obOk x)))) : Ret T F.h09_objects [.val (.lst 12 (l.map Ob.row))] (one (.bool (l.all obOk))) := by
  refine Ret.mk h rfl ?_
  have hl := len_obBks l
  have e1 : (l.map Ob.row).length = l.length := List.length_map ..
  repeat' (first | refine zA ?_ | refine zB ?_ | (refine zC ?_ ?_ <;> intro hc; all_goals first | (cases hc; done) | ((try simp only [hc]); (try simp only [bm] at hc))) | refine zE ?_ | refine zNT ?_ | fail)
  refine W.listP l (fun i (_ : Unit) s => s.put 3 (.av (.int .i64 (i : Int)))) (fun i _ => (l.take i).all obOk = true) () (by simp) rfl ?_ ?_
  · intro i x u hx hi hp
    have r1 := ih x (List.mem_of_getElem? hx)
    rw [Ob.row_eq] at r1
    repeat' (first | refine zA ?_ | refine WQ.cl h0.modes ?_ | refine W1.cl h0.modes (r1) ?_ | refine zB ?_ | (refine zC ?_ ?_ <;> intro hc; all_goals first | (cases hc; done) | ((try simp only [hc]); (try simp only [bm] at hc))) | refine zE ?_ | refine zNT ?_ | fail)
    · refine Qend.boo rfl rfl ?_
      rw [all_false hx (by simp_all)]
    · refine ⟨(),?_,rfl⟩
      rw [all_take_succ hx,hp]; simp_all
  · intro u hp
    rw [List.take_length] at hp
    repeat' (first | refine zA ?_ | refine zB ?_ | (refine zC ?_ ?_ <;> intro hc; all_goals first | (cases hc; done) | ((try simp only [hc]); (try simp only [bm] at hc))) | refine zE ?_ | refine zNT ?_ | fail)
    refine Qend.boo rfl rfl ?_
    rw [hp]
theorem refFormed9_ret {T : Tab} (hf : Fn T F.h09_Formed h09_Formed.fn) (a1 : Fn T F.h09_objects h09_objects.fn) (a2 : Fn T F.h09_object h09_object.fn) (a3 : Fn T F.h09_Never h09_Never.fn) (a4 : Fn T F.h09_Bare h09_Bare.fn)
    (a5 : Fn T F.h03_Rise h03_Rise.fn) (a6 : Fn T F.h03_UTF h03_UTF.fn) (a7 : Fn T F.h03_width h03_width.fn) (a8 : Fn T F.h03_trail h03_trail.fn) (a9 : Fn T F.h09_arrays h09_arrays.fn)
    (b1 : Fn T F.h09_Spans h09_Spans.fn) (b2 : Fn T F.h03_Numbers h03_Numbers.fn) (b3 : Fn T F.h03_Texts h03_Texts.fn) (b4 : Fn T F.h09_bound h09_bound.fn) (b5 : Fn T F.h03_Number h03_Number.fn) :
    ∀ (v : Ty),v.bk ≤ 1073741824 → Formed9 T v := by
  intro v
  induction v using Ty.ind with
  | h v ih =>
  intro hb
  have hbk := Ty.bk_eq v
  have l1 := len_sbk v.texts
  have e1 := srow_len v.texts
  have r0 := refBare_ret a4 v
  have r1 := refRise_ret a5 a6 a7 a8 v.texts (by omega)
  have r2 := refSpans_ret b1 b4 b5 b2 b3 v.nums (by omega)
  have r3 := refArrays_of a9 hf a3 a4 v.arrays (by omega) (fun x hx => by
    have := arBk_mem hx
    have := Ar.bk_eq x
    exact ih x.item (by omega) (by omega))
  have r4 := refObjects_of a1 a2 v.objects (by omega) (fun x hx => by
    have := obBk_mem hx
    have t3 := Ob.bk_eq x
    exact refObject_of a2 hf a3 a4 a5 a6 a7 a8 x (by omega) (fun y hy => by have := tyBk_mem hy; exact ih y (by omega) (by omega)) (ih x.rest (by omega) (by omega)))
  refine Ret.mk hf rfl ?_
  rw [tformed_eq]
  rw [Ty.av_eq] at *
  clear ih
  cases hA : v.all <;> simp only [hA] at *
  repeat' (first | refine zA ?_ | refine WQ.cl a4.modes ?_ | refine W1.cl a4.modes (r0) ?_ | refine WQ.cl a5.modes ?_ | refine W1.cl a5.modes (r1) ?_ | refine WQ.cl b1.modes ?_ | refine W1.cl b1.modes (r2) ?_ | refine WQ.cl a9.modes ?_ | refine W1.cl a9.modes (r3) ?_ | refine WQ.cl a1.modes ?_ | refine W1.cl a1.modes (r4) ?_ | refine zB ?_ | (refine zC ?_ ?_ <;> intro hc; all_goals first | (cases hc; done) | ((try simp only [hc]); (try simp only [bm] at hc))) | refine zE ?_ | refine zNT ?_ | fail)
  all_goals clear r0 r1 r2 r3 r4
  all_goals first | refine Qend.boo rfl rfl ?_ | skip
  all_goals first | (simp_all; done) | skip
end Hm

/- Plain lemmas, split off. Conditions: none (definitions and plain lemmas). -/
namespace Hm
open Go (IntKind)
section
variable {T : Tab}
mutual
def ht : Ty → Nat
  | .mk a n f t ns at' ts as os => max (hArs as) (hObs os)
def hAr : Ar → Nat
  | .mk i mn mx => ht i + 1
def hOb : Ob → Nat
  | .mk ns fs ms r => max (ht r + 1) (hTys fs)
def hTys : List Ty → Nat
  | [] => 0
  | x :: r => max (ht x + 1) (hTys r)
def hArs : List Ar → Nat
  | [] => 0
  | x :: r => max (hAr x) (hArs r)
def hObs : List Ob → Nat
  | [] => 0
  | x :: r => max (hOb x) (hObs r)
end
end
end Hm

/- Things alike. Conditions: none (plain lemmas). -/
namespace Hm
noncomputable def eqB {α : Type} (a b : α) : Bool := @decide (a = b) (Classical.propDecidable _)
theorem eqB_iff {α : Type} {a b : α} : eqB a b = true ↔ a = b := by simp [eqB]
end Hm

/- Comparisons that set things in a row. Conditions: none (definitions and plain lemmas). -/
namespace Hm
/-- A comparison is good on the things of a kind. -/
structure Good {α : Type} (P : α → Prop) (c : α → α → Int) : Prop where
  rng : ∀ a b,P a → P b → -1 ≤ c a b ∧ c a b ≤ 1
  anti : ∀ a b,P a → P b → c a b = - c b a
  trans : ∀ a b d,P a → P b → P d → c a b ≤ 0 → c b d ≤ 0 → c a d ≤ 0
  eq : ∀ a b,P a → P b → c a b = 0 → a = b
theorem Good.refl {α : Type} {P : α → Prop} {c : α → α → Int} (h : Good P c) (a : α) (ha : P a) : c a a = 0 := by
  have := h.anti a a ha ha; omega
theorem Good.lt_trans {α : Type} {P : α → Prop} {c : α → α → Int} (h : Good P c) {a b d : α} (ha : P a) (hb : P b) (hd : P d) (h1 : c a b < 0) (h2 : c b d ≤ 0) : c a d < 0 := by
  have h3 := h.trans a b d ha hb hd (by omega) h2
  by_cases h0 : c a d = 0
  · have := h.eq a d ha hd h0
    subst this
    have := h.anti a b ha hb
    omega
  · omega
theorem bLess_irrefl : ∀ a : Str,binA.bLess a a = false
  | [] => rfl
  | x :: r => by simp [binA.bLess,bLess_irrefl r]
theorem bLess_trans : ∀ a b d : Str,binA.bLess a b = true → binA.bLess b d = true → binA.bLess a d = true
  | [],[],_,h,_ => by simp [binA.bLess] at h
  | [],_ :: _,[],_,h => by simp [binA.bLess] at h
  | [],_ :: _,_ :: _,_,_ => by simp [binA.bLess]
  | _ :: _,[],_,h,_ => by simp [binA.bLess] at h
  | _ :: _,_ :: _,[],_,h => by simp [binA.bLess] at h
  | x :: a,y :: b,z :: d,h1,h2 => by
    simp only [binA.bLess,Bool.or_eq_true,Bool.and_eq_true,decide_eq_true_eq,beq_iff_eq] at *
    rcases h1 with h1 | ⟨h1,h1'⟩
    · rcases h2 with h2 | ⟨h2,_⟩
      · exact .inl (UInt8.lt_trans h1 h2)
      · subst h2; exact .inl h1
    · subst h1
      rcases h2 with h2 | ⟨h2,h2'⟩
      · exact .inl h2
      · subst h2; exact .inr ⟨rfl,bLess_trans a b d h1' h2'⟩
end Hm

/- Objects as lists of fields in order. Conditions: none (definitions and plain lemmas). -/
namespace Hm
end Hm

/- Fields taken out, and looked for. Conditions: none (definitions and plain lemmas). -/
namespace Hm
/-- The value at the first place of a key. -/
def lookL : List Str → List V → Str → Option V
  | [],_,_ => none
  | s :: r,l,k => if s = k then l.head? else lookL r l.tail k
theorem lookL_at (k : Str) : ∀ {ks : List Str} {l : List V} {i : Nat},ks[i]? = some k → (∀ j,j < i → ks[j]? ≠ some k) → lookL ks l k = l[i]?
  | [],l,i,h,_ => by simp at h
  | s :: r,l,0,h,_ => by
    simp at h; subst h
    rw [lookL,if_pos rfl]; cases l <;> rfl
  | s :: r,l,i + 1,h,hj => by
    have hs : s ≠ k := fun e => hj 0 (by omega) (by simp [e])
    rw [lookL,if_neg hs,lookL_at k (ks := r) (i := i) (by simpa using h) (fun j hlt => by have := hj (j + 1) (by omega); simpa using this)]
    cases l <;> rfl
theorem lookL_none (k : Str) : ∀ {ks : List Str} {l : List V},k ∉ ks → lookL ks l k = none
  | [],_,_ => rfl
  | s :: r,l,h => by
    rw [lookL,if_neg (fun e => h (by simp [e])),lookL_none k fun hm => h (by simp [hm])]
def zeroV : V := .mk 0 [] [] [] []
/-- A field of a value. -/
def getV (v : V) (k : Str) : Option V := if v.kind = 6 then lookL v.keys v.items k else none
end Hm

/- Plain lemmas, split off. Conditions: none (definitions and plain lemmas). -/
namespace Hm
open Go (IntKind)
section
variable {T : Tab}
abbrev Sp := Str × Str
def Sp.av (s : Sp) : AV := .agg [.str s.1,.str s.2]
/-- Each bound is open or a number. -/
structure Bounds (s : Sp) : Prop where
  lo : ¬ s.1 = [] → number s.1 = true
  hi : ¬ s.2 = [] → number s.2 = true
  l1 : s.1.length ≤ 1073741824
  l2 : s.2.length ≤ 1073741824
def inSpanB (n : Str) (s : Sp) : Bool := !(!(s.1 == []) && decide (zcmp n s.1 < 0)) && ((s.2 == []) || decide (zcmp n s.2 ≤ 0))
end
end Hm

/- Near types, and what is of a type: plain laws. Conditions: none (definitions and plain lemmas). -/
namespace Hm
open Go (IntKind)
set_option maxRecDepth 4000
/-- Ascending keys. -/
theorem asc_of_rise {l : List Str} (h : rise l = true) : l.Pairwise fun a b => binA.bLess a b = true := by
  rw [rise] at h
  have hs : ∀ i a b,l[i]? = some a → l[i + 1]? = some b → binA.bLess a b = true := by
    intro i a b ha hb
    have hl : i + 1 < l.length := (List.getElem?_eq_some_iff.1 hb).1
    have := List.all_eq_true.1 h (i + 1) (List.mem_range.2 hl)
    simp only [riseAt,List.getD,hb,Nat.add_sub_cancel,ha,Option.getD_some] at this
    simp_all
  clear h
  induction l with
  | nil => exact List.Pairwise.nil
  | cons a r ih =>
    have ih' := ih fun i x y hx hy => hs (i + 1) x y (by simpa using hx) (by simpa using hy)
    refine List.pairwise_cons.2 ⟨fun y hy => ?_,ih'⟩
    cases r with
    | nil => cases hy
    | cons b s =>
      have hab := hs 0 a b rfl rfl
      rcases List.mem_cons.1 hy with rfl | hy
      · exact hab
      · exact bLess_trans _ _ _ hab ((List.pairwise_cons.1 ih').1 y hy)
/-- What stands at the first place of a key. -/
def lkA {α : Type} : List Str → List α → Str → Option α
  | k :: ks,x :: xs,s => if k = s then some x else lkA ks xs s
  | _,_,_ => none
theorem lkA_lookL : ∀ (ks : List Str) (l : List V) (s : Str),ks.length = l.length → lkA ks l s = lookL ks l s
  | [],l,s,h => by cases l <;> rfl
  | k :: ks,[],s,h => by simp at h
  | k :: ks,x :: xs,s,h => by
    simp only [lkA,lookL,List.head?_cons,List.tail_cons]
    split
    · rfl
    · exact lkA_lookL ks xs s (by simpa using h)
def neverT : Ty := .mk false false false false [] false [] [] []
/-! ### What is of a type -/
def inObN (fs : List (Ty → Bool)) (ks : List Str) (o : Ob) (i : Nat) : Bool :=
  match lkA ks fs (o.names.getD i []) with
  | some g => g (o.fields.getD i neverT)
  | none => !(o.must.getD i false)
def inObK (fs : List (Ty → Bool)) (ks : List Str) (o : Ob) (i : Nat) : Bool :=
  o.names.contains (ks.getD i []) || (fs.getD i (fun _ => false)) o.rest
def inObB (fs : List (Ty → Bool)) (ks : List Str) (o : Ob) : Bool := (List.range o.names.length).all (inObN fs ks o) && (List.range ks.length).all (inObK fs ks o)
def inArB (fs : List (Ty → Bool)) (a : Ar) : Bool := !(decide ((fs.length : Int) < a.min) || (decide (a.max ≥ 0) && decide ((fs.length : Int) > a.max))) && fs.all (fun g => g a.item)
def inBody (k : Int) (n t : Str) (fs : List (Ty → Bool)) (ks : List Str) (ty : Ty) : Bool :=
  ty.all || (if k = 0 then ty.nul else if k = 1 then ty.fls else if k = 2 then ty.tru else
    if k = 3 then (match ty.nums with | [] => false | s :: _ => inSpanB n s) else
    if k = 4 then ty.anyText || ty.texts.contains t else
    if k = 5 then (match ty.arrays with | [] => false | a :: _ => inArB fs a) else
    ty.objects.any (inObB fs ks))
mutual
def inT : V → Ty → Bool
  | .mk k n t is ks => inBody k n t (inFs is) ks
def inFs : List V → List (Ty → Bool)
  | [] => []
  | v :: r => inT v :: inFs r
end
theorem inFs_eq (l : List V) : inFs l = l.map inT := by
  induction l with
  | nil => rfl
  | cons x l ih => simp only [inFs,List.map_cons,ih]
theorem inT_eq (v : V) : inT v = inBody v.kind v.num v.text (v.items.map inT) v.keys := by
  cases v with
  | mk k n t is ks => simp only [inT,inFs_eq,V.kind,V.num,V.text,V.items,V.keys]
end Hm

/- Texts and numbers stand in a row. Conditions: see each theorem. -/
namespace Hm
end Hm

/- Near types: plain laws. Conditions: none (definitions and plain lemmas). -/
namespace Hm
open Go (IntKind)
set_option maxRecDepth 4000
theorem kinds7 {v : V} (h : formed v = true) : (v.kind = 0 ∨ v.kind = 1 ∨ v.kind = 2) ∨ v.kind = 3 ∨ v.kind = 4 ∨ v.kind = 5 ∨ v.kind = 6 := by
  have := (formed_inv h).1; omega
end Hm

/- Near types are well shaped, and no higher than asked; the value is of its near type, and no other one. Conditions: see each theorem. -/
namespace Hm
open Go (IntKind)
set_option maxRecDepth 4000
theorem lkA_at {α : Type} : ∀ {ks : List Str} {xs : List α} {i : Nat} {k : Str},(ks.Pairwise fun a b => binA.bLess a b = true) → ks[i]? = some k → lkA ks xs k = xs[i]?
  | [],xs,i,k,_,h => by simp at h
  | s :: r,[],i,k,_,h => by simp [lkA]
  | s :: r,x :: xs,0,k,_,h => by
    simp at h; subst h; simp [lkA]
  | s :: r,x :: xs,i + 1,k,ha,h => by
    obtain ⟨h1,h2⟩ := List.pairwise_cons.1 ha
    have hr : r[i]? = some k := by simpa using h
    have hne : ¬ s = k := fun e => by
      have := h1 k (List.mem_of_getElem? hr)
      rw [e,bLess_irrefl] at this; cases this
    rw [lkA,if_neg hne,lkA_at h2 hr]
    simp
end Hm

/- Plain lemmas, split off. NORMX NORMY Conditions: none (definitions and plain lemmas). -/
namespace Hm
open Go (IntKind)
section
variable {T : Tab}
theorem lkA_mem {α : Type} : ∀ {ks : List Str} {xs : List α} {k : Str} {y : α},lkA ks xs k = some y → y ∈ xs
  | [],xs,k,y,h => by cases xs <;> simp [lkA] at h
  | a :: r,[],k,y,h => by simp [lkA] at h
  | a :: r,b :: xs,k,y,h => by
    rw [lkA] at h
    split at h
    · cases h; simp
    · exact List.mem_cons_of_mem _ (lkA_mem h)
end
end Hm

/- Plain lemmas, split off. NORMX NORMY Conditions: none (definitions and plain lemmas). -/
namespace Hm
open Go (IntKind)
section
variable {T : Tab}
theorem tformed_parts {t : Ty} (h : tformed t = true) : (∀ s ∈ t.nums,spanOk s = true) ∧ (∀ a ∈ t.arrays,tformed a.item = true) ∧ (∀ o ∈ t.objects,o.names.length = o.fields.length ∧ o.names.length = o.must.length ∧ tformed o.rest = true ∧ fieldsOk o.fields o.must = true) := by
  rw [tformed_eq] at h
  simp only [Bool.and_eq_true,spansOk,List.all_eq_true] at h
  obtain ⟨-,⟨-,h1⟩,⟨-,h2⟩,h3⟩ := h
  refine ⟨h1,fun a ha => ?_,fun o ho => ?_⟩
  · have := h2 a ha
    rw [arOk_eq] at this
    simp only [Bool.and_eq_true] at this
    exact this.2.1
  · have := h3 o ho
    rw [obOk_eq] at this
    simp only [Bool.and_eq_true,decide_eq_true_eq] at this
    exact ⟨this.1.1.1.1,this.1.1.1.2,this.1.2,this.2⟩
theorem fieldsOk_mem : ∀ {l : List Ty} {ms : List Bool},fieldsOk l ms = true → ∀ x ∈ l,tformed x = true
  | [],_,_,x,hx => by cases hx
  | y :: l,ms,h,x,hx => by
    simp only [fieldsOk,Bool.and_eq_true] at h
    rcases List.mem_cons.1 hx with rfl | hx
    · exact h.1.1
    · exact fieldsOk_mem h.2 x hx
theorem bounds_span {s : Sp} (h : spanOk s = true) (l1 : s.1.length ≤ 1073741824) (l2 : s.2.length ≤ 1073741824) : Bounds s := by
  simp only [spanOk,Bool.and_eq_true,boundOk,Bool.or_eq_true,beq_iff_eq] at h
  exact ⟨fun hn => h.1.1.resolve_left hn,fun hn => h.1.2.resolve_left hn,l1,l2⟩
theorem any_take_succ {α : Type} {p : α → Bool} {l : List α} {i : Nat} {x : α} (h : l[i]? = some x) : (l.take (i + 1)).any p = ((l.take i).any p || p x) := by
  rw [List.take_add_one,h,List.any_append]; simp
theorem any_true {α : Type} {p : α → Bool} {l : List α} {i : Nat} {x : α} (h : l[i]? = some x) (hp : p x = true) : l.any p = true :=
  List.any_eq_true.2 ⟨x,List.mem_of_getElem? h,hp⟩
end
end Hm

/- Plain lemmas, split off. Conditions: none (definitions and plain lemmas). -/
namespace Hm
open Go (IntKind)
section
variable {T : Tab}
end
end Hm

/- Comparisons part by part, and of lists. Conditions: none (definitions and plain lemmas). -/
namespace Hm
/-- A comparison that sets things in a row, up to what it does not look at. -/
structure Pre {α : Type} (P : α → Prop) (c : α → α → Int) : Prop where
  rng : ∀ a b,P a → P b → -1 ≤ c a b ∧ c a b ≤ 1
  anti : ∀ a b,P a → P b → c a b = - c b a
  trans : ∀ a b d,P a → P b → P d → c a b ≤ 0 → c b d ≤ 0 → c a d ≤ 0
def orI (x y : Int) : Int := if x = 0 then y else x
theorem orI0 (y : Int) : orI 0 y = y := rfl
theorem orI_ne {x y : Int} (h : x ≠ 0) : orI x y = x := by simp [orI,h]
section
variable {α β : Type} {P : α → Prop} {Q : β → Prop} {c c1 c2 : α → α → Int}
theorem Pre.refl (h : Pre P c) {a : α} (ha : P a) : c a a = 0 := by have := h.anti a a ha ha; omega
theorem Pre.eq0 (h : Pre P c) {a b d : α} (ha : P a) (hb : P b) (hd : P d) (h1 : c a b = 0) (h2 : c b d = 0) : c a d = 0 := by
  have k1 := h.anti a b ha hb
  have k2 := h.anti b d hb hd
  have k3 := h.anti a d ha hd
  have := h.trans a b d ha hb hd (by omega) (by omega)
  have := h.trans d b a hd hb ha (by omega) (by omega)
  omega
theorem Pre.lt (h : Pre P c) {a b d : α} (ha : P a) (hb : P b) (hd : P d) (h1 : c a b < 0) (h2 : c b d ≤ 0) : c a d < 0 := by
  have k1 := h.anti a b ha hb
  have k3 := h.anti a d ha hd
  have := h.trans a b d ha hb hd (by omega) (by omega)
  by_cases h0 : c a d = 0
  · have := h.trans b d a hb hd ha h2 (by omega); omega
  · omega
theorem Pre.lt' (h : Pre P c) {a b d : α} (ha : P a) (hb : P b) (hd : P d) (h1 : c a b ≤ 0) (h2 : c b d < 0) : c a d < 0 := by
  have k1 := h.anti b d hb hd
  have k3 := h.anti a d ha hd
  have := h.trans a b d ha hb hd (by omega) (by omega)
  by_cases h0 : c a d = 0
  · have := h.trans d a b hd ha hb (by omega) h1; omega
  · omega
theorem Pre.or_trans (h : Pre P c) {a b d : α} (ha : P a) (hb : P b) (hd : P d) {x y z : Int} (h1 : orI (c a b) x ≤ 0) (h2 : orI (c b d) y ≤ 0) (h3 : x ≤ 0 → y ≤ 0 → z ≤ 0) : orI (c a d) z ≤ 0 := by
  by_cases e1 : c a b = 0
  · rw [e1,orI0] at h1
    by_cases e2 : c b d = 0
    · rw [e2,orI0] at h2
      rw [h.eq0 ha hb hd e1 e2,orI0]; exact h3 h1 h2
    · rw [orI_ne e2] at h2
      have := h.lt' ha hb hd (by omega) (by omega : c b d < 0)
      rw [orI_ne (by omega)]; omega
  · rw [orI_ne e1] at h1
    have hbd : c b d ≤ 0 := by
      by_cases e2 : c b d = 0
      · omega
      · rw [orI_ne e2] at h2; exact h2
    have := h.lt ha hb hd (by omega : c a b < 0) hbd
    rw [orI_ne (by omega)]; omega
theorem Pre.or_anti (h : Pre P c) {a b : α} (ha : P a) (hb : P b) {x y : Int} (h1 : x = - y) : orI (c a b) x = - orI (c b a) y := by
  have := h.anti a b ha hb
  by_cases e : c a b = 0
  · have : c b a = 0 := by omega
    rw [e,this,orI0,orI0]; exact h1
  · rw [orI_ne e,orI_ne (by omega)]; exact this
theorem Pre.or_rng (h : Pre P c) {a b : α} (ha : P a) (hb : P b) {x : Int} (h1 : -1 ≤ x ∧ x ≤ 1) : -1 ≤ orI (c a b) x ∧ orI (c a b) x ≤ 1 := by
  unfold orI; split
  · exact h1
  · exact h.rng a b ha hb
theorem Pre.or (h1 : Pre P c1) (h2 : Pre P c2) : Pre P fun a b => orI (c1 a b) (c2 a b) where
  rng a b ha hb := h1.or_rng ha hb (h2.rng a b ha hb)
  anti a b ha hb := h1.or_anti ha hb (h2.anti a b ha hb)
  trans a b d ha hb hd k1 k2 := h1.or_trans ha hb hd k1 k2 (h2.trans a b d ha hb hd)
theorem Pre.mono {P' : α → Prop} (h : Pre P c) (hp : ∀ a,P' a → P a) : Pre P' c where
  rng a b ha hb := h.rng _ _ (hp a ha) (hp b hb)
  anti a b ha hb := h.anti _ _ (hp a ha) (hp b hb)
  trans a b d ha hb hd := h.trans _ _ _ (hp a ha) (hp b hb) (hp d hd)
theorem Pre.congr {c' : α → α → Int} (h : Pre P c) (e : ∀ a b,c' a b = c a b) : Pre P c' where
  rng a b ha hb := by rw [e]; exact h.rng a b ha hb
  anti a b ha hb := by rw [e,e]; exact h.anti a b ha hb
  trans a b d ha hb hd := by rw [e,e,e]; exact h.trans a b d ha hb hd
def lcmp (c : α → α → Int) : List α → List α → Int
  | [],[] => 0
  | [],_ :: _ => -1
  | _ :: _,[] => 1
  | a :: l,b :: m => orI (c a b) (lcmp c l m)
theorem Pre.list (h : Pre P c) : Pre (fun l : List α => ∀ x ∈ l,P x) (lcmp c) where
  rng := by
    intro l
    induction l with
    | nil => intro m _ _; cases m <;> simp [lcmp]
    | cons a l ih =>
      intro m hl hm
      cases m with
      | nil => simp [lcmp]
      | cons b m => exact h.or_rng (hl a (by simp)) (hm b (by simp)) (ih m (fun x hx => hl x (by simp [hx])) (fun x hx => hm x (by simp [hx])))
  anti := by
    intro l
    induction l with
    | nil => intro m _ _; cases m <;> simp [lcmp]
    | cons a l ih =>
      intro m hl hm
      cases m with
      | nil => simp [lcmp]
      | cons b m => exact h.or_anti (hl a (by simp)) (hm b (by simp)) (ih m (fun x hx => hl x (by simp [hx])) (fun x hx => hm x (by simp [hx])))
  trans := by
    intro l
    induction l with
    | nil => intro m n _ _ _ _ _; cases n <;> simp [lcmp]
    | cons a l ih =>
      intro m n hl hm hn h1 h2
      cases m with
      | nil => simp [lcmp] at h1
      | cons b m =>
        cases n with
        | nil => simp [lcmp] at h2
        | cons d n =>
          exact h.or_trans (hl a (by simp)) (hm b (by simp)) (hn d (by simp)) h1 h2 (ih m n (fun x hx => hl x (by simp [hx])) (fun x hx => hm x (by simp [hx])) (fun x hx => hn x (by simp [hx])))
end
end Hm

/- Which types lie in others, and which have nothing in common: plain laws. Conditions: none (definitions and plain lemmas). -/
namespace Hm
open Go (IntKind)
set_option maxRecDepth 4000
/-- An alternative's field of a name, and whether it must be there. -/
def fldO (o : Ob) (s : Str) : Ty := (lkA o.names o.fields s).getD o.rest
def mstO (o : Ob) (s : Str) : Bool := (lkA o.names o.must s).getD false
/-! ### Alternatives as what they say of each name -/
theorem lkA_some_mem {α : Type} : ∀ {ks : List Str} {xs : List α} {k : Str} {y : α},lkA ks xs k = some y → k ∈ ks
  | [],xs,k,y,h => by cases xs <;> simp [lkA] at h
  | a :: r,[],k,y,h => by simp [lkA] at h
  | a :: r,b :: xs,k,y,h => by
    rw [lkA] at h
    split at h
    · next e => simp [e]
    · exact List.mem_cons_of_mem _ (lkA_some_mem h)
theorem lkA_out {α : Type} {ks : List Str} {xs : List α} {k : Str} (h : k ∉ ks) : lkA ks xs k = none := by
  cases e : lkA ks xs k with
  | none => rfl
  | some y => exact absurd (lkA_some_mem e) h
theorem fldO_out {o : Ob} {s : Str} (h : s ∉ o.names) : fldO o s = o.rest := by rw [fldO,lkA_out h]; rfl
theorem mstO_out {o : Ob} {s : Str} (h : s ∉ o.names) : mstO o s = false := by rw [mstO,lkA_out h]; rfl
theorem fldO_mem (o : Ob) (s : Str) : fldO o s ∈ o.fields ∨ fldO o s = o.rest := by
  unfold fldO
  cases h : lkA o.names o.fields s with
  | none => exact .inr rfl
  | some x => exact .inl (lkA_mem h)
/-- A well shaped alternative. -/
structure ObOk (o : Ob) : Prop where
  l1 : o.names.length = o.fields.length
  l2 : o.names.length = o.must.length
  asc : o.names.Pairwise fun a b => binA.bLess a b = true
  rest : tformed o.rest = true
  flds : fieldsOk o.fields o.must = true
theorem ObOk.of {o : Ob} (h : obOk o = true) : ObOk o := by
  rw [obOk_eq] at h
  simp only [Bool.and_eq_true,decide_eq_true_eq] at h
  exact ⟨h.1.1.1.1,h.1.1.1.2,asc_of_rise h.1.1.2,h.1.2,h.2⟩
theorem ObOk.fld {o : Ob} (h : ObOk o) (s : Str) : tformed (fldO o s) = true := by
  rcases fldO_mem o s with hm | hm
  · exact fieldsOk_mem h.flds _ hm
  · rw [hm]; exact h.rest
theorem must_never : ∀ {ks : List Str} {fs : List Ty} {ms : List Bool} {s : Str} {t : Ty},ks.length = ms.length → fieldsOk fs ms = true → lkA ks ms s = some true → lkA ks fs s = some t → never t = false
  | [],fs,ms,s,t,_,_,h,_ => by cases ms <;> simp [lkA] at h
  | k :: ks,[],ms,s,t,_,_,_,h => by simp [lkA] at h
  | k :: ks,f :: fs,[],s,t,_,_,h,_ => by simp [lkA] at h
  | k :: ks,f :: fs,m :: ms,s,t,hl,hf,hm,ht => by
    simp only [fieldsOk,List.headD_cons,List.tail_cons,Bool.and_eq_true,Bool.not_eq_true',Bool.and_eq_false_iff] at hf
    rw [lkA] at hm ht
    split at hm
    · next e =>
      rw [if_pos e] at ht
      cases hm; cases ht
      rcases hf.1.2 with h | h
      · cases h
      · exact h
    · next e =>
      rw [if_neg e] at ht
      exact must_never (by simpa using hl) hf.2 hm ht
theorem lkA_isSome {α β : Type} : ∀ {ks : List Str} {xs : List α} {ys : List β} {s : Str},xs.length = ys.length → (lkA ks xs s).isSome = (lkA ks ys s).isSome
  | [],xs,ys,s,_ => by cases xs <;> cases ys <;> rfl
  | k :: ks,[],[],s,_ => rfl
  | k :: ks,[],y :: ys,s,h => by simp at h
  | k :: ks,x :: xs,[],s,h => by simp at h
  | k :: ks,x :: xs,y :: ys,s,h => by
    rw [lkA,lkA]
    split
    · rfl
    · exact lkA_isSome (by simpa using h)
theorem ObOk.must {o : Ob} (h : ObOk o) {s : Str} (hm : mstO o s = true) : never (fldO o s) = false := by
  have e := lkA_isSome (ks := o.names) (xs := o.fields) (ys := o.must) (s := s) (by have := h.l1; have := h.l2; omega)
  unfold mstO at hm
  unfold fldO
  cases h1 : lkA o.names o.must s with
  | none => rw [h1] at hm; cases hm
  | some m =>
    rw [h1] at hm e
    simp only [Option.getD_some] at hm
    subst hm
    cases h2 : lkA o.names o.fields s with
    | none => rw [h2] at e; cases e
    | some t => exact must_never h.l2 h.flds h1 h2
theorem tobj_ok {t : Ty} (h : tformed t = true) : ∀ o ∈ t.objects,ObOk o := by
  intro o ho
  rw [tformed_eq] at h
  simp only [Bool.and_eq_true,List.all_eq_true] at h
  exact ObOk.of (h.2.2.2 o ho)
/-- What an alternative asks of an object: for each name. -/
theorem inOb_iff {fs : List (Ty → Bool)} {ks : List Str} {o : Ob} (hk : ks.Pairwise fun a b => binA.bLess a b = true) (hl : ks.length = fs.length) (ho : ObOk o) :
    inObB fs ks o = true ↔ ∀ s,(∀ g,lkA ks fs s = some g → g (fldO o s) = true) ∧ (lkA ks fs s = none → mstO o s = false) := by
  rw [inObB,Bool.and_eq_true,List.all_eq_true,List.all_eq_true]
  have l1 := ho.l1
  have l2 := ho.l2
  constructor
  · rintro ⟨h1,h2⟩ s
    by_cases hs : s ∈ o.names
    · obtain ⟨i,hi⟩ := List.mem_iff_getElem?.1 hs
      have hil : i < o.names.length := (List.getElem?_eq_some_iff.1 hi).1
      have q := h1 i (List.mem_range.2 hil)
      have e1 : fldO o s = o.fields.getD i neverT := by
        rw [fldO,lkA_at ho.asc hi,List.getD]
        rw [List.getElem?_eq_getElem (by omega)]; rfl
      have e2 : mstO o s = o.must.getD i false := by
        rw [mstO,lkA_at ho.asc hi,List.getD]
      rw [inObN,List.getD,hi,Option.getD_some] at q
      rw [e1,e2]
      constructor
      · intro g hg; rw [hg] at q; exact q
      · intro hg; rw [hg] at q; simpa using q
    · rw [fldO_out hs,mstO_out hs]
      refine ⟨fun g hg => ?_,fun _ => rfl⟩
      obtain ⟨j,hj⟩ := List.mem_iff_getElem?.1 (lkA_some_mem hg)
      have hjl : j < ks.length := (List.getElem?_eq_some_iff.1 hj).1
      have q := h2 j (List.mem_range.2 hjl)
      rw [lkA_at hk hj] at hg
      rw [inObK,List.getD,hj,Option.getD_some,List.getD,hg,Option.getD_some,Bool.or_eq_true,List.contains_iff_mem] at q
      exact q.resolve_left hs
  · intro h
    constructor
    · intro i hi
      have hil := List.mem_range.1 hi
      have hi : o.names[i]? = some o.names[i] := List.getElem?_eq_getElem hil
      have q := h o.names[i]
      have e1 : fldO o o.names[i] = o.fields.getD i neverT := by
        rw [fldO,lkA_at ho.asc hi,List.getD]
        rw [List.getElem?_eq_getElem (by omega)]; rfl
      have e2 : mstO o o.names[i] = o.must.getD i false := by
        rw [mstO,lkA_at ho.asc hi,List.getD]
      rw [e1,e2] at q
      rw [inObN,List.getD,hi,Option.getD_some]
      cases hg : lkA ks fs o.names[i] with
      | none => simp only [q.2 hg,Bool.not_false]
      | some g => exact q.1 g hg
    · intro j hj
      have hjl := List.mem_range.1 hj
      have hj : ks[j]? = some ks[j] := List.getElem?_eq_getElem hjl
      have hf : fs[j]? = some (fs[j]'(by omega)) := List.getElem?_eq_getElem (by omega)
      rw [inObK,List.getD,hj,Option.getD_some,List.getD,hf,Option.getD_some,Bool.or_eq_true,List.contains_iff_mem]
      by_cases hs : ks[j] ∈ o.names
      · exact .inl hs
      · right
        have q := (h ks[j]).1 (fs[j]'(by omega)) (by rw [lkA_at hk hj,hf])
        rw [fldO_out hs] at q
        exact q
end Hm

/- Types of kinds, kinds of types, in the reference. Conditions: see each theorem. NORMX NORMY -/
namespace Hm
open Go (IntKind)
set_option maxHeartbeats 40000000
set_option maxRecDepth 4000
/-- The number of a list of kinds. -/
def kst (acc : Int) (i : Nat) (b : Bool) : Int := if b then IntKind.wrap .u8 ((BitVec.ofInt (IntKind.bits .u8) acc ||| BitVec.ofInt (IntKind.bits .u8) (IntKind.wrap .u8 (1 * 2 ^ (min (Int.toNat (i : Int)) (IntKind.bits .u8))))).toNat : Int) else acc
def kfl : List Bool → Nat → Int → Int
  | [],_,acc => acc
  | b :: r,i,acc => kfl r (i + 1) (kst acc i b)
theorem kfl_snoc (b : Bool) : ∀ (l : List Bool) (i : Nat) (acc : Int),kfl (l ++ [b]) i acc = kst (kfl l i acc) (i + l.length) b
  | [],i,acc => rfl
  | c :: r,i,acc => by simp only [List.cons_append,kfl,kfl_snoc b r,List.length_cons]; congr 1; omega
def tKinds (t : Ty) : List Bool := [t.nul,t.fls,t.tru,decide ((t.nums.length : Int) > 0),t.anyText || decide ((t.texts.length : Int) > 0),decide ((t.arrays.length : Int) > 0),decide ((t.objects.length : Int) > 0)]
def tK (t : Ty) : Int := if t.all then 127 else kfl (tKinds t) 0 0
theorem kinds_ret {T : Tab} (h : Fn T F.shape_Kinds shape_Kinds.fn) (t : Ty) : Ret T F.shape_Kinds [.val t.av] (one (.int .u8 (tK t))) := by
  have key : ∀ l : List Bool,l.length = 7 → W T (.loop [3,34,35] shape_Kinds.l1) ⟨lstE [(3,.av (.int .u8 0)),(34,.av (.agg (l.map AV.bool))),(35,.av (.int .i64 0))],lstB [(3,none),(34,none),(35,none)]⟩
      (Qblk 0 (Qseq T (.seq (.reg shape_Kinds.r10 [2]) .ret) (Qend shape_Kinds.fn [.val t.av] (one (.int .u8 (kfl l 0 0)))))) := by
    intro l hl
    refine W.list l (fun i (_ : Unit) => ⟨lstE [(3,.av (.int .u8 (kfl (l.take i) 0 0))),(34,.av (.agg (l.map AV.bool))),(35,.av (.int .i64 (i : Int)))],lstB [(3,none),(34,none),(35,none)]⟩) (fun _ _ => True) () rfl trivial ?_ ?_
    · intro i b u hx hi _
      have hx' : (l.map AV.bool)[i]? = some (AV.bool b) := by rw [List.getElem?_map,hx]; rfl
      have e : kfl (l.take (i + 1)) 0 0 = kst (kfl (l.take i) 0 0) i b := by
        rw [List.take_add_one,hx,show (some b).toList = [b] from rfl,kfl_snoc,List.length_take,Nat.min_eq_left (by omega),Nat.zero_add]
      repeat' (first | refine zA ?_ | ((apply W1.idxA1; (iterate 3 exact rfl); omega; omega; exact hx')) | refine zB ?_ | (refine zC ?_ ?_ <;> intro hc; all_goals first | (cases hc; done) | ((try simp only [hc]); (try simp only [bm] at hc))) | refine zE ?_ | refine zNV ?_ | fail)
      all_goals refine ⟨(),trivial,?_⟩
      all_goals rw [e]
      all_goals simp only [kst,if_true,if_false,Bool.false_eq_true, *]
      all_goals first | rfl | trace_state
    · intro u _
      repeat' (first | refine zA ?_ | refine zB ?_ | (refine zC ?_ ?_ <;> intro hc; all_goals first | (cases hc; done) | ((try simp only [hc]); (try simp only [bm] at hc))) | refine zE ?_ | refine zNV ?_ | fail)
      rw [List.take_length]
      exact Qend.num rfl rfl rfl
  refine Ret.mk h rfl ?_
  have hk := key (tKinds t) rfl
  clear key
  rw [Ty.av_eq] at *
  have ht : tK t = if t.all then 127 else kfl (tKinds t) 0 0 := rfl
  by_cases ha : t.all = true
  · rw [if_pos ha] at ht
    rw [ht]
    repeat' (first | refine zA ?_ | refine zB ?_ | (refine zC ?_ ?_ <;> intro hc; all_goals first | (cases hc; done) | ((try simp only [hc]); (try simp only [bm] at hc))) | refine zE ?_ | refine zNV ?_ | fail)
    all_goals first | exact Qend.num rfl rfl rfl | (exfalso; simp_all; done)
  · rw [if_neg ha] at ht
    rw [ht]
    rw [Bool.not_eq_true] at ha
    repeat' (first | refine zA ?_ | ((apply W1.buildC; exact rfl; exact rfl; (simp only [fillC,splice,cellsOf,mkV,resTV,tvOf,one,sealRow,sealRows,Cell.shut,List.map_cons,List.map_nil,List.length_cons,List.length_nil,Nat.reduceAdd,Nat.reduceLeDiff,↓reduceIte,Bool.false_eq_true,List.take_succ_cons,List.take_zero,List.drop_succ_cons,List.drop_zero,List.nil_append,List.cons_append]; rfl))) | (exact hk) | refine zB ?_ | (refine zC ?_ ?_ <;> intro hc; all_goals first | (cases hc; done) | ((try simp only [hc]); (try simp only [bm] at hc))) | refine zE ?_ | refine zNV ?_ | fail)
    all_goals have hl : (tKinds t).map AV.bool = [.bool t.nul,.bool t.fls,.bool t.tru,.bool (decide (((sprow t.nums).length : Int) > 0)),.bool (t.anyText || decide ((t.texts.length : Int) > 0)),.bool (decide ((t.arrays.length : Int) > 0)),.bool (decide ((t.objects.length : Int) > 0))] := (by simp only [tKinds,sprow_len,List.map_cons,List.map_nil])
    all_goals rw [hl,hc] at hk
    all_goals exact hk
end Hm

/- Why a value isn't of a type: plain laws. Conditions: none (definitions and plain lemmas). -/
namespace Hm
open Go (IntKind)
set_option maxRecDepth 4000
/-- Why, from the outside in: what each level tells, and the step to what lies inside. -/
abbrev Miss := List (Int × V)
def numV (s : Str) : V := .mk 3 s [] [] []
def txtV (s : Str) : V := .mk 4 [] s [] []
def lkItems (t : Ty) : Nat → List (Ty → Miss) → Miss
  | _,[] => []
  | i,f :: fs => if (f t).isEmpty then lkItems t (i + 1) fs else (0,numV (itoa (i : Int))) :: f t
def lkArr (fs : List (Ty → Miss)) (a : Ar) : Miss :=
  if (fs.length : Int) < a.min then [(4,zeroV)] else if a.max ≥ 0 ∧ (fs.length : Int) > a.max then [(5,zeroV)] else lkItems a.item 0 fs
def lkNames (o : Ob) (ks : List Str) : List Str → Miss
  | [] => []
  | n :: ns => if mstO o n && !ks.contains n then [(6,txtV n)] else lkNames o ks ns
def lkKeys (o : Ob) : List Str → List (Ty → Miss) → Miss
  | k :: ks,f :: fs => if (f (fldO o k)).isEmpty then lkKeys o ks fs else (0,txtV k) :: f (fldO o k)
  | _,_ => []
def lkFields (fs : List (Ty → Miss)) (ks : List Str) (o : Ob) : Miss :=
  if (lkNames o ks o.names).isEmpty then lkKeys o ks fs else lkNames o ks o.names
def lkObjs (fs : List (Ty → Miss)) (ks : List Str) : List Ob → Miss
  | [o] => lkFields fs ks o
  | l => if l.any (fun o => (lkFields fs ks o).isEmpty) then [] else [(7,zeroV)]
def lookBody (k : Int) (n t : Str) (fs : List (Ty → Miss)) (ks : List Str) (ty : Ty) : Miss :=
  if ty.all then [] else if !kb (tK ty) k then [(1,zeroV)] else
    if k = 3 then (match ty.nums with | [] => [] | s :: _ => if inSpanB n s then [] else [(2,zeroV)]) else
    if k = 4 then (if ty.anyText || ty.texts.contains t then [] else [(3,zeroV)]) else
    if k = 5 then (match ty.arrays with | [] => [] | a :: _ => lkArr fs a) else
    if k = 6 then lkObjs fs ks ty.objects else []
mutual
def lookM : V → Ty → Miss
  | .mk k n t is ks => lookBody k n t (lookFs is) ks
def lookFs : List V → List (Ty → Miss)
  | [] => []
  | v :: r => lookM v :: lookFs r
end
theorem lookFs_eq (l : List V) : lookFs l = l.map lookM := by
  induction l with
  | nil => rfl
  | cons x l ih => simp only [lookFs,List.map_cons,ih]
theorem lookM_eq (v : V) : lookM v = lookBody v.kind v.num v.text (v.items.map lookM) v.keys := by
  cases v with
  | mk k n t is ks => simp only [lookM,lookFs_eq,V.kind,V.num,V.text,V.items,V.keys]
theorem kfl_kb : ∀ b0 b1 b2 b3 b4 b5 b6 : Bool,(kb (kfl [b0,b1,b2,b3,b4,b5,b6] 0 0) 0 = b0) ∧ (kb (kfl [b0,b1,b2,b3,b4,b5,b6] 0 0) 1 = b1) ∧ (kb (kfl [b0,b1,b2,b3,b4,b5,b6] 0 0) 2 = b2) ∧ (kb (kfl [b0,b1,b2,b3,b4,b5,b6] 0 0) 3 = b3) ∧
    (kb (kfl [b0,b1,b2,b3,b4,b5,b6] 0 0) 4 = b4) ∧ (kb (kfl [b0,b1,b2,b3,b4,b5,b6] 0 0) 5 = b5) ∧ (kb (kfl [b0,b1,b2,b3,b4,b5,b6] 0 0) 6 = b6) := by decide
theorem pos_len {α : Type} (l : List α) : decide ((l.length : Int) > 0) = !l.isEmpty := by cases l <;> simp <;> omega
theorem lkItems_nil {t : Ty} : ∀ {fs : List (Ty → Miss)} {i : Nat},(lkItems t i fs).isEmpty = fs.all fun f => (f t).isEmpty
  | [],i => rfl
  | f :: fs,i => by
    rw [lkItems,List.all_cons]
    cases h : (f t).isEmpty with
    | true => rw [if_pos rfl,Bool.true_and]; exact lkItems_nil
    | false => rw [if_neg (by simp),Bool.false_and]; rfl
theorem lkNames_nil {o : Ob} {ks : List Str} : ∀ {ns : List Str},(lkNames o ks ns).isEmpty = ns.all fun n => !(mstO o n && !ks.contains n)
  | [] => rfl
  | n :: ns => by
    rw [lkNames,List.all_cons]
    cases h : mstO o n && !ks.contains n with
    | false => rw [if_neg (by simp),Bool.not_false,Bool.true_and]; exact lkNames_nil
    | true => rw [if_pos rfl,Bool.not_true,Bool.false_and]; rfl
theorem lkKeys_nil {o : Ob} : ∀ {ks : List Str} {fs : List (Ty → Miss)},ks.length = fs.length → ((lkKeys o ks fs).isEmpty = true ↔ ∀ (i : Nat) (k : Str) (f : Ty → Miss),ks[i]? = some k → fs[i]? = some f → (f (fldO o k)).isEmpty = true)
  | [],[],_ => by simp [lkKeys]
  | [],f :: fs,h => by simp at h
  | k :: ks,[],h => by simp at h
  | k :: ks,f :: fs,h => by
    rw [lkKeys]
    have ih := lkKeys_nil (o := o) (ks := ks) (fs := fs) (by simpa using h)
    constructor
    · intro he i k' f' hk hf
      split at he
      · rename_i hf0
        cases i with
        | zero => simp only [List.getElem?_cons_zero,Option.some.injEq] at hk hf; subst hk; subst hf; exact hf0
        | succ i => exact ih.1 he i k' f' (by simpa using hk) (by simpa using hf)
      · cases he
    · intro hall
      rw [if_pos (hall 0 k f rfl rfl)]
      exact ih.2 fun i k' f' hk hf => hall (i + 1) k' f' (by simpa using hk) (by simpa using hf)
theorem lkA_get {α : Type} : ∀ {ks : List Str} {xs : List α} {k : Str} {y : α},lkA ks xs k = some y → ∃ i : Nat,ks[i]? = some k ∧ xs[i]? = some y
  | [],xs,k,y,h => by cases xs <;> simp [lkA] at h
  | a :: r,[],k,y,h => by simp [lkA] at h
  | a :: r,b :: xs,k,y,h => by
    rw [lkA] at h
    split at h
    · next e => cases h; exact ⟨0,by simp [e],rfl⟩
    · obtain ⟨i,h1,h2⟩ := lkA_get h
      exact ⟨i + 1,by simpa using h1,by simpa using h2⟩
/-- An object of one alternative: nothing is told just if it is of it. -/
theorem lkFields_nil {is : List V} {ks : List Str} {o : Ob} (hk : ks.Pairwise fun a b => binA.bLess a b = true) (hl : ks.length = is.length) (ho : ObOk o)
    (ih : ∀ x ∈ is,∀ u : Ty,tformed u = true → (lookM x u).isEmpty = inT x u) : (lkFields (is.map lookM) ks o).isEmpty = inObB (is.map inT) ks o := by
  rw [Bool.eq_iff_iff,inOb_iff hk (by rw [List.length_map]; exact hl) ho,lkFields]
  have hK := lkKeys_nil (o := o) (ks := ks) (fs := is.map lookM) (by rw [List.length_map]; exact hl)
  have hN : (lkNames o ks o.names).isEmpty = true ↔ ∀ s,mstO o s = true → s ∈ ks := by
    rw [lkNames_nil,List.all_eq_true]
    constructor
    · intro h s hs
      by_cases hm : s ∈ o.names
      · have := h s hm
        simpa [hs] using this
      · rw [mstO_out hm] at hs; cases hs
    · intro h s _
      cases hs : mstO o s with
      | false => rfl
      | true => simp [h s hs]
  constructor
  · intro h s
    split at h
    · rename_i h1
      refine ⟨fun g hg => ?_,fun hn => ?_⟩
      · obtain ⟨i,e1,e2⟩ := lkA_get hg
        rw [List.getElem?_map,Option.map_eq_some_iff] at e2
        obtain ⟨x,e3,rfl⟩ := e2
        have := (hK.1 h) i s (lookM x) e1 (by rw [List.getElem?_map,e3]; rfl)
        rw [← ih x (List.mem_of_getElem? e3) _ (ho.fld s)]; exact this
      · cases hs : mstO o s with
        | false => rfl
        | true =>
          have hm := hN.1 h1 s hs
          obtain ⟨i,hi⟩ := List.mem_iff_getElem?.1 hm
          have := lkA_at (xs := is.map inT) hk hi
          rw [hn] at this
          have hlt := (List.getElem?_eq_some_iff.1 hi).1
          rw [List.getElem?_eq_getElem (by rw [List.length_map]; omega)] at this
          cases this
    · rename_i h1; exact absurd h h1
  · intro h
    have h1 : (lkNames o ks o.names).isEmpty = true := hN.2 fun s hs => by
      by_cases hm : s ∈ ks
      · exact hm
      · have := (h s).2 (lkA_out hm)
        rw [hs] at this; cases this
    rw [if_pos h1,hK]
    intro i k f e1 e2
    rw [List.getElem?_map,Option.map_eq_some_iff] at e2
    obtain ⟨x,e3,rfl⟩ := e2
    rw [ih x (List.mem_of_getElem? e3) _ (ho.fld k)]
    exact (h k).1 (inT x) (by rw [lkA_at hk e1,List.getElem?_map,e3]; rfl)
theorem any_cong {α : Type} {p q : α → Bool} : ∀ {l : List α},(∀ x ∈ l,p x = q x) → l.any p = l.any q
  | [],_ => rfl
  | x :: l,h => by rw [List.any_cons,List.any_cons,h x (by simp),any_cong fun y hy => h y (by simp [hy])]
theorem lkObjs_nil {fs : List (Ty → Miss)} {ks : List Str} : ∀ {l : List Ob},(lkObjs fs ks l).isEmpty = l.any fun o => (lkFields fs ks o).isEmpty
  | [] => rfl
  | [o] => by simp [lkObjs]
  | o :: p :: l => by
    rw [lkObjs]
    · split
      · rename_i h; rw [h]; rfl
      · rename_i h; rw [show (List.any _ _) = false from by simpa using h]; rfl
    · intro q h; cases h
/-- **Nothing is told just if the value is of the type.** -/
theorem lookM_nil : ∀ v : V,formed v = true → ∀ t : Ty,tformed t = true → (lookM v t).isEmpty = inT v t := by
  intro v
  induction v using V.ind with
  | h v ih =>
  intro hf t ht
  have hfi := formed_inv hf
  have ih' : ∀ x ∈ v.items,∀ u : Ty,tformed u = true → (lookM x u).isEmpty = inT x u := fun x hx u hu => ih x hx (hfi.2.2.2.2.2.2.2.2 x hx) u hu
  obtain ⟨p1,p2,p3⟩ := tformed_parts ht
  rw [lookM_eq,inT_eq]
  unfold lookBody inBody
  cases hA : t.all
  rotate_left
  · rfl
  simp only [Bool.false_eq_true,if_false,Bool.false_or]
  have hK : tK t = kfl (tKinds t) 0 0 := by rw [tK,hA]; rfl
  rw [hK,tKinds]
  obtain ⟨k0,k1,k2,k3,k4,k5,k6⟩ := kfl_kb t.nul t.fls t.tru (decide ((t.nums.length : Int) > 0)) (t.anyText || decide ((t.texts.length : Int) > 0)) (decide ((t.arrays.length : Int) > 0)) (decide ((t.objects.length : Int) > 0))
  rcases kinds7 hf with (hk | hk | hk) | hk | hk | hk | hk
  · rw [hk,k0]; cases t.nul <;> rfl
  · rw [hk,k1]; cases t.fls <;> rfl
  · rw [hk,k2]; cases t.tru <;> rfl
  · rw [hk,k3,pos_len]
    cases t.nums with
    | nil => rfl
    | cons s r => show (if inSpanB v.num s = true then ([] : Miss) else _).isEmpty = inSpanB v.num s
                  cases inSpanB v.num s <;> rfl
  · rw [hk,k4,pos_len]
    cases t.anyText with
    | true => rfl
    | false =>
      cases h : t.texts with
      | nil => rfl
      | cons s r =>
        show (if (false || (s :: r).contains v.text) = true then ([] : Miss) else _).isEmpty = (false || (s :: r).contains v.text)
        cases (false || (s :: r).contains v.text) <;> rfl
  · rw [hk,k5,pos_len]
    cases h : t.arrays with
    | nil => rfl
    | cons a r =>
      show (lkArr (v.items.map lookM) a).isEmpty = inArB (v.items.map inT) a
      have hit : ∀ x ∈ v.items,(lookM x a.item).isEmpty = inT x a.item := fun x hx => ih' x hx _ (p2 a (by rw [h]; simp))
      rw [lkArr,inArB,List.length_map,List.length_map]
      split
      · rename_i h1; rw [show decide ((v.items.length : Int) < a.min) = true from decide_eq_true h1]; rfl
      · rename_i h1
        rw [show decide ((v.items.length : Int) < a.min) = false from decide_eq_false h1,Bool.false_or]
        split
        · rename_i h2; rw [decide_eq_true h2.1,decide_eq_true h2.2]; rfl
        · rename_i h2
          rw [show (decide (a.max ≥ 0) && decide ((v.items.length : Int) > a.max)) = false from by
            rw [Bool.and_eq_false_iff,decide_eq_false_iff_not,decide_eq_false_iff_not]; omega,Bool.not_false,Bool.true_and,lkItems_nil,List.all_map,List.all_map]
          rw [Bool.eq_iff_iff,List.all_eq_true,List.all_eq_true]
          exact ⟨fun q x hx => by have := q x hx; simp only [Function.comp] at this ⊢; rw [← hit x hx]; exact this,fun q x hx => by have := q x hx; simp only [Function.comp] at this ⊢; rw [hit x hx]; exact this⟩
  · rw [hk,k6,pos_len]
    have hl := (hfi.2.2.2.2.2.2.2.1 hk).1
    have hr := asc_of_rise (hfi.2.2.2.2.2.2.2.1 hk).2
    cases h : t.objects with
    | nil => rfl
    | cons o r =>
      show (lkObjs (v.items.map lookM) v.keys (o :: r)).isEmpty = (o :: r).any (inObB (v.items.map inT) v.keys)
      rw [lkObjs_nil]
      refine any_cong fun q hq => ?_
      exact lkFields_nil hr hl (tobj_ok ht q (by rw [h]; exact hq)) ih'
end Hm
