/- What arguments of the law are, as trees. Conditions: see each theorem. -/
import Derived.Test.YtfbhbfganoanfaaDoorHD
import Derived.Test.YtfbhbfganoanfaaDoorVObjs
import Derived.Laws.CopyRow
import Derived.Laws.Externs
import Derived.Lib.AppendZerosOnto
import Derived.WalkKit
import Derived.Laws.IdiomCopy
import Derived.Deep.RegionLaw
import Derived.Lib.AppendZeros
set_option linter.unusedVariables false
set_option linter.unusedSimpArgs false
/- Values of the program that have the type of values are trees. Conditions: see each theorem. -/
namespace Hm
open Go (IntKind Lit)
theorem srow_of {σ : TS} {ts : Nat} (h3 : σ.td ts = some .str) : ∀ (rows : List (List AV)), (∀ r ∈ rows, Has σ ts r) → ∃ ks, rows = srow ks ∧ bkRows rows = sbk ks
  | [], _ => ⟨[], rfl, rfl⟩
  | r :: rows, h => by
    obtain ⟨s, rfl⟩ := (h r (by simp)).str_inv h3
    obtain ⟨ks, rfl, hb⟩ := srow_of h3 rows (fun r hr => h r (by simp [hr]))
    exact ⟨s :: ks, rfl, by simp only [bkRows, bkRow, bkA, sbk, hb, Nat.add_zero]⟩
theorem vrows_of {rows : List (List AV)} (h : ∀ r ∈ rows, ∃ v : V, r = v.row ∧ bkRow r = v.bk) : ∃ l : List V, rows = l.map V.row ∧ bkRows rows = V.bks l := by
  induction rows with
  | nil => exact ⟨[], rfl, rfl⟩
  | cons r rows ih =>
    obtain ⟨v, rfl, hb⟩ := h r (by simp)
    obtain ⟨l, rfl, hl⟩ := ih (fun r hr => h r (by simp [hr]))
    exact ⟨v :: l, rfl, by simp only [bkRows, V.bks, hb, hl]⟩
theorem bkRow_mem {r : List AV} {rows : List (List AV)} (h : r ∈ rows) : bkRow r ≤ bkRows rows := by
  induction rows with
  | nil => simp at h
  | cons x rows ih =>
    simp only [bkRows]
    rcases List.mem_cons.1 h with rfl | h
    · omega
    · have := ih h; omega
theorem V.of_row {σ : TS} {tv ti ts tvs tss : Nat} (h1 : σ.td tv = some (.struct [ti, ts, ts, tvs, tss])) (h2 : σ.td ti = some (.int .i64)) (h3 : σ.td ts = some .str) (h4 : σ.td tvs = some (.slice tv)) (h5 : σ.td tss = some (.slice ts)) (s1 : σ.sz tv = 5) (s2 : σ.sz ts = 1) :
    ∀ (cs : List AV), Has σ tv cs → ∃ v : V, cs = v.row ∧ bkRow cs = v.bk := by
  have key : ∀ n (cs : List AV), bkRow cs < n → Has σ tv cs → ∃ v : V, cs = v.row ∧ bkRow cs = v.bk := by
    intro n
    induction n with
    | zero => intro cs h; omega
    | succ n ih =>
      intro cs hn h
      obtain ⟨c1, r1, rfl, a1, hc⟩ := (h.struct_inv h1).inv
      obtain ⟨c2, r2, rfl, a2, hc⟩ := hc.inv
      obtain ⟨c3, r3, rfl, a3, hc⟩ := hc.inv
      obtain ⟨c4, r4, rfl, a4, hc⟩ := hc.inv
      obtain ⟨c5, r5, rfl, a5, hc⟩ := hc.inv
      obtain rfl := hc.nil_inv
      obtain ⟨k, rfl, _⟩ := a1.int_inv h2
      obtain ⟨n2, rfl⟩ := a2.str_inv h3
      obtain ⟨n3, rfl⟩ := a3.str_inv h3
      obtain ⟨w4, rfl, b4⟩ := a4.slice_inv h4
      obtain ⟨w5, rfl, b5⟩ := a5.slice_inv h5
      rw [s1, s2] at *
      simp only [bkRow_append, bkRow, bkA] at hn
      obtain ⟨l, rfl, hl⟩ := vrows_of (rows := w4) (fun r hr => ih r (by have := bkRow_mem hr; omega) (b4 r hr))
      obtain ⟨ks, rfl, hk⟩ := srow_of h3 w5 b5
      refine ⟨.mk k n2 n3 l ks, ?_, ?_⟩
      · simp only [V.row, V.rows_eq]; first | done | rfl
      · simp only [bkRow_append, bkRow, bkA, V.bk, hl, hk]; first | done | omega
  intro cs h
  exact key _ cs (Nat.lt_succ_self _) h
theorem V.of_arg {σ : TS} {tv ti ts tvs tss : Nat} (h1 : σ.td tv = some (.struct [ti, ts, ts, tvs, tss])) (h2 : σ.td ti = some (.int .i64)) (h3 : σ.td ts = some .str) (h4 : σ.td tvs = some (.slice tv)) (h5 : σ.td tss = some (.slice ts)) (s1 : σ.sz tv = 5) (s2 : σ.sz ts = 1)
    {a : AV} (h : HasA σ tv a) : ∃ v : V, a = v.av ∧ bkA a = v.bk := by
  obtain ⟨cs, rfl, hc⟩ := h.struct_inv h1
  obtain ⟨v, rfl, hb⟩ := V.of_row h1 h2 h3 h4 h5 s1 s2 cs hc
  exact ⟨v, rfl, by simpa only [bkA] using hb⟩
end Hm

/- Calls on objects, as trees. Conditions: see each theorem. -/
namespace Hm
open Go (IntKind Lit)
theorem HasA.slice_inv {σ : TS} {i e : Nat} {v : AV} (h : HasA σ i v) (hi : σ.td i = some (.slice e)) : ∃ rows, v = .lst (σ.sz e) rows ∧ ∀ r ∈ rows, Has σ e r := by
  cases h with
  | agg h _ => rw [hi] at h; cases h
  | one _ hc =>
    obtain ⟨rows, e1, e2⟩ := hc.slice_inv hi
    exact ⟨rows, by simpa using e1, e2⟩
theorem op_of_row {σ : TS} {tp tv ti ts tvs tss : Nat} (h0 : σ.td tp = some (.struct [ti, tv, tv, ts, tss, tvs])) (h1 : σ.td tv = some (.struct [ti, ts, ts, tvs, tss])) (h2 : σ.td ti = some (.int .i64)) (h3 : σ.td ts = some .str) (h4 : σ.td tvs = some (.slice tv)) (h5 : σ.td tss = some (.slice ts))
    (s1 : σ.sz tv = 5) (s2 : σ.sz ts = 1) {cs : List AV} (h : Has σ tp cs) : ∃ o : OpV, cs = o.row ∧ o.bk ≤ bkRow cs := by
  obtain ⟨c1, r1, rfl, a1, hc⟩ := (h.struct_inv h0).inv
  obtain ⟨c2, r2, rfl, a2, hc⟩ := hc.inv
  obtain ⟨c3, r3, rfl, a3, hc⟩ := hc.inv
  obtain ⟨c4, r4, rfl, a4, hc⟩ := hc.inv
  obtain ⟨c5, r5, rfl, a5, hc⟩ := hc.inv
  obtain ⟨c6, r6, rfl, a6, hc⟩ := hc.inv
  obtain rfl := hc.nil_inv
  obtain ⟨k, rfl, _⟩ := a1.int_inv h2
  obtain ⟨v, rfl, hv⟩ := V.of_row h1 h2 h3 h4 h5 s1 s2 c2 a2
  obtain ⟨w, rfl, hw⟩ := V.of_row h1 h2 h3 h4 h5 s1 s2 c3 a3
  obtain ⟨key, rfl⟩ := a4.str_inv h3
  obtain ⟨w5, rfl, b5⟩ := a5.slice_inv h5
  obtain ⟨w6, rfl, b6⟩ := a6.slice_inv h4
  obtain ⟨ks, rfl, hk⟩ := srow_of h3 w5 b5
  obtain ⟨l, rfl, hl⟩ := vrows_of (rows := w6) (fun r hr => V.of_row h1 h2 h3 h4 h5 s1 s2 r (b6 r hr))
  rw [s1, s2]
  refine ⟨⟨k, v, w, key, ks, l⟩, rfl, ?_⟩
  simp only [bkRow_append, bkRow, bkA, OpV.bk, hv, hw, hk, hl]
  omega
theorem ops_of_rows {rows : List (List AV)} (h : ∀ r ∈ rows, ∃ o : OpV, r = o.row ∧ o.bk ≤ bkRow r) : ∃ l : List OpV, rows = l.map OpV.row ∧ opBks l ≤ bkRows rows := by
  induction rows with
  | nil => exact ⟨[], rfl, Nat.le_refl _⟩
  | cons r rows ih =>
    obtain ⟨v, rfl, hb⟩ := h r (by simp)
    obtain ⟨l, rfl, hl⟩ := ih (fun r hr => h r (by simp [hr]))
    exact ⟨v :: l, rfl, by simp only [bkRows, opBks]; omega⟩
theorem script_of_arg {σ : TS} {tl tp tv ti ts tvs tss : Nat} (hl : σ.td tl = some (.slice tp)) (h0 : σ.td tp = some (.struct [ti, tv, tv, ts, tss, tvs])) (h1 : σ.td tv = some (.struct [ti, ts, ts, tvs, tss])) (h2 : σ.td ti = some (.int .i64)) (h3 : σ.td ts = some .str) (h4 : σ.td tvs = some (.slice tv)) (h5 : σ.td tss = some (.slice ts))
    (s0 : σ.sz tp = 14) (s1 : σ.sz tv = 5) (s2 : σ.sz ts = 1) {a : AV} (h : HasA σ tl a) : ∃ l : List OpV, a = .lst 14 (l.map OpV.row) ∧ opBks l ≤ bkA a := by
  obtain ⟨rows, rfl, hr⟩ := h.slice_inv hl
  obtain ⟨l, rfl, hb⟩ := ops_of_rows (rows := rows) fun r hm => op_of_row h0 h1 h2 h3 h4 h5 s1 s2 (hr r hm)
  rw [s0]
  exact ⟨l, rfl, by simp only [bkA]; omega⟩
end Hm

/- What slices.Insert of one element leaves in memory. Conditions: see each theorem. -/
namespace Hm
open Go
/-- A row with cells stored at a place. -/
def putAt (L : List Value) (o : Nat) (new : List Value) : List Value := L.take o ++ new ++ L.drop (o + new.length)
theorem putAt_len {L new : List Value} {o : Nat} (h : o + new.length ≤ L.length) : (putAt L o new).length = L.length := by
  simp only [putAt, List.length_append, List.length_take, List.length_drop]; omega
theorem putAt_shift {A M R new : List Value} {p k : Nat} (hp : A.length = p) (hk : new.length = k) (hR : k ≤ R.length) :
    putAt (putAt (A ++ (M ++ R)) (p + k) M) p new = A ++ (new ++ (M ++ R.drop k)) := by
  subst hp; subst hk
  have e1 : ((A ++ (M ++ R)).take (A.length + new.length)).length = A.length + new.length := by
    rw [List.length_take]; simp only [List.length_append]; omega
  have e2 : (A ++ (M ++ R)).drop (A.length + new.length + M.length) = R.drop new.length := by
    rw [show A.length + new.length + M.length = A.length + (M.length + new.length) by omega, List.drop_length_add_append, List.drop_length_add_append]
  have e3 : ((A ++ (M ++ R)).take (A.length + new.length)).take A.length = A := by
    rw [List.take_take, Nat.min_eq_left (by omega), List.take_left' rfl]
  simp only [putAt]
  rw [e2]
  generalize (A ++ (M ++ R)).take (A.length + new.length) = U at *
  rw [List.append_assoc U M, List.take_append_of_le_length (by omega), e3, List.drop_left' e1, List.append_assoc]
theorem putAt_grow {A M Z new : List Value} {p k q : Nat} (hp : A.length = p) (hk : new.length = k) (hq : M.length = q) (hZ : k + q ≤ Z.length) :
    putAt (putAt (A ++ Z) p new) (p + k) M = A ++ (new ++ (M ++ Z.drop (k + q))) := by
  subst hp; subst hk; subst hq
  have e1 : (A ++ Z).take A.length = A := List.take_left' rfl
  have e2 : (A ++ Z).drop (A.length + new.length) = Z.drop new.length := List.drop_length_add_append _
  simp only [putAt]
  rw [e1, e2, List.take_left' (by simp), show A.length + new.length + M.length = (A ++ new).length + M.length by simp, List.drop_length_add_append, List.drop_drop]
  simp
section
variable {P : Program} {N : Nm} {S : Nat → Prop} {w w' : World}

theorem run_copy_row {t ty e e0 : TypeId} {i : TypeInfo} (w : World) (ht : P.underlying t = some (.slice e)) (hi : P.info? e = some i) (b o n dc : Nat) (L : List Value) (hb : w.heap[b]? = some (.cells L.toArray e0 (0, 0))) (a : Addr) (m sc : Nat)
    (new : List Value) (hl : new.length = min m n * i.size) (hn : ∀ j v, new[j]? = some v → w.cell? (a.add j) = some v) (h1 : ∀ v ∈ new, v.oneCell' = true) (hfit : o + new.length ≤ L.length) :
    (Builtin.copy_ #[t, t] ty #[.slice (some ⟨b, o, none⟩) n dc, .slice (some a) m sc]).run P w = .ok (goInt (min m n : Nat)) (w.setRow b (putAt L o new).toArray) := by
  have hf := run_firstCells_some (P := P) w i.size (min m n) a m sc new hl hn
  have hst := run_storeCells_at P b o e0 new 0 L.toArray w hb (by simpa using hfit) h1
  simp only [Nat.add_zero, Nat.min_def] at hst hf ⊢
  simp [Builtin.copy_, run_underlying ht, Go.sizeOf, typeInfo, hi, Builtin.lenOf, Nat.min_def, hf, hst, putAt]

theorem run_overlaps_own (w : World) (tS tR e : TypeId) (ht : P.underlying tS = some (.slice e)) (size : Nat) (hz : ∀ w, (Go.sizeOf e).run P w = .ok size w)
    (a b : Addr) (la ca lb cb : Nat) (hne : a.block ≠ b.block) {x y : Array Value} {ea eb : TypeId} {fa : Nat × Nat} (hx : w.heap[a.block]? = some (.cells x ea fa)) (hx0 : 0 < x.size) (hy : w.heap[b.block]? = some (.cells y eb (0, 0))) (hy0 : 0 < y.size) :
    (Extern.SlicesOverlaps.overlaps #[tS, tS] #[tR] #[.slice (some a) la ca, .slice (some b) lb cb]).run P w = .ok (.bool false) w := by
  have hnb : (a.block != b.block) = true := by simpa using hne
  have hnb' : (a.block == b.block) = false := by simpa using hne
  have hsa : w.shape? a.block = some (ea, x.size) := by simp only [World.shape?, hx]
  have hsb : w.shape? b.block = some (eb, y.size) := by simp only [World.shape?, hy]
  have hfb : ∀ o, w.frozen? { block := b.block, off := o } = false := fun o => by simp [World.frozen?, hy]
  have hfb' : w.frozen? b = false := by simp [World.frozen?, hy]
  generalize y.size = ys at *
  generalize x.size = xs at *
  change Sem.run P (α := Value) (do
    let some t := (#[tS, tS] : Array TypeId)[0]? | stuck "slices.overlaps: no parameter types"
    let .slice elem ← underlying t | stuck "slices.overlaps: slice type expected"
    let size ← sizeOf elem
    match (some a : Option Addr), (some b : Option Addr) with
    | some a, some b =>
      if la = 0 ∨ lb = 0 ∨ size = 0 then pure (Value.bool false)
      else if a.block != b.block && (← frozen a) && (← frozen b) then unsupported .addressObserved
      else do
        if a.block != b.block then do
          noView a; noView b
          if ← mayBeOne a b then return Value.bool ((← choose (.extern "sameAddr.stringBytes" 2)) == 1)
        pure (Value.bool (a.block == b.block && a.off < b.off + lb * size && b.off < a.off + la * size))
    | _, _ => pure (Value.bool false)) w = _
  by_cases h0 : la = 0 ∨ lb = 0 ∨ size = 0
  · simp [run_underlying ht, hz, h0]
  · cases xs with
    | zero => omega
    | succ xs =>
      cases ys with
      | zero => omega
      | succ ys =>
        cases hfa : w.frozen? a <;> cases hfe : w.frozen? { block := a.block, off := xs + 1 } <;>
          simp [run_underlying ht, hz, h0, hnb, hnb', frozen, noView, viewAt, mayBeOne, stringish, shape, Sem.run, hsa, hsb, hfa, hfb, hfb', hfe]

theorem own_flat {b cap k : Nat} {e : TypeId} {rows : List (List GC)} {L R : List Value} (hk : 0 < k) (hl : rows.length ≤ cap) (hc : cap ≤ maxLen) (hr : ∀ r ∈ rows, r.length = k) (hb : w.heap[b]? = some (.cells L.toArray e (0, 0)))
    (hs : L.length = cap * k) (hL : L = rows.flatten.map GC.val ++ R) (hok : ∀ r ∈ rows, AllOk N w S r) : GC.ok N w S (.own b cap k e rows) := by
  obtain ⟨h1, h2⟩ := flatten_get rows hr
  refine .own b cap k e rows L.toArray hk hl hc (fun i r hi => hr r (List.mem_of_getElem? hi)) hb (by simpa using hs) ?_ (fun i r j c hi hj => hok r (List.mem_of_getElem? hi) c (List.mem_of_getElem? hj))
  intro i r j c hi hj
  have hjk : j < k := by rw [← hr r (List.mem_of_getElem? hi)]; exact (List.getElem?_eq_some_iff.1 hj).1
  have h3 : rows.flatten[i * k + j]? = some c := by rw [h2 i r j hi hjk, hj]
  have h4 : i * k + j < rows.flatten.length := (List.getElem?_eq_some_iff.1 h3).1
  rw [List.getElem?_toArray, hL, List.getElem?_append_left (by rw [List.length_map]; exact h4), List.getElem?_map, h3]; rfl

theorem flat_own {b cap k : Nat} {e : TypeId} {rows : List (List GC)} (h : GC.ok N w S (.own b cap k e rows)) : ∃ L R : List Value, w.heap[b]? = some (.cells L.toArray e (0, 0)) ∧ L.length = cap * k ∧ L = rows.flatten.map GC.val ++ R ∧
    (∀ r ∈ rows, r.length = k) ∧ (∀ r ∈ rows, AllOk N w S r) ∧ 0 < k ∧ rows.length ≤ cap ∧ cap ≤ maxLen := by
  cases h with
  | own b cap st e rows cur hst hl hc hr hb hs hcur hok =>
    have hrm : ∀ r ∈ rows, r.length = k := fun r hr' => by
      obtain ⟨i0, hi0⟩ := List.mem_iff_getElem?.1 hr'
      exact hr i0 r hi0
    obtain ⟨hfl0, hfg0⟩ := flatten_get rows hrm
    have hcl : cur.toList.length = cap * k := by simpa using hs
    have hlen : rows.length * k ≤ cur.toList.length := by rw [hcl]; exact Nat.mul_le_mul_right _ hl
    refine ⟨cur.toList, cur.toList.drop (rows.length * k), hb, by simpa using hs, ?_, hrm, ?_, hst, hl, hc⟩
    · have : rows.flatten.map GC.val = cur.toList.take (rows.length * k) := by
        refine List.ext_getElem? fun j => ?_
        rw [List.getElem?_map, List.getElem?_take]
        split
        · rename_i hj
          obtain ⟨g, hg⟩ : ∃ g, rows.flatten[j]? = some g := ⟨rows.flatten[j]'(by omega), List.getElem?_eq_getElem (by omega)⟩
          obtain ⟨i0, r, j', h1, h2, h3, rfl⟩ := flatten_at rows hrm hg
          have := hcur i0 r j' g h1 h2
          rw [hg, Array.getElem?_toList, this]; rfl
        · rename_i hj
          rw [List.getElem?_eq_none (by omega)]; rfl
      rw [this, List.take_append_drop]
    · intro r hr' g hg
      obtain ⟨i0, hi0⟩ := List.mem_iff_getElem?.1 hr'
      obtain ⟨j, hj⟩ := List.mem_iff_getElem?.1 hg
      exact hok i0 r j g hi0 hj
end
end Hm

/- slices.Insert of one element: what it answers. Conditions: see each theorem. -/
namespace Hm
open Go
section
variable {P : Program} {N : Nm} {S : Nat → Prop} {w w' : World}
theorem cellRows_append (a b : List (List GC)) : cellRows (a ++ b) = cellRows a ++ cellRows b := by simp [cellRows_eq]
theorem blocksRows_append (a b : List (List GC)) : blocksRows (a ++ b) = blocksRows a ++ blocksRows b := by simp [blocksRows_eq]
theorem blocks_split (rows : List (List GC)) (i : Nat) (nr : List GC) (h : blocksRow nr = []) : blocksRows (rows.take i ++ (nr :: rows.drop i)) = blocksRows rows := by
  conv => rhs; rw [← List.take_append_drop i rows]
  rw [blocksRows_append, blocksRows_append, blocksRows, h, List.nil_append]
theorem flat_split (rows : List (List GC)) (i : Nat) (nr : List GC) : (rows.take i ++ (nr :: rows.drop i)).flatten.map GC.val = (rows.take i).flatten.map GC.val ++ (nr.map GC.val ++ (rows.drop i).flatten.map GC.val) := by
  simp
theorem flat_len {rows : List (List GC)} {k : Nat} (h : ∀ r ∈ rows, r.length = k) : (rows.flatten.map GC.val).length = rows.length * k := by
  rw [List.length_map]; exact (flatten_get rows h).1
theorem rows_one {rows : List (List GC)} (h : ∀ r ∈ rows, AllOk N w S r) : ∀ v ∈ rows.flatten.map GC.val, v.oneCell' = true := by
  intro v hv
  simp only [List.mem_map, List.mem_flatten] at hv
  obtain ⟨g, ⟨r, hr, hg⟩, rfl⟩ := hv
  exact (h r hr g hg).one
/-- The rows from a place on, moved by one, and a new one set in. -/
theorem ins_shift {b cap k : Nat} {e : TypeId} {rows : List (List GC)} (hok : GC.ok N w S (.own b cap k e rows)) (i : Nat) (hi : i < rows.length) (hroom : rows.length + 1 ≤ cap) (nr : List GC) (hnr : nr.length = k) (hnb : blocksRow nr = [])
    (hnok : AllOk N w S nr) (hS : ∀ x ∈ (GC.own b cap k e rows).blocks, ¬ S x) (hnd : (GC.own b cap k e rows).blocks.Nodup) :
    ∃ L M : List Value, w.heap[b]? = some (.cells L.toArray e (0, 0)) ∧ M.length = (rows.length - i) * k ∧ (∀ j v, M[j]? = some v → w.cell? ((⟨b, i * k, none⟩ : Addr).add j) = some v) ∧ (∀ v ∈ M, v.oneCell' = true) ∧ (i + 1) * k + M.length ≤ L.length ∧ 0 < L.length ∧
      ∀ w2, w2 = ((w.drew.setRow b (putAt L ((i + 1) * k) M).toArray).setRow b (putAt (putAt L ((i + 1) * k) M) (i * k) (nr.map GC.val)).toArray) →
        GC.ok N w2 S (.own b cap k e (rows.take i ++ (nr :: rows.drop i))) ∧ Frm (· ∈ (GC.own b cap k e rows).blocks) w w2 := by
  obtain ⟨L, R, hb, hs, hL, hr, hrok, hk, hl, hc⟩ := flat_own hok
  have hA : ((rows.take i).flatten.map GC.val).length = i * k := by
    rw [flat_len fun r h => hr r (List.mem_of_mem_take h), List.length_take, Nat.min_eq_left (by omega)]
  have hM : ((rows.drop i).flatten.map GC.val).length = (rows.length - i) * k := by
    rw [flat_len fun r h => hr r (List.mem_of_mem_drop h), List.length_drop]
  have hL2 : L = (rows.take i).flatten.map GC.val ++ ((rows.drop i).flatten.map GC.val ++ R) := by
    rw [hL, ← List.append_assoc, ← List.map_append, ← List.flatten_append, List.take_append_drop]
  have e1 : i * k + (rows.length - i) * k = rows.length * k := by rw [← Nat.add_mul]; congr 1; omega
  have e2 : (i + 1) * k = i * k + k := by rw [Nat.add_mul, Nat.one_mul]
  have e3 : (rows.length + 1) * k ≤ cap * k := Nat.mul_le_mul_right _ hroom
  have e4 : (rows.length + 1) * k = rows.length * k + k := by rw [Nat.add_mul, Nat.one_mul]
  have hlen : L.length = i * k + ((rows.length - i) * k + R.length) := by rw [hL2]; simp only [List.length_append, hA, hM]
  refine ⟨L, (rows.drop i).flatten.map GC.val, hb, hM, ?_, rows_one fun r h => hrok r (List.mem_of_mem_drop h), by omega, by omega, ?_⟩
  · intro j v hj
    rw [add_addr, World.cell?, hb]
    have : L[i * k + j]? = some v := by
      rw [hL2, List.getElem?_append_right (by omega), hA, Nat.add_sub_cancel_left, List.getElem?_append_left (by
        have := (List.getElem?_eq_some_iff.1 hj).1
        exact this)]
      exact hj
    simpa using this
  · intro w2 hw2
    have hput : putAt (putAt L ((i + 1) * k) ((rows.drop i).flatten.map GC.val)) (i * k) (nr.map GC.val) = (rows.take i ++ (nr :: rows.drop i)).flatten.map GC.val ++ R.drop k := by
      rw [flat_split, e2, hL2, putAt_shift hA (by simpa using hnr) (by omega)]
      simp only [List.append_assoc]
    have h1 := setRow_heap w.drew b _ (putAt L ((i + 1) * k) ((rows.drop i).flatten.map GC.val)).toArray e _ (show w.drew.heap[b]? = _ from hb)
    have h2 := setRow_heap _ b _ (putAt (putAt L ((i + 1) * k) ((rows.drop i).flatten.map GC.val)) (i * k) (nr.map GC.val)).toArray e _ h1
    rw [← hw2] at h2
    have hne : ∀ x, x ≠ b → w2.heap[x]? = w.heap[x]? := fun x hx => by rw [hw2, setRow_other _ _ _ _ hx, setRow_other _ _ _ _ hx]; rfl
    have hbb := (List.nodup_cons.1 hnd).1
    have hbS : ¬ S b := hS b (by simp [GC.blocks])
    refine ⟨own_flat hk (by simp only [List.length_append, List.length_cons, List.length_take, List.length_drop]; omega) hc ?_ h2 ?_ hput ?_, ?_⟩
    · intro r h
      rcases List.mem_append.1 h with h | h
      · exact hr r (List.mem_of_mem_take h)
      · rcases List.mem_cons.1 h with rfl | h
        · exact hnr
        · exact hr r (List.mem_of_mem_drop h)
    · rw [putAt_len (by rw [putAt_len (by omega), List.length_map, hnr]; omega), putAt_len (by omega), hs]
    · intro r h
      have h3 : AllOk N w S r := by
        rcases List.mem_append.1 h with h | h
        · exact hrok r (List.mem_of_mem_take h)
        · rcases List.mem_cons.1 h with rfl | h
          · exact hnok
          · exact hrok r (List.mem_of_mem_drop h)
      refine AllOk.keep h3 (fun x hx => hne x fun e => hbS (e ▸ hx)) fun x hx => hne x fun e => ?_
      subst e
      rcases List.mem_append.1 h with h | h
      · obtain ⟨i1, hi1⟩ := List.mem_iff_getElem?.1 (List.mem_of_mem_take h)
        exact hbb (mem_blocksRows hi1 hx)
      · rcases List.mem_cons.1 h with rfl | h
        · rw [hnb] at hx; cases hx
        · obtain ⟨i1, hi1⟩ := List.mem_iff_getElem?.1 (List.mem_of_mem_drop h)
          exact hbb (mem_blocksRows hi1 hx)
    · subst hw2
      exact ⟨rfl, rfl, rfl, by simp only [World.setRow, Array.size_modify]; exact Nat.le_refl _, fun x _ h => hne x fun e => h (by subst e; simp [GC.blocks])⟩
/-- .. and in a new block. -/
theorem ins_grow {b cap k cap2 : Nat} {e e2 : TypeId} {rows : List (List GC)} (hok : GC.ok N w S (.own b cap k e rows)) (i : Nat) (hi : i < rows.length) (hcap : rows.length + 1 ≤ cap2) (hcap2 : cap2 ≤ maxLen) (nr : List GC) (hnr : nr.length = k) (hnb : blocksRow nr = [])
    (hnok : AllOk N w S nr) (hSlt : ∀ x, S x → x < w.heap.size) (L2 : List Value) (hL2 : L2.length = cap2 * k) (hpre : ∃ Z, L2 = (rows.take i).flatten.map GC.val ++ Z) (w1 : World) (hw1 : w1 = w.drew.alloc (.cells L2.toArray e2)) :
    ∃ M : List Value, M.length = (rows.length - i) * k ∧ (∀ j v, M[j]? = some v → w.cell? ((⟨b, i * k, none⟩ : Addr).add j) = some v) ∧ (∀ v ∈ M, v.oneCell' = true) ∧ (i + 1) * k + M.length ≤ L2.length ∧ b < w.heap.size ∧
      w1.heap[w.heap.size]? = some (.cells L2.toArray e2 (0, 0)) ∧
      ∀ w2, w2 = (((w1.setRow w.heap.size (putAt L2 (i * k) (nr.map GC.val)).toArray).drew).setRow w.heap.size (putAt (putAt L2 (i * k) (nr.map GC.val)) ((i + 1) * k) M).toArray) →
        GC.ok N w2 S (.own w.heap.size cap2 k e2 (rows.take i ++ (nr :: rows.drop i))) ∧ Frm (· ∈ (GC.own b cap k e rows).blocks) w w2 := by
  obtain ⟨L, R, hb, hs, hL, hr, hrok, hk, hl, hc⟩ := flat_own hok
  obtain ⟨Z, hZ⟩ := hpre
  have hA : ((rows.take i).flatten.map GC.val).length = i * k := by
    rw [flat_len fun r h => hr r (List.mem_of_mem_take h), List.length_take, Nat.min_eq_left (by omega)]
  have hM : ((rows.drop i).flatten.map GC.val).length = (rows.length - i) * k := by
    rw [flat_len fun r h => hr r (List.mem_of_mem_drop h), List.length_drop]
  have hLs : L = (rows.take i).flatten.map GC.val ++ ((rows.drop i).flatten.map GC.val ++ R) := by
    rw [hL, ← List.append_assoc, ← List.map_append, ← List.flatten_append, List.take_append_drop]
  have e1 : i * k + (rows.length - i) * k = rows.length * k := by rw [← Nat.add_mul]; congr 1; omega
  have e2' : (i + 1) * k = i * k + k := by rw [Nat.add_mul, Nat.one_mul]
  have e3 : (rows.length + 1) * k ≤ cap2 * k := Nat.mul_le_mul_right _ hcap
  have e4 : (rows.length + 1) * k = rows.length * k + k := by rw [Nat.add_mul, Nat.one_mul]
  have hzl : L2.length = i * k + Z.length := by rw [hZ]; simp only [List.length_append, hA]
  have hbl : b < w.heap.size := (Array.getElem?_eq_some_iff.1 hb).1
  have hnew : w1.heap[w.heap.size]? = some (.cells L2.toArray e2 (0, 0)) := by subst hw1; exact heap_alloc_new w.drew _
  refine ⟨(rows.drop i).flatten.map GC.val, hM, ?_, rows_one fun r h => hrok r (List.mem_of_mem_drop h), by omega, hbl, hnew, ?_⟩
  · intro j v hj
    rw [add_addr, World.cell?, hb]
    have : L[i * k + j]? = some v := by
      rw [hLs, List.getElem?_append_right (by omega), hA, Nat.add_sub_cancel_left, List.getElem?_append_left (by
        have := (List.getElem?_eq_some_iff.1 hj).1
        exact this)]
      exact hj
    simpa using this
  · intro w2 hw2
    have hput : putAt (putAt L2 (i * k) (nr.map GC.val)) ((i + 1) * k) ((rows.drop i).flatten.map GC.val) = (rows.take i ++ (nr :: rows.drop i)).flatten.map GC.val ++ Z.drop (k + (rows.length - i) * k) := by
      rw [flat_split, e2', hZ, putAt_grow hA (by simpa using hnr) hM (by omega)]
      simp only [List.append_assoc]
    have h1 := setRow_heap w1 w.heap.size _ (putAt L2 (i * k) (nr.map GC.val)).toArray e2 _ hnew
    have h2 := setRow_heap ((w1.setRow w.heap.size (putAt L2 (i * k) (nr.map GC.val)).toArray).drew) w.heap.size _ (putAt (putAt L2 (i * k) (nr.map GC.val)) ((i + 1) * k) ((rows.drop i).flatten.map GC.val)).toArray e2 _ h1
    rw [← hw2] at h2
    have hne : ∀ x, x < w.heap.size → w2.heap[x]? = w.heap[x]? := fun x hx => by
      rw [hw2, setRow_other _ _ _ _ (by omega)]
      show (w1.setRow _ _).heap[x]? = _
      rw [setRow_other _ _ _ _ (by omega), hw1]
      exact (Grew.alloc w.drew _).block x hx
    have hsz : w.heap.size ≤ w2.heap.size := by
      have := (Array.getElem?_eq_some_iff.1 h2).1
      omega
    refine ⟨own_flat hk (by simp only [List.length_append, List.length_cons, List.length_take, List.length_drop]; omega) hcap2 ?_ h2 ?_ hput ?_, ?_⟩
    · intro r h
      rcases List.mem_append.1 h with h | h
      · exact hr r (List.mem_of_mem_take h)
      · rcases List.mem_cons.1 h with rfl | h
        · exact hnr
        · exact hr r (List.mem_of_mem_drop h)
    · rw [putAt_len (by rw [putAt_len (by rw [List.length_map, hnr]; omega)]; omega), putAt_len (by rw [List.length_map, hnr]; omega), hL2]
    · intro r h
      have h3 : AllOk N w S r := by
        rcases List.mem_append.1 h with h | h
        · exact hrok r (List.mem_of_mem_take h)
        · rcases List.mem_cons.1 h with rfl | h
          · exact hnok
          · exact hrok r (List.mem_of_mem_drop h)
      exact AllOk.keep h3 (fun x hx => hne x (hSlt x hx)) fun x hx => hne x (h3.lt x hx)
    · subst hw2; subst hw1
      exact ⟨rfl, rfl, rfl, hsz, fun x hx _ => hne x hx⟩
end
end Hm

/- slices.Insert of one element: its contract. Conditions: see each theorem. -/
namespace Hm
open Go
/-- How slices.Insert runs at one element, by its three roads. -/
structure InsRun (P : Program) (f k : Nat) (tS tI : TypeId) : Prop where
  atEnd : ∀ (w w' : World) (base : Option Addr) (n c : Nat) (a : Addr) (vc : Nat) (v' : Value), (∀ x, base = some x → ∃ b, x = ⟨b, 0, none⟩) → (base = none → n = 0 ∧ c = 0) → n ≤ c → c ≤ maxLen →
    (∀ ty, (Builtin.append_ #[tS, tS] ty #[.slice base n c, .slice (some a) 1 vc]).run P w = .ok v' w') →
    Calls P f #[.slice base n c, .int .i64 (n : Nat), .slice (some a) 1 vc] w fun e w1 => e = .returned v' ∧ w1 = w'
  room : ∀ (w W1 W2 : World) (b n c i : Nat) (a : Addr) (vc : Nat), i < n → n + 1 ≤ c → c ≤ maxLen → a.block ≠ b → (∃ x ea fa, w.heap[a.block]? = some (.cells x ea fa) ∧ 0 < x.size) → (∃ y eb, w.heap[b]? = some (.cells y eb (0, 0)) ∧ 0 < y.size) →
    (∀ ty dc sc, (Builtin.copy_ #[tS, tS] ty #[.slice (some ⟨b, (i + 1) * k, none⟩) (n - i) dc, .slice (some ⟨b, i * k, none⟩) (n + 1 - i) sc]).run P w.drew = .ok (goInt (n - i : Nat)) W1) →
    (∀ ty dc, (Builtin.copy_ #[tS, tS] ty #[.slice (some ⟨b, i * k, none⟩) (n + 1 - i) dc, .slice (some a) 1 vc]).run P W1 = .ok (goInt (1 : Nat)) W2) →
    Calls P f #[.slice (some ⟨b, 0, none⟩) n c, .int .i64 (i : Nat), .slice (some a) 1 vc] w fun e w1 => e = .returned (.slice (some ⟨b, 0, none⟩) (n + 1) c) ∧ w1 = W2
  grow : ∀ (w W1 W2 W3 : World) (b n c c2 g i : Nat) (a : Addr) (vc : Nat), i < n → n ≤ c → c < n + 1 → n + 1 ≤ c2 → c2 ≤ maxLen →
    (∀ ty, (Builtin.append_ #[tS, tI] ty #[.slice (some ⟨b, 0, none⟩) i c, .int .i64 ((n : Int) + 1 - (i : Int))]).run P w = .ok (.slice (some ⟨g, 0, none⟩) (n + 1) c2) W1) →
    (∀ ty dc, (Builtin.copy_ #[tS, tS] ty #[.slice (some ⟨g, i * k, none⟩) (n + 1 - i) dc, .slice (some a) 1 vc]).run P W1 = .ok (goInt (1 : Nat)) W2) →
    (∀ ty dc sc, (Builtin.copy_ #[tS, tS] ty #[.slice (some ⟨g, (i + 1) * k, none⟩) (n - i) dc, .slice (some ⟨b, i * k, none⟩) (n - i) sc]).run P W2.drew = .ok (goInt (n - i : Nat)) W3) →
    Calls P f #[.slice (some ⟨b, 0, none⟩) n c, .int .i64 (i : Nat), .slice (some a) 1 vc] w fun e w1 => e = .returned (.slice (some ⟨g, 0, none⟩) (n + 1) c2) ∧ w1 = W3
section
variable {P : Program} {N : Nm}
theorem ArgsOk.mv_inv {w : World} {S : Nat → Prop} {cs : List Cell} {g : Bool} {xs : List Arg} {vs : List Value} {lx : List Nat} (h : ArgsOk N w S (.mv cs g :: xs) vs lx) :
    ∃ gs us ly, cellRow gs = cs ∧ AllOk N w S gs ∧ (g = false → ∃ c, gs = [c]) ∧ vs = cval g gs :: us ∧ lx = blocksRow gs ++ ly ∧ ArgsOk N w S xs us ly := by
  generalize he : Arg.mv cs g :: xs = l at h
  cases h with
  | nil => cases he
  | cons h hs =>
    obtain ⟨h1, rfl⟩ := List.cons.inj he
    subst h1
    generalize he2 : Arg.mv cs g = x at h
    cases h with
    | val _ _ _ => cases he2
    | io _ _ _ _ _ => cases he2
    | mv gs g' hok hg =>
      injection he2 with e1 e2
      subst e1; subst e2
      exact ⟨gs, _, _, rfl, hok, hg, rfl, rfl, hs⟩
/-- One owned result. -/
theorem left_own {w w' : World} {S : Nat → Prop} {as : List Arg} {vs : List Value} {lx : List Nat} {c : GC} {k : Nat} {rows : List (List Cell)} (hc : c.cell = .own k rows) (hok : GC.ok N w' S c) (hf : Frm (· ∈ lx) w w') (hlt : ∀ x, S x → x < w.heap.size)
    (ho : OutsOk N w' S as vs [] []) (hnd : c.blocks.Nodup) (hfr : ∀ x ∈ c.blocks, ¬ S x ∧ (w.heap.size ≤ x ∨ x ∈ lx)) :
    Left N w S as vs lx ⟨[([.own k rows], false)], []⟩ c.val w' S [([c], false)] [] where
  more _ h := h
  bound _ h := .inl h
  lt x h := Nat.lt_of_lt_of_le (hlt x h) hf.size
  frm := hf
  res := by simp [cellRow, hc]
  ok x hx := by
    obtain rfl := List.mem_singleton.1 hx
    refine ⟨fun y hy => ?_, fun _ => ⟨_, rfl⟩⟩
    obtain rfl := List.mem_singleton.1 hy
    exact hok
  val := rfl
  outs := ho
  nodup := by simpa [resBlocks, blocksRow] using hnd
  free x hx := hfr x (by simpa [resBlocks, blocksRow] using hx)
theorem newrow {w : World} {S : Nat → Prop} (new : List AV) (cv : Nat → Value) (h1 : ∀ j x, new[j]? = some x → (cv j).oneCell' = true) (hv : ∀ j x, new[j]? = some x → VR N w S x (cv j)) :
    ∃ nr : List GC, nr.length = new.length ∧ cellRow nr = new.map .av ∧ blocksRow nr = [] ∧ AllOk N w S nr ∧ ∀ j g, nr[j]? = some g → g.val = cv j ∧ ∃ x, new[j]? = some x := by
  refine ⟨new.mapIdx fun j x => .av x (cv j), by simp, ?_, ?_, ?_, ?_⟩
  · rw [cellRow_eq]
    refine List.ext_getElem? fun j => ?_
    simp only [List.getElem?_map, List.getElem?_mapIdx, Option.map_map]
    cases new[j]? <;> rfl
  · rw [blocksRow_eq, List.flatMap_eq_nil_iff]
    intro c hc
    obtain ⟨j, hj⟩ := List.mem_iff_getElem?.1 hc
    rw [List.getElem?_mapIdx, Option.map_eq_some_iff] at hj
    obtain ⟨x, _, rfl⟩ := hj
    rfl
  · intro c hc
    obtain ⟨j, hj⟩ := List.mem_iff_getElem?.1 hc
    rw [List.getElem?_mapIdx, Option.map_eq_some_iff] at hj
    obtain ⟨x, hx, rfl⟩ := hj
    exact .av _ _ (hv j x hx) (h1 j x hx)
  · intro j g hj
    rw [List.getElem?_mapIdx, Option.map_eq_some_iff] at hj
    obtain ⟨x, hx, rfl⟩ := hj
    exact ⟨rfl, x, hx⟩
theorem meets_insert {f k : Nat} {tS tI e : TypeId} {i : TypeInfo} {z : Value} (hk : 0 < k) (ht : P.underlying tS = some (.slice e)) (htI : P.underlying tI = some (.int .i64)) (hi : P.info? e = some i) (hsz : i.size = k) (hz : i.zero = some z) (hzs : z.cells.size = k) (hby : i.bytes ≤ 32768)
    (H : InsRun P (N.f f) k tS tI) : ∀ as cr, pIns k as = some cr → Meets P N f as cr := by
  intro as cr hp
  unfold pIns at hp
  split at hp
  · rename_i k' rows n0 k2 new
    split at hp
    · rename_i hcond
      obtain ⟨rfl, rfl, hi0, hin, hlim⟩ := hcond
      obtain ⟨m, rfl⟩ := Int.eq_ofNat_of_zero_le hi0
      simp only [Option.some.injEq, Int.toNat_natCast] at hp
      subst hp
      intro w S vs lx A hnd hfree hlt hglob
      obtain ⟨gs, us, ly, hgs, hok, hg, rfl, rfl, A1⟩ := A.mv_inv
      obtain ⟨c, rfl⟩ := hg rfl
      obtain ⟨c2, us, rfl, v2, A2⟩ := A1.vals_inv
      obtain ⟨c3, us, rfl, v3, A3⟩ := A2.vals_inv
      obtain ⟨rfl, rfl⟩ := A3.nil_inv
      clear A A1 A2 A3
      have hcell : c.cell = .own k2 rows := by simpa [cellRow] using hgs
      have hcok : GC.ok N w S c := hok c (by simp)
      simp only [blocksRow, List.append_nil] at hnd hfree
      cases v2 with
      | int _ _ =>
        cases v3 with
        | lst _ a vc _ cv h0 hS hsp hl hcc hst hr hcl h1 hv =>
          obtain ⟨ab, ao, asp⟩ := a
          simp only at hsp
          subst hsp
          have hnl : new.length = k2 := hr 0 new rfl
          obtain ⟨nr, n1, n2, n3, n4, n5⟩ := newrow (N := N) (w := w) (S := S) new (cv 0) (fun j x hj => h1 0 new j x rfl hj) (fun j x hj => hv 0 new j x rfl hj)
          have hnr : nr.length = k2 := n1.trans hnl
          have hsrc : ∀ (j : Nat) (v : Value), (nr.map GC.val)[j]? = some v → w.cell? ((⟨ab, ao, none⟩ : Addr).add j) = some v := fun j v hj => by
            rw [List.getElem?_map, Option.map_eq_some_iff] at hj
            obtain ⟨g, hg, rfl⟩ := hj
            obtain ⟨hgv, x, hx⟩ := n5 j g hg
            have := hcl 0 new j x rfl hx
            rw [add_addr, hgv]
            simpa using this
          have hnone : ∀ v ∈ nr.map GC.val, v.oneCell' = true := fun v hv => by
            obtain ⟨g, hg, rfl⟩ := List.mem_map.1 hv
            exact (n4 g hg).one
          have hablk : ∃ x ea fa, w.heap[ab]? = some (.cells x ea fa) ∧ 0 < x.size := by
            obtain ⟨g, hg⟩ : ∃ g, nr[0]? = some g := ⟨nr[0]'(by omega), List.getElem?_eq_getElem (by omega)⟩
            have hc0 := hsrc 0 g.val (by rw [List.getElem?_map, hg]; rfl)
            rw [add_addr, World.cell?] at hc0
            simp only at hc0
            cases hq : w.heap[ab]? with
            | none => rw [hq] at hc0; cases hc0
            | some o =>
              rw [hq] at hc0
              cases o with
              | cells x ea fa =>
                refine ⟨x, ea, fa, rfl, ?_⟩
                simp only [Option.isSome_none, Bool.false_eq_true, if_false] at hc0
                have := (Array.getElem?_eq_some_iff.1 hc0).1
                omega
              | _ => cases hc0
          have hSlt : ∀ x ∈ c.blocks, x < w.heap.size := hcok.lt
          by_cases hend : m = rows.length
          · -- at the end
            subst hend
            have hcs : ∃ base n cp, c.val = .slice base n cp ∧ n = rows.length ∧ (∀ x, base = some x → ∃ b, x = ⟨b, 0, none⟩) ∧ (base = none → n = 0 ∧ cp = 0) ∧ n ≤ cp ∧ cp ≤ maxLen := by
              cases c with
              | av _ _ => simp [GC.cell] at hcell
              | dead _ => simp [GC.cell] at hcell
              | nil st =>
                simp only [GC.cell, Cell.own.injEq] at hcell
                obtain ⟨rfl, rfl⟩ := hcell
                exact ⟨none, 0, 0, rfl, rfl, (fun _ h => by cases h), fun _ => ⟨rfl, rfl⟩, Nat.le_refl _, Nat.zero_le _⟩
              | own b cap st e0 rows' =>
                simp only [GC.cell, Cell.own.injEq] at hcell
                obtain ⟨rfl, rfl⟩ := hcell
                cases hcok with
                | own b cap st0 e0 rows cur hst hl hcp hr hb hs hcur hok2 =>
                  exact ⟨_, _, _, rfl, by simp [cellRows_eq], (fun x h => by cases h; exact ⟨b, rfl⟩), (fun h => by cases h), hl, hcp⟩
            obtain ⟨base, n, cp, hval, hn, hb1, hb2, hb3, hb4⟩ := hcs
            have hap : ∀ ty, ∃ w' c', (Builtin.append_ #[tS, tS] ty #[c.val, .slice (some ⟨ab, ao, none⟩) [nr].length vc]).run P w = .ok c'.val w' ∧ c'.cell = .own k2 (rows ++ cellRows [nr]) ∧ GC.ok N w' S c' ∧ Appd w w' c ∧
                (∀ x, c'.blocks.count x ≤ (w.heap.size :: (c.blocks ++ blocksRows [nr])).count x) := fun ty =>
              append_run (ty := ty) ht ht hi hz hk hsz hzs hby hcell hcok (fun r h => by obtain rfl := List.mem_singleton.1 h; exact hnr) (fun r h => by obtain rfl := List.mem_singleton.1 h; exact n4)
                (fun _ => ⟨_, rfl, fun j g hg => by
                  simp only [List.flatten_cons, List.flatten_nil, List.append_nil] at hg
                  exact hsrc j g.val (by rw [List.getElem?_map, hg]; rfl)⟩) hlim (by simpa [blocksRows, n3] using hnd) hfree hlt
            obtain ⟨w', c', h1', h2', h3', h4', h5'⟩ := hap 0
            have hty : ∀ ty, (Builtin.append_ #[tS, tS] ty #[.slice base n cp, .slice (some ⟨ab, ao, none⟩) 1 vc]).run P w = .ok c'.val w' := fun ty => by
              rw [hval] at h1'
              exact h1'
            refine (show Calls P (N.f f) #[cval false [c], .int .i64 (rows.length : Nat), .slice (some ⟨ab, ao, none⟩) 1 vc] w _ from ?_)
            have hcall := H.atEnd w w' base n cp ⟨ab, ao, none⟩ vc c'.val hb1 hb2 hb3 hb4 hty
            rw [hn, ← hn, ← hval, hn] at hcall
            refine hcall.mono fun ex w1 ⟨he, hw⟩ => ?_
            subst hw
            have hcnt : c'.blocks.Nodup := List.nodup_iff_count.2 fun x => Nat.le_trans (h5' x) (by
              have : (w.heap.size :: (c.blocks ++ blocksRows [nr])).Nodup := by
                rw [List.nodup_cons]
                simp only [blocksRows, n3, List.append_nil]
                exact ⟨fun h => by have := hSlt _ h; omega, hnd⟩
              exact List.nodup_iff_count.1 this x)
            have hmem : ∀ x ∈ c'.blocks, x = w.heap.size ∨ x ∈ c.blocks := fun x hx => by
              have h6 := h5' x
              have h7 := List.count_pos_iff.2 hx
              have h8 : 0 < (w.heap.size :: (c.blocks ++ blocksRows [nr])).count x := by omega
              have h9 := List.count_pos_iff.1 h8
              simpa [blocksRows, n3] using h9
            refine ⟨_, S, [([c'], false)], [], he, ?_⟩
            rw [List.take_of_length_le (Nat.le_refl _), List.drop_of_length_le (Nat.le_refl _), ← n2]
            have h2'' : c'.cell = .own k2 (rows ++ [cellRow nr]) := by rw [h2']; rfl
            refine left_own h2'' h3' ⟨h4'.os, h4'.tape, h4'.output, h4'.size, fun x hx hnx => h4'.block x hx fun b cap kk e0 rws hcb hxb => hnx ?_⟩ hlt (.mv (.val (.val .nil))) hcnt fun x hx => ?_
            · subst hxb; subst hcb; simp [blocksRow, GC.blocks]
            · rcases hmem x hx with rfl | h
              · exact ⟨fun h => by have := hlt _ h; omega, .inl (Nat.le_refl _)⟩
              · exact ⟨hfree x h, .inr (by simpa [blocksRow] using h)⟩
          · cases c with
            | av _ _ => simp [GC.cell] at hcell
            | dead _ => simp [GC.cell] at hcell
            | nil st =>
              simp only [GC.cell, Cell.own.injEq] at hcell
              obtain ⟨rfl, rfl⟩ := hcell
              simp only [List.length_nil] at hin hend
              omega
            | own b cap st e0 rws =>
              simp only [GC.cell, Cell.own.injEq] at hcell
              obtain ⟨rfl, rfl⟩ := hcell
              have hrl : (cellRows rws).length = rws.length := by simp [cellRows_eq]
              rw [hrl] at hin hlim hend
              have hm : m < rws.length := by omega
              have hres : (cellRows rws).take m ++ (new.map Cell.av :: (cellRows rws).drop m) = cellRows (rws.take m ++ (nr :: rws.drop m)) := by
                rw [cellRows_append, cellRows, n2, cellRows_eq, cellRows_eq, cellRows_eq, List.map_take, List.map_drop]
              rw [hres]
              have hbb : ab ≠ b := fun e => hfree b (by simp [GC.blocks]) (e ▸ hS)
              obtain ⟨L0, R0, hb, hs0, hL0, hr0, hrok0, -, hl0, hc0⟩ := flat_own hcok
              by_cases hroom : rws.length + 1 ≤ cap
              · obtain ⟨L, M, q1, q2, q3, q4, q5, q6, q7⟩ := ins_shift hcok m hm hroom nr hnr n3 n4 hfree hnd
                have hc1 : ∀ ty dc sc, (Builtin.copy_ #[tS, tS] ty #[.slice (some ⟨b, (m + 1) * st, none⟩) (rws.length - m) dc, .slice (some ⟨b, m * st, none⟩) (rws.length + 1 - m) sc]).run P w.drew = .ok (goInt (rws.length - m : Nat)) (w.drew.setRow b (putAt L ((m + 1) * st) M).toArray) := fun ty dc sc => by
                  have := run_copy_row (P := P) (t := tS) (ty := ty) w.drew ht hi b ((m + 1) * st) (rws.length - m) dc L q1 ⟨b, m * st, none⟩ (rws.length + 1 - m) sc M (by rw [q2, hsz, Nat.min_eq_right (by omega)]) q3 q4 q5
                  rw [Nat.min_eq_right (by omega)] at this
                  exact this
                have g1 := setRow_heap w.drew b _ (putAt L ((m + 1) * st) M).toArray e0 _ (show w.drew.heap[b]? = _ from q1)
                have hc2 : ∀ ty dc, (Builtin.copy_ #[tS, tS] ty #[.slice (some ⟨b, m * st, none⟩) (rws.length + 1 - m) dc, .slice (some ⟨ab, ao, none⟩) 1 vc]).run P (w.drew.setRow b (putAt L ((m + 1) * st) M).toArray) = .ok (goInt (1 : Nat)) _ := fun ty dc => by
                  have hq : (m + 1) * st = m * st + st := by rw [Nat.add_mul, Nat.one_mul]
                  have := run_copy_row (P := P) (t := tS) (ty := ty) (w.drew.setRow b (putAt L ((m + 1) * st) M).toArray) ht hi b (m * st) (rws.length + 1 - m) dc (putAt L ((m + 1) * st) M) g1 ⟨ab, ao, none⟩ 1 vc (nr.map GC.val) (by rw [List.length_map, hnr, hsz, Nat.min_eq_left (by omega), Nat.one_mul])
                    (fun j v hj => by rw [cell_setRow_other _ _ _ _ (by rw [add_addr]; exact hbb)]; exact hsrc j v hj) hnone (by rw [List.length_map, hnr, putAt_len (by omega)]; omega)
                  rw [Nat.min_eq_left (by omega)] at this
                  exact this
                refine (show Calls P (N.f f) #[.slice (some ⟨b, 0, none⟩) rws.length cap, .int .i64 (m : Nat), .slice (some ⟨ab, ao, none⟩) 1 vc] w _ from ?_)
                refine (H.room w _ _ b rws.length cap m ⟨ab, ao, none⟩ vc hm hroom hc0 hbb hablk ⟨_, _, q1, by simpa using q6⟩ hc1 hc2).mono fun ex w1 ⟨he, hw⟩ => ?_
                obtain ⟨r1, r2⟩ := q7 w1 hw
                refine ⟨_, S, _, [], ?_, left_own (c := .own b cap st e0 (rws.take m ++ (nr :: rws.drop m))) rfl r1 (by simpa [blocksRow] using r2) hlt (.mv (.val (.val .nil))) ?_ fun x hx => ?_⟩
                · rw [he]
                  simp only [GC.val, List.length_append, List.length_cons, List.length_take, List.length_drop]
                  congr 2; omega
                · simp only [GC.blocks, blocks_split rws m nr n3]; exact hnd
                · simp only [GC.blocks, blocks_split rws m nr n3] at hx
                  exact ⟨hfree x hx, .inr (by simpa [blocksRow, GC.blocks] using hx)⟩
              · have hcn : cap < rws.length + 1 := by omega
                have hlim' : rws.length + 1 ≤ 4294967296 := hlim
                have hfl : ((rws.take m).flatten.map GC.val).length = m * st := by
                  rw [flat_len fun r h => hr0 r (List.mem_of_mem_take h), List.length_take, Nat.min_eq_left (by omega)]
                have hold : (Builtin.firstCells i.size m (.slice (some ⟨b, 0, none⟩) m cap)).run P w.drew = .ok ((rws.take m).flatten.map GC.val).toArray w.drew := by
                  refine run_firstCells_some (P := P) w.drew i.size m ⟨b, 0, none⟩ m cap _ (by rw [hfl, hsz]) fun j v hj => ?_
                  rw [add_addr, World.cell?, show w.drew.heap[b]? = w.heap[b]? from rfl, hb]
                  have hj2 := (List.getElem?_eq_some_iff.1 hj).1
                  have : L0[j]? = some v := by
                    rw [hL0, List.getElem?_append_left (by
                      rw [flat_len hr0]
                      have : m * st ≤ rws.length * st := Nat.mul_le_mul_right _ (by omega)
                      omega)]
                    have e := List.take_append_drop m rws
                    rw [← e, List.flatten_append, List.map_append, List.getElem?_append_left hj2]
                    exact hj
                  simpa using this
                have hpos : 0 < rws.length + 1 - m := by omega
                have hbytes : (rws.length + 1) * i.bytes ≤ 140737488355328 :=
                  calc (rws.length + 1) * i.bytes ≤ 4294967296 * 32768 := Nat.mul_le_mul hlim' hby
                    _ = 140737488355328 := rfl
                have hsum : m + (rws.length + 1 - m) = rws.length + 1 := by omega
                have h48 : (rws.length + 1 - m) * i.bytes ≤ 281474976710656 :=
                  calc (rws.length + 1 - m) * i.bytes ≤ (rws.length + 1) * i.bytes := Nat.mul_le_mul_right _ (by omega)
                    _ ≤ 281474976710656 := by omega
                have hz0 : ∀ ty, (Builtin.append_ #[tS, tI] ty #[.slice (some ⟨b, 0, none⟩) m cap, .int .i64 ((rws.length : Int) + 1 - (m : Int))]).run P w = .ok (.slice (some ⟨w.heap.size, 0, none⟩) (rws.length + 1) (grownCap w (rws.length + 1) cap e)) (w.drew.alloc (.cells (((rws.take m).flatten.map GC.val).toArray ++ Builtin.zeroCells z.cells (rws.length + 1 - m) ++ Builtin.zeroCells z.cells (grownCap w (rws.length + 1) cap e - (rws.length + 1))) e)) := fun ty => by
                  have h := Lib.run_append_grow_zeros w tS tI ty e i z .i64 .i64 ht htI hi hz (some ⟨b, 0, none⟩) m cap _ hold (rws.length + 1 - m) hpos (by omega) (by omega) (by omega) h48 (by rw [hsum]; exact growslice_fits (by omega) hbytes)
                  rw [hsum] at h
                  rw [show ((rws.length : Int) + 1 - (m : Int)) = ((rws.length + 1 - m : Nat) : Int) by omega]
                  exact h
                have hge := grownCap_ge w (rws.length + 1) cap e
                have hcm := grownCap_le_maxLen w (rws.length + 1) cap e (by simp only [maxLen]; omega)
                generalize hG : grownCap w (rws.length + 1) cap e = G at hz0 hge hcm
                generalize hA : (((rws.take m).flatten.map GC.val).toArray ++ Builtin.zeroCells z.cells (rws.length + 1 - m) ++ Builtin.zeroCells z.cells (G - (rws.length + 1))) = A at hz0
                have hAl : A.toList.length = G * st := by
                  rw [← hA]
                  simp only [Array.length_toList, Array.size_append, List.size_toArray, hfl, size_zeroCells, hzs, ← Nat.add_mul]
                  congr 1; omega
                have hpre : ∃ Z, A.toList = (rws.take m).flatten.map GC.val ++ Z := by
                  rw [← hA]; simp only [Array.toList_append, List.append_assoc]; exact ⟨_, rfl⟩
                obtain ⟨M, q2, q3, q4, q5, q6, q7, q8⟩ := ins_grow hcok m hm hge hcm nr hnr n3 n4 hlt A.toList hAl hpre (w.drew.alloc (.cells A e)) rfl
                have hq : (m + 1) * st = m * st + st := by rw [Nat.add_mul, Nat.one_mul]
                have hc1 : ∀ ty dc, (Builtin.copy_ #[tS, tS] ty #[.slice (some ⟨w.heap.size, m * st, none⟩) (rws.length + 1 - m) dc, .slice (some ⟨ab, ao, none⟩) 1 vc]).run P (w.drew.alloc (.cells A e)) = .ok (goInt (1 : Nat)) _ := fun ty dc => by
                  have := run_copy_row (P := P) (t := tS) (ty := ty) (w.drew.alloc (.cells A e)) ht hi w.heap.size (m * st) (rws.length + 1 - m) dc A.toList q7 ⟨ab, ao, none⟩ 1 vc (nr.map GC.val) (by rw [List.length_map, hnr, hsz, Nat.min_eq_left (by omega), Nat.one_mul])
                    (fun j v hj => (Grew.alloc w.drew _).cell (hsrc j v hj)) hnone (by rw [List.length_map, hnr]; omega)
                  rw [Nat.min_eq_left (by omega)] at this
                  exact this
                have g1 := setRow_heap (w.drew.alloc (.cells A e)) w.heap.size _ (putAt A.toList (m * st) (nr.map GC.val)).toArray e _ q7
                have hc2 : ∀ ty dc sc, (Builtin.copy_ #[tS, tS] ty #[.slice (some ⟨w.heap.size, (m + 1) * st, none⟩) (rws.length - m) dc, .slice (some ⟨b, m * st, none⟩) (rws.length - m) sc]).run P (((w.drew.alloc (.cells A e)).setRow w.heap.size (putAt A.toList (m * st) (nr.map GC.val)).toArray).drew) = .ok (goInt (rws.length - m : Nat)) _ := fun ty dc sc => by
                  have := run_copy_row (P := P) (t := tS) (ty := ty) (((w.drew.alloc (.cells A e)).setRow w.heap.size (putAt A.toList (m * st) (nr.map GC.val)).toArray).drew) ht hi w.heap.size ((m + 1) * st) (rws.length - m) dc (putAt A.toList (m * st) (nr.map GC.val)) g1 ⟨b, m * st, none⟩ (rws.length - m) sc M (by rw [q2, hsz, Nat.min_self])
                    (fun j v hj => by
                      show ((w.drew.alloc (.cells A e)).setRow w.heap.size _).cell? _ = _
                      rw [cell_setRow_other _ _ _ _ (by rw [add_addr]; exact Nat.ne_of_lt q6)]
                      exact (Grew.alloc w.drew _).cell (q3 j v hj)) q4 (by rw [putAt_len (by rw [List.length_map, hnr]; omega)]; exact q5)
                  rw [Nat.min_self] at this
                  exact this
                refine (show Calls P (N.f f) #[.slice (some ⟨b, 0, none⟩) rws.length cap, .int .i64 (m : Nat), .slice (some ⟨ab, ao, none⟩) 1 vc] w _ from ?_)
                refine (H.grow w _ _ _ b rws.length cap G w.heap.size m ⟨ab, ao, none⟩ vc hm hl0 hcn hge hcm hz0 hc1 hc2).mono fun ex w1 ⟨he, hw⟩ => ?_
                obtain ⟨r1, r2⟩ := q8 w1 hw
                have hnd' := List.nodup_cons.1 hnd
                refine ⟨_, S, _, [], ?_, left_own (c := .own w.heap.size G st e (rws.take m ++ (nr :: rws.drop m))) rfl r1 (by simpa [blocksRow] using r2) hlt (.mv (.val (.val .nil))) ?_ fun x hx => ?_⟩
                · rw [he]
                  simp only [GC.val, List.length_append, List.length_cons, List.length_take, List.length_drop]
                  congr 2; omega
                · simp only [GC.blocks, blocks_split rws m nr n3]
                  exact List.nodup_cons.2 ⟨fun h => by have := hSlt w.heap.size (by simp [GC.blocks, h]); omega, hnd'.2⟩
                · simp only [GC.blocks, blocks_split rws m nr n3] at hx
                  rcases List.mem_cons.1 hx with rfl | h
                  · exact ⟨fun h => by have := hlt _ h; omega, .inl (Nat.le_refl _)⟩
                  · exact ⟨hfree x (by simp [GC.blocks, h]), .inr (by simp [blocksRow, GC.blocks, h])⟩
    · cases hp
  · cases hp
end
end Hm

/- Two builtins as steps of a walk, where their run is known. Conditions: see each theorem. -/
namespace Hm
open Go
theorem wp_copyR {P : Program} (w : World) {o : Oper} {a : Act} {K : Act → World → Prop} {Q : Exit → Act → World → Prop} (d s : Operand) (t t' : TypeId)
    (ho : o.op = .call { callee := .builtin .copy, args := #[d, s], argTypes := #[t, t'] }) (v u : Value) (hd : a.eval d = v) (hs : a.eval s = u) {v' : Value} {w' : World}
    (hr : (Builtin.copy_ #[t, t'] o.type #[v, u]).run P w = .ok v' w') (h : K (a.put o.dst v') w') : o.wp P a w K Q := by
  unfold Oper.wp execOp
  simp only [ho, resolve, invoke, builtin, Sem.run_bind, Sem.run_pure, Result.andThen_ok, List.map_toArray, List.map_cons, List.map_nil, hd, hs, hr]
  exact h
theorem wpList_copyR {P : Program} (w : World) {ops : Array Oper} {rest : List Oper} {o : Oper} {a : Act} {Q : Exit → Act → World → Prop} (hgd : o.guard = none) (d s : Operand) (t t' : TypeId)
    (ho : o.op = .call { callee := .builtin .copy, args := #[d, s], argTypes := #[t, t'] }) (v u : Value) (hd : a.eval d = v) (hs : a.eval s = u) {v' : Value} {w' : World}
    (hr : (Builtin.copy_ #[t, t'] o.type #[v, u]).run P w = .ok v' w') (h : wpList P ops Q rest (a.put o.dst v') w') : wpList P ops Q (o :: rest) a w :=
  wpList_plain hgd fun _ hK => wp_copyR w d s t t' ho v u hd hs hr (hK _ _ h)
theorem step_copyR {P : Program} {ops : Array Oper} {o : Oper} {a : Act} {w : World} {K : Act → World → Prop} {Q : Exit → Act → World → Prop} {E : Prop}
    (hg : o.guard = none) (d x : Operand) (dT sT : TypeId) (hop : o.op = Op.call { callee := Callee.builtin Builtin.copy, args := #[d, x], argTypes := #[dT, sT] })
    (v u : Value) (hd : a.eval d = v) (hx : a.eval x = u) {v' : Value} {w' : World} (hr : (Builtin.copy_ #[dT, sT] o.type #[v, u]).run P w = .ok v' w') (hK : K (a.put o.dst v') w') :
    if Region.wanted o (yielded ops a.tmps) = true then Oper.wp P o a w K Q else E := by
  have hw : Region.wanted o (yielded ops a.tmps) = true := by simp [Region.wanted, hg]
  rw [if_pos hw]
  exact wp_copyR w d x dT sT hop v u hd hx hr hK
theorem step_appendR {P : Program} {ops : Array Oper} {o : Oper} {a : Act} {w : World} {K : Act → World → Prop} {Q : Exit → Act → World → Prop} {E : Prop}
    (hg : o.guard = none) (d x : Operand) (dT sT : TypeId) (hop : o.op = Op.call { callee := Callee.builtin Builtin.append, args := #[d, x], argTypes := #[dT, sT] })
    (v u : Value) (hd : a.eval d = v) (hx : a.eval x = u) {v' : Value} {w' : World} (hr : (Builtin.append_ #[dT, sT] o.type #[v, u]).run P w = .ok v' w') (hK : K (a.put o.dst v') w') :
    if Region.wanted o (yielded ops a.tmps) = true then Oper.wp P o a w K Q else E := by
  have hw : Region.wanted o (yielded ops a.tmps) = true := by simp [Region.wanted, hg]
  rw [if_pos hw]
  exact Lib.wp_append_run w d x dT sT hop v u hd hx v' w' hr hK
end Hm

/- slices.Delete of one element: its contract. Conditions: see each theorem. -/
namespace Hm
open Go
/-- How slices.Delete runs at one element. -/
structure DelRun (P : Program) (f k : Nat) (tS : TypeId) : Prop where
  run : ∀ (w W1 W2 : World) (b n c i : Nat), i < n → n ≤ c → c ≤ maxLen →
    (∀ ty, (Builtin.append_ #[tS, tS] ty #[.slice (some ⟨b, 0, none⟩) i c, .slice (if c = i + 1 then some ⟨b, 0, none⟩ else some ⟨b, (i + 1) * k, none⟩) (n - (i + 1)) (c - (i + 1))]).run P w.drew = .ok (.slice (some ⟨b, 0, none⟩) (i + (n - (i + 1))) c) W1) →
    (∀ ty, (Builtin.clear_ #[tS] ty #[.slice (some ⟨b, (i + (n - (i + 1))) * k, none⟩) (n - (i + (n - (i + 1)))) (c - (i + (n - (i + 1))))]).run P W1 = .ok (.tuple #[]) W2) →
    Calls P f #[.slice (some ⟨b, 0, none⟩) n c, .int .i64 (i : Nat), .int .i64 ((i : Nat) + 1 : Int)] w fun e w1 => e = .returned (.slice (some ⟨b, 0, none⟩) (i + (n - (i + 1))) c) ∧ w1 = W2
section
variable {P : Program} {N : Nm}
theorem putAt_del {A D M R Z : List Value} {p k : Nat} (hp : A.length = p) (hk : D.length = k) (hz : Z.length = k) :
    putAt (putAt (A ++ (D ++ (M ++ R))) p M) (p + M.length) Z = A ++ (M ++ (Z ++ R)) := by
  subst hp; subst hk
  have e1 : (A ++ (D ++ (M ++ R))).take A.length = A := List.take_left' rfl
  have e3 : (putAt (A ++ (D ++ (M ++ R))) A.length M) = (A ++ M) ++ (D ++ (M ++ R)).drop M.length := by
    rw [putAt, e1, List.drop_length_add_append]
  rw [e3]
  have e2 : ((A ++ M) ++ (D ++ (M ++ R)).drop M.length).drop (A.length + M.length + Z.length) = R := by
    rw [show A.length + M.length + Z.length = (A ++ M).length + Z.length by simp, List.drop_length_add_append, List.drop_drop, hz]
    rw [show M.length + D.length = D.length + M.length by omega, List.drop_length_add_append]
    exact List.drop_left' rfl
  rw [putAt, e2, List.take_left' (by simp)]
  simp
theorem zero_one (c : Array Value) : (Builtin.zeroCells c 1).toList = c.toList := by
  simp only [Builtin.zeroCells, Nat.one_mul, List.toList_toArray, Array.toList_map, Array.toList_range]
  refine List.ext_getElem (by simp) fun i h1 h2 => ?_
  simp only [List.getElem_map, List.getElem_range]
  rw [Nat.mod_eq_of_lt (by simpa using h2), getElem!_pos c i (by simpa using h2)]
  simp
theorem run_clear_row {t ty e e0 : TypeId} {z : Value} (w : World) (ht : P.underlying t = some (.slice e)) (hz : ∀ w, (zeroValue e).run P w = .ok z w) (b o cap : Nat) (L : List Value) (hb : w.heap[b]? = some (.cells L.toArray e0 (0, 0)))
    (h1 : ∀ v ∈ z.cells.toList, v.oneCell' = true) (hfit : o + z.cells.size ≤ L.length) :
    (Builtin.clear_ #[t] ty #[.slice (some ⟨b, o, none⟩) 1 cap]).run P w = .ok (.tuple #[]) (w.setRow b (putAt L o z.cells.toList).toArray) := by
  have hc : (Builtin.zeroCells z.cells 1).toList = z.cells.toList := zero_one z.cells
  have hst := run_storeCells_at P b o e0 z.cells.toList 0 L.toArray w hb (by simpa using hfit) h1
  simp only [Nat.add_zero] at hst
  simp [Builtin.clear_, run_underlying ht, hz, hc, hst, putAt]
theorem meets_delete {f k : Nat} {tS e : TypeId} {i : TypeInfo} {z : Value} (hk : 0 < k) (ht : P.underlying tS = some (.slice e)) (hi : P.info? e = some i) (hsz : i.size = k) (hzr : ∀ w, (zeroValue e).run P w = .ok z w) (hzs : z.cells.size = k) (hz1 : ∀ v ∈ z.cells.toList, v.oneCell' = true)
    (H : DelRun P (N.f f) k tS) : ∀ as cr, pDel k as = some cr → Meets P N f as cr := by
  intro as cr hp
  unfold pDel at hp
  split at hp
  · rename_i k' rows n0 n1
    split at hp
    · rename_i hcond
      obtain ⟨rfl, hi0, hin, hj⟩ := hcond
      obtain ⟨m, rfl⟩ := Int.eq_ofNat_of_zero_le hi0
      subst hj
      simp only [Option.some.injEq, Int.toNat_natCast] at hp
      subst hp
      intro w S vs lx A hnd hfree hlt hglob
      obtain ⟨gs, us, ly, hgs, hok, hg, rfl, rfl, A1⟩ := A.mv_inv
      obtain ⟨c, rfl⟩ := hg rfl
      obtain ⟨c2, us, rfl, v2, A2⟩ := A1.vals_inv
      obtain ⟨c3, us, rfl, v3, A3⟩ := A2.vals_inv
      obtain ⟨rfl, rfl⟩ := A3.nil_inv
      clear A A1 A2 A3
      have hcell : c.cell = .own k' rows := by simpa [cellRow] using hgs
      have hcok : GC.ok N w S c := hok c (by simp)
      simp only [blocksRow, List.append_nil] at hnd hfree
      cases v2 with
      | int _ _ =>
        cases v3 with
        | int _ _ =>
          cases c with
          | av _ _ => simp [GC.cell] at hcell
          | dead _ => simp [GC.cell] at hcell
          | nil st =>
            simp only [GC.cell, Cell.own.injEq] at hcell
            obtain ⟨rfl, rfl⟩ := hcell
            simp only [List.length_nil] at hin
            omega
          | own b cap st e0 rws =>
            simp only [GC.cell, Cell.own.injEq] at hcell
            obtain ⟨rfl, rfl⟩ := hcell
            have hrl : (cellRows rws).length = rws.length := by simp [cellRows_eq]
            rw [hrl] at hin
            have hm : m < rws.length := by omega
            have hres : (cellRows rws).take m ++ (cellRows rws).drop (m + 1) = cellRows (rws.take m ++ rws.drop (m + 1)) := by
              rw [cellRows_append, cellRows_eq, cellRows_eq, cellRows_eq, List.map_take, List.map_drop]
            rw [hres]
            obtain ⟨L, R, hb, hs0, hL, hr, hrok, -, hl0, hc0⟩ := flat_own hcok
            -- the row, in parts
            have hA : ((rws.take m).flatten.map GC.val).length = m * st := by
              rw [flat_len fun r h => hr r (List.mem_of_mem_take h), List.length_take, Nat.min_eq_left (by omega)]
            have hM : ((rws.drop (m + 1)).flatten.map GC.val).length = (rws.length - (m + 1)) * st := by
              rw [flat_len fun r h => hr r (List.mem_of_mem_drop h), List.length_drop]
            have hD : (rws[m].map GC.val).length = st := by rw [List.length_map]; exact hr _ (List.getElem_mem hm)
            have hL2 : L = (rws.take m).flatten.map GC.val ++ (rws[m].map GC.val ++ ((rws.drop (m + 1)).flatten.map GC.val ++ R)) := by
              rw [hL]
              conv => lhs; rw [← List.take_append_drop m rws, List.drop_eq_getElem_cons hm]
              simp only [List.flatten_append, List.flatten_cons, List.map_append, List.append_assoc]
            generalize hAe : (rws.take m).flatten.map GC.val = AA at *
            generalize hDe : rws[m].map GC.val = DD at *
            generalize hMe : (rws.drop (m + 1)).flatten.map GC.val = MM at *
            have e1 : m * st + st = (m + 1) * st := by rw [Nat.add_mul, Nat.one_mul]
            have hlen : L.length = m * st + (st + (MM.length + R.length)) := by rw [hL2]; simp only [List.length_append, hA, hD]
            have hnn : m + (rws.length - (m + 1)) = rws.length - 1 := by omega
            have e2 : (m + (rws.length - (m + 1))) * st = m * st + MM.length := by rw [hM, ← Nat.add_mul]
            have hM1 : ∀ v ∈ MM, v.oneCell' = true := by rw [← hMe]; exact rows_one fun r h => hrok r (List.mem_of_mem_drop h)
            have hget : ∀ (j : Nat) (v : Value), MM[j]? = some v → w.drew.cell? ((⟨b, (m + 1) * st, none⟩ : Addr).add j) = some v := by
              intro j v hj
              rw [add_addr, World.cell?, show w.drew.heap[b]? = w.heap[b]? from rfl, hb]
              have hj2 := (List.getElem?_eq_some_iff.1 hj).1
              have : L[(m + 1) * st + j]? = some v := by
                rw [hL2, ← e1, List.getElem?_append_right (by omega), hA, List.getElem?_append_right (by omega), hD, List.getElem?_append_left (by omega)]
                rw [show m * st + st + j - m * st - st = j by omega]
                exact hj
              simpa using this
            have hap : ∀ ty, (Builtin.append_ #[tS, tS] ty #[.slice (some ⟨b, 0, none⟩) m cap, .slice (if cap = m + 1 then some ⟨b, 0, none⟩ else some ⟨b, (m + 1) * st, none⟩) (rws.length - (m + 1)) (cap - (m + 1))]).run P w.drew =
                .ok (.slice (some ⟨b, 0, none⟩) (m + (rws.length - (m + 1))) cap) (w.drew.setRow b (putAt L (m * st) MM).toArray) := by
              intro ty
              by_cases h0 : rws.length - (m + 1) = 0
              · have hM0 : MM = [] := List.length_eq_zero_iff.1 (by rw [hM, h0, Nat.zero_mul])
                have := run_append_none (P := P) tS ty e i ht hi (some ⟨b, 0, none⟩) (if cap = m + 1 then some ⟨b, 0, none⟩ else some ⟨b, (m + 1) * st, none⟩) m cap (cap - (m + 1)) (by omega) w.drew
                rw [h0, Nat.add_zero, this, hM0]
                have e3 : (putAt L (m * st) []).toArray = L.toArray := by simp [putAt]
                rw [e3, setRow_self w.drew b L.toArray e0 (0, 0) hb]
                rfl
              · rw [if_neg (show ¬ cap = m + 1 by omega)]
                have hb' : w.drew.heap[b]? = some (.cells L.toArray e0 (0, 0)) := hb
                have := run_append_room' (P := P) (w := w.drew) tS ty e e0 i ht hi b m cap L.toArray hb' ⟨b, (m + 1) * st, none⟩ (rws.length - (m + 1)) (cap - (m + 1)) MM (by rw [hM, hsz]) hget hM1 (by omega) (by rw [hsz]; simp; omega)
                rw [this, hsz]
                simp only [putAt]
            have g1 := setRow_heap w.drew b _ (putAt L (m * st) MM).toArray e0 _ (show w.drew.heap[b]? = _ from hb)
            have hcl : ∀ ty, (Builtin.clear_ #[tS] ty #[.slice (some ⟨b, (m + (rws.length - (m + 1))) * st, none⟩) (rws.length - (m + (rws.length - (m + 1)))) (cap - (m + (rws.length - (m + 1))))]).run P (w.drew.setRow b (putAt L (m * st) MM).toArray) = .ok (.tuple #[]) ((w.drew.setRow b (putAt L (m * st) MM).toArray).setRow b (putAt (putAt L (m * st) MM) (m * st + MM.length) z.cells.toList).toArray) := by
              intro ty
              rw [show rws.length - (m + (rws.length - (m + 1))) = 1 by omega, e2]
              exact run_clear_row (P := P) (t := tS) (ty := ty) _ ht hzr b (m * st + MM.length) _ (putAt L (m * st) MM) g1 hz1 (by rw [putAt_len (by omega), hzs]; omega)
            refine (show Calls P (N.f f) #[.slice (some ⟨b, 0, none⟩) rws.length cap, .int .i64 (m : Nat), .int .i64 ((m : Nat) + 1 : Int)] w _ from ?_)
            refine (H.run w _ _ b rws.length cap m hm hl0 hc0 hap hcl).mono fun ex w1 ⟨he, hw⟩ => ?_
            have hput : putAt (putAt L (m * st) MM) (m * st + MM.length) z.cells.toList = (rws.take m ++ rws.drop (m + 1)).flatten.map GC.val ++ (z.cells.toList ++ R) := by
              rw [hL2, putAt_del hA hD (by simpa using hzs), List.flatten_append, List.map_append, hAe, hMe, List.append_assoc]
            have h2 := setRow_heap (w.drew.setRow b (putAt L (m * st) MM).toArray) b _ (putAt (putAt L (m * st) MM) (m * st + MM.length) z.cells.toList).toArray e0 _ g1
            rw [← hw] at h2
            have hne : ∀ x, x ≠ b → w1.heap[x]? = w.heap[x]? := fun x hx => by rw [hw, setRow_other _ _ _ _ hx, setRow_other _ _ _ _ hx]; rfl
            have hbb := (List.nodup_cons.1 hnd).1
            have hbS : ¬ S b := hfree b (by simp [GC.blocks])
            have hsub : ∀ r ∈ rws.take m ++ rws.drop (m + 1), r ∈ rws := fun r h => (List.mem_append.1 h).elim List.mem_of_mem_take List.mem_of_mem_drop
            have hlen2 : (rws.take m ++ rws.drop (m + 1)).length = m + (rws.length - (m + 1)) := by simp only [List.length_append, List.length_take, List.length_drop]; omega
            have hgc : GC.ok N w1 S (.own b cap st e0 (rws.take m ++ rws.drop (m + 1))) := by
              refine own_flat hk (by rw [hlen2]; omega) hc0 (fun r h => hr r (hsub r h)) h2 ?_ hput ?_
              · have hzl : z.cells.toList.length = st := by simpa using hzs
                rw [putAt_len (by rw [putAt_len (by omega), hzl]; omega), putAt_len (by omega), hs0]
              · intro r h
                refine AllOk.keep (hrok r (hsub r h)) (fun x hx => hne x fun e => hbS (e ▸ hx)) fun x hx => hne x fun e => ?_
                subst e
                obtain ⟨i1, hi1⟩ := List.mem_iff_getElem?.1 (hsub r h)
                exact hbb (mem_blocksRows hi1 hx)
            have hsl : (GC.own b cap st e0 (rws.take m ++ rws.drop (m + 1))).blocks.Sublist (GC.own b cap st e0 rws).blocks := by
              simp only [GC.blocks]
              refine List.Sublist.cons_cons _ ?_
              conv => rhs; rw [← List.take_append_drop m rws, List.drop_eq_getElem_cons hm]
              rw [blocksRows_append, blocksRows_append, blocksRows]
              exact List.Sublist.append (List.Sublist.refl _) (List.sublist_append_right _ _)
            refine ⟨_, S, _, [], ?_, left_own (c := .own b cap st e0 (rws.take m ++ rws.drop (m + 1))) rfl hgc ?_ hlt (.mv (.val (.val .nil))) (hsl.nodup hnd) fun x hx => ?_⟩
            · rw [he]; simp only [GC.val, hlen2]
            · rw [hw]
              exact ⟨rfl, rfl, rfl, by simp only [World.setRow, Array.size_modify]; exact Nat.le_refl _, fun x _ h => by rw [← hw]; exact hne x fun e => h (by subst e; simp [blocksRow, GC.blocks])⟩
            · have := hsl.subset hx
              exact ⟨hfree x this, .inr (by simpa [blocksRow] using this)⟩
    · cases hp
  · cases hp
end
end Hm
